/- The law FnExactSameShields answers true at every argument, and leaves all as it was. -/
import Derived.Test.YtnbhkifknleipaaGreatFj
import Derived.Test.YtnbhkifknleipaaGreatWa
import Derived.Test.YtnbhkifknleipaaGreatRows
import Derived.WalkKit
import Derived.ProofKit
import Derived.OpenShut
import Derived.ShutString
import Derived.ChangeOld
import Derived.Below
import Derived.Carry
import Derived.SizedLaws
set_option autoImplicit false
set_option maxRecDepth 100000
set_option maxHeartbeats 4000000
set_option linter.unusedVariables false
namespace Go.Vm.A
open Go.Proofs
open Go.RowKit Go.ChangeShapes Go.WideShapes
theorem walk3 {H : Type} {enc : TypeId × Value → H} (W : World) (base : Nat) (v0 v1 : Value) {d0 : DataW H} {p0 : List MemPlace} {d1 : DataW H} {p1 : List MemPlace} (q0 : Value.okWide Tryz.prog W .any base 35 v0) (h0 : DataW.Trod enc Tryz.prog W 0 (fun _ => true) true 35 v0 d0 p0) (q1 : Value.okWide Tryz.prog W .any base 35 v1) (h1 : DataW.Trod enc Tryz.prog W 0 (fun _ => true) true 35 v1 d1 p1) : Calls Tryz.prog 3 #[v0, v1] W fun e w' => e = .returned (.bool true) ∧ Below W.heap.size W w' := by
  obtain ⟨a0, r0, c0⟩ := arg_agg 20 Tryz.underlying35 (shs := [.i .i64, .i .i64, .i .i64, .i .i64, .i .i64, .i .i64, .i .i64, .i .i64, .sl [.s], .i .i64, .i .i64, .i .i64, .i .i64, .i .i64, .i .i64, .i .i64, .i .i64, .i .i64, .i .i64, .i .i64, .i .i64, .sl [.s, .i .i64, .sl [.s, .s], .sl [.i .u8], .i .i64, .i .i64, .i .i64, .i .i64, .i .i64, .b, .b, .sl [.s], .i .i64], .sl [.s, .i .i64, .sl [.s, .s], .sl [.i .u8], .i .i64, .i .i64, .i .i64, .i .i64, .i .i64, .b, .b, .sl [.s], .i .i64], .sl [.s, .i .i64, .sl [.i .i64, .i .i64], .i .i64, .i .i64, .i .i64, .sl [.i .i64, .b]], .sl [.i .i64, .s, .b, .b, .i .i64, .b, .s, .s, .s, .sl [.s, .s], .sl [.i .i64, .b, .i .i64, .b]]]) (by kernel_rfl) q0 h0
  obtain ⟨x0, rfl, o0⟩ := shShield _ r0
  obtain ⟨a1, r1, c1⟩ := arg_agg 20 Tryz.underlying35 (shs := [.i .i64, .i .i64, .i .i64, .i .i64, .i .i64, .i .i64, .i .i64, .i .i64, .sl [.s], .i .i64, .i .i64, .i .i64, .i .i64, .i .i64, .i .i64, .i .i64, .i .i64, .i .i64, .i .i64, .i .i64, .i .i64, .sl [.s, .i .i64, .sl [.s, .s], .sl [.i .u8], .i .i64, .i .i64, .i .i64, .i .i64, .i .i64, .b, .b, .sl [.s], .i .i64], .sl [.s, .i .i64, .sl [.s, .s], .sl [.i .u8], .i .i64, .i .i64, .i .i64, .i .i64, .i .i64, .b, .b, .sl [.s], .i .i64], .sl [.s, .i .i64, .sl [.i .i64, .i .i64], .i .i64, .i .i64, .i .i64, .sl [.i .i64, .b]], .sl [.i .i64, .s, .b, .b, .i .i64, .b, .s, .s, .s, .sl [.s, .s], .sl [.i .i64, .b, .i .i64, .b]]]) (by kernel_rfl) q1 h1
  obtain ⟨x1, rfl, o1⟩ := shShield _ r1
  refine law_of (s := s3) (vs := [v0, v1]) (xs := [.agg (rShield .ro x0), .agg (rShield .ro x1)]) (e3 _ _ _ _ _ _ _ _ _ _ _ _ _ _ _ _ _ _ _ _ _ _ _ _ _ _ _ _ _ _ _ _ _ _ _ _ _ _ _ _ _ _ _ _ _ _ _ _ _ _ ⟨o0, o1⟩) rfl rfl rfl (fun j v a hv ha => ?_) Tryz.func3 (by decide) rfl trivial
  rcases j with _ | j
  · simp only [List.getElem?_cons_zero, List.getElem?_cons_succ, Option.some.injEq] at hv ha; subst hv ha; exact c0
  rcases j with _ | j
  · simp only [List.getElem?_cons_zero, List.getElem?_cons_succ, Option.some.injEq] at hv ha; subst hv ha; exact c1
  · simp at hv
end Go.Vm.A
namespace Go.Proofs.YtnbhkifknleipaaGreat.fnExactSameShields
open Go.ChangeShapes Go.WideShapes Go.ChangeAt Go.RowKit
theorem own : ownKnob Tryz.prog.godebug = none := by kernel_rfl
theorem laidOut : laidOutB Tryz.prog = true := by kernel_rfl
set_option maxRecDepth 100000 in
theorem lifted (os : Os) (started : os.Started) (H : Type) (enc : TypeId × Value → H) :
    ReturnsInHanded {} Tryz.checked os 3 .any (Rows.fnExactSameShieldsSpec.pre6 enc Tryz.prog Tryz.f3 Rows.fnExactSameShieldsRow.domain false) (Rows.fnExactSameShieldsSpec.post enc Tryz.prog Tryz.f3 false true false false) := by
  refine returnsInHanded_of_change_sized (C := Tryz.checked) own started (by kernel_rfl) Tryz.func3
    (ChangeSpec.witness6 (enc := enc) (C := Tryz.checked) false ⟨#[], #[.agg #[.int .i64 0, .int .i64 0, .int .i64 0, .int .i64 0, .int .i64 0, .int .i64 0, .int .i64 0, .int .i64 0, .slice none 0 0, .int .i64 0, .int .i64 0, .int .i64 0, .int .i64 0, .int .i64 0, .int .i64 0, .int .i64 0, .int .i64 0, .int .i64 0, .int .i64 0, .int .i64 0, .int .i64 0, .slice none 0 0, .slice none 0 0, .slice none 0 0, .slice none 0 0], .agg #[.int .i64 0, .int .i64 0, .int .i64 0, .int .i64 0, .int .i64 0, .int .i64 0, .int .i64 0, .int .i64 0, .slice none 0 0, .int .i64 0, .int .i64 0, .int .i64 0, .int .i64 0, .int .i64 0, .int .i64 0, .int .i64 0, .int .i64 0, .int .i64 0, .int .i64 0, .int .i64 0, .int .i64 0, .slice none 0 0, .slice none 0 0, .slice none 0 0, .slice none 0 0]], []⟩ 8 (by kernel_rfl) (by kernel_rfl) (by kernel_rfl) (by kernel_rfl)) ?_
  intro W base args ds gs before hval0 hW hcnd hsz0 _
  have hval : ∀ (j : Nat) t v, Tryz.f3.params[j]? = some t → args[j]? = some v → Value.okWide Tryz.prog W .any base t v := hval0
  have hW' := hW
  obtain ⟨p, q, hA0, hV, rfl, hfz, hnd⟩ := hW
  have hA : DataW.TrodAll enc Tryz.prog W 0 (fun _ => true) true Tryz.f3.params.toList args.toList ds p := hA0
  rw [Tryz.params3] at hA hval
  obtain ⟨v0, vs0, d0, ds0, p0, q0, hargs, rfl, rfl, h0, r0⟩ := trodAll_cons hA
  obtain ⟨v1, vs1, d1, ds1, p1, q1, rfl, rfl, rfl, h1, r1⟩ := trodAll_cons r0
  obtain ⟨rfl, rfl, rfl⟩ := trodAll_nil r1
  obtain rfl : args = #[v0, v1] := by cases args; simp_all
  obtain ⟨rfl, rfl⟩ := trodVars_none hV
  clear hA0 hsz0
  refine (Go.Vm.A.walk3 W base v0 v1 (hval 0 35 v0 rfl rfl) h0 (hval 1 35 v1 rfl rfl) h1).mono fun e W' ⟨he, bel⟩ => ?_
  subst he
  exact ⟨_, rfl, _, _, _, [], _, [], hW', trodAll_mk1 (shut_bool Tryz.underlying4 _), (trodAll_cons_mk (Below.trod laidOut (by kernel_rfl) (of_decide_eq_true (by kernel_rfl)) h0 bel (fun x hx => by simpa using hW'.lt x (by simp [hx]))) (trodAll_cons_mk (Below.trod laidOut (by kernel_rfl) (of_decide_eq_true (by kernel_rfl)) h1 bel (fun x hx => by simpa using hW'.lt x (by simp [hx]))) trodAll_mk0)), rfl, bel.frame _, fun h => by cases h⟩
theorem over : Rows.fnExactSameShieldsRow.holds Tryz.pinned (OpenSpec.ofChange Rows.fnExactSameShieldsSpec) :=
  OpenClaim.holds_of_wide 3 Tryz.f3 rfl rfl rfl rfl rfl rfl rfl ⟨rfl, rfl, rfl, rfl, rfl⟩ rfl rfl rfl rfl rfl (by kernel_rfl) Tryz.func3 (by kernel_rfl)
    (of_decide_eq_true (by kernel_rfl)) (by unfold Func.isWrapper; first | (rw [if_pos (by decide +kernel)]; kernel_rfl) | (rw [if_neg (by decide +kernel)]; exact ⟨rfl, rfl⟩))
    (fun os started H enc _ => lifted os started H enc)
end Go.Proofs.YtnbhkifknleipaaGreat.fnExactSameShields
namespace Go.Proofs.YtnbhkifknleipaaGreat
theorem fnExactSameShields_holds : Rows.FnExactSameShieldsSaid := fnExactSameShields.over
#print axioms fnExactSameShields_holds
end Go.Proofs.YtnbhkifknleipaaGreat
