/- The law FnExactNoteOutcome answers true at every argument, and leaves all as it was. -/
import Derived.Test.YtionofhbbjpffaaFb
import Derived.Test.YtionofhbbjpffaaWa
import Derived.Test.YtionofhbbjpffaaRows
import Derived.WalkKit
import Derived.ProofKit
import Derived.OpenShut
import Derived.ShutString
import Derived.ChangeOld
import Derived.Below
import Derived.Carry
import Derived.SizedLaws
set_option autoImplicit false
set_option maxRecDepth 100000
set_option maxHeartbeats 4000000
set_option linter.unusedVariables false
namespace Go.Vm.A
open Go.Proofs
open Go.RowKit Go.ChangeShapes Go.WideShapes
theorem walk7 {H : Type} {enc : TypeId × Value → H} (W : World) (base : Nat) (v0 v1 v2 v3 : Value) {d0 : DataW H} {p0 : List MemPlace} {d1 : DataW H} {p1 : List MemPlace} {d2 : DataW H} {p2 : List MemPlace} {d3 : DataW H} {p3 : List MemPlace} (q0 : Value.okWide Try.prog W .any base 47 v0) (h0 : DataW.Trod enc Try.prog W 0 (fun _ => true) true 47 v0 d0 p0) (q1 : Value.okWide Try.prog W .any base 49 v1) (h1 : DataW.Trod enc Try.prog W 0 (fun _ => true) true 49 v1 d1 p1) (q2 : Value.okWide Try.prog W .any base 2 v2) (h2 : DataW.Trod enc Try.prog W 0 (fun _ => true) true 2 v2 d2 p2) (q3 : Value.okWide Try.prog W .any base 4 v3) (h3 : DataW.Trod enc Try.prog W 0 (fun _ => true) true 4 v3 d3 p3) : Calls Try.prog 7 #[v0, v1, v2, v3] W fun e w' => e = .returned (.bool true) ∧ Below W.heap.size W w' := by
  obtain ⟨a0, r0, c0⟩ := arg_agg 20 Try.underlying47 (shs := [.i .i64, .i .i64, .i .i64, .sl [.i .i64, .b]]) (by kernel_rfl) q0 h0
  obtain ⟨x0, rfl, o0⟩ := shBreaker _ r0
  obtain ⟨a1, r1, c1⟩ := arg_agg 20 Try.underlying49 (shs := [.i .i64, .i .i64, .i .i64, .i .i64, .i .i64]) (by kernel_rfl) q1 h1
  obtain ⟨x1, rfl, o1⟩ := shRules _ r1
  obtain ⟨a2, r2, c2⟩ := arg_one 20 Try.underlying2 (fun _ h => by cases h) (sh := .i .i64) (by kernel_rfl) q2 h2
  obtain ⟨x2, rfl, o2⟩ := r2.int
  obtain ⟨a3, r3, c3⟩ := arg_one 20 Try.underlying4 (fun _ h => by cases h) (sh := .b) (by kernel_rfl) q3 h3
  obtain ⟨x3, rfl, o3⟩ := r3.bool
  refine law_of (s := s7) (vs := [v0, v1, v2, v3]) (xs := [.agg (rBreaker .ro x0), .agg (rRules .ro x1), .i .i64 x2, .b x3]) (e7 _ _ _ _ _ _ _ _ _ _ _ ⟨o0, o1, o2, o3⟩) rfl rfl rfl (fun j v a hv ha => ?_) Try.func7 (by decide) rfl
  rcases j with _ | j
  · simp only [List.getElem?_cons_zero, List.getElem?_cons_succ, Option.some.injEq] at hv ha; subst hv ha; exact c0
  rcases j with _ | j
  · simp only [List.getElem?_cons_zero, List.getElem?_cons_succ, Option.some.injEq] at hv ha; subst hv ha; exact c1
  rcases j with _ | j
  · simp only [List.getElem?_cons_zero, List.getElem?_cons_succ, Option.some.injEq] at hv ha; subst hv ha; exact c2
  rcases j with _ | j
  · simp only [List.getElem?_cons_zero, List.getElem?_cons_succ, Option.some.injEq] at hv ha; subst hv ha; exact c3
  · simp at hv
end Go.Vm.A
namespace Go.Proofs.Ytionofhbbjpffaa.fnExactNoteOutcome
open Go.ChangeShapes Go.WideShapes Go.ChangeAt Go.RowKit
theorem own : ownKnob Try.prog.godebug = none := by kernel_rfl
theorem laidOut : laidOutB Try.prog = true := by kernel_rfl
set_option maxRecDepth 100000 in
theorem lifted (os : Os) (started : os.Started) (H : Type) (enc : TypeId × Value → H) :
    ReturnsInHanded {} Try.checked os 7 .any (Rows.fnExactNoteOutcomeSpec.pre6 enc Try.prog Try.f7 Rows.fnExactNoteOutcomeRow.domain false) (Rows.fnExactNoteOutcomeSpec.post enc Try.prog Try.f7 false true false false) := by
  refine returnsInHanded_of_change_sized (C := Try.checked) own started (by kernel_rfl) Try.func7
    (ChangeSpec.witness6 (enc := enc) (C := Try.checked) false ⟨#[], #[.agg #[.int .i64 0, .int .i64 0, .int .i64 0, .slice none 0 0], .agg #[.int .i64 0, .int .i64 0, .int .i64 0, .int .i64 0, .int .i64 0], .int .i64 0, .bool false], []⟩ 8 (by kernel_rfl) (by kernel_rfl) (by kernel_rfl) (by kernel_rfl)) ?_
  intro W base args ds gs before hval0 hW hcnd hsz0 _
  have hval : ∀ (j : Nat) t v, Try.f7.params[j]? = some t → args[j]? = some v → Value.okWide Try.prog W .any base t v := hval0
  have hW' := hW
  obtain ⟨p, q, hA0, hV, rfl, hfz, hnd⟩ := hW
  have hA : DataW.TrodAll enc Try.prog W 0 (fun _ => true) true Try.f7.params.toList args.toList ds p := hA0
  rw [Try.params7] at hA hval
  obtain ⟨v0, vs0, d0, ds0, p0, q0, hargs, rfl, rfl, h0, r0⟩ := trodAll_cons hA
  obtain ⟨v1, vs1, d1, ds1, p1, q1, rfl, rfl, rfl, h1, r1⟩ := trodAll_cons r0
  obtain ⟨v2, vs2, d2, ds2, p2, q2, rfl, rfl, rfl, h2, r2⟩ := trodAll_cons r1
  obtain ⟨v3, vs3, d3, ds3, p3, q3, rfl, rfl, rfl, h3, r3⟩ := trodAll_cons r2
  obtain ⟨rfl, rfl, rfl⟩ := trodAll_nil r3
  obtain rfl : args = #[v0, v1, v2, v3] := by cases args; simp_all
  obtain ⟨rfl, rfl⟩ := trodVars_none hV
  clear hA0 hsz0
  refine (Go.Vm.A.walk7 W base v0 v1 v2 v3 (hval 0 47 v0 rfl rfl) h0 (hval 1 49 v1 rfl rfl) h1 (hval 2 2 v2 rfl rfl) h2 (hval 3 4 v3 rfl rfl) h3).mono fun e W' ⟨he, bel⟩ => ?_
  subst he
  exact ⟨_, rfl, _, _, _, [], _, [], hW', trodAll_mk1 (shut_bool Try.underlying4 _), (trodAll_cons_mk (Below.trod laidOut (by kernel_rfl) (of_decide_eq_true (by kernel_rfl)) h0 bel (fun x hx => by simpa using hW'.lt x (by simp [hx]))) (trodAll_cons_mk (Below.trod laidOut (by kernel_rfl) (of_decide_eq_true (by kernel_rfl)) h1 bel (fun x hx => by simpa using hW'.lt x (by simp [hx]))) (trodAll_cons_mk (Below.trod laidOut (by kernel_rfl) (of_decide_eq_true (by kernel_rfl)) h2 bel (fun x hx => by simpa using hW'.lt x (by simp [hx]))) (trodAll_cons_mk (Below.trod laidOut (by kernel_rfl) (of_decide_eq_true (by kernel_rfl)) h3 bel (fun x hx => by simpa using hW'.lt x (by simp [hx]))) trodAll_mk0)))), rfl, bel.frame _, fun h => by cases h⟩
theorem over : Rows.fnExactNoteOutcomeRow.holds Try.pinned (OpenSpec.ofChange Rows.fnExactNoteOutcomeSpec) :=
  OpenClaim.holds_of_wide 7 Try.f7 rfl rfl rfl rfl rfl rfl rfl ⟨rfl, rfl, rfl, rfl, rfl⟩ rfl rfl rfl rfl rfl (by kernel_rfl) Try.func7 (by kernel_rfl)
    (of_decide_eq_true (by kernel_rfl)) (by unfold Func.isWrapper; first | (rw [if_pos (by decide +kernel)]; kernel_rfl) | (rw [if_neg (by decide +kernel)]; exact ⟨rfl, rfl⟩))
    (fun os started H enc _ => lifted os started H enc)
end Go.Proofs.Ytionofhbbjpffaa.fnExactNoteOutcome
namespace Go.Proofs.Ytionofhbbjpffaa
theorem fnExactNoteOutcome_holds : Rows.FnExactNoteOutcomeSaid := fnExactNoteOutcome.over
#print axioms fnExactNoteOutcome_holds
end Go.Proofs.Ytionofhbbjpffaa
