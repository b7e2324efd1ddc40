/- The law FnExactErrorOf: for every status the program's ErrorOf gives what the reference gives; whatever the input, the law returns true and leaves its argument as it was. No conditions. -/
import Derived.Test.YtionofhbbjpffaaFa
import Derived.Test.YtionofhbbjpffaaRows
import Derived.WalkKit
import Derived.ProofKit
import Derived.OpenShut
import Derived.ShutString
import Derived.ChangeOld
import Derived.Below
import Derived.SizedLaws
set_option autoImplicit false
set_option linter.unusedVariables false
namespace Go.Vm.A
open Go.Proofs
open Go.RowKit
theorem below_of {w w' : World} (h : Vm.Frame w w' nos) : Below w.heap.size w w' := by
  refine ⟨h.os, h.tape, h.output, h.size, fun k hk => ?_⟩
  rcases h.block k hk with h1 | ⟨c, c', e, fr, h1, h2, h3, h4⟩
  · exact h1
  · rw [h1, h2]
    congr 2
    apply Array.ext_getElem?
    intro i
    exact h4 i (fun h => h)
theorem walk3 (a : Int) (w : World) : Calls Try.prog 3 #[.int .i64 a] w fun e w' => e = .returned (.bool true) ∧ Below w.heap.size w w' := by
  have h := spec3 w nos [.int .i64 a] [.i .i64 a] (fun _ => nos) (.b true) [.u] rfl rfl rfl (fun j m v b hm hv hb => by
    rcases j with _ | j
    · simp only [List.getElem?_cons_zero, Option.some.injEq] at hm hv hb
      subst hm hv hb
      exact .leaf (.rep .i)
    · simp at hv) (fun _ _ _ => nos_disj _) (fun _ => nos_disj _) (fun _ _ _ h => h.elim) (fun _ _ h => h.elim)
  rcases h with ⟨v, w', h1, _⟩ | ⟨_, h2⟩
  · exfalso
    have : (callFunc 3 [Value.int .i64 a].toArray).run Try.prog w = .ok (.enter 3 [Value.int .i64 a].toArray) w := by
      have hn : ¬ Try.f3.name = "runtime.NumGoroutine" := by decide
      obtain ⟨c, hb⟩ : ∃ c, Try.f3.body = some c := ⟨_, rfl⟩
      simp [callFunc, Try.func3, hn, hb]
    rw [this] at h1
    cases h1
  · intro cs
    obtain ⟨e, w', fr, k1, k2⟩ := h2 cs
    refine ⟨e, w', fr, ?_, k2⟩
    cases e with
    | returned v =>
      obtain ⟨Im', S, Of, b, _⟩ := k1
      have hv : v = .bool true := by
        have := b.res
        cases this with
        | leaf h => cases h with
          | rep h => cases h; rfl
      exact ⟨by rw [hv], below_of (b.frame.mono (fun g k ⟨j, hb⟩ => hb))⟩
    | panicked => exact k1.elim
    | outgrown => exact k1.elim
end Go.Vm.A
namespace Go.Proofs.Ytionofhbbjpffaa.fnExactErrorOf
open Go.ChangeShapes Go.WideShapes Go.ChangeAt Go.RowKit
theorem own : ownKnob Try.prog.godebug = none := by kernel_rfl
set_option maxRecDepth 100000 in
theorem lifted (os : Os) (started : os.Started) (H : Type) (enc : TypeId × Value → H) :
    ReturnsInHanded {} Try.checked os 3 .any (Rows.fnExactErrorOfSpec.pre6 enc Try.prog Try.f3 Rows.fnExactErrorOfRow.domain false) (Rows.fnExactErrorOfSpec.post enc Try.prog Try.f3 false true false false) := by
  refine returnsInHanded_of_change_sized (C := Try.checked) own started (by kernel_rfl) Try.func3
    (ChangeSpec.witness6 (enc := enc) (C := Try.checked) false ⟨#[], #[.int .i64 0], []⟩ 8 (by kernel_rfl) (by kernel_rfl) (by kernel_rfl) (by kernel_rfl)) ?_
  intro W base args ds gs before hval0 hW hcnd hsz0 _
  have hval : ∀ (j : Nat) t v, Try.f3.params[j]? = some t → args[j]? = some v → Value.okWide Try.prog W .any base t v := hval0
  have hW' := hW
  obtain ⟨p, q, hA0, hV, rfl, hfz, hnd⟩ := hW
  have hA : DataW.TrodAll enc Try.prog W 0 (fun _ => true) true Try.f3.params.toList args.toList ds p := hA0
  rw [Try.params3] at hA hval
  obtain ⟨v0, vs0, d0, ds0, p0, q0, hargs, rfl, rfl, h0, r0⟩ := trodAll_cons hA
  obtain ⟨rfl, rfl, rfl⟩ := trodAll_nil r0
  obtain rfl : args = #[v0] := by cases args; simp_all
  obtain ⟨rfl, rfl⟩ := trodVars_none hV
  obtain ⟨a0, rfl, rfl, rfl, w0⟩ := open_int Try.underlying2 (hval 0 2 v0 rfl rfl) h0
  clear hA0 hval0 hsz0
  refine (Go.Vm.A.walk3 a0 W).mono fun e W' ⟨he, bel⟩ => ?_
  subst he
  exact ⟨_, rfl, _, _, _, [], _, [], hW', trodAll_mk1 (shut_bool Try.underlying4 _), (trodAll_cons_mk (shut_int Try.underlying2 w0) trodAll_mk0), rfl, bel.frame _, fun h => by cases h⟩
theorem over : Rows.fnExactErrorOfRow.holds Try.pinned (OpenSpec.ofChange Rows.fnExactErrorOfSpec) :=
  OpenClaim.holds_of_wide 3 Try.f3 rfl rfl rfl rfl rfl rfl rfl ⟨rfl, rfl, rfl, rfl, rfl⟩ rfl rfl rfl rfl rfl (by kernel_rfl) Try.func3 (by kernel_rfl)
    (of_decide_eq_true (by kernel_rfl)) (by unfold Func.isWrapper; first | (rw [if_pos (by decide +kernel)]; kernel_rfl) | (rw [if_neg (by decide +kernel)]; exact ⟨rfl, rfl⟩))
    (fun os started H enc _ => lifted os started H enc)
end Go.Proofs.Ytionofhbbjpffaa.fnExactErrorOf
namespace Go.Proofs.Ytionofhbbjpffaa
theorem fnExactErrorOf_holds : Rows.FnExactErrorOfSaid := fnExactErrorOf.over
#print axioms fnExactErrorOf_holds
end Go.Proofs.Ytionofhbbjpffaa
