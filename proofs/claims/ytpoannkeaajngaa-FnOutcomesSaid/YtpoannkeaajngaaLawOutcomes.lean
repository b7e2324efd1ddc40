/- The law FnOutcomes answers true at every argument, and leaves all as it was. -/
import Derived.Test.YtpoannkeaajngaaFg
import Derived.Test.YtpoannkeaajngaaWa
import Derived.Test.YtpoannkeaajngaaRows
import Derived.WalkKit
import Derived.ProofKit
import Derived.OpenShut
import Derived.ShutString
import Derived.ChangeOld
import Derived.Below
import Derived.Carry
import Derived.SizedLaws
set_option linter.unusedVariables false
set_option linter.unusedSimpArgs false
set_option autoImplicit false
set_option maxRecDepth 100000
set_option maxHeartbeats 4000000
set_option linter.defProp false
namespace Go.Vm.A
open Go.Proofs
open Go.RowKit Go.ChangeShapes Go.WideShapes
def walk3{H:Type}{enc:TypeId×Value->H}(W:World)(base:Nat)(v0:Value){d0:DataW H}{p0:List MemPlace}(q0:Value.okWide Try.prog W .any base 22 v0)(h0:DataW.Trod enc Try.prog W 0 (λ_ => true) true 22 v0 d0 p0):Calls Try.prog 3 #[v0] W λe w' => e=.returned (.bool true)/\Below W.heap.size W w' :=by
  obtain⟨a0,r0,c0⟩ :=Xkx 20 Try.underlying22 (λ_ h => by cases h) (sh :=.sl [.i .u8]) (by kernel_rfl) q0 h0
  obtain⟨x0,rfl,o0⟩ :=r0.list (f :=XP) (ok :=XiR) Xio
  refine XlJ (s :=s3) (vs :=[v0]) (xs :=[.sl .ro 1 (x0.map XP)]) (e3 _ o0) rfl rfl rfl (λj v a hv ha => ?_) Try.func3 (by decide) rfl trivial
  rcases j with _ | j
  · simp only[List.getElem?_cons_zero,List.getElem?_cons_succ,Option.some.injEq] at hv ha; subst hv ha; exact c0
  · simp at hv
end Go.Vm.A
namespace Go.Proofs.Ytpoannkeaajngaa.fnOutcomes
open Go.ChangeShapes Go.WideShapes Go.ChangeAt Go.RowKit
def own:ownKnob Try.prog.godebug=none :=by kernel_rfl
def XiY:laidOutB Try.prog=true :=by kernel_rfl
set_option maxRecDepth 100000 in
def XkZ(os:Os)(started:os.Started)(H:Type)(enc:TypeId×Value->H) :
    ReturnsInHanded {} Try.checked os 3 .any (Rows.fnOutcomesSpec.pre6 enc Try.prog Try.f3 Rows.fnOutcomesRow.domain false) (Rows.fnOutcomesSpec.post enc Try.prog Try.f3 false true false false) :=by
  refine returnsInHanded_of_change_sized (C :=Try.checked) own started (by kernel_rfl) Try.func3
    (ChangeSpec.witness6 (enc :=enc) (C :=Try.checked) false ⟨#[],#[.slice none 0 0],[]⟩ 8 (by kernel_rfl) (by kernel_rfl) (by kernel_rfl) (by kernel_rfl)) ?_
  intro W base args ds gs before hval0 hW hcnd hsz0 _
  have hval:∀(j:Nat) t v,Try.f3.params[j]?=some t->args[j]?=some v->Value.okWide Try.prog W .any base t v :=hval0
  have hW' :=hW
  obtain⟨p,q,hA0,hV,rfl,hfz,hnd⟩ :=hW
  have hA:DataW.TrodAll enc Try.prog W 0 (λ_ => true) true Try.f3.params.toList args.toList ds p :=hA0
  rw[Try.params3] at hA hval
  obtain⟨v0,vs0,d0,ds0,p0,q0,hargs,rfl,rfl,h0,r0⟩ :=trodAll_cons hA
  obtain⟨rfl,rfl,rfl⟩ :=trodAll_nil r0
  obtain rfl:args=#[v0] :=by cases args; simp_all
  obtain⟨rfl,rfl⟩ :=trodVars_none hV
  clear hA0 hsz0
  refine(Go.Vm.A.walk3 W base v0 (hval 0 22 v0 rfl rfl) h0).mono λe W' ⟨he,bel⟩ => ?_
  subst he
  exact⟨_,rfl,_,_,_,[],_,[],hW',trodAll_mk1 (shut_bool Try.underlying4 _),(trodAll_cons_mk (Below.trod XiY (by kernel_rfl) (of_decide_eq_true (by kernel_rfl)) h0 bel (λx hx => by simpa using hW'.lt x (by simp[hx]))) trodAll_mk0),rfl,bel.frame _,λh => by cases h⟩
def over:Rows.fnOutcomesRow.holds Try.pinned (OpenSpec.ofChange Rows.fnOutcomesSpec) :=
  OpenClaim.holds_of_wide 3 Try.f3 rfl rfl rfl rfl rfl rfl rfl ⟨rfl,rfl,rfl,rfl,rfl⟩ rfl rfl rfl rfl rfl (by kernel_rfl) Try.func3 (by kernel_rfl)
    (of_decide_eq_true (by kernel_rfl)) (by unfold Func.isWrapper; first | (rw[if_pos (by decide +kernel)]; kernel_rfl) | (rw[if_neg (by decide +kernel)]; exact⟨rfl,rfl⟩))
    (λos started H enc _ => XkZ os started H enc)
end Go.Proofs.Ytpoannkeaajngaa.fnOutcomes
namespace Go.Proofs.Ytpoannkeaajngaa
theorem fnOutcomes_holds:Rows.FnOutcomesSaid :=fnOutcomes.over
#print axioms fnOutcomes_holds
end Go.Proofs.Ytpoannkeaajngaa
