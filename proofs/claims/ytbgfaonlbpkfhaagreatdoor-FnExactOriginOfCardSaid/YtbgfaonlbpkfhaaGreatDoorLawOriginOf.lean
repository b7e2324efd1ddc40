/- The law FnExactOriginOf answers true at every argument, and leaves all as it was. -/
import Derived.Test.YtbgfaonlbpkfhaaGreatDoorIb
import Derived.Test.YtbgfaonlbpkfhaaGreatDoorWa
import Derived.Test.YtbgfaonlbpkfhaaGreatDoorRows
import Derived.Test.YtbgfaonlbpkfhaaGreatDoorCards
import Derived.Test.YtbgfaonlbpkfhaaGreatDoorTie
import Derived.Deep.DeepHandedRow
import Derived.Lib.LaidTab
import Derived.WalkKit
import Derived.ProofKit
import Derived.OpenShut
import Derived.ShutString
import Derived.ChangeOld
import Derived.Below
import Derived.Carry
import Derived.SizedLaws
set_option linter.unusedVariables false
set_option linter.unusedSimpArgs false
set_option autoImplicit false
set_option maxRecDepth 100000
set_option maxHeartbeats 4000000
set_option linter.defProp false
namespace Go.Vm.A
open Go.Proofs
open Go.RowKit Go.ChangeShapes Go.WideShapes
def walk7{H:Type}{enc:TypeId×Value->H}(W:World)(base:Nat)(v0 v1:Value){d0:DataW H}{p0:List MemPlace}{d1:DataW H}{p1:List MemPlace}(q0:Value.okWide Tryz.prog W .any base 56 v0)(h0:DataW.Trod enc Tryz.prog W 0 (λ_ => true) true 56 v0 d0 p0)(q1:Value.okWide Tryz.prog W .any base 9 v1)(h1:DataW.Trod enc Tryz.prog W 0 (λ_ => true) true 9 v1 d1 p1):Calls Tryz.prog 7 #[v0,v1] W λe w' => e=.returned (.bool true)/\Below W.heap.size W w' :=by
  obtain⟨a0,r0,c0⟩ :=Xgn 20 Tryz.underlying56 (shs :=[.i .i64,.i .i64,.i .i64,.i .i64,.i .i64,.i .i64,.i .i64,.i .i64,.sl [.s],.i .i64,.i .i64,.i .i64,.i .i64,.i .i64,.i .i64,.i .i64,.i .i64,.i .i64,.i .i64,.i .i64,.i .i64,.sl [.s,.i .i64,.sl [.s,.s],.sl [.i .u8],.i .i64,.i .i64,.i .i64,.i .i64,.i .i64,.b,.b,.sl [.s],.i .i64],.sl [.s,.i .i64,.sl [.s,.s],.sl [.i .u8],.i .i64,.i .i64,.i .i64,.i .i64,.i .i64,.b,.b,.sl [.s],.i .i64],.sl [.s,.i .i64,.sl [.i .i64,.i .i64],.i .i64,.i .i64,.i .i64,.sl [.i .i64,.b]],.sl [.i .i64,.s,.b,.b,.i .i64,.b,.s,.s,.s,.sl [.s,.s],.sl [.i .i64,.b,.i .i64,.b]]]) (by kernel_rfl) q0 h0
  obtain⟨x0,rfl,o0⟩ :=Xd6 _ r0
  obtain⟨a1,r1,c1⟩ :=Xl5 20 Tryz.underlying9 (λ_ h => by cases h) (sh :=.s) (by kernel_rfl) q1 h1
  obtain⟨x1,rfl,o1⟩ :=r1.str
  refine Xjj (s :=s7) (vs :=[v0,v1]) (xs :=[.agg (Q6 .ro x0),.s x1]) (e7 _ _ _ _ _ _ _ _ _ _ _ _ _ _ _ _ _ _ _ _ _ _ _ _ _ _ ⟨o0,o1⟩) rfl rfl rfl (λj v a hv ha => ?_) Tryz.func7 (by decide) rfl trivial
  rcases j with _ | j
  · simp only[List.getElem?_cons_zero,List.getElem?_cons_succ,Option.some.injEq] at hv ha; subst hv ha; exact c0
  rcases j with _ | j
  · simp only[List.getElem?_cons_zero,List.getElem?_cons_succ,Option.some.injEq] at hv ha; subst hv ha; exact c1
  · simp at hv
end Go.Vm.A
namespace Go.Proofs.YtbgfaonlbpkfhaaGreatDoor.fnExactOriginOf
open Go.ChangeShapes Go.WideShapes Go.ChangeAt Go.RowKit
def own:ownKnob Tryz.prog.godebug=none :=by kernel_rfl
def laidOut:laidOutB Tryz.prog=true :=by kernel_rfl
set_option maxRecDepth 100000 in
def contract(H:Type)(enc:TypeId×Value->H)(W:World)(base:Nat)(args:Array Value)(ds gs:List (DataW H))(before:List MemPlace)
    (hval:∀(j:Nat) t v,Tryz.f7.params[j]?=some t->args[j]?=some v->Value.okWide Tryz.prog W .any base t v)
    (hW:DataW.Whole enc Tryz.prog Tryz.f7.params.toList Rows.fnExactOriginOfSpec.vars false W args.toList ds gs before) :
    Calls Tryz.prog 7 args W λe W' => ∃v,e=.returned v/\Rows.fnExactOriginOfSpec.post enc Tryz.prog Tryz.f7 false true false false W args v W' :=by
  have hW' :=hW
  obtain⟨p,q,hA0,hV,rfl,hfz,hnd⟩ :=hW
  have hA:DataW.TrodAll enc Tryz.prog W 0 (λ_ => true) true Tryz.f7.params.toList args.toList ds p :=hA0
  rw[Tryz.params7] at hA hval
  obtain⟨v0,vs0,d0,ds0,p0,q0,hargs,rfl,rfl,h0,r0⟩ :=trodAll_cons hA
  obtain⟨v1,vs1,d1,ds1,p1,q1,rfl,rfl,rfl,h1,r1⟩ :=trodAll_cons r0
  obtain⟨rfl,rfl,rfl⟩ :=trodAll_nil r1
  obtain rfl:args=#[v0,v1] :=by cases args; simp_all
  obtain⟨rfl,rfl⟩ :=trodVars_none hV
  clear hA0
  refine(Go.Vm.A.walk7 W base v0 v1 (hval 0 56 v0 rfl rfl) h0 (hval 1 9 v1 rfl rfl) h1).mono λe W' ⟨he,bel⟩ => ?_
  subst he
  exact⟨_,rfl,_,_,_,[],_,[],hW',trodAll_mk1 (shut_bool Tryz.underlying4 _),(trodAll_cons_mk (Below.trod laidOut (by kernel_rfl) (of_decide_eq_true (by kernel_rfl)) h0 bel (λx hx => by simpa using hW'.lt x (by simp[hx]))) (trodAll_cons_mk (Below.trod laidOut (by kernel_rfl) (of_decide_eq_true (by kernel_rfl)) h1 bel (λx hx => by simpa using hW'.lt x (by simp[hx]))) trodAll_mk0)),rfl,bel.frame _,λh => by cases h⟩
def lay(vs:Array Value):Obj->Obj
  | .cells _ t frozen => .cells vs t frozen
  | o => o
def tabFirst:Array Value :=#[.int .u8 240,.int .u8 240,.int .u8 240,.int .u8 240,.int .u8 240,.int .u8 240,.int .u8 240,.int .u8 240,.int .u8 240,.int .u8 240,.int .u8 240,.int .u8 240,.int .u8 240,.int .u8 240,.int .u8 240,.int .u8 240,.int .u8 240,.int .u8 240,.int .u8 240,.int .u8 240,.int .u8 240,.int .u8 240,.int .u8 240,.int .u8 240,.int .u8 240,.int .u8 240,.int .u8 240,.int .u8 240,.int .u8 240,.int .u8 240,.int .u8 240,.int .u8 240,.int .u8 240,.int .u8 240,.int .u8 240,.int .u8 240,.int .u8 240,.int .u8 240,.int .u8 240,.int .u8 240,.int .u8 240,.int .u8 240,.int .u8 240,.int .u8 240,.int .u8 240,.int .u8 240,.int .u8 240,.int .u8 240,.int .u8 240,.int .u8 240,.int .u8 240,.int .u8 240,.int .u8 240,.int .u8 240,.int .u8 240,.int .u8 240,.int .u8 240,.int .u8 240,.int .u8 240,.int .u8 240,.int .u8 240,.int .u8 240,.int .u8 240,.int .u8 240,.int .u8 240,.int .u8 240,.int .u8 240,.int .u8 240,.int .u8 240,.int .u8 240,.int .u8 240,.int .u8 240,.int .u8 240,.int .u8 240,.int .u8 240,.int .u8 240,.int .u8 240,.int .u8 240,.int .u8 240,.int .u8 240,.int .u8 240,.int .u8 240,.int .u8 240,.int .u8 240,.int .u8 240,.int .u8 240,.int .u8 240,.int .u8 240,.int .u8 240,.int .u8 240,.int .u8 240,.int .u8 240,.int .u8 240,.int .u8 240,.int .u8 240,.int .u8 240,.int .u8 240,.int .u8 240,.int .u8 240,.int .u8 240,.int .u8 240,.int .u8 240,.int .u8 240,.int .u8 240,.int .u8 240,.int .u8 240,.int .u8 240,.int .u8 240,.int .u8 240,.int .u8 240,.int .u8 240,.int .u8 240,.int .u8 240,.int .u8 240,.int .u8 240,.int .u8 240,.int .u8 240,.int .u8 240,.int .u8 240,.int .u8 240,.int .u8 240,.int .u8 240,.int .u8 240,.int .u8 240,.int .u8 240,.int .u8 240,.int .u8 240,.int .u8 240,.int .u8 241,.int .u8 241,.int .u8 241,.int .u8 241,.int .u8 241,.int .u8 241,.int .u8 241,.int .u8 241,.int .u8 241,.int .u8 241,.int .u8 241,.int .u8 241,.int .u8 241,.int .u8 241,.int .u8 241,.int .u8 241,.int .u8 241,.int .u8 241,.int .u8 241,.int .u8 241,.int .u8 241,.int .u8 241,.int .u8 241,.int .u8 241,.int .u8 241,.int .u8 241,.int .u8 241,.int .u8 241,.int .u8 241,.int .u8 241,.int .u8 241,.int .u8 241,.int .u8 241,.int .u8 241,.int .u8 241,.int .u8 241,.int .u8 241,.int .u8 241,.int .u8 241,.int .u8 241,.int .u8 241,.int .u8 241,.int .u8 241,.int .u8 241,.int .u8 241,.int .u8 241,.int .u8 241,.int .u8 241,.int .u8 241,.int .u8 241,.int .u8 241,.int .u8 241,.int .u8 241,.int .u8 241,.int .u8 241,.int .u8 241,.int .u8 241,.int .u8 241,.int .u8 241,.int .u8 241,.int .u8 241,.int .u8 241,.int .u8 241,.int .u8 241,.int .u8 241,.int .u8 241,.int .u8 2,.int .u8 2,.int .u8 2,.int .u8 2,.int .u8 2,.int .u8 2,.int .u8 2,.int .u8 2,.int .u8 2,.int .u8 2,.int .u8 2,.int .u8 2,.int .u8 2,.int .u8 2,.int .u8 2,.int .u8 2,.int .u8 2,.int .u8 2,.int .u8 2,.int .u8 2,.int .u8 2,.int .u8 2,.int .u8 2,.int .u8 2,.int .u8 2,.int .u8 2,.int .u8 2,.int .u8 2,.int .u8 2,.int .u8 2,.int .u8 19,.int .u8 3,.int .u8 3,.int .u8 3,.int .u8 3,.int .u8 3,.int .u8 3,.int .u8 3,.int .u8 3,.int .u8 3,.int .u8 3,.int .u8 3,.int .u8 3,.int .u8 35,.int .u8 3,.int .u8 3,.int .u8 52,.int .u8 4,.int .u8 4,.int .u8 4,.int .u8 68,.int .u8 241,.int .u8 241,.int .u8 241,.int .u8 241,.int .u8 241,.int .u8 241,.int .u8 241,.int .u8 241,.int .u8 241,.int .u8 241,.int .u8 241]
def tabAcc:Array Value :=#[.int .u8 128,.int .u8 191,.int .u8 160,.int .u8 191,.int .u8 128,.int .u8 159,.int .u8 144,.int .u8 191,.int .u8 128,.int .u8 143,.int .u8 0,.int .u8 0,.int .u8 0,.int .u8 0,.int .u8 0,.int .u8 0,.int .u8 0,.int .u8 0,.int .u8 0,.int .u8 0,.int .u8 0,.int .u8 0,.int .u8 0,.int .u8 0,.int .u8 0,.int .u8 0,.int .u8 0,.int .u8 0,.int .u8 0,.int .u8 0,.int .u8 0,.int .u8 0]
noncomputable def laidWorld(os:Os):World :=
  {World.holding Tryz.prog os ⟨#[],#[],[]⟩ with heap :=Array.modify (Array.modify (World.holding Tryz.prog os ⟨#[],#[],[]⟩).heap 1 (lay tabFirst)) 2 (lay tabAcc)}
def laid_met(os:Os):laidMet Tryz.prog Rows.fnExactOriginOfRow.laid ((laidWorld os).forCall (λ_ _ => 0) ⟨#[],#[.agg #[.int .i64 0,.int .i64 0,.int .i64 0,.int .i64 0,.int .i64 0,.int .i64 0,.int .i64 0,.int .i64 0,.slice none 0 0,.int .i64 0,.int .i64 0,.int .i64 0,.int .i64 0,.int .i64 0,.int .i64 0,.int .i64 0,.int .i64 0,.int .i64 0,.int .i64 0,.int .i64 0,.int .i64 0,.slice none 0 0,.slice none 0 0,.slice none 0 0,.slice none 0 0],.string ⟨#[]⟩],[]⟩).memory :=
  laidMet_of_run' 8 (by kernel_rfl) (by kernel_rfl)
def reads(os:Os){H:Type}(enc:TypeId×Value->H):(DataW.whole enc Tryz.prog ((laidWorld os).forCall (λ_ _ => 0) ⟨#[],#[.agg #[.int .i64 0,.int .i64 0,.int .i64 0,.int .i64 0,.int .i64 0,.int .i64 0,.int .i64 0,.int .i64 0,.slice none 0 0,.int .i64 0,.int .i64 0,.int .i64 0,.int .i64 0,.int .i64 0,.int .i64 0,.int .i64 0,.int .i64 0,.int .i64 0,.int .i64 0,.int .i64 0,.int .i64 0,.slice none 0 0,.slice none 0 0,.slice none 0 0,.slice none 0 0],.string ⟨#[]⟩],[]⟩).memory Tryz.f7.params.toList Rows.fnExactOriginOfSpec.vars false #[.agg #[.int .i64 0,.int .i64 0,.int .i64 0,.int .i64 0,.int .i64 0,.int .i64 0,.int .i64 0,.int .i64 0,.slice none 0 0,.int .i64 0,.int .i64 0,.int .i64 0,.int .i64 0,.int .i64 0,.int .i64 0,.int .i64 0,.int .i64 0,.int .i64 0,.int .i64 0,.int .i64 0,.int .i64 0,.slice none 0 0,.slice none 0 0,.slice none 0 0,.slice none 0 0],.string ⟨#[]⟩].toList 8).isSome=true :=by kernel_rfl
set_option maxRecDepth 100000 in
def lifted(os:Os)(started:os.Started)(H:Type)(enc:TypeId×Value->H)(F:Stop.Interp) :
    ReturnsInHanded {} Tryz.checked os 7 .any ((OpenSpec.ofChange Rows.fnExactOriginOfSpec).preRow enc Tryz.prog Tryz.f7 Rows.fnExactOriginOfRow.domain false Rows.fnExactOriginOfRow.laid) (((OpenSpec.ofChange Rows.fnExactOriginOfSpec).at F).post enc Tryz.prog Tryz.f7 false true false false) :=by
  obtain⟨x,hx⟩ :=Option.isSome_iff_exists.1 (reads os enc)
  refine returnsInHanded_of_row (C :=Tryz.checked) (s :=OpenSpec.ofChange Rows.fnExactOriginOfSpec) own started (by kernel_rfl) Tryz.func7
    (witness_row_at (enc :=enc) (C :=Tryz.checked) false (laidWorld os) #[.agg #[.int .i64 0,.int .i64 0,.int .i64 0,.int .i64 0,.int .i64 0,.int .i64 0,.int .i64 0,.int .i64 0,.slice none 0 0,.int .i64 0,.int .i64 0,.int .i64 0,.int .i64 0,.int .i64 0,.int .i64 0,.int .i64 0,.int .i64 0,.int .i64 0,.int .i64 0,.int .i64 0,.int .i64 0,.slice none 0 0,.slice none 0 0,.slice none 0 0,.slice none 0 0],.string ⟨#[]⟩] rfl (by kernel_rfl) (by kernel_rfl) (by kernel_rfl)
      (OpenSpec.preRow_of_cond 8 hx rfl (λk hk => by cases hk) (by kernel_rfl) (laid_met os))) ?_
  intro W base args ds gs before hval hW _ _ _ _ _ _
  exact contract H enc W base args ds gs before hval hW
def cj0:Rows.fnExactOriginOfRow.wf (OpenSpec.ofChange (OpenSpec.ofChange Rows.fnExactOriginOfSpec).bare)=true :=by kernel_rfl
def cj1:laidOutB Tryz.prog=true :=by kernel_rfl
def cj2:mapsRowed Tryz.prog=true :=by kernel_rfl
def cj3:Tryz.f7.params.all (Tryz.prog.readableRec ·)=true :=by kernel_rfl
def cj4:namedTie Tryz.prog Rows.fnExactOriginOfRow.named (OpenSpec.ofChange Rows.fnExactOriginOfSpec).bare.vars=true :=by kernel_rfl
def cj5:(Rows.fnExactOriginOfRow.stops==[])=true :=by kernel_rfl
def cj6:(Tryz.prog.stops==[])=true :=by kernel_rfl
def cj7:(Rows.fnExactOriginOfRow.knobs==[])=true :=by kernel_rfl
def cj8:(Tryz.prog.stopKnobs==[])=true :=by kernel_rfl
def cj9:(Rows.fnExactOriginOfRow.inPlace==Tryz.prog.inPlace 7)=true :=by kernel_rfl
def cj10:(Rows.fnExactOriginOfRow.unfollowed==Tryz.prog.unfollowed 7)=true :=by kernel_rfl
def cj11:(Rows.fnExactOriginOfRow.recurses==Tryz.prog.recurses 7)=true :=by kernel_rfl
def cj12:(Rows.fnExactOriginOfRow.named==Tryz.prog.varsNamed 7)=true :=by kernel_rfl
def cj13:(Rows.fnExactOriginOfRow.maps==(Tryz.f7.params.toList++(OpenSpec.ofChange Rows.fnExactOriginOfSpec).bare.plain.varTypes Tryz.prog).any (Tryz.prog.mapsRec ·))=true :=by kernel_rfl
def cj14:(Rows.fnExactOriginOfRow.ifaces==(Tryz.f7.params.toList++(OpenSpec.ofChange Rows.fnExactOriginOfSpec).bare.plain.varTypes Tryz.prog).any (Tryz.prog.ifacesRec ·))=true :=by kernel_rfl
def cj15:(Rows.fnExactOriginOfRow.mapsOut==Tryz.prog.mapsAmong Tryz.f7.resultTypes.toList)=true :=by kernel_rfl
def cj16:(Rows.fnExactOriginOfRow.loops==(Tryz.f7.params.toList++(OpenSpec.ofChange Rows.fnExactOriginOfSpec).bare.plain.varTypes Tryz.prog).any (Tryz.prog.loopsFrom ·))=true :=by kernel_rfl
def cj17:(Rows.fnExactOriginOfRow.wideKeys==(Tryz.f7.params.toList++(OpenSpec.ofChange Rows.fnExactOriginOfSpec).bare.plain.varTypes Tryz.prog++Tryz.f7.resultTypes.toList).any (Tryz.prog.wideKeysFrom ·))=true :=by kernel_rfl
def cj18:(OpenSpec.ofChange Rows.fnExactOriginOfSpec).bare.vars.all (Tryz.prog.varReadable ·)=true :=by kernel_rfl
def cj19:Tryz.f7.resultTypes.all (λt => Tryz.prog.readableRec t&&decide (t<Tryz.prog.types.size))=true :=by kernel_rfl
def cj20:(Rows.fnExactOriginOfRow.ifacesOut==Tryz.f7.resultTypes.toList.any (Tryz.prog.ifacesRec ·))=true :=by kernel_rfl
def cj21:(Rows.fnExactOriginOfRow.loopsOut==Tryz.f7.resultTypes.toList.any (Tryz.prog.loopsFrom ·))=true :=by kernel_rfl
def cj22:(Rows.fnExactOriginOfRow.plainKeys==Tryz.prog.plainKeys)=true :=by kernel_rfl
def cj23:Rows.fnExactOriginOfRow.shortTexts.isNone=true :=by kernel_rfl
def cj24:Tryz.prog.stopsHeard=true :=by kernel_rfl
def cj25:Tryz.prog.mayEnter=true :=by kernel_rfl
def cj26:(Rows.fnExactOriginOfRow.lifted==Tryz.prog.liftsFinal)=true :=by kernel_rfl
def cj27:(Tryz.prog.make==some Rows.fnExactOriginOfRow.make)=true :=by kernel_rfl
def cj28:(Rows.fnExactOriginOfRow.kinds==(if Rows.fnExactOriginOfRow.domain.isEmpty then[] else Tryz.f7.params.toList.map λt => match Tryz.prog.underlying t with | some (.int k) => some k | _ => none))=true :=by kernel_rfl
def cj29:(Rows.fnExactOriginOfRow.pinned==Rows.fnExactOriginOfRow.pinnedBy)=true :=by kernel_rfl
def cj30:(Rows.fnExactOriginOfRow.veiled==(Tryz.f7.params.toList++(OpenSpec.ofChange Rows.fnExactOriginOfSpec).bare.plain.varTypes Tryz.prog++Tryz.f7.resultTypes.toList).any (Tryz.prog.veiledRec ·))=true :=by kernel_rfl
def cj31:Rows.fnExactOriginOfRow.veiledFits Tryz.prog Tryz.f7.params.toList (Tryz.f7.params.toList++(OpenSpec.ofChange Rows.fnExactOriginOfSpec).bare.plain.varTypes Tryz.prog++Tryz.f7.resultTypes.toList)=true :=by kernel_rfl
def andI{a b:Bool}(h1:a=true)(h2:b=true):(a&&b)=true :=by rw[h1,h2]; rfl
def closed:joinedFacts Tryz.pinned.checked.prog 7 Tryz.f7 (OpenSpec.ofChange Rows.fnExactOriginOfSpec).bare Rows.fnExactOriginOfRow=true :=(andI (andI (andI (andI (andI (andI (andI (andI (andI (andI (andI (andI (andI (andI (andI (andI (andI (andI (andI (andI (andI (andI (andI (andI (andI (andI (andI (andI (andI (andI (andI cj0 cj1) cj2) cj3) cj4) cj5) cj6) cj7) cj8) cj9) cj10) cj11) cj12) cj13) cj14) cj15) cj16) cj17) cj18) cj19) cj20) cj21) cj22) cj23) cj24) cj25) cj26) cj27) cj28) cj29) cj30) cj31)
def said:Rows.FnExactOriginOfSaid :=
  OpenClaim.holds_of_cond 7 Tryz.f7 rfl rfl rfl rfl rfl rfl rfl ⟨rfl,rfl,rfl,rfl,rfl⟩ rfl rfl rfl rfl rfl (by kernel_rfl) Tryz.func7 closed
    (of_decide_eq_true (by kernel_rfl)) (by unfold Func.isWrapper; first | (rw[if_pos (by decide +kernel)]; kernel_rfl) | (rw[if_neg (by decide +kernel)]; exact⟨rfl,rfl⟩))
    (λos started H enc _ F => by rw[OpenClaim.pre_eq_preRow]; exact lifted os started H enc F)
def plain (f : FuncId) (fn : Func) (hf : Tryz.pinned.checked.prog.funcNamed "loop.example/g00665/laws.FnExactOriginOf" = some f) (hfn : Tryz.pinned.checked.prog.funcs[f]? = some fn) :
    false=Tryz.pinned.checked.prog.looks []/\∀(j:Nat) t,fn.params[j]?=some t->Tryz.pinned.checked.prog.wantsStandIn t=false :=by
  obtain rfl : f = 7 := Option.some.inj ((show Tryz.prog.funcNamed "loop.example/g00665/laws.FnExactOriginOf" = some 7 by kernel_rfl).symm.trans hf) |>.symm
  obtain rfl:fn=Tryz.f7 :=(Option.some.inj (Tryz.func7.symm.trans hfn)).symm
  refine⟨by kernel_rfl,λj t ht => ?_⟩
  rw[Tryz.params7] at ht
  have hm :=Array.mem_of_getElem? ht
  simp only[List.mem_toArray,List.mem_cons,List.not_mem_nil,or_false,or_self] at hm
  rcases hm with rfl | rfl
  · exact(show Tryz.prog.wantsStandIn 56=false by kernel_rfl)
  · exact(show Tryz.prog.wantsStandIn 9=false by kernel_rfl)
end Go.Proofs.YtbgfaonlbpkfhaaGreatDoor.fnExactOriginOf
namespace Go.Proofs.YtbgfaonlbpkfhaaGreatDoor
theorem fnExactOriginOf_holds:Rows.FnExactOriginOfCardSaid :=
  Claim7.holds_tied_plain_at .later [] _ _ _ _ fnExactOriginOf.said (λ_ h => by cases h) (by kernel_rfl) (λ_ h => by cases h) fnExactOriginOf_row_tie rfl ⟨rfl,rfl⟩ (by kernel_rfl) rfl fnExactOriginOf.plain (by kernel_rfl)
#print axioms fnExactOriginOf_holds
end Go.Proofs.YtbgfaonlbpkfhaaGreatDoor
