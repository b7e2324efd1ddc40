/- The law FnExactEventOf answers true at every argument, and leaves all as it was. -/
import Derived.Test.YtpoannkeaajngaaGreatDoorFm
import Derived.Test.YtpoannkeaajngaaGreatDoorWa
import Derived.Test.YtpoannkeaajngaaGreatDoorRows
import Derived.Test.YtpoannkeaajngaaGreatDoorCards
import Derived.Test.YtpoannkeaajngaaGreatDoorTie
import Derived.Deep.DeepHandedRow
import Derived.Lib.LaidTab
import Derived.WalkKit
import Derived.ProofKit
import Derived.OpenShut
import Derived.ShutString
import Derived.ChangeOld
import Derived.Below
import Derived.Carry
import Derived.SizedLaws
set_option linter.unusedVariables false
set_option linter.unusedSimpArgs false
set_option autoImplicit false
set_option maxRecDepth 100000
set_option maxHeartbeats 4000000
set_option linter.defProp false
namespace Go.Vm.A
open Go.Proofs
open Go.RowKit Go.ChangeShapes Go.WideShapes
def walk4{H:Type}{enc:TypeId×Value->H}(W:World)(base:Nat)(htab:∃m:Int,W.cell? ⟨0,0,none⟩=some (.int .i64 m))(v0:Value){d0:DataW H}{p0:List MemPlace}(q0:Value.okWide Tryz.prog W .any base 9 v0)(h0:DataW.Trod enc Tryz.prog W 0 (λ_ => true) true 9 v0 d0 p0):Calls Tryz.prog 4 #[v0] W λe w' => e=.returned (.bool true)/\Below W.heap.size W w' :=by
  obtain⟨a0,r0,c0⟩ :=Xov 20 Tryz.underlying9 (λ_ h => by cases h) (sh :=.s) (by kernel_rfl) q0 h0
  obtain⟨x0,rfl,o0⟩ :=r0.str
  refine Xq1 (s :=s4) (vs :=[v0]) (xs :=[.s x0]) (e4 _ o0) rfl rfl rfl (λj v a hv ha => ?_) Tryz.func4 (by decide) rfl (Xq5 htab)
  rcases j with _ | j
  · simp only[List.getElem?_cons_zero,List.getElem?_cons_succ,Option.some.injEq] at hv ha; subst hv ha; exact c0
  · simp at hv
end Go.Vm.A
namespace Go.Proofs.YtpoannkeaajngaaGreatDoor.fnExactEventOf
open Go.ChangeShapes Go.WideShapes Go.ChangeAt Go.RowKit
def own:ownKnob Tryz.prog.godebug=none :=by kernel_rfl
def Xm4:laidOutB Tryz.prog=true :=by kernel_rfl
set_option maxRecDepth 100000 in
def XkF(H:Type)(enc:TypeId×Value->H)(W:World)(base:Nat)(args:Array Value)(ds gs:List (DataW H))(before:List MemPlace)
    (hval:∀(j:Nat) t v,Tryz.f4.params[j]?=some t->args[j]?=some v->Value.okWide Tryz.prog W .any base t v)
    (hW:DataW.Whole enc Tryz.prog Tryz.f4.params.toList Rows.fnExactEventOfSpec.vars false W args.toList ds gs before) (hS:W.ShapedOpen Tryz.prog) :
    Calls Tryz.prog 4 args W λe W' => ∃v,e=.returned v/\Rows.fnExactEventOfSpec.post enc Tryz.prog Tryz.f4 false true false false W args v W' :=by
  have htab:∃m:Int,W.cell? ⟨0,0,none⟩=some (.int .i64 m) :=Go.Proofs.Tryz.laysM146.s1_3 W hS
  have hW' :=hW
  obtain⟨p,q,hA0,hV,rfl,hfz,hnd⟩ :=hW
  have hA:DataW.TrodAll enc Tryz.prog W 0 (λ_ => true) true Tryz.f4.params.toList args.toList ds p :=hA0
  rw[Tryz.params4] at hA hval
  obtain⟨v0,vs0,d0,ds0,p0,q0,hargs,rfl,rfl,h0,r0⟩ :=trodAll_cons hA
  obtain⟨rfl,rfl,rfl⟩ :=trodAll_nil r0
  obtain rfl:args=#[v0] :=by cases args; simp_all
  obtain⟨rfl,rfl⟩ :=trodVars_none hV
  clear hA0
  refine(Go.Vm.A.walk4 W base htab v0 (hval 0 9 v0 rfl rfl) h0).mono λe W' ⟨he,bel⟩ => ?_
  subst he
  exact⟨_,rfl,_,_,_,[],_,[],hW',trodAll_mk1 (shut_bool Tryz.underlying4 _),(trodAll_cons_mk (Below.trod Xm4 (by kernel_rfl) (of_decide_eq_true (by kernel_rfl)) h0 bel (λx hx => by simpa using hW'.lt x (by simp[hx]))) trodAll_mk0),rfl,bel.frame _,λh => by cases h⟩
def lay(vs:Array Value):Obj->Obj
  | .cells _ t frozen => .cells vs t frozen
  | o => o
def XtB:Array Value :=#[.int .u8 128,.int .u8 191,.int .u8 160,.int .u8 191,.int .u8 128,.int .u8 159,.int .u8 144,.int .u8 191,.int .u8 128,.int .u8 143,.int .u8 0,.int .u8 0,.int .u8 0,.int .u8 0,.int .u8 0,.int .u8 0,.int .u8 0,.int .u8 0,.int .u8 0,.int .u8 0,.int .u8 0,.int .u8 0,.int .u8 0,.int .u8 0,.int .u8 0,.int .u8 0,.int .u8 0,.int .u8 0,.int .u8 0,.int .u8 0,.int .u8 0,.int .u8 0]
def XtC:Array Value :=#[.int .u8 240,.int .u8 240,.int .u8 240,.int .u8 240,.int .u8 240,.int .u8 240,.int .u8 240,.int .u8 240,.int .u8 240,.int .u8 240,.int .u8 240,.int .u8 240,.int .u8 240,.int .u8 240,.int .u8 240,.int .u8 240,.int .u8 240,.int .u8 240,.int .u8 240,.int .u8 240,.int .u8 240,.int .u8 240,.int .u8 240,.int .u8 240,.int .u8 240,.int .u8 240,.int .u8 240,.int .u8 240,.int .u8 240,.int .u8 240,.int .u8 240,.int .u8 240,.int .u8 240,.int .u8 240,.int .u8 240,.int .u8 240,.int .u8 240,.int .u8 240,.int .u8 240,.int .u8 240,.int .u8 240,.int .u8 240,.int .u8 240,.int .u8 240,.int .u8 240,.int .u8 240,.int .u8 240,.int .u8 240,.int .u8 240,.int .u8 240,.int .u8 240,.int .u8 240,.int .u8 240,.int .u8 240,.int .u8 240,.int .u8 240,.int .u8 240,.int .u8 240,.int .u8 240,.int .u8 240,.int .u8 240,.int .u8 240,.int .u8 240,.int .u8 240,.int .u8 240,.int .u8 240,.int .u8 240,.int .u8 240,.int .u8 240,.int .u8 240,.int .u8 240,.int .u8 240,.int .u8 240,.int .u8 240,.int .u8 240,.int .u8 240,.int .u8 240,.int .u8 240,.int .u8 240,.int .u8 240,.int .u8 240,.int .u8 240,.int .u8 240,.int .u8 240,.int .u8 240,.int .u8 240,.int .u8 240,.int .u8 240,.int .u8 240,.int .u8 240,.int .u8 240,.int .u8 240,.int .u8 240,.int .u8 240,.int .u8 240,.int .u8 240,.int .u8 240,.int .u8 240,.int .u8 240,.int .u8 240,.int .u8 240,.int .u8 240,.int .u8 240,.int .u8 240,.int .u8 240,.int .u8 240,.int .u8 240,.int .u8 240,.int .u8 240,.int .u8 240,.int .u8 240,.int .u8 240,.int .u8 240,.int .u8 240,.int .u8 240,.int .u8 240,.int .u8 240,.int .u8 240,.int .u8 240,.int .u8 240,.int .u8 240,.int .u8 240,.int .u8 240,.int .u8 240,.int .u8 240,.int .u8 240,.int .u8 240,.int .u8 240,.int .u8 241,.int .u8 241,.int .u8 241,.int .u8 241,.int .u8 241,.int .u8 241,.int .u8 241,.int .u8 241,.int .u8 241,.int .u8 241,.int .u8 241,.int .u8 241,.int .u8 241,.int .u8 241,.int .u8 241,.int .u8 241,.int .u8 241,.int .u8 241,.int .u8 241,.int .u8 241,.int .u8 241,.int .u8 241,.int .u8 241,.int .u8 241,.int .u8 241,.int .u8 241,.int .u8 241,.int .u8 241,.int .u8 241,.int .u8 241,.int .u8 241,.int .u8 241,.int .u8 241,.int .u8 241,.int .u8 241,.int .u8 241,.int .u8 241,.int .u8 241,.int .u8 241,.int .u8 241,.int .u8 241,.int .u8 241,.int .u8 241,.int .u8 241,.int .u8 241,.int .u8 241,.int .u8 241,.int .u8 241,.int .u8 241,.int .u8 241,.int .u8 241,.int .u8 241,.int .u8 241,.int .u8 241,.int .u8 241,.int .u8 241,.int .u8 241,.int .u8 241,.int .u8 241,.int .u8 241,.int .u8 241,.int .u8 241,.int .u8 241,.int .u8 241,.int .u8 241,.int .u8 241,.int .u8 2,.int .u8 2,.int .u8 2,.int .u8 2,.int .u8 2,.int .u8 2,.int .u8 2,.int .u8 2,.int .u8 2,.int .u8 2,.int .u8 2,.int .u8 2,.int .u8 2,.int .u8 2,.int .u8 2,.int .u8 2,.int .u8 2,.int .u8 2,.int .u8 2,.int .u8 2,.int .u8 2,.int .u8 2,.int .u8 2,.int .u8 2,.int .u8 2,.int .u8 2,.int .u8 2,.int .u8 2,.int .u8 2,.int .u8 2,.int .u8 19,.int .u8 3,.int .u8 3,.int .u8 3,.int .u8 3,.int .u8 3,.int .u8 3,.int .u8 3,.int .u8 3,.int .u8 3,.int .u8 3,.int .u8 3,.int .u8 3,.int .u8 35,.int .u8 3,.int .u8 3,.int .u8 52,.int .u8 4,.int .u8 4,.int .u8 4,.int .u8 68,.int .u8 241,.int .u8 241,.int .u8 241,.int .u8 241,.int .u8 241,.int .u8 241,.int .u8 241,.int .u8 241,.int .u8 241,.int .u8 241,.int .u8 241]
noncomputable def Xb6(os:Os):World :=
  {World.holding Tryz.prog os ⟨#[],#[],[]⟩ with heap :=Array.modify (Array.modify ((World.holding Tryz.prog os ⟨#[],#[],[]⟩).heap) 2 (lay XtB)) 1 (lay XtC)}
def XkG(os:Os):laidMet Tryz.prog Rows.fnExactEventOfRow.laid ((Xb6 os).forCall (λ_ _ => 0) ⟨#[],#[.string ⟨#[]⟩],[]⟩).memory :=
  laidMet_of_run' 8 (by kernel_rfl) (by kernel_rfl)
def XrP(os:Os){H:Type}(enc:TypeId×Value->H):(DataW.whole enc Tryz.prog ((Xb6 os).forCall (λ_ _ => 0) ⟨#[],#[.string ⟨#[]⟩],[]⟩).memory Tryz.f4.params.toList Rows.fnExactEventOfSpec.vars false #[.string ⟨#[]⟩].toList 8).isSome=true :=by kernel_rfl
set_option maxRecDepth 100000 in
def lifted(os:Os)(started:os.Started)(H:Type)(enc:TypeId×Value->H)(F:Stop.Interp) :
    ReturnsInHanded {} Tryz.checked os 4 .any ((OpenSpec.ofChange Rows.fnExactEventOfSpec).preRow enc Tryz.prog Tryz.f4 Rows.fnExactEventOfRow.domain false Rows.fnExactEventOfRow.laid) (((OpenSpec.ofChange Rows.fnExactEventOfSpec).at F).post enc Tryz.prog Tryz.f4 false true false false) :=by
  obtain⟨x,hx⟩ :=Option.isSome_iff_exists.1 (XrP os enc)
  refine returnsInHanded_of_row (C :=Tryz.checked) (s :=OpenSpec.ofChange Rows.fnExactEventOfSpec) own started (by kernel_rfl) Tryz.func4
    (witness_row_at (enc :=enc) (C :=Tryz.checked) false (Xb6 os) #[.string ⟨#[]⟩] rfl (by kernel_rfl) (by kernel_rfl) (by kernel_rfl)
      (OpenSpec.preRow_of_cond 8 hx rfl (λk hk => by cases hk) (by kernel_rfl) (XkG os))) ?_
  intro W base args ds gs before hval hW _ _ _ _ hS _
  exact XkF H enc W base args ds gs before hval hW hS
def cj0:Rows.fnExactEventOfRow.wf (OpenSpec.ofChange (OpenSpec.ofChange Rows.fnExactEventOfSpec).bare)=true :=by kernel_rfl
def cj1:laidOutB Tryz.prog=true :=by kernel_rfl
def cj2:mapsRowed Tryz.prog=true :=by kernel_rfl
def cj3:Tryz.f4.params.all (Tryz.prog.readableRec ·)=true :=by kernel_rfl
def cj4:namedTie Tryz.prog Rows.fnExactEventOfRow.named (OpenSpec.ofChange Rows.fnExactEventOfSpec).bare.vars=true :=by kernel_rfl
def cj5:(Rows.fnExactEventOfRow.stops==[])=true :=by kernel_rfl
def cj6:(Tryz.prog.stops==[])=true :=by kernel_rfl
def cj7:(Rows.fnExactEventOfRow.knobs==[])=true :=by kernel_rfl
def cj8:(Tryz.prog.stopKnobs==[])=true :=by kernel_rfl
def cj9:(Rows.fnExactEventOfRow.inPlace==Tryz.prog.inPlace 4)=true :=by kernel_rfl
def XtD:(Rows.fnExactEventOfRow.unfollowed==Tryz.prog.unfollowed 4)=true :=by kernel_rfl
def XtE:(Rows.fnExactEventOfRow.recurses==Tryz.prog.recurses 4)=true :=by kernel_rfl
def XtF:(Rows.fnExactEventOfRow.named==Tryz.prog.varsNamed 4)=true :=by kernel_rfl
def XtG:(Rows.fnExactEventOfRow.maps==(Tryz.f4.params.toList++(OpenSpec.ofChange Rows.fnExactEventOfSpec).bare.plain.varTypes Tryz.prog).any (Tryz.prog.mapsRec ·))=true :=by kernel_rfl
def XtH:(Rows.fnExactEventOfRow.ifaces==(Tryz.f4.params.toList++(OpenSpec.ofChange Rows.fnExactEventOfSpec).bare.plain.varTypes Tryz.prog).any (Tryz.prog.ifacesRec ·))=true :=by kernel_rfl
def XtI:(Rows.fnExactEventOfRow.mapsOut==Tryz.prog.mapsAmong Tryz.f4.resultTypes.toList)=true :=by kernel_rfl
def XtJ:(Rows.fnExactEventOfRow.loops==(Tryz.f4.params.toList++(OpenSpec.ofChange Rows.fnExactEventOfSpec).bare.plain.varTypes Tryz.prog).any (Tryz.prog.loopsFrom ·))=true :=by kernel_rfl
def XtK:(Rows.fnExactEventOfRow.wideKeys==(Tryz.f4.params.toList++(OpenSpec.ofChange Rows.fnExactEventOfSpec).bare.plain.varTypes Tryz.prog++Tryz.f4.resultTypes.toList).any (Tryz.prog.wideKeysFrom ·))=true :=by kernel_rfl
def XtL:(OpenSpec.ofChange Rows.fnExactEventOfSpec).bare.vars.all (Tryz.prog.varReadable ·)=true :=by kernel_rfl
def XtM:Tryz.f4.resultTypes.all (λt => Tryz.prog.readableRec t&&decide (t<Tryz.prog.types.size))=true :=by kernel_rfl
def XtN:(Rows.fnExactEventOfRow.ifacesOut==Tryz.f4.resultTypes.toList.any (Tryz.prog.ifacesRec ·))=true :=by kernel_rfl
def XtO:(Rows.fnExactEventOfRow.loopsOut==Tryz.f4.resultTypes.toList.any (Tryz.prog.loopsFrom ·))=true :=by kernel_rfl
def XtP:(Rows.fnExactEventOfRow.plainKeys==Tryz.prog.plainKeys)=true :=by kernel_rfl
def XtQ:Rows.fnExactEventOfRow.shortTexts.isNone=true :=by kernel_rfl
def XtR:Tryz.prog.stopsHeard=true :=by kernel_rfl
def XtS:Tryz.prog.mayEnter=true :=by kernel_rfl
def XtT:(Rows.fnExactEventOfRow.lifted==Tryz.prog.liftsFinal)=true :=by kernel_rfl
def XtU:(Tryz.prog.make==some Rows.fnExactEventOfRow.make)=true :=by kernel_rfl
def XtV:(Rows.fnExactEventOfRow.kinds==(if Rows.fnExactEventOfRow.domain.isEmpty then[] else Tryz.f4.params.toList.map λt => match Tryz.prog.underlying t with | some (.int k) => some k | _ => none))=true :=by kernel_rfl
def XtW:(Rows.fnExactEventOfRow.pinned==Rows.fnExactEventOfRow.pinnedBy)=true :=by kernel_rfl
def XtX:(Rows.fnExactEventOfRow.veiled==(Tryz.f4.params.toList++(OpenSpec.ofChange Rows.fnExactEventOfSpec).bare.plain.varTypes Tryz.prog++Tryz.f4.resultTypes.toList).any (Tryz.prog.veiledRec ·))=true :=by kernel_rfl
def XtY:Rows.fnExactEventOfRow.veiledFits Tryz.prog Tryz.f4.params.toList (Tryz.f4.params.toList++(OpenSpec.ofChange Rows.fnExactEventOfSpec).bare.plain.varTypes Tryz.prog++Tryz.f4.resultTypes.toList)=true :=by kernel_rfl
def Xau{a b:Bool}(h1:a=true)(h2:b=true):(a&&b)=true :=by rw[h1,h2]; rfl
def Xqh:joinedFacts Tryz.pinned.checked.prog 4 Tryz.f4 (OpenSpec.ofChange Rows.fnExactEventOfSpec).bare Rows.fnExactEventOfRow=true :=(Xau (Xau (Xau (Xau (Xau (Xau (Xau (Xau (Xau (Xau (Xau (Xau (Xau (Xau (Xau (Xau (Xau (Xau (Xau (Xau (Xau (Xau (Xau (Xau (Xau (Xau (Xau (Xau (Xau (Xau (Xau cj0 cj1) cj2) cj3) cj4) cj5) cj6) cj7) cj8) cj9) XtD) XtE) XtF) XtG) XtH) XtI) XtJ) XtK) XtL) XtM) XtN) XtO) XtP) XtQ) XtR) XtS) XtT) XtU) XtV) XtW) XtX) XtY)
def said:Rows.FnExactEventOfSaid :=
  OpenClaim.holds_of_cond 4 Tryz.f4 rfl rfl rfl rfl rfl rfl rfl ⟨rfl,rfl,rfl,rfl,rfl⟩ rfl rfl rfl rfl rfl (by kernel_rfl) Tryz.func4 Xqh
    (of_decide_eq_true (by kernel_rfl)) (by unfold Func.isWrapper; first | (rw[if_pos (by decide +kernel)]; kernel_rfl) | (rw[if_neg (by decide +kernel)]; exact⟨rfl,rfl⟩))
    (λos started H enc _ F => by rw[OpenClaim.pre_eq_preRow]; exact lifted os started H enc F)
def plain (f : FuncId) (fn : Func) (hf : Tryz.pinned.checked.prog.funcNamed "loop.example/g00665/laws.FnExactEventOf" = some f) (hfn : Tryz.pinned.checked.prog.funcs[f]? = some fn) :
    false=Tryz.pinned.checked.prog.looks []/\∀(j:Nat) t,fn.params[j]?=some t->Tryz.pinned.checked.prog.wantsStandIn t=false :=by
  obtain rfl : f = 4 := Option.some.inj ((show Tryz.prog.funcNamed "loop.example/g00665/laws.FnExactEventOf" = some 4 by kernel_rfl).symm.trans hf) |>.symm
  obtain rfl:fn=Tryz.f4 :=(Option.some.inj (Tryz.func4.symm.trans hfn)).symm
  refine⟨by kernel_rfl,λj t ht => ?_⟩
  rw[Tryz.params4] at ht
  have hm :=Array.mem_of_getElem? ht
  simp only[List.mem_toArray,List.mem_cons,List.not_mem_nil,or_false,or_self] at hm
  subst hm
  · exact(show Tryz.prog.wantsStandIn 9=false by kernel_rfl)
end Go.Proofs.YtpoannkeaajngaaGreatDoor.fnExactEventOf
namespace Go.Proofs.YtpoannkeaajngaaGreatDoor
theorem fnExactEventOf_holds:Rows.FnExactEventOfCardSaid :=
  Claim7.holds_tied_plain_at .later [] _ _ _ _ fnExactEventOf.said (λ_ h => by cases h) (by kernel_rfl) (λ_ h => by cases h) fnExactEventOf_row_tie rfl ⟨rfl,rfl⟩ (by kernel_rfl) rfl fnExactEventOf.plain (by kernel_rfl)
#print axioms fnExactEventOf_holds
end Go.Proofs.YtpoannkeaajngaaGreatDoor
