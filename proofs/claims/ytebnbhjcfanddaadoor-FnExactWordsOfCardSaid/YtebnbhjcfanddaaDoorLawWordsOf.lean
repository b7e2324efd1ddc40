/- The law FnExactWordsOf answers true at every argument, and leaves all as it was. -/
import Derived.Test.YtebnbhjcfanddaaDoorFb
import Derived.Test.YtebnbhjcfanddaaDoorWa
import Derived.Test.YtebnbhjcfanddaaDoorRows
import Derived.Test.YtebnbhjcfanddaaDoorCards
import Derived.Test.YtebnbhjcfanddaaDoorTie
import Derived.Deep.DeepHandedRow
import Derived.Lib.LaidTab
import Derived.WalkKit
import Derived.ProofKit
import Derived.OpenShut
import Derived.ShutString
import Derived.ChangeOld
import Derived.Below
import Derived.Carry
import Derived.SizedLaws
set_option linter.unusedVariables false
set_option linter.unusedSimpArgs false
set_option autoImplicit false
set_option maxRecDepth 100000
set_option maxHeartbeats 4000000
set_option linter.defProp false
namespace Go.Vm.A
open Go.Proofs
open Go.RowKit Go.ChangeShapes Go.WideShapes
def walk3{H:Type}{enc:TypeId×Value->H}(W:World)(base:Nat)(htab:∃m:Int,W.cell? ⟨1,0,none⟩=some (.int .i64 m))(v0:Value){d0:DataW H}{p0:List MemPlace}(q0:Value.okWide Tryd.prog W .any base 9 v0)(h0:DataW.Trod enc Tryd.prog W 0 (λ_ => true) true 9 v0 d0 p0):Calls Tryd.prog 3 #[v0] W λe w' => e=.returned (.bool true)/\Below W.heap.size W w' :=by
  obtain⟨a0,r0,c0⟩ :=XjQ 20 Tryd.underlying9 (λ_ h => by cases h) (sh :=.s) (by kernel_rfl) q0 h0
  obtain⟨x0,rfl,o0⟩ :=r0.str
  refine XkZ (s :=s3) (vs :=[v0]) (xs :=[.s x0]) (e3 _ o0) rfl rfl rfl (λj v a hv ha => ?_) Tryd.func3 (by decide) rfl (Xk4 htab)
  rcases j with _ | j
  · simp only[List.getElem?_cons_zero,List.getElem?_cons_succ,Option.some.injEq] at hv ha; subst hv ha; exact c0
  · simp at hv
end Go.Vm.A
namespace Go.Proofs.YtebnbhjcfanddaaDoor.fnExactWordsOf
open Go.ChangeShapes Go.WideShapes Go.ChangeAt Go.RowKit
def own:ownKnob Tryd.prog.godebug=none :=by kernel_rfl
def Xiu:laidOutB Tryd.prog=true :=by kernel_rfl
set_option maxRecDepth 100000 in
def Xgs(H:Type)(enc:TypeId×Value->H)(W:World)(base:Nat)(args:Array Value)(ds gs:List (DataW H))(before:List MemPlace)
    (hval:∀(j:Nat) t v,Tryd.f3.params[j]?=some t->args[j]?=some v->Value.okWide Tryd.prog W .any base t v)
    (hW:DataW.Whole enc Tryd.prog Tryd.f3.params.toList Rows.fnExactWordsOfSpec.vars false W args.toList ds gs before) (hS:W.ShapedOpen Tryd.prog) :
    Calls Tryd.prog 3 args W λe W' => ∃v,e=.returned v/\Rows.fnExactWordsOfSpec.post enc Tryd.prog Tryd.f3 false true false false W args v W' :=by
  have htab:∃m:Int,W.cell? ⟨1,0,none⟩=some (.int .i64 m) :=Go.Proofs.Tryd.laysM146.s1_3 W hS
  have hW' :=hW
  obtain⟨p,q,hA0,hV,rfl,hfz,hnd⟩ :=hW
  have hA:DataW.TrodAll enc Tryd.prog W 0 (λ_ => true) true Tryd.f3.params.toList args.toList ds p :=hA0
  rw[Tryd.params3] at hA hval
  obtain⟨v0,vs0,d0,ds0,p0,q0,hargs,rfl,rfl,h0,r0⟩ :=trodAll_cons hA
  obtain⟨rfl,rfl,rfl⟩ :=trodAll_nil r0
  obtain rfl:args=#[v0] :=by cases args; simp_all
  obtain⟨rfl,rfl⟩ :=trodVars_none hV
  clear hA0
  refine(Go.Vm.A.walk3 W base htab v0 (hval 0 9 v0 rfl rfl) h0).mono λe W' ⟨he,bel⟩ => ?_
  subst he
  exact⟨_,rfl,_,_,_,[],_,[],hW',trodAll_mk1 (shut_bool Tryd.underlying4 _),(trodAll_cons_mk (Below.trod Xiu (by kernel_rfl) (of_decide_eq_true (by kernel_rfl)) h0 bel (λx hx => by simpa using hW'.lt x (by simp[hx]))) trodAll_mk0),rfl,bel.frame _,λh => by cases h⟩
def lay(vs:Array Value):Obj->Obj
  | .cells _ t frozen => .cells vs t frozen
  | o => o
def Xm7:Array Value :=#[.int .u8 128,.int .u8 191,.int .u8 160,.int .u8 191,.int .u8 128,.int .u8 159,.int .u8 144,.int .u8 191,.int .u8 128,.int .u8 143,.int .u8 0,.int .u8 0,.int .u8 0,.int .u8 0,.int .u8 0,.int .u8 0,.int .u8 0,.int .u8 0,.int .u8 0,.int .u8 0,.int .u8 0,.int .u8 0,.int .u8 0,.int .u8 0,.int .u8 0,.int .u8 0,.int .u8 0,.int .u8 0,.int .u8 0,.int .u8 0,.int .u8 0,.int .u8 0]
def Xm8:Array Value :=#[.int .u8 240,.int .u8 240,.int .u8 240,.int .u8 240,.int .u8 240,.int .u8 240,.int .u8 240,.int .u8 240,.int .u8 240,.int .u8 240,.int .u8 240,.int .u8 240,.int .u8 240,.int .u8 240,.int .u8 240,.int .u8 240,.int .u8 240,.int .u8 240,.int .u8 240,.int .u8 240,.int .u8 240,.int .u8 240,.int .u8 240,.int .u8 240,.int .u8 240,.int .u8 240,.int .u8 240,.int .u8 240,.int .u8 240,.int .u8 240,.int .u8 240,.int .u8 240,.int .u8 240,.int .u8 240,.int .u8 240,.int .u8 240,.int .u8 240,.int .u8 240,.int .u8 240,.int .u8 240,.int .u8 240,.int .u8 240,.int .u8 240,.int .u8 240,.int .u8 240,.int .u8 240,.int .u8 240,.int .u8 240,.int .u8 240,.int .u8 240,.int .u8 240,.int .u8 240,.int .u8 240,.int .u8 240,.int .u8 240,.int .u8 240,.int .u8 240,.int .u8 240,.int .u8 240,.int .u8 240,.int .u8 240,.int .u8 240,.int .u8 240,.int .u8 240,.int .u8 240,.int .u8 240,.int .u8 240,.int .u8 240,.int .u8 240,.int .u8 240,.int .u8 240,.int .u8 240,.int .u8 240,.int .u8 240,.int .u8 240,.int .u8 240,.int .u8 240,.int .u8 240,.int .u8 240,.int .u8 240,.int .u8 240,.int .u8 240,.int .u8 240,.int .u8 240,.int .u8 240,.int .u8 240,.int .u8 240,.int .u8 240,.int .u8 240,.int .u8 240,.int .u8 240,.int .u8 240,.int .u8 240,.int .u8 240,.int .u8 240,.int .u8 240,.int .u8 240,.int .u8 240,.int .u8 240,.int .u8 240,.int .u8 240,.int .u8 240,.int .u8 240,.int .u8 240,.int .u8 240,.int .u8 240,.int .u8 240,.int .u8 240,.int .u8 240,.int .u8 240,.int .u8 240,.int .u8 240,.int .u8 240,.int .u8 240,.int .u8 240,.int .u8 240,.int .u8 240,.int .u8 240,.int .u8 240,.int .u8 240,.int .u8 240,.int .u8 240,.int .u8 240,.int .u8 240,.int .u8 240,.int .u8 240,.int .u8 240,.int .u8 240,.int .u8 241,.int .u8 241,.int .u8 241,.int .u8 241,.int .u8 241,.int .u8 241,.int .u8 241,.int .u8 241,.int .u8 241,.int .u8 241,.int .u8 241,.int .u8 241,.int .u8 241,.int .u8 241,.int .u8 241,.int .u8 241,.int .u8 241,.int .u8 241,.int .u8 241,.int .u8 241,.int .u8 241,.int .u8 241,.int .u8 241,.int .u8 241,.int .u8 241,.int .u8 241,.int .u8 241,.int .u8 241,.int .u8 241,.int .u8 241,.int .u8 241,.int .u8 241,.int .u8 241,.int .u8 241,.int .u8 241,.int .u8 241,.int .u8 241,.int .u8 241,.int .u8 241,.int .u8 241,.int .u8 241,.int .u8 241,.int .u8 241,.int .u8 241,.int .u8 241,.int .u8 241,.int .u8 241,.int .u8 241,.int .u8 241,.int .u8 241,.int .u8 241,.int .u8 241,.int .u8 241,.int .u8 241,.int .u8 241,.int .u8 241,.int .u8 241,.int .u8 241,.int .u8 241,.int .u8 241,.int .u8 241,.int .u8 241,.int .u8 241,.int .u8 241,.int .u8 241,.int .u8 241,.int .u8 2,.int .u8 2,.int .u8 2,.int .u8 2,.int .u8 2,.int .u8 2,.int .u8 2,.int .u8 2,.int .u8 2,.int .u8 2,.int .u8 2,.int .u8 2,.int .u8 2,.int .u8 2,.int .u8 2,.int .u8 2,.int .u8 2,.int .u8 2,.int .u8 2,.int .u8 2,.int .u8 2,.int .u8 2,.int .u8 2,.int .u8 2,.int .u8 2,.int .u8 2,.int .u8 2,.int .u8 2,.int .u8 2,.int .u8 2,.int .u8 19,.int .u8 3,.int .u8 3,.int .u8 3,.int .u8 3,.int .u8 3,.int .u8 3,.int .u8 3,.int .u8 3,.int .u8 3,.int .u8 3,.int .u8 3,.int .u8 3,.int .u8 35,.int .u8 3,.int .u8 3,.int .u8 52,.int .u8 4,.int .u8 4,.int .u8 4,.int .u8 68,.int .u8 241,.int .u8 241,.int .u8 241,.int .u8 241,.int .u8 241,.int .u8 241,.int .u8 241,.int .u8 241,.int .u8 241,.int .u8 241,.int .u8 241]
noncomputable def UZ(os:Os):World :=
  {World.holding Tryd.prog os ⟨#[],#[],[]⟩ with heap :=Array.modify (Array.modify ((World.holding Tryd.prog os ⟨#[],#[],[]⟩).heap) 3 (lay Xm7)) 2 (lay Xm8)}
def Xgt(os:Os):laidMet Tryd.prog Rows.fnExactWordsOfRow.laid ((UZ os).forCall (λ_ _ => 0) ⟨#[],#[.string ⟨#[]⟩],[]⟩).memory :=
  laidMet_of_run' 8 (by kernel_rfl) (by kernel_rfl)
def Xlz(os:Os){H:Type}(enc:TypeId×Value->H):(DataW.whole enc Tryd.prog ((UZ os).forCall (λ_ _ => 0) ⟨#[],#[.string ⟨#[]⟩],[]⟩).memory Tryd.f3.params.toList Rows.fnExactWordsOfSpec.vars false #[.string ⟨#[]⟩].toList 8).isSome=true :=by kernel_rfl
set_option maxRecDepth 100000 in
def lifted(os:Os)(started:os.Started)(H:Type)(enc:TypeId×Value->H)(F:Stop.Interp) :
    ReturnsInHanded {} Tryd.checked os 3 .any ((OpenSpec.ofChange Rows.fnExactWordsOfSpec).preRow enc Tryd.prog Tryd.f3 Rows.fnExactWordsOfRow.domain false Rows.fnExactWordsOfRow.laid) (((OpenSpec.ofChange Rows.fnExactWordsOfSpec).at F).post enc Tryd.prog Tryd.f3 false true false false) :=by
  obtain⟨x,hx⟩ :=Option.isSome_iff_exists.1 (Xlz os enc)
  refine returnsInHanded_of_row (C :=Tryd.checked) (s :=OpenSpec.ofChange Rows.fnExactWordsOfSpec) own started (by kernel_rfl) Tryd.func3
    (witness_row_at (enc :=enc) (C :=Tryd.checked) false (UZ os) #[.string ⟨#[]⟩] rfl (by kernel_rfl) (by kernel_rfl) (by kernel_rfl)
      (OpenSpec.preRow_of_cond 8 hx rfl (λk hk => by cases hk) (by kernel_rfl) (Xgt os))) ?_
  intro W base args ds gs before hval hW _ _ _ _ hS _
  exact Xgs H enc W base args ds gs before hval hW hS
def cj0:Rows.fnExactWordsOfRow.wf (OpenSpec.ofChange (OpenSpec.ofChange Rows.fnExactWordsOfSpec).bare)=true :=by kernel_rfl
def cj1:laidOutB Tryd.prog=true :=by kernel_rfl
def cj2:mapsRowed Tryd.prog=true :=by kernel_rfl
def cj3:Tryd.f3.params.all (Tryd.prog.readableRec ·)=true :=by kernel_rfl
def cj4:namedTie Tryd.prog Rows.fnExactWordsOfRow.named (OpenSpec.ofChange Rows.fnExactWordsOfSpec).bare.vars=true :=by kernel_rfl
def cj5:(Rows.fnExactWordsOfRow.stops==[])=true :=by kernel_rfl
def cj6:(Tryd.prog.stops==[])=true :=by kernel_rfl
def cj7:(Rows.fnExactWordsOfRow.knobs==[])=true :=by kernel_rfl
def cj8:(Tryd.prog.stopKnobs==[])=true :=by kernel_rfl
def cj9:(Rows.fnExactWordsOfRow.inPlace==Tryd.prog.inPlace 3)=true :=by kernel_rfl
def Xm9:(Rows.fnExactWordsOfRow.unfollowed==Tryd.prog.unfollowed 3)=true :=by kernel_rfl
def Xna:(Rows.fnExactWordsOfRow.recurses==Tryd.prog.recurses 3)=true :=by kernel_rfl
def Xnb:(Rows.fnExactWordsOfRow.named==Tryd.prog.varsNamed 3)=true :=by kernel_rfl
def Xnc:(Rows.fnExactWordsOfRow.maps==(Tryd.f3.params.toList++(OpenSpec.ofChange Rows.fnExactWordsOfSpec).bare.plain.varTypes Tryd.prog).any (Tryd.prog.mapsRec ·))=true :=by kernel_rfl
def Xnd:(Rows.fnExactWordsOfRow.ifaces==(Tryd.f3.params.toList++(OpenSpec.ofChange Rows.fnExactWordsOfSpec).bare.plain.varTypes Tryd.prog).any (Tryd.prog.ifacesRec ·))=true :=by kernel_rfl
def Xne:(Rows.fnExactWordsOfRow.mapsOut==Tryd.prog.mapsAmong Tryd.f3.resultTypes.toList)=true :=by kernel_rfl
def Xnf:(Rows.fnExactWordsOfRow.loops==(Tryd.f3.params.toList++(OpenSpec.ofChange Rows.fnExactWordsOfSpec).bare.plain.varTypes Tryd.prog).any (Tryd.prog.loopsFrom ·))=true :=by kernel_rfl
def Xng:(Rows.fnExactWordsOfRow.wideKeys==(Tryd.f3.params.toList++(OpenSpec.ofChange Rows.fnExactWordsOfSpec).bare.plain.varTypes Tryd.prog++Tryd.f3.resultTypes.toList).any (Tryd.prog.wideKeysFrom ·))=true :=by kernel_rfl
def Xnh:(OpenSpec.ofChange Rows.fnExactWordsOfSpec).bare.vars.all (Tryd.prog.varReadable ·)=true :=by kernel_rfl
def Xni:Tryd.f3.resultTypes.all (λt => Tryd.prog.readableRec t&&decide (t<Tryd.prog.types.size))=true :=by kernel_rfl
def Xnj:(Rows.fnExactWordsOfRow.ifacesOut==Tryd.f3.resultTypes.toList.any (Tryd.prog.ifacesRec ·))=true :=by kernel_rfl
def Xnk:(Rows.fnExactWordsOfRow.loopsOut==Tryd.f3.resultTypes.toList.any (Tryd.prog.loopsFrom ·))=true :=by kernel_rfl
def Xnl:(Rows.fnExactWordsOfRow.plainKeys==Tryd.prog.plainKeys)=true :=by kernel_rfl
def Xnm:Rows.fnExactWordsOfRow.shortTexts.isNone=true :=by kernel_rfl
def Xnn:Tryd.prog.stopsHeard=true :=by kernel_rfl
def Xno:Tryd.prog.mayEnter=true :=by kernel_rfl
def Xnp:(Rows.fnExactWordsOfRow.lifted==Tryd.prog.liftsFinal)=true :=by kernel_rfl
def Xnq:(Tryd.prog.make==some Rows.fnExactWordsOfRow.make)=true :=by kernel_rfl
def Xnr:(Rows.fnExactWordsOfRow.kinds==(if Rows.fnExactWordsOfRow.domain.isEmpty then[] else Tryd.f3.params.toList.map λt => match Tryd.prog.underlying t with | some (.int k) => some k | _ => none))=true :=by kernel_rfl
def Xns:(Rows.fnExactWordsOfRow.pinned==Rows.fnExactWordsOfRow.pinnedBy)=true :=by kernel_rfl
def Xnt:(Rows.fnExactWordsOfRow.veiled==(Tryd.f3.params.toList++(OpenSpec.ofChange Rows.fnExactWordsOfSpec).bare.plain.varTypes Tryd.prog++Tryd.f3.resultTypes.toList).any (Tryd.prog.veiledRec ·))=true :=by kernel_rfl
def Xnu:Rows.fnExactWordsOfRow.veiledFits Tryd.prog Tryd.f3.params.toList (Tryd.f3.params.toList++(OpenSpec.ofChange Rows.fnExactWordsOfSpec).bare.plain.varTypes Tryd.prog++Tryd.f3.resultTypes.toList)=true :=by kernel_rfl
def QF{a b:Bool}(h1:a=true)(h2:b=true):(a&&b)=true :=by rw[h1,h2]; rfl
def Xkm:joinedFacts Tryd.pinned.checked.prog 3 Tryd.f3 (OpenSpec.ofChange Rows.fnExactWordsOfSpec).bare Rows.fnExactWordsOfRow=true :=(QF (QF (QF (QF (QF (QF (QF (QF (QF (QF (QF (QF (QF (QF (QF (QF (QF (QF (QF (QF (QF (QF (QF (QF (QF (QF (QF (QF (QF (QF (QF cj0 cj1) cj2) cj3) cj4) cj5) cj6) cj7) cj8) cj9) Xm9) Xna) Xnb) Xnc) Xnd) Xne) Xnf) Xng) Xnh) Xni) Xnj) Xnk) Xnl) Xnm) Xnn) Xno) Xnp) Xnq) Xnr) Xns) Xnt) Xnu)
def said:Rows.FnExactWordsOfSaid :=
  OpenClaim.holds_of_cond 3 Tryd.f3 rfl rfl rfl rfl rfl rfl rfl ⟨rfl,rfl,rfl,rfl,rfl⟩ rfl rfl rfl rfl rfl (by kernel_rfl) Tryd.func3 Xkm
    (of_decide_eq_true (by kernel_rfl)) (by unfold Func.isWrapper; first | (rw[if_pos (by decide +kernel)]; kernel_rfl) | (rw[if_neg (by decide +kernel)]; exact⟨rfl,rfl⟩))
    (λos started H enc _ F => by rw[OpenClaim.pre_eq_preRow]; exact lifted os started H enc F)
def plain (f : FuncId) (fn : Func) (hf : Tryd.pinned.checked.prog.funcNamed "loop.example/g00665/laws.FnExactWordsOf" = some f) (hfn : Tryd.pinned.checked.prog.funcs[f]? = some fn) :
    false=Tryd.pinned.checked.prog.looks []/\∀(j:Nat) t,fn.params[j]?=some t->Tryd.pinned.checked.prog.wantsStandIn t=false :=by
  obtain rfl : f = 3 := Option.some.inj ((show Tryd.prog.funcNamed "loop.example/g00665/laws.FnExactWordsOf" = some 3 by kernel_rfl).symm.trans hf) |>.symm
  obtain rfl:fn=Tryd.f3 :=(Option.some.inj (Tryd.func3.symm.trans hfn)).symm
  refine⟨by kernel_rfl,λj t ht => ?_⟩
  rw[Tryd.params3] at ht
  have hm :=Array.mem_of_getElem? ht
  simp only[List.mem_toArray,List.mem_cons,List.not_mem_nil,or_false,or_self] at hm
  subst hm
  · exact(show Tryd.prog.wantsStandIn 9=false by kernel_rfl)
end Go.Proofs.YtebnbhjcfanddaaDoor.fnExactWordsOf
namespace Go.Proofs.YtebnbhjcfanddaaDoor
theorem fnExactWordsOf_holds:Rows.FnExactWordsOfCardSaid :=
  Claim7.holds_tied_plain_at .later [] _ _ _ _ fnExactWordsOf.said (λ_ h => by cases h) (by kernel_rfl) (λ_ h => by cases h) fnExactWordsOf_row_tie rfl ⟨rfl,rfl⟩ (by kernel_rfl) rfl fnExactWordsOf.plain (by kernel_rfl)
#print axioms fnExactWordsOf_holds
end Go.Proofs.YtebnbhjcfanddaaDoor
