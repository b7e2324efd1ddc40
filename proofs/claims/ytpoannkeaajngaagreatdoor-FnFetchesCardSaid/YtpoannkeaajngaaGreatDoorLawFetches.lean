/- The law FnFetches answers true at every argument, and leaves all as it was. -/
import Derived.Test.YtpoannkeaajngaaGreatDoorFl
import Derived.Test.YtpoannkeaajngaaGreatDoorWa
import Derived.Test.YtpoannkeaajngaaGreatDoorRows
import Derived.Test.YtpoannkeaajngaaGreatDoorCards
import Derived.Test.YtpoannkeaajngaaGreatDoorTie
import Derived.Deep.DeepHandedRow
import Derived.Lib.LaidTab
import Derived.WalkKit
import Derived.ProofKit
import Derived.OpenShut
import Derived.ShutString
import Derived.ChangeOld
import Derived.Below
import Derived.Carry
import Derived.SizedLaws
set_option linter.unusedVariables false
set_option linter.unusedSimpArgs false
set_option autoImplicit false
set_option maxRecDepth 100000
set_option maxHeartbeats 4000000
set_option linter.defProp false
namespace Go.Vm.A
open Go.Proofs
open Go.RowKit Go.ChangeShapes Go.WideShapes
def walk3{H:Type}{enc:TypeId×Value->H}(W:World)(base:Nat)(v0:Value){d0:DataW H}{p0:List MemPlace}(q0:Value.okWide Tryz.prog W .any base 22 v0)(h0:DataW.Trod enc Tryz.prog W 0 (λ_ => true) true 22 v0 d0 p0):Calls Tryz.prog 3 #[v0] W λe w' => e=.returned (.bool true)/\Below W.heap.size W w' :=by
  obtain⟨a0,r0,c0⟩ :=XnH 20 Tryz.underlying22 (λ_ h => by cases h) (sh :=.sl [.i .u8]) (by kernel_rfl) q0 h0
  obtain⟨x0,rfl,o0⟩ :=r0.list (f :=Xn) (ok :=XlQ) Xld
  refine Xps (s :=s3) (vs :=[v0]) (xs :=[.sl .ro 1 (x0.map Xn)]) (e3 _ o0) rfl rfl rfl (λj v a hv ha => ?_) Tryz.func3 (by decide) rfl trivial
  rcases j with _ | j
  · simp only[List.getElem?_cons_zero,List.getElem?_cons_succ,Option.some.injEq] at hv ha; subst hv ha; exact c0
  · simp at hv
end Go.Vm.A
namespace Go.Proofs.YtpoannkeaajngaaGreatDoor.fnFetches
open Go.ChangeShapes Go.WideShapes Go.ChangeAt Go.RowKit
def own:ownKnob Tryz.prog.godebug=none :=by kernel_rfl
def Xmg:laidOutB Tryz.prog=true :=by kernel_rfl
set_option maxRecDepth 100000 in
def XjL(H:Type)(enc:TypeId×Value->H)(W:World)(base:Nat)(args:Array Value)(ds gs:List (DataW H))(before:List MemPlace)
    (hval:∀(j:Nat) t v,Tryz.f3.params[j]?=some t->args[j]?=some v->Value.okWide Tryz.prog W .any base t v)
    (hW:DataW.Whole enc Tryz.prog Tryz.f3.params.toList Rows.fnFetchesSpec.vars false W args.toList ds gs before) :
    Calls Tryz.prog 3 args W λe W' => ∃v,e=.returned v/\Rows.fnFetchesSpec.post enc Tryz.prog Tryz.f3 false true false false W args v W' :=by
  have hW' :=hW
  obtain⟨p,q,hA0,hV,rfl,hfz,hnd⟩ :=hW
  have hA:DataW.TrodAll enc Tryz.prog W 0 (λ_ => true) true Tryz.f3.params.toList args.toList ds p :=hA0
  rw[Tryz.params3] at hA hval
  obtain⟨v0,vs0,d0,ds0,p0,q0,hargs,rfl,rfl,h0,r0⟩ :=trodAll_cons hA
  obtain⟨rfl,rfl,rfl⟩ :=trodAll_nil r0
  obtain rfl:args=#[v0] :=by cases args; simp_all
  obtain⟨rfl,rfl⟩ :=trodVars_none hV
  clear hA0
  refine(Go.Vm.A.walk3 W base v0 (hval 0 22 v0 rfl rfl) h0).mono λe W' ⟨he,bel⟩ => ?_
  subst he
  exact⟨_,rfl,_,_,_,[],_,[],hW',trodAll_mk1 (shut_bool Tryz.underlying4 _),(trodAll_cons_mk (Below.trod Xmg (by kernel_rfl) (of_decide_eq_true (by kernel_rfl)) h0 bel (λx hx => by simpa using hW'.lt x (by simp[hx]))) trodAll_mk0),rfl,bel.frame _,λh => by cases h⟩
def lay(vs:Array Value):Obj->Obj
  | .cells _ t frozen => .cells vs t frozen
  | o => o
def XrY:Array Value :=#[.int .u8 128,.int .u8 191,.int .u8 160,.int .u8 191,.int .u8 128,.int .u8 159,.int .u8 144,.int .u8 191,.int .u8 128,.int .u8 143,.int .u8 0,.int .u8 0,.int .u8 0,.int .u8 0,.int .u8 0,.int .u8 0,.int .u8 0,.int .u8 0,.int .u8 0,.int .u8 0,.int .u8 0,.int .u8 0,.int .u8 0,.int .u8 0,.int .u8 0,.int .u8 0,.int .u8 0,.int .u8 0,.int .u8 0,.int .u8 0,.int .u8 0,.int .u8 0]
def XrZ:Array Value :=#[.int .u8 240,.int .u8 240,.int .u8 240,.int .u8 240,.int .u8 240,.int .u8 240,.int .u8 240,.int .u8 240,.int .u8 240,.int .u8 240,.int .u8 240,.int .u8 240,.int .u8 240,.int .u8 240,.int .u8 240,.int .u8 240,.int .u8 240,.int .u8 240,.int .u8 240,.int .u8 240,.int .u8 240,.int .u8 240,.int .u8 240,.int .u8 240,.int .u8 240,.int .u8 240,.int .u8 240,.int .u8 240,.int .u8 240,.int .u8 240,.int .u8 240,.int .u8 240,.int .u8 240,.int .u8 240,.int .u8 240,.int .u8 240,.int .u8 240,.int .u8 240,.int .u8 240,.int .u8 240,.int .u8 240,.int .u8 240,.int .u8 240,.int .u8 240,.int .u8 240,.int .u8 240,.int .u8 240,.int .u8 240,.int .u8 240,.int .u8 240,.int .u8 240,.int .u8 240,.int .u8 240,.int .u8 240,.int .u8 240,.int .u8 240,.int .u8 240,.int .u8 240,.int .u8 240,.int .u8 240,.int .u8 240,.int .u8 240,.int .u8 240,.int .u8 240,.int .u8 240,.int .u8 240,.int .u8 240,.int .u8 240,.int .u8 240,.int .u8 240,.int .u8 240,.int .u8 240,.int .u8 240,.int .u8 240,.int .u8 240,.int .u8 240,.int .u8 240,.int .u8 240,.int .u8 240,.int .u8 240,.int .u8 240,.int .u8 240,.int .u8 240,.int .u8 240,.int .u8 240,.int .u8 240,.int .u8 240,.int .u8 240,.int .u8 240,.int .u8 240,.int .u8 240,.int .u8 240,.int .u8 240,.int .u8 240,.int .u8 240,.int .u8 240,.int .u8 240,.int .u8 240,.int .u8 240,.int .u8 240,.int .u8 240,.int .u8 240,.int .u8 240,.int .u8 240,.int .u8 240,.int .u8 240,.int .u8 240,.int .u8 240,.int .u8 240,.int .u8 240,.int .u8 240,.int .u8 240,.int .u8 240,.int .u8 240,.int .u8 240,.int .u8 240,.int .u8 240,.int .u8 240,.int .u8 240,.int .u8 240,.int .u8 240,.int .u8 240,.int .u8 240,.int .u8 240,.int .u8 240,.int .u8 240,.int .u8 240,.int .u8 240,.int .u8 241,.int .u8 241,.int .u8 241,.int .u8 241,.int .u8 241,.int .u8 241,.int .u8 241,.int .u8 241,.int .u8 241,.int .u8 241,.int .u8 241,.int .u8 241,.int .u8 241,.int .u8 241,.int .u8 241,.int .u8 241,.int .u8 241,.int .u8 241,.int .u8 241,.int .u8 241,.int .u8 241,.int .u8 241,.int .u8 241,.int .u8 241,.int .u8 241,.int .u8 241,.int .u8 241,.int .u8 241,.int .u8 241,.int .u8 241,.int .u8 241,.int .u8 241,.int .u8 241,.int .u8 241,.int .u8 241,.int .u8 241,.int .u8 241,.int .u8 241,.int .u8 241,.int .u8 241,.int .u8 241,.int .u8 241,.int .u8 241,.int .u8 241,.int .u8 241,.int .u8 241,.int .u8 241,.int .u8 241,.int .u8 241,.int .u8 241,.int .u8 241,.int .u8 241,.int .u8 241,.int .u8 241,.int .u8 241,.int .u8 241,.int .u8 241,.int .u8 241,.int .u8 241,.int .u8 241,.int .u8 241,.int .u8 241,.int .u8 241,.int .u8 241,.int .u8 241,.int .u8 241,.int .u8 2,.int .u8 2,.int .u8 2,.int .u8 2,.int .u8 2,.int .u8 2,.int .u8 2,.int .u8 2,.int .u8 2,.int .u8 2,.int .u8 2,.int .u8 2,.int .u8 2,.int .u8 2,.int .u8 2,.int .u8 2,.int .u8 2,.int .u8 2,.int .u8 2,.int .u8 2,.int .u8 2,.int .u8 2,.int .u8 2,.int .u8 2,.int .u8 2,.int .u8 2,.int .u8 2,.int .u8 2,.int .u8 2,.int .u8 2,.int .u8 19,.int .u8 3,.int .u8 3,.int .u8 3,.int .u8 3,.int .u8 3,.int .u8 3,.int .u8 3,.int .u8 3,.int .u8 3,.int .u8 3,.int .u8 3,.int .u8 3,.int .u8 35,.int .u8 3,.int .u8 3,.int .u8 52,.int .u8 4,.int .u8 4,.int .u8 4,.int .u8 68,.int .u8 241,.int .u8 241,.int .u8 241,.int .u8 241,.int .u8 241,.int .u8 241,.int .u8 241,.int .u8 241,.int .u8 241,.int .u8 241,.int .u8 241]
noncomputable def XbI(os:Os):World :=
  {World.holding Tryz.prog os ⟨#[],#[],[]⟩ with heap :=Array.modify (Array.modify ((World.holding Tryz.prog os ⟨#[],#[],[]⟩).heap) 2 (lay XrY)) 1 (lay XrZ)}
def XjM(os:Os):laidMet Tryz.prog Rows.fnFetchesRow.laid ((XbI os).forCall (λ_ _ => 0) ⟨#[],#[.slice none 0 0],[]⟩).memory :=
  laidMet_of_run' 8 (by kernel_rfl) (by kernel_rfl)
def Xqb(os:Os){H:Type}(enc:TypeId×Value->H):(DataW.whole enc Tryz.prog ((XbI os).forCall (λ_ _ => 0) ⟨#[],#[.slice none 0 0],[]⟩).memory Tryz.f3.params.toList Rows.fnFetchesSpec.vars false #[.slice none 0 0].toList 8).isSome=true :=by kernel_rfl
set_option maxRecDepth 100000 in
def lifted(os:Os)(started:os.Started)(H:Type)(enc:TypeId×Value->H)(F:Stop.Interp) :
    ReturnsInHanded {} Tryz.checked os 3 .any ((OpenSpec.ofChange Rows.fnFetchesSpec).preRow enc Tryz.prog Tryz.f3 Rows.fnFetchesRow.domain false Rows.fnFetchesRow.laid) (((OpenSpec.ofChange Rows.fnFetchesSpec).at F).post enc Tryz.prog Tryz.f3 false true false false) :=by
  obtain⟨x,hx⟩ :=Option.isSome_iff_exists.1 (Xqb os enc)
  refine returnsInHanded_of_row (C :=Tryz.checked) (s :=OpenSpec.ofChange Rows.fnFetchesSpec) own started (by kernel_rfl) Tryz.func3
    (witness_row_at (enc :=enc) (C :=Tryz.checked) false (XbI os) #[.slice none 0 0] rfl (by kernel_rfl) (by kernel_rfl) (by kernel_rfl)
      (OpenSpec.preRow_of_cond 8 hx rfl (λk hk => by cases hk) (by kernel_rfl) (XjM os))) ?_
  intro W base args ds gs before hval hW _ _ _ _ _ _
  exact XjL H enc W base args ds gs before hval hW
def cj0:Rows.fnFetchesRow.wf (OpenSpec.ofChange (OpenSpec.ofChange Rows.fnFetchesSpec).bare)=true :=by kernel_rfl
def cj1:laidOutB Tryz.prog=true :=by kernel_rfl
def cj2:mapsRowed Tryz.prog=true :=by kernel_rfl
def cj3:Tryz.f3.params.all (Tryz.prog.readableRec ·)=true :=by kernel_rfl
def cj4:namedTie Tryz.prog Rows.fnFetchesRow.named (OpenSpec.ofChange Rows.fnFetchesSpec).bare.vars=true :=by kernel_rfl
def cj5:(Rows.fnFetchesRow.stops==[])=true :=by kernel_rfl
def cj6:(Tryz.prog.stops==[])=true :=by kernel_rfl
def cj7:(Rows.fnFetchesRow.knobs==[])=true :=by kernel_rfl
def cj8:(Tryz.prog.stopKnobs==[])=true :=by kernel_rfl
def cj9:(Rows.fnFetchesRow.inPlace==Tryz.prog.inPlace 3)=true :=by kernel_rfl
def Xr0:(Rows.fnFetchesRow.unfollowed==Tryz.prog.unfollowed 3)=true :=by kernel_rfl
def Xr1:(Rows.fnFetchesRow.recurses==Tryz.prog.recurses 3)=true :=by kernel_rfl
def Xr2:(Rows.fnFetchesRow.named==Tryz.prog.varsNamed 3)=true :=by kernel_rfl
def Xr3:(Rows.fnFetchesRow.maps==(Tryz.f3.params.toList++(OpenSpec.ofChange Rows.fnFetchesSpec).bare.plain.varTypes Tryz.prog).any (Tryz.prog.mapsRec ·))=true :=by kernel_rfl
def Xr4:(Rows.fnFetchesRow.ifaces==(Tryz.f3.params.toList++(OpenSpec.ofChange Rows.fnFetchesSpec).bare.plain.varTypes Tryz.prog).any (Tryz.prog.ifacesRec ·))=true :=by kernel_rfl
def Xr5:(Rows.fnFetchesRow.mapsOut==Tryz.prog.mapsAmong Tryz.f3.resultTypes.toList)=true :=by kernel_rfl
def Xr6:(Rows.fnFetchesRow.loops==(Tryz.f3.params.toList++(OpenSpec.ofChange Rows.fnFetchesSpec).bare.plain.varTypes Tryz.prog).any (Tryz.prog.loopsFrom ·))=true :=by kernel_rfl
def Xr7:(Rows.fnFetchesRow.wideKeys==(Tryz.f3.params.toList++(OpenSpec.ofChange Rows.fnFetchesSpec).bare.plain.varTypes Tryz.prog++Tryz.f3.resultTypes.toList).any (Tryz.prog.wideKeysFrom ·))=true :=by kernel_rfl
def Xr8:(OpenSpec.ofChange Rows.fnFetchesSpec).bare.vars.all (Tryz.prog.varReadable ·)=true :=by kernel_rfl
def Xr9:Tryz.f3.resultTypes.all (λt => Tryz.prog.readableRec t&&decide (t<Tryz.prog.types.size))=true :=by kernel_rfl
def Xsa:(Rows.fnFetchesRow.ifacesOut==Tryz.f3.resultTypes.toList.any (Tryz.prog.ifacesRec ·))=true :=by kernel_rfl
def Xsb:(Rows.fnFetchesRow.loopsOut==Tryz.f3.resultTypes.toList.any (Tryz.prog.loopsFrom ·))=true :=by kernel_rfl
def Xsc:(Rows.fnFetchesRow.plainKeys==Tryz.prog.plainKeys)=true :=by kernel_rfl
def Xsd:Rows.fnFetchesRow.shortTexts.isNone=true :=by kernel_rfl
def Xse:Tryz.prog.stopsHeard=true :=by kernel_rfl
def Xsf:Tryz.prog.mayEnter=true :=by kernel_rfl
def Xsg:(Rows.fnFetchesRow.lifted==Tryz.prog.liftsFinal)=true :=by kernel_rfl
def Xsh:(Tryz.prog.make==some Rows.fnFetchesRow.make)=true :=by kernel_rfl
def Xsi:(Rows.fnFetchesRow.kinds==(if Rows.fnFetchesRow.domain.isEmpty then[] else Tryz.f3.params.toList.map λt => match Tryz.prog.underlying t with | some (.int k) => some k | _ => none))=true :=by kernel_rfl
def Xsj:(Rows.fnFetchesRow.pinned==Rows.fnFetchesRow.pinnedBy)=true :=by kernel_rfl
def Xsk:(Rows.fnFetchesRow.veiled==(Tryz.f3.params.toList++(OpenSpec.ofChange Rows.fnFetchesSpec).bare.plain.varTypes Tryz.prog++Tryz.f3.resultTypes.toList).any (Tryz.prog.veiledRec ·))=true :=by kernel_rfl
def Xsl:Rows.fnFetchesRow.veiledFits Tryz.prog Tryz.f3.params.toList (Tryz.f3.params.toList++(OpenSpec.ofChange Rows.fnFetchesSpec).bare.plain.varTypes Tryz.prog++Tryz.f3.resultTypes.toList)=true :=by kernel_rfl
def Xaa{a b:Bool}(h1:a=true)(h2:b=true):(a&&b)=true :=by rw[h1,h2]; rfl
def XoK:joinedFacts Tryz.pinned.checked.prog 3 Tryz.f3 (OpenSpec.ofChange Rows.fnFetchesSpec).bare Rows.fnFetchesRow=true :=(Xaa (Xaa (Xaa (Xaa (Xaa (Xaa (Xaa (Xaa (Xaa (Xaa (Xaa (Xaa (Xaa (Xaa (Xaa (Xaa (Xaa (Xaa (Xaa (Xaa (Xaa (Xaa (Xaa (Xaa (Xaa (Xaa (Xaa (Xaa (Xaa (Xaa (Xaa cj0 cj1) cj2) cj3) cj4) cj5) cj6) cj7) cj8) cj9) Xr0) Xr1) Xr2) Xr3) Xr4) Xr5) Xr6) Xr7) Xr8) Xr9) Xsa) Xsb) Xsc) Xsd) Xse) Xsf) Xsg) Xsh) Xsi) Xsj) Xsk) Xsl)
def said:Rows.FnFetchesSaid :=
  OpenClaim.holds_of_cond 3 Tryz.f3 rfl rfl rfl rfl rfl rfl rfl ⟨rfl,rfl,rfl,rfl,rfl⟩ rfl rfl rfl rfl rfl (by kernel_rfl) Tryz.func3 XoK
    (of_decide_eq_true (by kernel_rfl)) (by unfold Func.isWrapper; first | (rw[if_pos (by decide +kernel)]; kernel_rfl) | (rw[if_neg (by decide +kernel)]; exact⟨rfl,rfl⟩))
    (λos started H enc _ F => by rw[OpenClaim.pre_eq_preRow]; exact lifted os started H enc F)
def plain (f : FuncId) (fn : Func) (hf : Tryz.pinned.checked.prog.funcNamed "loop.example/g00665/laws.FnFetches" = some f) (hfn : Tryz.pinned.checked.prog.funcs[f]? = some fn) :
    false=Tryz.pinned.checked.prog.looks []/\∀(j:Nat) t,fn.params[j]?=some t->Tryz.pinned.checked.prog.wantsStandIn t=false :=by
  obtain rfl : f = 3 := Option.some.inj ((show Tryz.prog.funcNamed "loop.example/g00665/laws.FnFetches" = some 3 by kernel_rfl).symm.trans hf) |>.symm
  obtain rfl:fn=Tryz.f3 :=(Option.some.inj (Tryz.func3.symm.trans hfn)).symm
  refine⟨by kernel_rfl,λj t ht => ?_⟩
  rw[Tryz.params3] at ht
  have hm :=Array.mem_of_getElem? ht
  simp only[List.mem_toArray,List.mem_cons,List.not_mem_nil,or_false,or_self] at hm
  subst hm
  · exact(show Tryz.prog.wantsStandIn 22=false by kernel_rfl)
end Go.Proofs.YtpoannkeaajngaaGreatDoor.fnFetches
namespace Go.Proofs.YtpoannkeaajngaaGreatDoor
theorem fnFetches_holds:Rows.FnFetchesCardSaid :=
  Claim7.holds_tied_plain_at .later [] _ _ _ _ fnFetches.said (λ_ h => by cases h) (by kernel_rfl) (λ_ h => by cases h) fnFetches_row_tie rfl ⟨rfl,rfl⟩ (by kernel_rfl) rfl fnFetches.plain (by kernel_rfl)
#print axioms fnFetches_holds
end Go.Proofs.YtpoannkeaajngaaGreatDoor
