/- The law FnExactRelayOf answers true at every argument, and leaves all as it was. -/
import Derived.Test.YtebnbhjcfanddaaDoorFd
import Derived.Test.YtebnbhjcfanddaaDoorWa
import Derived.Test.YtebnbhjcfanddaaDoorRows
import Derived.Test.YtebnbhjcfanddaaDoorCards
import Derived.Test.YtebnbhjcfanddaaDoorTie
import Derived.Deep.DeepHandedRow
import Derived.Lib.LaidTab
import Derived.WalkKit
import Derived.ProofKit
import Derived.OpenShut
import Derived.ShutString
import Derived.ChangeOld
import Derived.Below
import Derived.Carry
import Derived.SizedLaws
set_option linter.unusedVariables false
set_option linter.unusedSimpArgs false
set_option autoImplicit false
set_option maxRecDepth 100000
set_option maxHeartbeats 4000000
set_option linter.defProp false
namespace Go.Vm.A
open Go.Proofs
open Go.RowKit Go.ChangeShapes Go.WideShapes
def walk5{H:Type}{enc:TypeId×Value->H}(W:World)(base:Nat)(v0 v1:Value){d0:DataW H}{p0:List MemPlace}{d1:DataW H}{p1:List MemPlace}(q0:Value.okWide Tryd.prog W .any base 32 v0)(h0:DataW.Trod enc Tryd.prog W 0 (λ_ => true) true 32 v0 d0 p0)(q1:Value.okWide Tryd.prog W .any base 4 v1)(h1:DataW.Trod enc Tryd.prog W 0 (λ_ => true) true 4 v1 d1 p1):Calls Tryd.prog 5 #[v0,v1] W λe w' => e=.returned (.bool true)/\Below W.heap.size W w' :=by
  obtain⟨a0,r0,c0⟩ :=Xlr 20 Tryd.underlying32 (shs :=[.i .i64,.sl [.s,.s],.sl [.i .u8]]) (by kernel_rfl) q0 h0
  obtain⟨x0,rfl,o0⟩ :=Xf2 _ r0
  obtain⟨a1,r1,c1⟩ :=Xlq 20 Tryd.underlying4 (λ_ h => by cases h) (sh :=.b) (by kernel_rfl) q1 h1
  obtain⟨x1,rfl,o1⟩ :=r1.bool
  refine XmO (s :=s5) (vs :=[v0,v1]) (xs :=[.agg (YQ .ro x0),.b x1]) (e5 _ _ _ _ ⟨o0,o1⟩) rfl rfl rfl (λj v a hv ha => ?_) Tryd.func5 (by decide) rfl trivial
  rcases j with _ | j
  · simp only[List.getElem?_cons_zero,List.getElem?_cons_succ,Option.some.injEq] at hv ha; subst hv ha; exact c0
  rcases j with _ | j
  · simp only[List.getElem?_cons_zero,List.getElem?_cons_succ,Option.some.injEq] at hv ha; subst hv ha; exact c1
  · simp at hv
end Go.Vm.A
namespace Go.Proofs.YtebnbhjcfanddaaDoor.fnExactRelayOf
open Go.ChangeShapes Go.WideShapes Go.ChangeAt Go.RowKit
def own:ownKnob Tryd.prog.godebug=none :=by kernel_rfl
def Xgg:laidOutB Tryd.prog=true :=by kernel_rfl
set_option maxRecDepth 100000 in
def XhU(H:Type)(enc:TypeId×Value->H)(W:World)(base:Nat)(args:Array Value)(ds gs:List (DataW H))(before:List MemPlace)
    (hval:∀(j:Nat) t v,Tryd.f5.params[j]?=some t->args[j]?=some v->Value.okWide Tryd.prog W .any base t v)
    (hW:DataW.Whole enc Tryd.prog Tryd.f5.params.toList Rows.fnExactRelayOfSpec.vars false W args.toList ds gs before) :
    Calls Tryd.prog 5 args W λe W' => ∃v,e=.returned v/\Rows.fnExactRelayOfSpec.post enc Tryd.prog Tryd.f5 false true false false W args v W' :=by
  have hW' :=hW
  obtain⟨p,q,hA0,hV,rfl,hfz,hnd⟩ :=hW
  have hA:DataW.TrodAll enc Tryd.prog W 0 (λ_ => true) true Tryd.f5.params.toList args.toList ds p :=hA0
  rw[Tryd.params5] at hA hval
  obtain⟨v0,vs0,d0,ds0,p0,q0,hargs,rfl,rfl,h0,r0⟩ :=trodAll_cons hA
  obtain⟨v1,vs1,d1,ds1,p1,q1,rfl,rfl,rfl,h1,r1⟩ :=trodAll_cons r0
  obtain⟨rfl,rfl,rfl⟩ :=trodAll_nil r1
  obtain rfl:args=#[v0,v1] :=by cases args; simp_all
  obtain⟨rfl,rfl⟩ :=trodVars_none hV
  clear hA0
  refine(Go.Vm.A.walk5 W base v0 v1 (hval 0 32 v0 rfl rfl) h0 (hval 1 4 v1 rfl rfl) h1).mono λe W' ⟨he,bel⟩ => ?_
  subst he
  exact⟨_,rfl,_,_,_,[],_,[],hW',trodAll_mk1 (shut_bool Tryd.underlying4 _),(trodAll_cons_mk (Below.trod Xgg (by kernel_rfl) (of_decide_eq_true (by kernel_rfl)) h0 bel (λx hx => by simpa using hW'.lt x (by simp[hx]))) (trodAll_cons_mk (Below.trod Xgg (by kernel_rfl) (of_decide_eq_true (by kernel_rfl)) h1 bel (λx hx => by simpa using hW'.lt x (by simp[hx]))) trodAll_mk0)),rfl,bel.frame _,λh => by cases h⟩
def lay(vs:Array Value):Obj->Obj
  | .cells _ t frozen => .cells vs t frozen
  | o => o
def XhV:Array Value :=#[.int .u8 240,.int .u8 240,.int .u8 240,.int .u8 240,.int .u8 240,.int .u8 240,.int .u8 240,.int .u8 240,.int .u8 240,.int .u8 240,.int .u8 240,.int .u8 240,.int .u8 240,.int .u8 240,.int .u8 240,.int .u8 240,.int .u8 240,.int .u8 240,.int .u8 240,.int .u8 240,.int .u8 240,.int .u8 240,.int .u8 240,.int .u8 240,.int .u8 240,.int .u8 240,.int .u8 240,.int .u8 240,.int .u8 240,.int .u8 240,.int .u8 240,.int .u8 240,.int .u8 240,.int .u8 240,.int .u8 240,.int .u8 240,.int .u8 240,.int .u8 240,.int .u8 240,.int .u8 240,.int .u8 240,.int .u8 240,.int .u8 240,.int .u8 240,.int .u8 240,.int .u8 240,.int .u8 240,.int .u8 240,.int .u8 240,.int .u8 240,.int .u8 240,.int .u8 240,.int .u8 240,.int .u8 240,.int .u8 240,.int .u8 240,.int .u8 240,.int .u8 240,.int .u8 240,.int .u8 240,.int .u8 240,.int .u8 240,.int .u8 240,.int .u8 240,.int .u8 240,.int .u8 240,.int .u8 240,.int .u8 240,.int .u8 240,.int .u8 240,.int .u8 240,.int .u8 240,.int .u8 240,.int .u8 240,.int .u8 240,.int .u8 240,.int .u8 240,.int .u8 240,.int .u8 240,.int .u8 240,.int .u8 240,.int .u8 240,.int .u8 240,.int .u8 240,.int .u8 240,.int .u8 240,.int .u8 240,.int .u8 240,.int .u8 240,.int .u8 240,.int .u8 240,.int .u8 240,.int .u8 240,.int .u8 240,.int .u8 240,.int .u8 240,.int .u8 240,.int .u8 240,.int .u8 240,.int .u8 240,.int .u8 240,.int .u8 240,.int .u8 240,.int .u8 240,.int .u8 240,.int .u8 240,.int .u8 240,.int .u8 240,.int .u8 240,.int .u8 240,.int .u8 240,.int .u8 240,.int .u8 240,.int .u8 240,.int .u8 240,.int .u8 240,.int .u8 240,.int .u8 240,.int .u8 240,.int .u8 240,.int .u8 240,.int .u8 240,.int .u8 240,.int .u8 240,.int .u8 240,.int .u8 240,.int .u8 240,.int .u8 240,.int .u8 241,.int .u8 241,.int .u8 241,.int .u8 241,.int .u8 241,.int .u8 241,.int .u8 241,.int .u8 241,.int .u8 241,.int .u8 241,.int .u8 241,.int .u8 241,.int .u8 241,.int .u8 241,.int .u8 241,.int .u8 241,.int .u8 241,.int .u8 241,.int .u8 241,.int .u8 241,.int .u8 241,.int .u8 241,.int .u8 241,.int .u8 241,.int .u8 241,.int .u8 241,.int .u8 241,.int .u8 241,.int .u8 241,.int .u8 241,.int .u8 241,.int .u8 241,.int .u8 241,.int .u8 241,.int .u8 241,.int .u8 241,.int .u8 241,.int .u8 241,.int .u8 241,.int .u8 241,.int .u8 241,.int .u8 241,.int .u8 241,.int .u8 241,.int .u8 241,.int .u8 241,.int .u8 241,.int .u8 241,.int .u8 241,.int .u8 241,.int .u8 241,.int .u8 241,.int .u8 241,.int .u8 241,.int .u8 241,.int .u8 241,.int .u8 241,.int .u8 241,.int .u8 241,.int .u8 241,.int .u8 241,.int .u8 241,.int .u8 241,.int .u8 241,.int .u8 241,.int .u8 241,.int .u8 2,.int .u8 2,.int .u8 2,.int .u8 2,.int .u8 2,.int .u8 2,.int .u8 2,.int .u8 2,.int .u8 2,.int .u8 2,.int .u8 2,.int .u8 2,.int .u8 2,.int .u8 2,.int .u8 2,.int .u8 2,.int .u8 2,.int .u8 2,.int .u8 2,.int .u8 2,.int .u8 2,.int .u8 2,.int .u8 2,.int .u8 2,.int .u8 2,.int .u8 2,.int .u8 2,.int .u8 2,.int .u8 2,.int .u8 2,.int .u8 19,.int .u8 3,.int .u8 3,.int .u8 3,.int .u8 3,.int .u8 3,.int .u8 3,.int .u8 3,.int .u8 3,.int .u8 3,.int .u8 3,.int .u8 3,.int .u8 3,.int .u8 35,.int .u8 3,.int .u8 3,.int .u8 52,.int .u8 4,.int .u8 4,.int .u8 4,.int .u8 68,.int .u8 241,.int .u8 241,.int .u8 241,.int .u8 241,.int .u8 241,.int .u8 241,.int .u8 241,.int .u8 241,.int .u8 241,.int .u8 241,.int .u8 241]
def Xmb:Array Value :=#[.int .u8 128,.int .u8 191,.int .u8 160,.int .u8 191,.int .u8 128,.int .u8 159,.int .u8 144,.int .u8 191,.int .u8 128,.int .u8 143,.int .u8 0,.int .u8 0,.int .u8 0,.int .u8 0,.int .u8 0,.int .u8 0,.int .u8 0,.int .u8 0,.int .u8 0,.int .u8 0,.int .u8 0,.int .u8 0,.int .u8 0,.int .u8 0,.int .u8 0,.int .u8 0,.int .u8 0,.int .u8 0,.int .u8 0,.int .u8 0,.int .u8 0,.int .u8 0]
noncomputable def XaR(os:Os):World :=
  {World.holding Tryd.prog os ⟨#[],#[],[]⟩ with heap :=Array.modify (Array.modify (World.holding Tryd.prog os ⟨#[],#[],[]⟩).heap 2 (lay XhV)) 3 (lay Xmb)}
def XhW(os:Os):laidMet Tryd.prog Rows.fnExactRelayOfRow.laid ((XaR os).forCall (λ_ _ => 0) ⟨#[],#[.agg #[.int .i64 0,.slice none 0 0,.slice none 0 0],.bool false],[]⟩).memory :=
  laidMet_of_run' 8 (by kernel_rfl) (by kernel_rfl)
def Xny(os:Os){H:Type}(enc:TypeId×Value->H):(DataW.whole enc Tryd.prog ((XaR os).forCall (λ_ _ => 0) ⟨#[],#[.agg #[.int .i64 0,.slice none 0 0,.slice none 0 0],.bool false],[]⟩).memory Tryd.f5.params.toList Rows.fnExactRelayOfSpec.vars false #[.agg #[.int .i64 0,.slice none 0 0,.slice none 0 0],.bool false].toList 8).isSome=true :=by kernel_rfl
set_option maxRecDepth 100000 in
def lifted(os:Os)(started:os.Started)(H:Type)(enc:TypeId×Value->H)(F:Stop.Interp) :
    ReturnsInHanded {} Tryd.checked os 5 .any ((OpenSpec.ofChange Rows.fnExactRelayOfSpec).preRow enc Tryd.prog Tryd.f5 Rows.fnExactRelayOfRow.domain false Rows.fnExactRelayOfRow.laid) (((OpenSpec.ofChange Rows.fnExactRelayOfSpec).at F).post enc Tryd.prog Tryd.f5 false true false false) :=by
  obtain⟨x,hx⟩ :=Option.isSome_iff_exists.1 (Xny os enc)
  refine returnsInHanded_of_row (C :=Tryd.checked) (s :=OpenSpec.ofChange Rows.fnExactRelayOfSpec) own started (by kernel_rfl) Tryd.func5
    (witness_row_at (enc :=enc) (C :=Tryd.checked) false (XaR os) #[.agg #[.int .i64 0,.slice none 0 0,.slice none 0 0],.bool false] rfl (by kernel_rfl) (by kernel_rfl) (by kernel_rfl)
      (OpenSpec.preRow_of_cond 8 hx rfl (λk hk => by cases hk) (by kernel_rfl) (XhW os))) ?_
  intro W base args ds gs before hval hW _ _ _ _ _ _
  exact XhU H enc W base args ds gs before hval hW
def cj0:Rows.fnExactRelayOfRow.wf (OpenSpec.ofChange (OpenSpec.ofChange Rows.fnExactRelayOfSpec).bare)=true :=by kernel_rfl
def cj1:laidOutB Tryd.prog=true :=by kernel_rfl
def cj2:mapsRowed Tryd.prog=true :=by kernel_rfl
def cj3:Tryd.f5.params.all (Tryd.prog.readableRec ·)=true :=by kernel_rfl
def cj4:namedTie Tryd.prog Rows.fnExactRelayOfRow.named (OpenSpec.ofChange Rows.fnExactRelayOfSpec).bare.vars=true :=by kernel_rfl
def cj5:(Rows.fnExactRelayOfRow.stops==[])=true :=by kernel_rfl
def cj6:(Tryd.prog.stops==[])=true :=by kernel_rfl
def cj7:(Rows.fnExactRelayOfRow.knobs==[])=true :=by kernel_rfl
def cj8:(Tryd.prog.stopKnobs==[])=true :=by kernel_rfl
def cj9:(Rows.fnExactRelayOfRow.inPlace==Tryd.prog.inPlace 5)=true :=by kernel_rfl
def Xo1:(Rows.fnExactRelayOfRow.unfollowed==Tryd.prog.unfollowed 5)=true :=by kernel_rfl
def Xo2:(Rows.fnExactRelayOfRow.recurses==Tryd.prog.recurses 5)=true :=by kernel_rfl
def Xo3:(Rows.fnExactRelayOfRow.named==Tryd.prog.varsNamed 5)=true :=by kernel_rfl
def Xo4:(Rows.fnExactRelayOfRow.maps==(Tryd.f5.params.toList++(OpenSpec.ofChange Rows.fnExactRelayOfSpec).bare.plain.varTypes Tryd.prog).any (Tryd.prog.mapsRec ·))=true :=by kernel_rfl
def Xo5:(Rows.fnExactRelayOfRow.ifaces==(Tryd.f5.params.toList++(OpenSpec.ofChange Rows.fnExactRelayOfSpec).bare.plain.varTypes Tryd.prog).any (Tryd.prog.ifacesRec ·))=true :=by kernel_rfl
def Xo6:(Rows.fnExactRelayOfRow.mapsOut==Tryd.prog.mapsAmong Tryd.f5.resultTypes.toList)=true :=by kernel_rfl
def Xo7:(Rows.fnExactRelayOfRow.loops==(Tryd.f5.params.toList++(OpenSpec.ofChange Rows.fnExactRelayOfSpec).bare.plain.varTypes Tryd.prog).any (Tryd.prog.loopsFrom ·))=true :=by kernel_rfl
def Xo8:(Rows.fnExactRelayOfRow.wideKeys==(Tryd.f5.params.toList++(OpenSpec.ofChange Rows.fnExactRelayOfSpec).bare.plain.varTypes Tryd.prog++Tryd.f5.resultTypes.toList).any (Tryd.prog.wideKeysFrom ·))=true :=by kernel_rfl
def Xo9:(OpenSpec.ofChange Rows.fnExactRelayOfSpec).bare.vars.all (Tryd.prog.varReadable ·)=true :=by kernel_rfl
def Xpa:Tryd.f5.resultTypes.all (λt => Tryd.prog.readableRec t&&decide (t<Tryd.prog.types.size))=true :=by kernel_rfl
def Xpb:(Rows.fnExactRelayOfRow.ifacesOut==Tryd.f5.resultTypes.toList.any (Tryd.prog.ifacesRec ·))=true :=by kernel_rfl
def Xpc:(Rows.fnExactRelayOfRow.loopsOut==Tryd.f5.resultTypes.toList.any (Tryd.prog.loopsFrom ·))=true :=by kernel_rfl
def Xpd:(Rows.fnExactRelayOfRow.plainKeys==Tryd.prog.plainKeys)=true :=by kernel_rfl
def Xpe:Rows.fnExactRelayOfRow.shortTexts.isNone=true :=by kernel_rfl
def Xpf:Tryd.prog.stopsHeard=true :=by kernel_rfl
def Xpg:Tryd.prog.mayEnter=true :=by kernel_rfl
def Xph:(Rows.fnExactRelayOfRow.lifted==Tryd.prog.liftsFinal)=true :=by kernel_rfl
def Xpi:(Tryd.prog.make==some Rows.fnExactRelayOfRow.make)=true :=by kernel_rfl
def Xpj:(Rows.fnExactRelayOfRow.kinds==(if Rows.fnExactRelayOfRow.domain.isEmpty then[] else Tryd.f5.params.toList.map λt => match Tryd.prog.underlying t with | some (.int k) => some k | _ => none))=true :=by kernel_rfl
def Xpk:(Rows.fnExactRelayOfRow.pinned==Rows.fnExactRelayOfRow.pinnedBy)=true :=by kernel_rfl
def Xpl:(Rows.fnExactRelayOfRow.veiled==(Tryd.f5.params.toList++(OpenSpec.ofChange Rows.fnExactRelayOfSpec).bare.plain.varTypes Tryd.prog++Tryd.f5.resultTypes.toList).any (Tryd.prog.veiledRec ·))=true :=by kernel_rfl
def Xpm:Rows.fnExactRelayOfRow.veiledFits Tryd.prog Tryd.f5.params.toList (Tryd.f5.params.toList++(OpenSpec.ofChange Rows.fnExactRelayOfSpec).bare.plain.varTypes Tryd.prog++Tryd.f5.resultTypes.toList)=true :=by kernel_rfl
def Ur{a b:Bool}(h1:a=true)(h2:b=true):(a&&b)=true :=by rw[h1,h2]; rfl
def Xmc:joinedFacts Tryd.pinned.checked.prog 5 Tryd.f5 (OpenSpec.ofChange Rows.fnExactRelayOfSpec).bare Rows.fnExactRelayOfRow=true :=(Ur (Ur (Ur (Ur (Ur (Ur (Ur (Ur (Ur (Ur (Ur (Ur (Ur (Ur (Ur (Ur (Ur (Ur (Ur (Ur (Ur (Ur (Ur (Ur (Ur (Ur (Ur (Ur (Ur (Ur (Ur cj0 cj1) cj2) cj3) cj4) cj5) cj6) cj7) cj8) cj9) Xo1) Xo2) Xo3) Xo4) Xo5) Xo6) Xo7) Xo8) Xo9) Xpa) Xpb) Xpc) Xpd) Xpe) Xpf) Xpg) Xph) Xpi) Xpj) Xpk) Xpl) Xpm)
def said:Rows.FnExactRelayOfSaid :=
  OpenClaim.holds_of_cond 5 Tryd.f5 rfl rfl rfl rfl rfl rfl rfl ⟨rfl,rfl,rfl,rfl,rfl⟩ rfl rfl rfl rfl rfl (by kernel_rfl) Tryd.func5 Xmc
    (of_decide_eq_true (by kernel_rfl)) (by unfold Func.isWrapper; first | (rw[if_pos (by decide +kernel)]; kernel_rfl) | (rw[if_neg (by decide +kernel)]; exact⟨rfl,rfl⟩))
    (λos started H enc _ F => by rw[OpenClaim.pre_eq_preRow]; exact lifted os started H enc F)
def plain (f : FuncId) (fn : Func) (hf : Tryd.pinned.checked.prog.funcNamed "loop.example/g00665/laws.FnExactRelayOf" = some f) (hfn : Tryd.pinned.checked.prog.funcs[f]? = some fn) :
    false=Tryd.pinned.checked.prog.looks []/\∀(j:Nat) t,fn.params[j]?=some t->Tryd.pinned.checked.prog.wantsStandIn t=false :=by
  obtain rfl : f = 5 := Option.some.inj ((show Tryd.prog.funcNamed "loop.example/g00665/laws.FnExactRelayOf" = some 5 by kernel_rfl).symm.trans hf) |>.symm
  obtain rfl:fn=Tryd.f5 :=(Option.some.inj (Tryd.func5.symm.trans hfn)).symm
  refine⟨by kernel_rfl,λj t ht => ?_⟩
  rw[Tryd.params5] at ht
  have hm :=Array.mem_of_getElem? ht
  simp only[List.mem_toArray,List.mem_cons,List.not_mem_nil,or_false,or_self] at hm
  rcases hm with rfl | rfl
  · exact(show Tryd.prog.wantsStandIn 32=false by kernel_rfl)
  · exact(show Tryd.prog.wantsStandIn 4=false by kernel_rfl)
end Go.Proofs.YtebnbhjcfanddaaDoor.fnExactRelayOf
namespace Go.Proofs.YtebnbhjcfanddaaDoor
theorem fnExactRelayOf_holds:Rows.FnExactRelayOfCardSaid :=
  Claim7.holds_tied_plain_at .later [] _ _ _ _ fnExactRelayOf.said (λ_ h => by cases h) (by kernel_rfl) (λ_ h => by cases h) fnExactRelayOf_row_tie rfl ⟨rfl,rfl⟩ (by kernel_rfl) rfl fnExactRelayOf.plain (by kernel_rfl)
#print axioms fnExactRelayOf_holds
end Go.Proofs.YtebnbhjcfanddaaDoor
