/- The law FnExactOutText answers true at every argument, and leaves all as it was. -/
import Derived.Test.YtebnbhjcfanddaaDoorFc
import Derived.Test.YtebnbhjcfanddaaDoorWa
import Derived.Test.YtebnbhjcfanddaaDoorRows
import Derived.Test.YtebnbhjcfanddaaDoorCards
import Derived.Test.YtebnbhjcfanddaaDoorTie
import Derived.Deep.DeepHandedRow
import Derived.Lib.LaidTab
import Derived.Stop.LaidErr
import Derived.WalkKit
import Derived.ProofKit
import Derived.OpenShut
import Derived.ShutString
import Derived.ChangeOld
import Derived.Below
import Derived.Carry
import Derived.SizedLaws
set_option linter.unusedVariables false
set_option linter.unusedSimpArgs false
set_option autoImplicit false
set_option maxRecDepth 100000
set_option maxHeartbeats 4000000
set_option linter.defProp false
namespace Go.Vm.A
open Go.Proofs
open Go.RowKit Go.ChangeShapes Go.WideShapes
def walk4 {H : Type} {enc : TypeId × Value -> H} (W : World) (base : Nat) (htab : Lib.TabIs Tryd.prog W "internal/strconv.uint64pow10" .u64 Lib.pow10Tab) (v0 : Value) {d0 : DataW H} {p0 : List MemPlace} (q0 : Value.okWide Tryd.prog W .any base 36 v0) (h0 : DataW.Trod enc Tryd.prog W 0 (λ_ => true) true 36 v0 d0 p0) : Calls Tryd.prog 4 #[v0] W λe w' => e = .returned (.bool true) /\ Below W.heap.size W w' := by
  obtain⟨a0,r0,c0⟩ :=Xj4 20 Tryd.underlying36 (shs :=[.i .i64,.i .i64,.s,.i .i64,.sl [.s,.s],.sl [.i .u8],.s,.s,.s,.sl [.s,.s]]) (by kernel_rfl) q0 h0
  obtain⟨x0,rfl,o0⟩ :=XmU _ r0
  refine Xk9 (s :=s4) (vs :=[v0]) (xs :=[.agg (Xig .ro x0)]) (e4 _ _ _ _ _ _ _ _ _ _ o0) rfl rfl rfl (λj v a hv ha => ?_) Tryd.func4 (by decide) rfl (Xj7 (by kernel_rfl) htab)
  rcases j with _ | j
  · simp only[List.getElem?_cons_zero,List.getElem?_cons_succ,Option.some.injEq] at hv ha; subst hv ha; exact c0
  · simp at hv
end Go.Vm.A
namespace Go.Proofs.YtebnbhjcfanddaaDoor.fnExactOutText
open Go.ChangeShapes Go.WideShapes Go.ChangeAt Go.RowKit
def own:ownKnob Tryd.prog.godebug=none :=by kernel_rfl
def XiJ:laidOutB Tryd.prog=true :=by kernel_rfl
set_option maxRecDepth 100000 in
def XgJ(H:Type)(enc:TypeId×Value->H)(W:World)(base:Nat)(args:Array Value)(ds gs:List (DataW H))(before:List MemPlace)
    (hval:∀(j:Nat) t v,Tryd.f4.params[j]?=some t->args[j]?=some v->Value.okWide Tryd.prog W .any base t v)
    (hW:DataW.Whole enc Tryd.prog Tryd.f4.params.toList Rows.fnExactOutTextSpec.vars false W args.toList ds gs before) (hL:laidMetH Tryd.prog Rows.fnExactOutTextRow.laid W) :
    Calls Tryd.prog 4 args W λe W' => ∃v,e=.returned v/\Rows.fnExactOutTextSpec.post enc Tryd.prog Tryd.f4 false true false false W args v W' :=by
  have hL0:laidMet Tryd.prog Rows.fnExactOutTextRow.laid W :=hL
  have hL1 : laidMet Tryd.prog (("internal/strconv.uint64pow10", Rows.laid_internal_strconv_uint64pow10) :: Rows.fnExactOutTextRow.laid.drop 3) W := hL0.tail.tail
  have hpe:(Rows.laid_internal_strconv_uint64pow10:DataW Unit)=Lib.tabData .u64 Lib.pow10Tab :=by kernel_rfl
  rw[hpe] at hL1
  have htab : Lib.TabIs Tryd.prog W "internal/strconv.uint64pow10" .u64 Lib.pow10Tab := Lib.tabIs_of_head (g := 0) (by kernel_rfl) (by kernel_rfl) Tryd.underlying128 Tryd.underlying116 (by kernel_rfl) (by kernel_rfl) hL1
  have hW' :=hW
  obtain⟨p,q,hA0,hV,rfl,hfz,hnd⟩ :=hW
  have hA:DataW.TrodAll enc Tryd.prog W 0 (λ_ => true) true Tryd.f4.params.toList args.toList ds p :=hA0
  rw[Tryd.params4] at hA hval
  obtain⟨v0,vs0,d0,ds0,p0,q0,hargs,rfl,rfl,h0,r0⟩ :=trodAll_cons hA
  obtain⟨rfl,rfl,rfl⟩ :=trodAll_nil r0
  obtain rfl:args=#[v0] :=by cases args; simp_all
  obtain⟨rfl,rfl⟩ :=trodVars_none hV
  clear hA0
  refine(Go.Vm.A.walk4 W base htab v0 (hval 0 36 v0 rfl rfl) h0).mono λe W' ⟨he,bel⟩ => ?_
  subst he
  exact⟨_,rfl,_,_,_,[],_,[],hW',trodAll_mk1 (shut_bool Tryd.underlying4 _),(trodAll_cons_mk (Below.trod XiJ (by kernel_rfl) (of_decide_eq_true (by kernel_rfl)) h0 bel (λx hx => by simpa using hW'.lt x (by simp[hx]))) trodAll_mk0),rfl,bel.frame _,λh => by cases h⟩
def lay(vs:Array Value):Obj->Obj
  | .cells _ t frozen => .cells vs t frozen
  | o => o
def Xnh:Array Value :=#[.int .u8 0,.int .u8 1,.int .u8 28,.int .u8 2,.int .u8 29,.int .u8 14,.int .u8 24,.int .u8 3,.int .u8 30,.int .u8 22,.int .u8 20,.int .u8 15,.int .u8 25,.int .u8 17,.int .u8 4,.int .u8 8,.int .u8 31,.int .u8 27,.int .u8 13,.int .u8 23,.int .u8 21,.int .u8 19,.int .u8 16,.int .u8 7,.int .u8 26,.int .u8 12,.int .u8 18,.int .u8 6,.int .u8 11,.int .u8 5,.int .u8 10,.int .u8 9]
def Xni:Array Value :=#[.int .u8 0,.int .u8 1,.int .u8 56,.int .u8 2,.int .u8 57,.int .u8 49,.int .u8 28,.int .u8 3,.int .u8 61,.int .u8 58,.int .u8 42,.int .u8 50,.int .u8 38,.int .u8 29,.int .u8 17,.int .u8 4,.int .u8 62,.int .u8 47,.int .u8 59,.int .u8 36,.int .u8 45,.int .u8 43,.int .u8 51,.int .u8 22,.int .u8 53,.int .u8 39,.int .u8 33,.int .u8 30,.int .u8 24,.int .u8 18,.int .u8 12,.int .u8 5,.int .u8 63,.int .u8 55,.int .u8 48,.int .u8 27,.int .u8 60,.int .u8 41,.int .u8 37,.int .u8 16,.int .u8 46,.int .u8 35,.int .u8 44,.int .u8 21,.int .u8 52,.int .u8 32,.int .u8 23,.int .u8 11,.int .u8 54,.int .u8 26,.int .u8 40,.int .u8 15,.int .u8 34,.int .u8 20,.int .u8 31,.int .u8 10,.int .u8 25,.int .u8 14,.int .u8 19,.int .u8 9,.int .u8 13,.int .u8 8,.int .u8 7,.int .u8 6]
def Xnj:Array Value :=#[.int .u64 1,.int .u64 10,.int .u64 100,.int .u64 1000,.int .u64 10000,.int .u64 100000,.int .u64 1000000,.int .u64 10000000,.int .u64 100000000,.int .u64 1000000000,.int .u64 10000000000,.int .u64 100000000000,.int .u64 1000000000000,.int .u64 10000000000000,.int .u64 100000000000000,.int .u64 1000000000000000,.int .u64 10000000000000000,.int .u64 100000000000000000,.int .u64 1000000000000000000,.int .u64 10000000000000000000]
noncomputable def Xah(os:Os):World :=
  {World.holding Tryd.prog os ⟨#[],#[],[]⟩ with heap :=Array.modify (Array.modify (Array.modify ((World.holding Tryd.prog os ⟨#[],#[],[]⟩).heap) 4 (lay Xnh)) 5 (lay Xni)) 0 (lay Xnj)}
def XgK(os:Os):laidMet Tryd.prog Rows.fnExactOutTextRow.laid ((Xah os).forCall (λ_ _ => 0) ⟨#[],#[.agg #[.int .i64 0,.int .i64 0,.string ⟨#[]⟩,.int .i64 0,.slice none 0 0,.slice none 0 0,.string ⟨#[]⟩,.string ⟨#[]⟩,.string ⟨#[]⟩,.slice none 0 0]],[]⟩).memory :=
  laidMet_of_run' 8 (by kernel_rfl) (by kernel_rfl)
def XlK(os:Os){H:Type}(enc:TypeId×Value->H):(DataW.whole enc Tryd.prog ((Xah os).forCall (λ_ _ => 0) ⟨#[],#[.agg #[.int .i64 0,.int .i64 0,.string ⟨#[]⟩,.int .i64 0,.slice none 0 0,.slice none 0 0,.string ⟨#[]⟩,.string ⟨#[]⟩,.string ⟨#[]⟩,.slice none 0 0]],[]⟩).memory Tryd.f4.params.toList Rows.fnExactOutTextSpec.vars false #[.agg #[.int .i64 0,.int .i64 0,.string ⟨#[]⟩,.int .i64 0,.slice none 0 0,.slice none 0 0,.string ⟨#[]⟩,.string ⟨#[]⟩,.string ⟨#[]⟩,.slice none 0 0]].toList 8).isSome=true :=by kernel_rfl
set_option maxRecDepth 100000 in
def lifted(os:Os)(started:os.Started)(H:Type)(enc:TypeId×Value->H)(F:Stop.Interp) :
    ReturnsInHanded {} Tryd.checked os 4 .any ((OpenSpec.ofChange Rows.fnExactOutTextSpec).preRow enc Tryd.prog Tryd.f4 Rows.fnExactOutTextRow.domain false Rows.fnExactOutTextRow.laid) (((OpenSpec.ofChange Rows.fnExactOutTextSpec).at F).post enc Tryd.prog Tryd.f4 false true false false) :=by
  obtain⟨x,hx⟩ :=Option.isSome_iff_exists.1 (XlK os enc)
  refine returnsInHanded_of_row (C :=Tryd.checked) (s :=OpenSpec.ofChange Rows.fnExactOutTextSpec) own started (by kernel_rfl) Tryd.func4
    (witness_row_at (enc :=enc) (C :=Tryd.checked) false (Xah os) #[.agg #[.int .i64 0,.int .i64 0,.string ⟨#[]⟩,.int .i64 0,.slice none 0 0,.slice none 0 0,.string ⟨#[]⟩,.string ⟨#[]⟩,.string ⟨#[]⟩,.slice none 0 0]] rfl (by kernel_rfl) (by kernel_rfl) (by kernel_rfl)
      (OpenSpec.preRow_of_cond 8 hx rfl (λk hk => by cases hk) (by kernel_rfl) (XgK os))) ?_
  intro W base args ds gs before hval hW _ _ _ hL _ _
  exact XgJ H enc W base args ds gs before hval hW hL
def cj0:Rows.fnExactOutTextRow.wf (OpenSpec.ofChange (OpenSpec.ofChange Rows.fnExactOutTextSpec).bare)=true :=by kernel_rfl
def cj1:laidOutB Tryd.prog=true :=by kernel_rfl
def cj2:mapsRowed Tryd.prog=true :=by kernel_rfl
def cj3:Tryd.f4.params.all (Tryd.prog.readableRec ·)=true :=by kernel_rfl
def cj4:namedTie Tryd.prog Rows.fnExactOutTextRow.named (OpenSpec.ofChange Rows.fnExactOutTextSpec).bare.vars=true :=by kernel_rfl
def cj5:(Rows.fnExactOutTextRow.stops==[])=true :=by kernel_rfl
def cj6:(Tryd.prog.stops==[])=true :=by kernel_rfl
def cj7:(Rows.fnExactOutTextRow.knobs==[])=true :=by kernel_rfl
def cj8:(Tryd.prog.stopKnobs==[])=true :=by kernel_rfl
def cj9:(Rows.fnExactOutTextRow.inPlace==Tryd.prog.inPlace 4)=true :=by kernel_rfl
def Xnk:(Rows.fnExactOutTextRow.unfollowed==Tryd.prog.unfollowed 4)=true :=by kernel_rfl
def Xnl:(Rows.fnExactOutTextRow.recurses==Tryd.prog.recurses 4)=true :=by kernel_rfl
def Xnm:(Rows.fnExactOutTextRow.named==Tryd.prog.varsNamed 4)=true :=by kernel_rfl
def Xnn:(Rows.fnExactOutTextRow.maps==(Tryd.f4.params.toList++(OpenSpec.ofChange Rows.fnExactOutTextSpec).bare.plain.varTypes Tryd.prog).any (Tryd.prog.mapsRec ·))=true :=by kernel_rfl
def Xno:(Rows.fnExactOutTextRow.ifaces==(Tryd.f4.params.toList++(OpenSpec.ofChange Rows.fnExactOutTextSpec).bare.plain.varTypes Tryd.prog).any (Tryd.prog.ifacesRec ·))=true :=by kernel_rfl
def Xnp:(Rows.fnExactOutTextRow.mapsOut==Tryd.prog.mapsAmong Tryd.f4.resultTypes.toList)=true :=by kernel_rfl
def Xnq:(Rows.fnExactOutTextRow.loops==(Tryd.f4.params.toList++(OpenSpec.ofChange Rows.fnExactOutTextSpec).bare.plain.varTypes Tryd.prog).any (Tryd.prog.loopsFrom ·))=true :=by kernel_rfl
def Xnr:(Rows.fnExactOutTextRow.wideKeys==(Tryd.f4.params.toList++(OpenSpec.ofChange Rows.fnExactOutTextSpec).bare.plain.varTypes Tryd.prog++Tryd.f4.resultTypes.toList).any (Tryd.prog.wideKeysFrom ·))=true :=by kernel_rfl
def Xns:(OpenSpec.ofChange Rows.fnExactOutTextSpec).bare.vars.all (Tryd.prog.varReadable ·)=true :=by kernel_rfl
def Xnt:Tryd.f4.resultTypes.all (λt => Tryd.prog.readableRec t&&decide (t<Tryd.prog.types.size))=true :=by kernel_rfl
def Xnu:(Rows.fnExactOutTextRow.ifacesOut==Tryd.f4.resultTypes.toList.any (Tryd.prog.ifacesRec ·))=true :=by kernel_rfl
def Xnv:(Rows.fnExactOutTextRow.loopsOut==Tryd.f4.resultTypes.toList.any (Tryd.prog.loopsFrom ·))=true :=by kernel_rfl
def Xnw:(Rows.fnExactOutTextRow.plainKeys==Tryd.prog.plainKeys)=true :=by kernel_rfl
def Xnx:Rows.fnExactOutTextRow.shortTexts.isNone=true :=by kernel_rfl
def Xny:Tryd.prog.stopsHeard=true :=by kernel_rfl
def Xnz:Tryd.prog.mayEnter=true :=by kernel_rfl
def XnA:(Rows.fnExactOutTextRow.lifted==Tryd.prog.liftsFinal)=true :=by kernel_rfl
def XnB:(Tryd.prog.make==some Rows.fnExactOutTextRow.make)=true :=by kernel_rfl
def XnC:(Rows.fnExactOutTextRow.kinds==(if Rows.fnExactOutTextRow.domain.isEmpty then[] else Tryd.f4.params.toList.map λt => match Tryd.prog.underlying t with | some (.int k) => some k | _ => none))=true :=by kernel_rfl
def XnD:(Rows.fnExactOutTextRow.pinned==Rows.fnExactOutTextRow.pinnedBy)=true :=by kernel_rfl
def XnE:(Rows.fnExactOutTextRow.veiled==(Tryd.f4.params.toList++(OpenSpec.ofChange Rows.fnExactOutTextSpec).bare.plain.varTypes Tryd.prog++Tryd.f4.resultTypes.toList).any (Tryd.prog.veiledRec ·))=true :=by kernel_rfl
def XnF:Rows.fnExactOutTextRow.veiledFits Tryd.prog Tryd.f4.params.toList (Tryd.f4.params.toList++(OpenSpec.ofChange Rows.fnExactOutTextSpec).bare.plain.varTypes Tryd.prog++Tryd.f4.resultTypes.toList)=true :=by kernel_rfl
def QU{a b:Bool}(h1:a=true)(h2:b=true):(a&&b)=true :=by rw[h1,h2]; rfl
def Xkw:joinedFacts Tryd.pinned.checked.prog 4 Tryd.f4 (OpenSpec.ofChange Rows.fnExactOutTextSpec).bare Rows.fnExactOutTextRow=true :=(QU (QU (QU (QU (QU (QU (QU (QU (QU (QU (QU (QU (QU (QU (QU (QU (QU (QU (QU (QU (QU (QU (QU (QU (QU (QU (QU (QU (QU (QU (QU cj0 cj1) cj2) cj3) cj4) cj5) cj6) cj7) cj8) cj9) Xnk) Xnl) Xnm) Xnn) Xno) Xnp) Xnq) Xnr) Xns) Xnt) Xnu) Xnv) Xnw) Xnx) Xny) Xnz) XnA) XnB) XnC) XnD) XnE) XnF)
def said:Rows.FnExactOutTextSaid :=
  OpenClaim.holds_of_cond 4 Tryd.f4 rfl rfl rfl rfl rfl rfl rfl ⟨rfl,rfl,rfl,rfl,rfl⟩ rfl rfl rfl rfl rfl (by kernel_rfl) Tryd.func4 Xkw
    (of_decide_eq_true (by kernel_rfl)) (by unfold Func.isWrapper; first | (rw[if_pos (by decide +kernel)]; kernel_rfl) | (rw[if_neg (by decide +kernel)]; exact⟨rfl,rfl⟩))
    (λos started H enc _ F => by rw[OpenClaim.pre_eq_preRow]; exact lifted os started H enc F)
def plain (f : FuncId) (fn : Func) (hf : Tryd.pinned.checked.prog.funcNamed "loop.example/g00665/laws.FnExactOutText" = some f) (hfn : Tryd.pinned.checked.prog.funcs[f]? = some fn) :
    false=Tryd.pinned.checked.prog.looks []/\∀(j:Nat) t,fn.params[j]?=some t->Tryd.pinned.checked.prog.wantsStandIn t=false :=by
  obtain rfl : f = 4 := Option.some.inj ((show Tryd.prog.funcNamed "loop.example/g00665/laws.FnExactOutText" = some 4 by kernel_rfl).symm.trans hf) |>.symm
  obtain rfl:fn=Tryd.f4 :=(Option.some.inj (Tryd.func4.symm.trans hfn)).symm
  refine⟨by kernel_rfl,λj t ht => ?_⟩
  rw[Tryd.params4] at ht
  have hm :=Array.mem_of_getElem? ht
  simp only[List.mem_toArray,List.mem_cons,List.not_mem_nil,or_false,or_self] at hm
  subst hm
  · exact(show Tryd.prog.wantsStandIn 36=false by kernel_rfl)
end Go.Proofs.YtebnbhjcfanddaaDoor.fnExactOutText
namespace Go.Proofs.YtebnbhjcfanddaaDoor
theorem fnExactOutText_holds:Rows.FnExactOutTextCardSaid :=
  Claim7.holds_tied_plain_at .later [] _ _ _ _ fnExactOutText.said (λ_ h => by cases h) (by kernel_rfl) (λ_ h => by cases h) fnExactOutText_row_tie rfl ⟨rfl,rfl⟩ (by kernel_rfl) rfl fnExactOutText.plain (by kernel_rfl)
#print axioms fnExactOutText_holds
end Go.Proofs.YtebnbhjcfanddaaDoor
