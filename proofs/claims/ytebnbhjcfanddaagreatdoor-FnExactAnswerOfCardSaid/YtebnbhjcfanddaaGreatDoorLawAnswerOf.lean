/- The law FnExactAnswerOf answers true at every argument, and leaves all as it was. -/
import Derived.Test.YtebnbhjcfanddaaGreatDoorFf
import Derived.Test.YtebnbhjcfanddaaGreatDoorWa
import Derived.Test.YtebnbhjcfanddaaGreatDoorRows
import Derived.Test.YtebnbhjcfanddaaGreatDoorCards
import Derived.Test.YtebnbhjcfanddaaGreatDoorTie
import Derived.Deep.DeepHandedRow
import Derived.Lib.LaidTab
import Derived.Stop.LaidErr
import Derived.WalkKit
import Derived.ProofKit
import Derived.OpenShut
import Derived.ShutString
import Derived.ChangeOld
import Derived.Below
import Derived.Carry
import Derived.SizedLaws
set_option linter.unusedVariables false
set_option linter.unusedSimpArgs false
set_option autoImplicit false
set_option maxRecDepth 100000
set_option maxHeartbeats 4000000
set_option linter.defProp false
namespace Go.Vm.A
open Go.Proofs
open Go.RowKit Go.ChangeShapes Go.WideShapes
def walk4 {H : Type} {enc : TypeId × Value -> H} (W : World) (base : Nat) (htab : Lib.TabIs Tryz.prog W "internal/strconv.uint64pow10" .u64 Lib.pow10Tab) (v0 v1 v2 v3 : Value) {d0 : DataW H} {p0 : List MemPlace} {d1 : DataW H} {p1 : List MemPlace} {d2 : DataW H} {p2 : List MemPlace} {d3 : DataW H} {p3 : List MemPlace} (q0 : Value.okWide Tryz.prog W .any base 56 v0) (h0 : DataW.Trod enc Tryz.prog W 0 (λ_ => true) true 56 v0 d0 p0) (q1 : Value.okWide Tryz.prog W .any base 2 v1) (h1 : DataW.Trod enc Tryz.prog W 0 (λ_ => true) true 2 v1 d1 p1) (q2 : Value.okWide Tryz.prog W .any base 9 v2) (h2 : DataW.Trod enc Tryz.prog W 0 (λ_ => true) true 9 v2 d2 p2) (q3 : Value.okWide Tryz.prog W .any base 4 v3) (h3 : DataW.Trod enc Tryz.prog W 0 (λ_ => true) true 4 v3 d3 p3) : Calls Tryz.prog 4 #[v0, v1, v2, v3] W λe w' => e = .returned (.bool true) /\ Below W.heap.size W w' := by
  obtain⟨a0,r0,c0⟩ :=XmN 20 Tryz.underlying56 (shs :=[.s,.i .i64,.sl [.s,.s],.sl [.i .u8],.i .i64,.i .i64,.i .i64,.i .i64,.i .i64,.b,.b,.sl [.s],.i .i64]) (by kernel_rfl) q0 h0
  obtain⟨x0,rfl,o0⟩ :=Xm1 _ r0
  obtain⟨a1,r1,c1⟩ :=Xfy 20 Tryz.underlying2 (λ_ h => by cases h) (sh :=.i .i64) (by kernel_rfl) q1 h1
  obtain⟨x1,rfl,o1⟩ :=r1.int
  obtain⟨a2,r2,c2⟩ :=Xfy 20 Tryz.underlying9 (λ_ h => by cases h) (sh :=.s) (by kernel_rfl) q2 h2
  obtain⟨x2,rfl,o2⟩ :=r2.str
  obtain⟨a3,r3,c3⟩ :=Xfy 20 Tryz.underlying4 (λ_ h => by cases h) (sh :=.b) (by kernel_rfl) q3 h3
  obtain⟨x3,rfl,o3⟩ :=r3.bool
  refine XoO (s :=s4) (vs :=[v0,v1,v2,v3]) (xs :=[.agg (UR .ro x0),.i .i64 x1,.s x2,.b x3]) (e4 _ _ _ _ _ _ _ _ _ _ _ _ _ _ _ _ ⟨o0,o1,o2,o3⟩) rfl rfl rfl (λj v a hv ha => ?_) Tryz.func4 (by decide) rfl (XmT (by kernel_rfl) htab)
  rcases j with _ | j
  · simp only[List.getElem?_cons_zero,List.getElem?_cons_succ,Option.some.injEq] at hv ha; subst hv ha; exact c0
  rcases j with _ | j
  · simp only[List.getElem?_cons_zero,List.getElem?_cons_succ,Option.some.injEq] at hv ha; subst hv ha; exact c1
  rcases j with _ | j
  · simp only[List.getElem?_cons_zero,List.getElem?_cons_succ,Option.some.injEq] at hv ha; subst hv ha; exact c2
  rcases j with _ | j
  · simp only[List.getElem?_cons_zero,List.getElem?_cons_succ,Option.some.injEq] at hv ha; subst hv ha; exact c3
  · simp at hv
end Go.Vm.A
namespace Go.Proofs.YtebnbhjcfanddaaGreatDoor.fnExactAnswerOf
open Go.ChangeShapes Go.WideShapes Go.ChangeAt Go.RowKit
def own:ownKnob Tryz.prog.godebug=none :=by kernel_rfl
def Xc0:laidOutB Tryz.prog=true :=by kernel_rfl
set_option maxRecDepth 100000 in
def Xjc(H:Type)(enc:TypeId×Value->H)(W:World)(base:Nat)(args:Array Value)(ds gs:List (DataW H))(before:List MemPlace)
    (hval:∀(j:Nat) t v,Tryz.f4.params[j]?=some t->args[j]?=some v->Value.okWide Tryz.prog W .any base t v)
    (hW:DataW.Whole enc Tryz.prog Tryz.f4.params.toList Rows.fnExactAnswerOfSpec.vars false W args.toList ds gs before) (hL:laidMetH Tryz.prog Rows.fnExactAnswerOfRow.laid W) :
    Calls Tryz.prog 4 args W λe W' => ∃v,e=.returned v/\Rows.fnExactAnswerOfSpec.post enc Tryz.prog Tryz.f4 false true false false W args v W' :=by
  have hL0:laidMet Tryz.prog Rows.fnExactAnswerOfRow.laid W :=hL
  have hL1 : laidMet Tryz.prog (("internal/strconv.uint64pow10", Rows.laid_internal_strconv_uint64pow10) :: Rows.fnExactAnswerOfRow.laid.drop 3) W := hL0.tail.tail
  have hpe:(Rows.laid_internal_strconv_uint64pow10:DataW Unit)=Lib.tabData .u64 Lib.pow10Tab :=by kernel_rfl
  rw[hpe] at hL1
  have htab : Lib.TabIs Tryz.prog W "internal/strconv.uint64pow10" .u64 Lib.pow10Tab := Lib.tabIs_of_head (g := 0) (by kernel_rfl) (by kernel_rfl) Tryz.underlying229 Tryz.underlying209 (by kernel_rfl) (by kernel_rfl) hL1
  have hW' :=hW
  obtain⟨p,q,hA0,hV,rfl,hfz,hnd⟩ :=hW
  have hA:DataW.TrodAll enc Tryz.prog W 0 (λ_ => true) true Tryz.f4.params.toList args.toList ds p :=hA0
  rw[Tryz.params4] at hA hval
  obtain⟨v0,vs0,d0,ds0,p0,q0,hargs,rfl,rfl,h0,r0⟩ :=trodAll_cons hA
  obtain⟨v1,vs1,d1,ds1,p1,q1,rfl,rfl,rfl,h1,r1⟩ :=trodAll_cons r0
  obtain⟨v2,vs2,d2,ds2,p2,q2,rfl,rfl,rfl,h2,r2⟩ :=trodAll_cons r1
  obtain⟨v3,vs3,d3,ds3,p3,q3,rfl,rfl,rfl,h3,r3⟩ :=trodAll_cons r2
  obtain⟨rfl,rfl,rfl⟩ :=trodAll_nil r3
  obtain rfl:args=#[v0,v1,v2,v3] :=by cases args; simp_all
  obtain⟨rfl,rfl⟩ :=trodVars_none hV
  clear hA0
  refine(Go.Vm.A.walk4 W base htab v0 v1 v2 v3 (hval 0 56 v0 rfl rfl) h0 (hval 1 2 v1 rfl rfl) h1 (hval 2 9 v2 rfl rfl) h2 (hval 3 4 v3 rfl rfl) h3).mono λe W' ⟨he,bel⟩ => ?_
  subst he
  exact⟨_,rfl,_,_,_,[],_,[],hW',trodAll_mk1 (shut_bool Tryz.underlying4 _),(trodAll_cons_mk (Below.trod Xc0 (by kernel_rfl) (of_decide_eq_true (by kernel_rfl)) h0 bel (λx hx => by simpa using hW'.lt x (by simp[hx]))) (trodAll_cons_mk (Below.trod Xc0 (by kernel_rfl) (of_decide_eq_true (by kernel_rfl)) h1 bel (λx hx => by simpa using hW'.lt x (by simp[hx]))) (trodAll_cons_mk (Below.trod Xc0 (by kernel_rfl) (of_decide_eq_true (by kernel_rfl)) h2 bel (λx hx => by simpa using hW'.lt x (by simp[hx]))) (trodAll_cons_mk (Below.trod Xc0 (by kernel_rfl) (of_decide_eq_true (by kernel_rfl)) h3 bel (λx hx => by simpa using hW'.lt x (by simp[hx]))) trodAll_mk0)))),rfl,bel.frame _,λh => by cases h⟩
def lay(vs:Array Value):Obj->Obj
  | .cells _ t frozen => .cells vs t frozen
  | o => o
def Xq7:Array Value :=#[.int .u8 0,.int .u8 1,.int .u8 28,.int .u8 2,.int .u8 29,.int .u8 14,.int .u8 24,.int .u8 3,.int .u8 30,.int .u8 22,.int .u8 20,.int .u8 15,.int .u8 25,.int .u8 17,.int .u8 4,.int .u8 8,.int .u8 31,.int .u8 27,.int .u8 13,.int .u8 23,.int .u8 21,.int .u8 19,.int .u8 16,.int .u8 7,.int .u8 26,.int .u8 12,.int .u8 18,.int .u8 6,.int .u8 11,.int .u8 5,.int .u8 10,.int .u8 9]
def Xq8:Array Value :=#[.int .u8 0,.int .u8 1,.int .u8 56,.int .u8 2,.int .u8 57,.int .u8 49,.int .u8 28,.int .u8 3,.int .u8 61,.int .u8 58,.int .u8 42,.int .u8 50,.int .u8 38,.int .u8 29,.int .u8 17,.int .u8 4,.int .u8 62,.int .u8 47,.int .u8 59,.int .u8 36,.int .u8 45,.int .u8 43,.int .u8 51,.int .u8 22,.int .u8 53,.int .u8 39,.int .u8 33,.int .u8 30,.int .u8 24,.int .u8 18,.int .u8 12,.int .u8 5,.int .u8 63,.int .u8 55,.int .u8 48,.int .u8 27,.int .u8 60,.int .u8 41,.int .u8 37,.int .u8 16,.int .u8 46,.int .u8 35,.int .u8 44,.int .u8 21,.int .u8 52,.int .u8 32,.int .u8 23,.int .u8 11,.int .u8 54,.int .u8 26,.int .u8 40,.int .u8 15,.int .u8 34,.int .u8 20,.int .u8 31,.int .u8 10,.int .u8 25,.int .u8 14,.int .u8 19,.int .u8 9,.int .u8 13,.int .u8 8,.int .u8 7,.int .u8 6]
def Xq9:Array Value :=#[.int .u64 1,.int .u64 10,.int .u64 100,.int .u64 1000,.int .u64 10000,.int .u64 100000,.int .u64 1000000,.int .u64 10000000,.int .u64 100000000,.int .u64 1000000000,.int .u64 10000000000,.int .u64 100000000000,.int .u64 1000000000000,.int .u64 10000000000000,.int .u64 100000000000000,.int .u64 1000000000000000,.int .u64 10000000000000000,.int .u64 100000000000000000,.int .u64 1000000000000000000,.int .u64 10000000000000000000]
def Xra:Array Value :=#[.int .u8 128,.int .u8 191,.int .u8 160,.int .u8 191,.int .u8 128,.int .u8 159,.int .u8 144,.int .u8 191,.int .u8 128,.int .u8 143,.int .u8 0,.int .u8 0,.int .u8 0,.int .u8 0,.int .u8 0,.int .u8 0,.int .u8 0,.int .u8 0,.int .u8 0,.int .u8 0,.int .u8 0,.int .u8 0,.int .u8 0,.int .u8 0,.int .u8 0,.int .u8 0,.int .u8 0,.int .u8 0,.int .u8 0,.int .u8 0,.int .u8 0,.int .u8 0]
def Xrb:Array Value :=#[.int .u8 240,.int .u8 240,.int .u8 240,.int .u8 240,.int .u8 240,.int .u8 240,.int .u8 240,.int .u8 240,.int .u8 240,.int .u8 240,.int .u8 240,.int .u8 240,.int .u8 240,.int .u8 240,.int .u8 240,.int .u8 240,.int .u8 240,.int .u8 240,.int .u8 240,.int .u8 240,.int .u8 240,.int .u8 240,.int .u8 240,.int .u8 240,.int .u8 240,.int .u8 240,.int .u8 240,.int .u8 240,.int .u8 240,.int .u8 240,.int .u8 240,.int .u8 240,.int .u8 240,.int .u8 240,.int .u8 240,.int .u8 240,.int .u8 240,.int .u8 240,.int .u8 240,.int .u8 240,.int .u8 240,.int .u8 240,.int .u8 240,.int .u8 240,.int .u8 240,.int .u8 240,.int .u8 240,.int .u8 240,.int .u8 240,.int .u8 240,.int .u8 240,.int .u8 240,.int .u8 240,.int .u8 240,.int .u8 240,.int .u8 240,.int .u8 240,.int .u8 240,.int .u8 240,.int .u8 240,.int .u8 240,.int .u8 240,.int .u8 240,.int .u8 240,.int .u8 240,.int .u8 240,.int .u8 240,.int .u8 240,.int .u8 240,.int .u8 240,.int .u8 240,.int .u8 240,.int .u8 240,.int .u8 240,.int .u8 240,.int .u8 240,.int .u8 240,.int .u8 240,.int .u8 240,.int .u8 240,.int .u8 240,.int .u8 240,.int .u8 240,.int .u8 240,.int .u8 240,.int .u8 240,.int .u8 240,.int .u8 240,.int .u8 240,.int .u8 240,.int .u8 240,.int .u8 240,.int .u8 240,.int .u8 240,.int .u8 240,.int .u8 240,.int .u8 240,.int .u8 240,.int .u8 240,.int .u8 240,.int .u8 240,.int .u8 240,.int .u8 240,.int .u8 240,.int .u8 240,.int .u8 240,.int .u8 240,.int .u8 240,.int .u8 240,.int .u8 240,.int .u8 240,.int .u8 240,.int .u8 240,.int .u8 240,.int .u8 240,.int .u8 240,.int .u8 240,.int .u8 240,.int .u8 240,.int .u8 240,.int .u8 240,.int .u8 240,.int .u8 240,.int .u8 240,.int .u8 240,.int .u8 240,.int .u8 240,.int .u8 240,.int .u8 241,.int .u8 241,.int .u8 241,.int .u8 241,.int .u8 241,.int .u8 241,.int .u8 241,.int .u8 241,.int .u8 241,.int .u8 241,.int .u8 241,.int .u8 241,.int .u8 241,.int .u8 241,.int .u8 241,.int .u8 241,.int .u8 241,.int .u8 241,.int .u8 241,.int .u8 241,.int .u8 241,.int .u8 241,.int .u8 241,.int .u8 241,.int .u8 241,.int .u8 241,.int .u8 241,.int .u8 241,.int .u8 241,.int .u8 241,.int .u8 241,.int .u8 241,.int .u8 241,.int .u8 241,.int .u8 241,.int .u8 241,.int .u8 241,.int .u8 241,.int .u8 241,.int .u8 241,.int .u8 241,.int .u8 241,.int .u8 241,.int .u8 241,.int .u8 241,.int .u8 241,.int .u8 241,.int .u8 241,.int .u8 241,.int .u8 241,.int .u8 241,.int .u8 241,.int .u8 241,.int .u8 241,.int .u8 241,.int .u8 241,.int .u8 241,.int .u8 241,.int .u8 241,.int .u8 241,.int .u8 241,.int .u8 241,.int .u8 241,.int .u8 241,.int .u8 241,.int .u8 241,.int .u8 2,.int .u8 2,.int .u8 2,.int .u8 2,.int .u8 2,.int .u8 2,.int .u8 2,.int .u8 2,.int .u8 2,.int .u8 2,.int .u8 2,.int .u8 2,.int .u8 2,.int .u8 2,.int .u8 2,.int .u8 2,.int .u8 2,.int .u8 2,.int .u8 2,.int .u8 2,.int .u8 2,.int .u8 2,.int .u8 2,.int .u8 2,.int .u8 2,.int .u8 2,.int .u8 2,.int .u8 2,.int .u8 2,.int .u8 2,.int .u8 19,.int .u8 3,.int .u8 3,.int .u8 3,.int .u8 3,.int .u8 3,.int .u8 3,.int .u8 3,.int .u8 3,.int .u8 3,.int .u8 3,.int .u8 3,.int .u8 3,.int .u8 35,.int .u8 3,.int .u8 3,.int .u8 52,.int .u8 4,.int .u8 4,.int .u8 4,.int .u8 68,.int .u8 241,.int .u8 241,.int .u8 241,.int .u8 241,.int .u8 241,.int .u8 241,.int .u8 241,.int .u8 241,.int .u8 241,.int .u8 241,.int .u8 241]
noncomputable def Xbx(os:Os):World :=
  {World.holding Tryz.prog os ⟨#[],#[],[]⟩ with heap :=Array.modify (Array.modify (Array.modify (Array.modify (Array.modify ((World.holding Tryz.prog os ⟨#[],#[],[]⟩).heap) 4 (lay Xq7)) 5 (lay Xq8)) 0 (lay Xq9)) 3 (lay Xra)) 2 (lay Xrb)}
def Xjd(os:Os):laidMet Tryz.prog Rows.fnExactAnswerOfRow.laid ((Xbx os).forCall (λ_ _ => 0) ⟨#[],#[.agg #[.string ⟨#[]⟩,.int .i64 0,.slice none 0 0,.slice none 0 0,.int .i64 0,.int .i64 0,.int .i64 0,.int .i64 0,.int .i64 0,.bool false,.bool false,.slice none 0 0,.int .i64 0],.int .i64 0,.string ⟨#[]⟩,.bool false],[]⟩).memory :=
  laidMet_of_run' 8 (by kernel_rfl) (by kernel_rfl)
def XpF(os:Os){H:Type}(enc:TypeId×Value->H):(DataW.whole enc Tryz.prog ((Xbx os).forCall (λ_ _ => 0) ⟨#[],#[.agg #[.string ⟨#[]⟩,.int .i64 0,.slice none 0 0,.slice none 0 0,.int .i64 0,.int .i64 0,.int .i64 0,.int .i64 0,.int .i64 0,.bool false,.bool false,.slice none 0 0,.int .i64 0],.int .i64 0,.string ⟨#[]⟩,.bool false],[]⟩).memory Tryz.f4.params.toList Rows.fnExactAnswerOfSpec.vars false #[.agg #[.string ⟨#[]⟩,.int .i64 0,.slice none 0 0,.slice none 0 0,.int .i64 0,.int .i64 0,.int .i64 0,.int .i64 0,.int .i64 0,.bool false,.bool false,.slice none 0 0,.int .i64 0],.int .i64 0,.string ⟨#[]⟩,.bool false].toList 8).isSome=true :=by kernel_rfl
set_option maxRecDepth 100000 in
def lifted(os:Os)(started:os.Started)(H:Type)(enc:TypeId×Value->H)(F:Stop.Interp) :
    ReturnsInHanded {} Tryz.checked os 4 .any ((OpenSpec.ofChange Rows.fnExactAnswerOfSpec).preRow enc Tryz.prog Tryz.f4 Rows.fnExactAnswerOfRow.domain false Rows.fnExactAnswerOfRow.laid) (((OpenSpec.ofChange Rows.fnExactAnswerOfSpec).at F).post enc Tryz.prog Tryz.f4 false true false false) :=by
  obtain⟨x,hx⟩ :=Option.isSome_iff_exists.1 (XpF os enc)
  refine returnsInHanded_of_row (C :=Tryz.checked) (s :=OpenSpec.ofChange Rows.fnExactAnswerOfSpec) own started (by kernel_rfl) Tryz.func4
    (witness_row_at (enc :=enc) (C :=Tryz.checked) false (Xbx os) #[.agg #[.string ⟨#[]⟩,.int .i64 0,.slice none 0 0,.slice none 0 0,.int .i64 0,.int .i64 0,.int .i64 0,.int .i64 0,.int .i64 0,.bool false,.bool false,.slice none 0 0,.int .i64 0],.int .i64 0,.string ⟨#[]⟩,.bool false] rfl (by kernel_rfl) (by kernel_rfl) (by kernel_rfl)
      (OpenSpec.preRow_of_cond 8 hx rfl (λk hk => by cases hk) (by kernel_rfl) (Xjd os))) ?_
  intro W base args ds gs before hval hW _ _ _ hL _ _
  exact Xjc H enc W base args ds gs before hval hW hL
def cj0:Rows.fnExactAnswerOfRow.wf (OpenSpec.ofChange (OpenSpec.ofChange Rows.fnExactAnswerOfSpec).bare)=true :=by kernel_rfl
def cj1:laidOutB Tryz.prog=true :=by kernel_rfl
def cj2:mapsRowed Tryz.prog=true :=by kernel_rfl
def cj3:Tryz.f4.params.all (Tryz.prog.readableRec ·)=true :=by kernel_rfl
def cj4:namedTie Tryz.prog Rows.fnExactAnswerOfRow.named (OpenSpec.ofChange Rows.fnExactAnswerOfSpec).bare.vars=true :=by kernel_rfl
def cj5:(Rows.fnExactAnswerOfRow.stops==[])=true :=by kernel_rfl
def cj6:(Tryz.prog.stops==[])=true :=by kernel_rfl
def cj7:(Rows.fnExactAnswerOfRow.knobs==[])=true :=by kernel_rfl
def cj8:(Tryz.prog.stopKnobs==[])=true :=by kernel_rfl
def cj9:(Rows.fnExactAnswerOfRow.inPlace==Tryz.prog.inPlace 4)=true :=by kernel_rfl
def Xrc:(Rows.fnExactAnswerOfRow.unfollowed==Tryz.prog.unfollowed 4)=true :=by kernel_rfl
def Xrd:(Rows.fnExactAnswerOfRow.recurses==Tryz.prog.recurses 4)=true :=by kernel_rfl
def Xre:(Rows.fnExactAnswerOfRow.named==Tryz.prog.varsNamed 4)=true :=by kernel_rfl
def Xrf:(Rows.fnExactAnswerOfRow.maps==(Tryz.f4.params.toList++(OpenSpec.ofChange Rows.fnExactAnswerOfSpec).bare.plain.varTypes Tryz.prog).any (Tryz.prog.mapsRec ·))=true :=by kernel_rfl
def Xrg:(Rows.fnExactAnswerOfRow.ifaces==(Tryz.f4.params.toList++(OpenSpec.ofChange Rows.fnExactAnswerOfSpec).bare.plain.varTypes Tryz.prog).any (Tryz.prog.ifacesRec ·))=true :=by kernel_rfl
def Xrh:(Rows.fnExactAnswerOfRow.mapsOut==Tryz.prog.mapsAmong Tryz.f4.resultTypes.toList)=true :=by kernel_rfl
def Xri:(Rows.fnExactAnswerOfRow.loops==(Tryz.f4.params.toList++(OpenSpec.ofChange Rows.fnExactAnswerOfSpec).bare.plain.varTypes Tryz.prog).any (Tryz.prog.loopsFrom ·))=true :=by kernel_rfl
def Xrj:(Rows.fnExactAnswerOfRow.wideKeys==(Tryz.f4.params.toList++(OpenSpec.ofChange Rows.fnExactAnswerOfSpec).bare.plain.varTypes Tryz.prog++Tryz.f4.resultTypes.toList).any (Tryz.prog.wideKeysFrom ·))=true :=by kernel_rfl
def Xrk:(OpenSpec.ofChange Rows.fnExactAnswerOfSpec).bare.vars.all (Tryz.prog.varReadable ·)=true :=by kernel_rfl
def Xrl:Tryz.f4.resultTypes.all (λt => Tryz.prog.readableRec t&&decide (t<Tryz.prog.types.size))=true :=by kernel_rfl
def Xrm:(Rows.fnExactAnswerOfRow.ifacesOut==Tryz.f4.resultTypes.toList.any (Tryz.prog.ifacesRec ·))=true :=by kernel_rfl
def Xrn:(Rows.fnExactAnswerOfRow.loopsOut==Tryz.f4.resultTypes.toList.any (Tryz.prog.loopsFrom ·))=true :=by kernel_rfl
def Xro:(Rows.fnExactAnswerOfRow.plainKeys==Tryz.prog.plainKeys)=true :=by kernel_rfl
def Xrp:Rows.fnExactAnswerOfRow.shortTexts.isNone=true :=by kernel_rfl
def Xrq:Tryz.prog.stopsHeard=true :=by kernel_rfl
def Xrr:Tryz.prog.mayEnter=true :=by kernel_rfl
def Xrs:(Rows.fnExactAnswerOfRow.lifted==Tryz.prog.liftsFinal)=true :=by kernel_rfl
def Xrt:(Tryz.prog.make==some Rows.fnExactAnswerOfRow.make)=true :=by kernel_rfl
def Xru:(Rows.fnExactAnswerOfRow.kinds==(if Rows.fnExactAnswerOfRow.domain.isEmpty then[] else Tryz.f4.params.toList.map λt => match Tryz.prog.underlying t with | some (.int k) => some k | _ => none))=true :=by kernel_rfl
def Xrv:(Rows.fnExactAnswerOfRow.pinned==Rows.fnExactAnswerOfRow.pinnedBy)=true :=by kernel_rfl
def Xrw:(Rows.fnExactAnswerOfRow.veiled==(Tryz.f4.params.toList++(OpenSpec.ofChange Rows.fnExactAnswerOfSpec).bare.plain.varTypes Tryz.prog++Tryz.f4.resultTypes.toList).any (Tryz.prog.veiledRec ·))=true :=by kernel_rfl
def Xrx:Rows.fnExactAnswerOfRow.veiledFits Tryz.prog Tryz.f4.params.toList (Tryz.f4.params.toList++(OpenSpec.ofChange Rows.fnExactAnswerOfSpec).bare.plain.varTypes Tryz.prog++Tryz.f4.resultTypes.toList)=true :=by kernel_rfl
def UU{a b:Bool}(h1:a=true)(h2:b=true):(a&&b)=true :=by rw[h1,h2]; rfl
def Xoc:joinedFacts Tryz.pinned.checked.prog 4 Tryz.f4 (OpenSpec.ofChange Rows.fnExactAnswerOfSpec).bare Rows.fnExactAnswerOfRow=true :=(UU (UU (UU (UU (UU (UU (UU (UU (UU (UU (UU (UU (UU (UU (UU (UU (UU (UU (UU (UU (UU (UU (UU (UU (UU (UU (UU (UU (UU (UU (UU cj0 cj1) cj2) cj3) cj4) cj5) cj6) cj7) cj8) cj9) Xrc) Xrd) Xre) Xrf) Xrg) Xrh) Xri) Xrj) Xrk) Xrl) Xrm) Xrn) Xro) Xrp) Xrq) Xrr) Xrs) Xrt) Xru) Xrv) Xrw) Xrx)
def said:Rows.FnExactAnswerOfSaid :=
  OpenClaim.holds_of_cond 4 Tryz.f4 rfl rfl rfl rfl rfl rfl rfl ⟨rfl,rfl,rfl,rfl,rfl⟩ rfl rfl rfl rfl rfl (by kernel_rfl) Tryz.func4 Xoc
    (of_decide_eq_true (by kernel_rfl)) (by unfold Func.isWrapper; first | (rw[if_pos (by decide +kernel)]; kernel_rfl) | (rw[if_neg (by decide +kernel)]; exact⟨rfl,rfl⟩))
    (λos started H enc _ F => by rw[OpenClaim.pre_eq_preRow]; exact lifted os started H enc F)
def plain (f : FuncId) (fn : Func) (hf : Tryz.pinned.checked.prog.funcNamed "loop.example/g00665/laws.FnExactAnswerOf" = some f) (hfn : Tryz.pinned.checked.prog.funcs[f]? = some fn) :
    false=Tryz.pinned.checked.prog.looks []/\∀(j:Nat) t,fn.params[j]?=some t->Tryz.pinned.checked.prog.wantsStandIn t=false :=by
  obtain rfl : f = 4 := Option.some.inj ((show Tryz.prog.funcNamed "loop.example/g00665/laws.FnExactAnswerOf" = some 4 by kernel_rfl).symm.trans hf) |>.symm
  obtain rfl:fn=Tryz.f4 :=(Option.some.inj (Tryz.func4.symm.trans hfn)).symm
  refine⟨by kernel_rfl,λj t ht => ?_⟩
  rw[Tryz.params4] at ht
  have hm :=Array.mem_of_getElem? ht
  simp only[List.mem_toArray,List.mem_cons,List.not_mem_nil,or_false,or_self] at hm
  rcases hm with rfl | rfl | rfl | rfl
  · exact(show Tryz.prog.wantsStandIn 56=false by kernel_rfl)
  · exact(show Tryz.prog.wantsStandIn 2=false by kernel_rfl)
  · exact(show Tryz.prog.wantsStandIn 9=false by kernel_rfl)
  · exact(show Tryz.prog.wantsStandIn 4=false by kernel_rfl)
end Go.Proofs.YtebnbhjcfanddaaGreatDoor.fnExactAnswerOf
namespace Go.Proofs.YtebnbhjcfanddaaGreatDoor
theorem fnExactAnswerOf_holds:Rows.FnExactAnswerOfCardSaid :=
  Claim7.holds_tied_plain_at .later [] _ _ _ _ fnExactAnswerOf.said (λ_ h => by cases h) (by kernel_rfl) (λ_ h => by cases h) fnExactAnswerOf_row_tie rfl ⟨rfl,rfl⟩ (by kernel_rfl) rfl fnExactAnswerOf.plain (by kernel_rfl)
#print axioms fnExactAnswerOf_holds
end Go.Proofs.YtebnbhjcfanddaaGreatDoor
