/- Functions of the program, walked by the evaluator. -/
import Derived.Test.YtebnbhjcfanddaaDoorWb
import Derived.Test.YtebnbhjcfanddaaDoorWa
import Derived.Test.YtebnbhjcfanddaaDoorFa
import Derived.Test.YtebnbhjcfanddaaDoorFb
set_option linter.unusedVariables false
set_option linter.unusedSimpArgs false
set_option autoImplicit false
set_option maxRecDepth 100000
set_option maxHeartbeats 4000000
set_option linter.defProp false
namespace Go.Vm.A
open Go.Proofs
open Nat renaming reduceAdd -> nA, reduceSub -> nS, reduceMul -> nM, reduceBEq -> nB, reduceEqDiff -> nE, reduceLeDiff -> nL, reduceLT -> nT, reduceBneDiff -> nN
open Int renaming reduceLE -> iL, reduceLT -> iT, reduceEq -> iE, reduceAdd -> iA, reduceMul -> iM, reduceSub -> iS, reduceNeg -> iG, reduceBEq -> iB, reduceBNe -> iN, reduceToNat -> iZ
noncomputable section
def s22:SP Tryd.prog:=mkS tyA 22 Tryd.f22 [s49,s50] {md:=[.ro 1,.ro 1],rg:=[(0,[2,3],[2,3]),(1,[2,3,9],[2,3]),(2,[4],[]),(3,[2,3,15],[2,3]),(4,[4],[]),(5,[21],[]),(6,[4],[]),(7,[4],[])],rets:=some ([4],[])} Tryd.func22 (by kernel_rfl)
@[go_sem] def d22:s22.g=22/\s22.fs=⟨[.ro 1,.ro 1],s22.F,false⟩:=⟨nr rfl,nr rfl⟩
@[go_sem] def e22(w0:Int)(w1:List Xj)(w2:List UInt8)(w3:Int)(w4:List Xj)(w5:List UInt8)(h0:QO (Response.mk w0 w1 w2)):s22.F [.agg [.i .i64 w0,.sl .ro 2 (w1.map (Xc .ro)),.sl .ro 1 (w2.map XH)],.agg [.i .i64 w3,.sl .ro 2 (w4.map (Xc .ro)),.sl .ro 1 (w5.map XH)]]=some (.b (eqv (Response.mk w0 w1 w2) (Response.mk w3 w4 w5)),[.u,.u]):=XI (0) rfl rfl (λcx h=>by
 obtain⟨q0,q1,q2⟩:=h0
 simp only[go_sem,reduceIte,↓reduceIte,reduceCtorEq,nA,nS,nM,nB,nE,nL,nT,nN,iL,iT,iE,iA,iM,iS,iG,iB,iN,iZ,h,Z1,Zg,ZC,q0,q1,q2]
 simp only[Qj,Q0,Response.eqv (Response.mk w0 w1 w2) (Response.mk w3 w4 w5),Xku,QN,Xe1,Bool.and_true]) (rfl)
def s38:SP Tryd.prog:=mkS tyA 38 Tryd.f38 [s49] {md:=[.ro 1,.ro 1],rg:=[(0,[2,3],[2,3]),(1,[2,3,9],[2,3]),(2,[4],[]),(3,[2,3,14],[2,3]),(4,[4],[]),(5,[2,3,19],[2,3]),(6,[4],[]),(7,[25],[]),(8,[4],[]),(9,[4],[])],rets:=some ([4],[])} Tryd.func38 (by kernel_rfl)
@[go_sem] def d38:s38.g=38/\s38.fs=⟨[.ro 1,.ro 1],s38.F,false⟩:=⟨nr rfl,nr rfl⟩
@[go_sem] def e38(w6 w7 w8:ByteArray)(w1:List Xj)(w9 w10 w11:ByteArray)(w4:List Xj)(h0:Ut (Request.mk w6 w7 w8 w1)):s38.F [.agg [.s w6,.s w7,.s w8,.sl .ro 2 (w1.map (Xc .ro))],.agg [.s w9,.s w10,.s w11,.sl .ro 2 (w4.map (Xc .ro))]]=some (.b (eqv (Request.mk w6 w7 w8 w1) (Request.mk w9 w10 w11 w4)),[.u,.u]):=XI (0) rfl rfl (λcx h=>by
 obtain⟨q0,q1,q2,q3⟩:=h0
 simp only[go_sem,reduceIte,↓reduceIte,reduceCtorEq,nA,nS,nM,nB,nE,nL,nT,nN,iL,iT,iE,iA,iM,iS,iG,iB,iN,iZ,h,Z1,Zg,ZC,q0,q1,q2,q3]
 simp only[Qj,Q0,Request.eqv (Request.mk w6 w7 w8 w1) (Request.mk w9 w10 w11 w4),Xku,QN,Xe1,Bool.and_true]) (rfl)
def s16:SP Tryd.prog:=mkS tyA 16 Tryd.f16 [s22,s38] {md:=[.ro 1,.ro 1],rg:=[(0,[2,3],[2,3]),(1,[2,3,9],[2,3]),(2,[4],[]),(3,[2,3,14],[2,3]),(4,[4],[]),(5,[2,3,19],[2,3]),(6,[4],[]),(7,[2,3,25],[2,3]),(8,[4],[]),(9,[31],[]),(10,[4],[]),(11,[4],[])],rets:=some ([4],[])} Tryd.func16 (by kernel_rfl)
@[go_sem] def d16:s16.g=16/\s16.fs=⟨[.ro 1,.ro 1],s16.F,false⟩:=⟨nr rfl,nr rfl⟩
@[go_sem] def e16(w12 xId:Int)(w13:ByteArray)(w14:Int)(w15:List Xj)(w16:List UInt8)(w17 w18 w19:ByteArray)(w20:List Xj)(w21 yId:Int)(w22:ByteArray)(w23:Int)(w24:List Xj)(w25:List UInt8)(w26 w27 w28:ByteArray)(w29:List Xj)(h0:Xe3 (Out.mk w12 xId w13 (Response.mk w14 w15 w16) (Request.mk w17 w18 w19 w20))):s16.F [.agg [.i .i64 w12,.i .i64 xId,.s w13,.i .i64 w14,.sl .ro 2 (w15.map (Xc .ro)),.sl .ro 1 (w16.map XH),.s w17,.s w18,.s w19,.sl .ro 2 (w20.map (Xc .ro))],.agg [.i .i64 w21,.i .i64 yId,.s w22,.i .i64 w23,.sl .ro 2 (w24.map (Xc .ro)),.sl .ro 1 (w25.map XH),.s w26,.s w27,.s w28,.sl .ro 2 (w29.map (Xc .ro))]]=some (.b (eqv (Out.mk w12 xId w13 (Response.mk w14 w15 w16) (Request.mk w17 w18 w19 w20)) (Out.mk w21 yId w22 (Response.mk w23 w24 w25) (Request.mk w26 w27 w28 w29))),[.u,.u]):=XI (0) rfl rfl (λcx h=>by
 obtain⟨q0,q1,q2,q3,q4⟩:=h0
 simp only[go_sem,reduceIte,↓reduceIte,reduceCtorEq,nA,nS,nM,nB,nE,nL,nT,nN,iL,iT,iE,iA,iM,iS,iG,iB,iN,iZ,h,Z1,Zg,ZC,q0,q1,q2,q3,q4]
 simp only[Qj,Q0,Out.eqv (Out.mk w12 xId w13 (Response.mk w14 w15 w16) (Request.mk w17 w18 w19 w20)) (Out.mk w21 yId w22 (Response.mk w23 w24 w25) (Request.mk w26 w27 w28 w29)),Xku,QN,Xe1,Bool.and_true]) (rfl)
@[go_sem] def Xng(w30:Int)(w31:ByteArray)(w32:Int)(w33:ByteArray):s15.F [.agg [.i .i64 w30,.s w31],.agg [.i .i64 w32,.s w33]]=some (.b (eqv (Xt.mk w30 w31) (Xt.mk w32 w33)),[.u,.u]):=XI (0) rfl rfl (λcx h=>by
 simp only[go_sem,reduceIte,↓reduceIte,reduceCtorEq,nA,nS,nM,nB,nE,nL,nT,nN,iL,iT,iE,iA,iM,iS,iG,iB,iN,iZ,h,Z1,Zg,ZC,h,h]
 simp only[Qj,Q0,Xt.eqv (Xt.mk w30 w31) (Xt.mk w32 w33),Xku,QN,Xe1,Bool.and_true]) (rfl)
def s4:SP Tryd.prog:=mkS tyA 4 Tryd.f4 [s11,s12,s13,s14,s15,s16] {md:=[.ro 1],rg:=[(0,[1],[1]),(1,[1,3],[1]),(2,[1,3],[1]),(3,[1,11],[1]),(4,[2],[]),(5,[1,4],[1,4]),(6,[1,4,5],[1,4,5]),(7,[1,4,5,6],[1,4,5,6]),(8,[1,5,22],[1,5]),(9,[2],[]),(10,[27],[]),(11,[2],[]),(12,[2],[])],rets:=some ([2],[]),plan:=[(10,(.take 0 (.take 1 (.one 2 (.one 3 (.take 4 .done))))))]} Tryd.func4 (by kernel_rfl)
@[go_sem] def d4:s4.g=4/\s4.fs=⟨[.ro 1],s4.F,false⟩:=⟨nr rfl,nr rfl⟩
def e4(w34 oId:Int)(w35:ByteArray)(w36:Int)(w37:List Xj)(w38:List UInt8)(w39 w40 w41:ByteArray)(w42:List Xj)(h0:Xih (Out.mk w34 oId w35 (Response.mk w36 w37 w38) (Request.mk w39 w40 w41 w42))):s4.F [.agg [.i .i64 w34,.i .i64 oId,.s w35,.i .i64 w36,.sl .ro 2 (w37.map (Xc .ro)),.sl .ro 1 (w38.map XH),.s w39,.s w40,.s w41,.sl .ro 2 (w42.map (Xc .ro))]]=some (.b true,[.u]):=XI (0) rfl rfl (λcx h=>by
 have h0_0:=h0
 by_cases hc0:Xe4 (Out.mk w34 oId w35 (Response.mk w36 w37 w38) (Request.mk w39 w40 w41 w42)) 1048576<0
 ·simp only[go_sem,reduceIte,↓reduceIte,reduceCtorEq,nA,nS,nM,nB,nE,nL,nT,nN,iL,iT,iE,iA,iM,iS,iG,iB,iN,iZ,h,hc0,h0_0]
 obtain⟨hs0,hl0⟩:=Xe5 _ _ h0_0 (by decide) (by decide) (show 0<=Xe4 (Out.mk w34 oId w35 (Response.mk w36 w37 w38) (Request.mk w39 w40 w41 w42)) 1048576 by omega)
 obtain⟨R,hR⟩:∃R,X4 (Out.mk w34 oId w35 (Response.mk w36 w37 w38) (Request.mk w39 w40 w41 w42))=R:=⟨_,rfl⟩
 simp only[go_sem,reduceIte,↓reduceIte,reduceCtorEq,nA,nS,nM,nB,nE,nL,nT,nN,iL,iT,iE,iA,iM,iS,iG,iB,iN,iZ,h,hc0,hs0,h0_0,hR,Up]) (rfl)
end
end Go.Vm.A
