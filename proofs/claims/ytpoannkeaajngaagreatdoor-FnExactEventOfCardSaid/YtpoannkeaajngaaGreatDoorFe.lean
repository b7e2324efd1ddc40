/- Functions of the program, walked by the evaluator. -/
import Derived.Test.YtpoannkeaajngaaGreatDoorWb
import Derived.Test.YtpoannkeaajngaaGreatDoorWa
import Derived.Test.YtpoannkeaajngaaGreatDoorFb
import Derived.Test.YtpoannkeaajngaaGreatDoorFc
import Derived.Test.YtpoannkeaajngaaGreatDoorFd
set_option linter.unusedVariables false
set_option linter.unusedSimpArgs false
set_option autoImplicit false
set_option maxRecDepth 100000
set_option maxHeartbeats 4000000
set_option linter.defProp false
namespace Go.Vm.A
open Go.Proofs
open Nat renaming reduceAdd -> nA, reduceSub -> nS, reduceMul -> nM, reduceBEq -> nB, reduceEqDiff -> nE, reduceLeDiff -> nL, reduceLT -> nT, reduceBneDiff -> nN
open Int renaming reduceLE -> iL, reduceLT -> iT, reduceEq -> iE, reduceAdd -> iA, reduceMul -> iM, reduceSub -> iS, reduceNeg -> iG, reduceBEq -> iB, reduceBNe -> iN, reduceToNat -> iZ
noncomputable section
def YC(v:Int)(xs:List Int):Bool:=xs.any λx=>v==x
def Xv(r:Request):Bool:=eqv r.Method ⟨#[]⟩&&eqv r.Host ⟨#[]⟩&&eqv r.Path ⟨#[]⟩&&!decide (0<(r.Headers.length:Int))
def Xw(r:Response):Bool:=(r.Status==0)&&!decide (0<(r.Headers.length:Int))&&!decide (0<(r.Body.length:Int))
def XS(e:Event)(id draw rq rs tx hd:Bool):Bool:=(rq||Xv e.Request)&&(rs||Xw e.Response)&&(id||e.Id==0)&&(draw||e.Draw==0)&&(tx||eqv e.Text ⟨#[]⟩)&&(hd||!e.Hard)
def Xiu{α:Type}(xs:List α):eqv xs []=!decide (0<(xs.length:Int)):=by
 cases xs with
 | nil=>rw[Xak]; rfl
 | cons x r =>
  have h1:eqv (x :: r) []=false:=by
   rw[Bool.eq_false_iff]; intro h; exact absurd (Yn.1 h) (by simp)
  rw[h1]
  have:(0:Int)<((x :: r).length:Int):=by simp only[List.length_cons]; omega
  simp[this]
def Xhl(r:Request):eqv r (Request.mk ⟨#[]⟩ ⟨#[]⟩ ⟨#[]⟩ [])=Xv r:=by
 rw[Request.eqv]
 simp only[Xiu,Xv,Bool.and_true,Bool.and_assoc]
def Xhm(r:Response):eqv r (Response.mk 0 [] [])=Xw r:=by
 rw[Response.eqv]
 simp only[Xiu,Xw,Q2,Bool.and_true,Bool.and_assoc]
def s95:SP Tryz.prog:=mkS tyA 95 Tryz.f95 [] {md:=[.ro 1,.ro 1,.ro 1,.ro 1,.ro 1,.ro 1,.ro 1],rg:=[(0,[0,1,2,3,4,5,6],[]),(1,[0,1,2,4,5,6,49],[]),(2,[14],[]),(3,[0,1,2,5,6,77],[]),(4,[14],[]),(5,[14],[])],rets:=some ([14],[])} Tryz.func95 (by kernel_rfl)
@[go_sem] def d95:s95.g=95/\s95.fs=⟨[.ro 1,.ro 1,.ro 1,.ro 1,.ro 1,.ro 1,.ro 1],s95.F,false⟩:=⟨nr rfl,nr rfl⟩
@[go_sem] def XoQ(q0 eId q1:Int)(q2 q3 q4:ByteArray)(q5:List Xg)(q6:Int)(q7:List Xg)(q8:List UInt8)(q9:ByteArray)(q10:Bool):s95.F [.pr [.i .i64 q0,.i .i64 eId,.i .i64 q1,.s q2,.s q3,.s q4,.sl .ro 2 (q5.map (Xb .ro)),.i .i64 q6,.sl .ro 2 (q7.map (Xb .ro)),.sl .ro 1 (q8.map XE),.s q9,.b q10],.b true,.b true,.b true,.b false,.b false,.b false]=some (.b (XS (Event.mk q0 eId q1 (Request.mk q2 q3 q4 q5) (Response.mk q6 q7 q8) q9 q10) true true true false false false),[.u,.u,.u,.u,.u,.u,.u]):=Xj (0) rfl rfl (λcx h=>by
 cases c1:q6==0
 ·have c1':(q6 !=0)=true:=by rw[bne,c1]; rfl
  simp only[go_sem,reduceIte,↓reduceIte,reduceCtorEq,nA,nS,nM,nB,nE,nL,nT,nN,iL,iT,iE,iA,iM,iS,iG,iB,iN,iZ,h,c1,c1',XS,Xv,Xw,Xa,Xc]
 have c1':(q6 !=0)=false:=by rw[bne,c1]; rfl
 by_cases c2:0<(q7.length:Int)
 skip
 ·simp only[go_sem,reduceIte,↓reduceIte,reduceCtorEq,nA,nS,nM,nB,nE,nL,nT,nN,iL,iT,iE,iA,iM,iS,iG,iB,iN,iZ,h,c1,c1',c2,XS,Xv,Xw,Xa,Xc]
 by_cases c3:0<(q8.length:Int)
 skip
 ·simp only[go_sem,reduceIte,↓reduceIte,reduceCtorEq,nA,nS,nM,nB,nE,nL,nT,nN,iL,iT,iE,iA,iM,iS,iG,iB,iN,iZ,h,c1,c1',c2,c3,XS,Xv,Xw,Xa,Xc]
 cases d3:eqv q9 ⟨#[]⟩
 skip
 ·simp only[go_sem,reduceIte,↓reduceIte,reduceCtorEq,nA,nS,nM,nB,nE,nL,nT,nN,iL,iT,iE,iA,iM,iS,iG,iB,iN,iZ,h,c1,c1',c2,c3,d3,XS,Xv,Xw,Xa,Xc]
 cases q10<;>simp only[go_sem,reduceIte,↓reduceIte,reduceCtorEq,nA,nS,nM,nB,nE,nL,nT,nN,iL,iT,iE,iA,iM,iS,iG,iB,iN,iZ,h,c1,c1',c2,c3,d3,XS,Xv,Xw,Xa,Xc]) (rfl)
@[go_sem] def XoR(q0 eId q1:Int)(q2 q3 q4:ByteArray)(q5:List Xg)(q6:Int)(q7:List Xg)(q8:List UInt8)(q9:ByteArray)(q10:Bool):s95.F [.pr [.i .i64 q0,.i .i64 eId,.i .i64 q1,.s q2,.s q3,.s q4,.sl .ro 2 (q5.map (Xb .ro)),.i .i64 q6,.sl .ro 2 (q7.map (Xb .ro)),.sl .ro 1 (q8.map XE),.s q9,.b q10],.b true,.b false,.b false,.b true,.b false,.b false]=some (.b (XS (Event.mk q0 eId q1 (Request.mk q2 q3 q4 q5) (Response.mk q6 q7 q8) q9 q10) true false false true false false),[.u,.u,.u,.u,.u,.u,.u]):=Xj (0) rfl rfl (λcx h=>by
 cases a0:eqv q2 ⟨#[]⟩
 skip
 ·simp only[go_sem,reduceIte,↓reduceIte,reduceCtorEq,nA,nS,nM,nB,nE,nL,nT,nN,iL,iT,iE,iA,iM,iS,iG,iB,iN,iZ,h,a0,XS,Xv,Xw,Xa,Xc]
 cases a1:eqv q3 ⟨#[]⟩
 skip
 ·simp only[go_sem,reduceIte,↓reduceIte,reduceCtorEq,nA,nS,nM,nB,nE,nL,nT,nN,iL,iT,iE,iA,iM,iS,iG,iB,iN,iZ,h,a0,a1,XS,Xv,Xw,Xa,Xc]
 cases a2:eqv q4 ⟨#[]⟩
 skip
 ·simp only[go_sem,reduceIte,↓reduceIte,reduceCtorEq,nA,nS,nM,nB,nE,nL,nT,nN,iL,iT,iE,iA,iM,iS,iG,iB,iN,iZ,h,a0,a1,a2,XS,Xv,Xw,Xa,Xc]
 by_cases a3:0<(q5.length:Int)
 skip
 ·simp only[go_sem,reduceIte,↓reduceIte,reduceCtorEq,nA,nS,nM,nB,nE,nL,nT,nN,iL,iT,iE,iA,iM,iS,iG,iB,iN,iZ,h,a0,a1,a2,a3,XS,Xv,Xw,Xa,Xc]
 cases d2:q1==0
 skip
 ·simp only[go_sem,reduceIte,↓reduceIte,reduceCtorEq,nA,nS,nM,nB,nE,nL,nT,nN,iL,iT,iE,iA,iM,iS,iG,iB,iN,iZ,h,a0,a1,a2,a3,d2,XS,Xv,Xw,Xa,Xc]
 cases d3:eqv q9 ⟨#[]⟩
 skip
 ·simp only[go_sem,reduceIte,↓reduceIte,reduceCtorEq,nA,nS,nM,nB,nE,nL,nT,nN,iL,iT,iE,iA,iM,iS,iG,iB,iN,iZ,h,a0,a1,a2,a3,d2,d3,XS,Xv,Xw,Xa,Xc]
 cases q10<;>simp only[go_sem,reduceIte,↓reduceIte,reduceCtorEq,nA,nS,nM,nB,nE,nL,nT,nN,iL,iT,iE,iA,iM,iS,iG,iB,iN,iZ,h,a0,a1,a2,a3,d2,d3,XS,Xv,Xw,Xa,Xc]) (rfl)
@[go_sem] def XoS(q0 eId q1:Int)(q2 q3 q4:ByteArray)(q5:List Xg)(q6:Int)(q7:List Xg)(q8:List UInt8)(q9:ByteArray)(q10:Bool):s95.F [.pr [.i .i64 q0,.i .i64 eId,.i .i64 q1,.s q2,.s q3,.s q4,.sl .ro 2 (q5.map (Xb .ro)),.i .i64 q6,.sl .ro 2 (q7.map (Xb .ro)),.sl .ro 1 (q8.map XE),.s q9,.b q10],.b true,.b false,.b false,.b false,.b false,.b false]=some (.b (XS (Event.mk q0 eId q1 (Request.mk q2 q3 q4 q5) (Response.mk q6 q7 q8) q9 q10) true false false false false false),[.u,.u,.u,.u,.u,.u,.u]):=Xj (0) rfl rfl (λcx h=>by
 cases a0:eqv q2 ⟨#[]⟩
 skip
 ·simp only[go_sem,reduceIte,↓reduceIte,reduceCtorEq,nA,nS,nM,nB,nE,nL,nT,nN,iL,iT,iE,iA,iM,iS,iG,iB,iN,iZ,h,a0,XS,Xv,Xw,Xa,Xc]
 cases a1:eqv q3 ⟨#[]⟩
 skip
 ·simp only[go_sem,reduceIte,↓reduceIte,reduceCtorEq,nA,nS,nM,nB,nE,nL,nT,nN,iL,iT,iE,iA,iM,iS,iG,iB,iN,iZ,h,a0,a1,XS,Xv,Xw,Xa,Xc]
 cases a2:eqv q4 ⟨#[]⟩
 skip
 ·simp only[go_sem,reduceIte,↓reduceIte,reduceCtorEq,nA,nS,nM,nB,nE,nL,nT,nN,iL,iT,iE,iA,iM,iS,iG,iB,iN,iZ,h,a0,a1,a2,XS,Xv,Xw,Xa,Xc]
 by_cases a3:0<(q5.length:Int)
 skip
 ·simp only[go_sem,reduceIte,↓reduceIte,reduceCtorEq,nA,nS,nM,nB,nE,nL,nT,nN,iL,iT,iE,iA,iM,iS,iG,iB,iN,iZ,h,a0,a1,a2,a3,XS,Xv,Xw,Xa,Xc]
 cases c1:q6==0
 ·have c1':(q6 !=0)=true:=by rw[bne,c1]; rfl
  simp only[go_sem,reduceIte,↓reduceIte,reduceCtorEq,nA,nS,nM,nB,nE,nL,nT,nN,iL,iT,iE,iA,iM,iS,iG,iB,iN,iZ,h,a0,a1,a2,a3,c1,c1',XS,Xv,Xw,Xa,Xc]
 have c1':(q6 !=0)=false:=by rw[bne,c1]; rfl
 by_cases c2:0<(q7.length:Int)
 skip
 ·simp only[go_sem,reduceIte,↓reduceIte,reduceCtorEq,nA,nS,nM,nB,nE,nL,nT,nN,iL,iT,iE,iA,iM,iS,iG,iB,iN,iZ,h,a0,a1,a2,a3,c1,c1',c2,XS,Xv,Xw,Xa,Xc]
 by_cases c3:0<(q8.length:Int)
 skip
 ·simp only[go_sem,reduceIte,↓reduceIte,reduceCtorEq,nA,nS,nM,nB,nE,nL,nT,nN,iL,iT,iE,iA,iM,iS,iG,iB,iN,iZ,h,a0,a1,a2,a3,c1,c1',c2,c3,XS,Xv,Xw,Xa,Xc]
 cases d2:q1==0
 skip
 ·simp only[go_sem,reduceIte,↓reduceIte,reduceCtorEq,nA,nS,nM,nB,nE,nL,nT,nN,iL,iT,iE,iA,iM,iS,iG,iB,iN,iZ,h,a0,a1,a2,a3,c1,c1',c2,c3,d2,XS,Xv,Xw,Xa,Xc]
 cases d3:eqv q9 ⟨#[]⟩
 skip
 ·simp only[go_sem,reduceIte,↓reduceIte,reduceCtorEq,nA,nS,nM,nB,nE,nL,nT,nN,iL,iT,iE,iA,iM,iS,iG,iB,iN,iZ,h,a0,a1,a2,a3,c1,c1',c2,c3,d2,d3,XS,Xv,Xw,Xa,Xc]
 cases q10<;>simp only[go_sem,reduceIte,↓reduceIte,reduceCtorEq,nA,nS,nM,nB,nE,nL,nT,nN,iL,iT,iE,iA,iM,iS,iG,iB,iN,iZ,h,a0,a1,a2,a3,c1,c1',c2,c3,d2,d3,XS,Xv,Xw,Xa,Xc]) (rfl)
@[go_sem] def XoT(q0 eId q1:Int)(q2 q3 q4:ByteArray)(q5:List Xg)(q6:Int)(q7:List Xg)(q8:List UInt8)(q9:ByteArray)(q10:Bool):s95.F [.pr [.i .i64 q0,.i .i64 eId,.i .i64 q1,.s q2,.s q3,.s q4,.sl .ro 2 (q5.map (Xb .ro)),.i .i64 q6,.sl .ro 2 (q7.map (Xb .ro)),.sl .ro 1 (q8.map XE),.s q9,.b q10],.b false,.b false,.b false,.b false,.b true,.b true]=some (.b (XS (Event.mk q0 eId q1 (Request.mk q2 q3 q4 q5) (Response.mk q6 q7 q8) q9 q10) false false false false true true),[.u,.u,.u,.u,.u,.u,.u]):=Xj (0) rfl rfl (λcx h=>by
 cases a0:eqv q2 ⟨#[]⟩
 skip
 ·simp only[go_sem,reduceIte,↓reduceIte,reduceCtorEq,nA,nS,nM,nB,nE,nL,nT,nN,iL,iT,iE,iA,iM,iS,iG,iB,iN,iZ,h,a0,XS,Xv,Xw,Xa,Xc]
 cases a1:eqv q3 ⟨#[]⟩
 skip
 ·simp only[go_sem,reduceIte,↓reduceIte,reduceCtorEq,nA,nS,nM,nB,nE,nL,nT,nN,iL,iT,iE,iA,iM,iS,iG,iB,iN,iZ,h,a0,a1,XS,Xv,Xw,Xa,Xc]
 cases a2:eqv q4 ⟨#[]⟩
 skip
 ·simp only[go_sem,reduceIte,↓reduceIte,reduceCtorEq,nA,nS,nM,nB,nE,nL,nT,nN,iL,iT,iE,iA,iM,iS,iG,iB,iN,iZ,h,a0,a1,a2,XS,Xv,Xw,Xa,Xc]
 by_cases a3:0<(q5.length:Int)
 skip
 ·simp only[go_sem,reduceIte,↓reduceIte,reduceCtorEq,nA,nS,nM,nB,nE,nL,nT,nN,iL,iT,iE,iA,iM,iS,iG,iB,iN,iZ,h,a0,a1,a2,a3,XS,Xv,Xw,Xa,Xc]
 cases c1:q6==0
 ·have c1':(q6 !=0)=true:=by rw[bne,c1]; rfl
  simp only[go_sem,reduceIte,↓reduceIte,reduceCtorEq,nA,nS,nM,nB,nE,nL,nT,nN,iL,iT,iE,iA,iM,iS,iG,iB,iN,iZ,h,a0,a1,a2,a3,c1,c1',XS,Xv,Xw,Xa,Xc]
 have c1':(q6 !=0)=false:=by rw[bne,c1]; rfl
 by_cases c2:0<(q7.length:Int)
 skip
 ·simp only[go_sem,reduceIte,↓reduceIte,reduceCtorEq,nA,nS,nM,nB,nE,nL,nT,nN,iL,iT,iE,iA,iM,iS,iG,iB,iN,iZ,h,a0,a1,a2,a3,c1,c1',c2,XS,Xv,Xw,Xa,Xc]
 by_cases c3:0<(q8.length:Int)
 skip
 ·simp only[go_sem,reduceIte,↓reduceIte,reduceCtorEq,nA,nS,nM,nB,nE,nL,nT,nN,iL,iT,iE,iA,iM,iS,iG,iB,iN,iZ,h,a0,a1,a2,a3,c1,c1',c2,c3,XS,Xv,Xw,Xa,Xc]
 cases d1:eId==0
 skip
 ·simp only[go_sem,reduceIte,↓reduceIte,reduceCtorEq,nA,nS,nM,nB,nE,nL,nT,nN,iL,iT,iE,iA,iM,iS,iG,iB,iN,iZ,h,a0,a1,a2,a3,c1,c1',c2,c3,d1,XS,Xv,Xw,Xa,Xc]
 cases d2:q1==0
 skip
 ·simp only[go_sem,reduceIte,↓reduceIte,reduceCtorEq,nA,nS,nM,nB,nE,nL,nT,nN,iL,iT,iE,iA,iM,iS,iG,iB,iN,iZ,h,a0,a1,a2,a3,c1,c1',c2,c3,d1,d2,XS,Xv,Xw,Xa,Xc]
 simp only[go_sem,reduceIte,↓reduceIte,reduceCtorEq,nA,nS,nM,nB,nE,nL,nT,nN,iL,iT,iE,iA,iM,iS,iG,iB,iN,iZ,h,a0,a1,a2,a3,c1,c1',c2,c3,d1,d2,XS,Xv,Xw,Xa,Xc]) (rfl)
@[go_sem] def XoU(q0 eId q1:Int)(q2 q3 q4:ByteArray)(q5:List Xg)(q6:Int)(q7:List Xg)(q8:List UInt8)(q9:ByteArray)(q10:Bool):s95.F [.pr [.i .i64 q0,.i .i64 eId,.i .i64 q1,.s q2,.s q3,.s q4,.sl .ro 2 (q5.map (Xb .ro)),.i .i64 q6,.sl .ro 2 (q7.map (Xb .ro)),.sl .ro 1 (q8.map XE),.s q9,.b q10],.b false,.b false,.b false,.b false,.b false,.b true]=some (.b (XS (Event.mk q0 eId q1 (Request.mk q2 q3 q4 q5) (Response.mk q6 q7 q8) q9 q10) false false false false false true),[.u,.u,.u,.u,.u,.u,.u]):=Xj (0) rfl rfl (λcx h=>by
 cases a0:eqv q2 ⟨#[]⟩
 skip
 ·simp only[go_sem,reduceIte,↓reduceIte,reduceCtorEq,nA,nS,nM,nB,nE,nL,nT,nN,iL,iT,iE,iA,iM,iS,iG,iB,iN,iZ,h,a0,XS,Xv,Xw,Xa,Xc]
 cases a1:eqv q3 ⟨#[]⟩
 skip
 ·simp only[go_sem,reduceIte,↓reduceIte,reduceCtorEq,nA,nS,nM,nB,nE,nL,nT,nN,iL,iT,iE,iA,iM,iS,iG,iB,iN,iZ,h,a0,a1,XS,Xv,Xw,Xa,Xc]
 cases a2:eqv q4 ⟨#[]⟩
 skip
 ·simp only[go_sem,reduceIte,↓reduceIte,reduceCtorEq,nA,nS,nM,nB,nE,nL,nT,nN,iL,iT,iE,iA,iM,iS,iG,iB,iN,iZ,h,a0,a1,a2,XS,Xv,Xw,Xa,Xc]
 by_cases a3:0<(q5.length:Int)
 skip
 ·simp only[go_sem,reduceIte,↓reduceIte,reduceCtorEq,nA,nS,nM,nB,nE,nL,nT,nN,iL,iT,iE,iA,iM,iS,iG,iB,iN,iZ,h,a0,a1,a2,a3,XS,Xv,Xw,Xa,Xc]
 cases c1:q6==0
 ·have c1':(q6 !=0)=true:=by rw[bne,c1]; rfl
  simp only[go_sem,reduceIte,↓reduceIte,reduceCtorEq,nA,nS,nM,nB,nE,nL,nT,nN,iL,iT,iE,iA,iM,iS,iG,iB,iN,iZ,h,a0,a1,a2,a3,c1,c1',XS,Xv,Xw,Xa,Xc]
 have c1':(q6 !=0)=false:=by rw[bne,c1]; rfl
 by_cases c2:0<(q7.length:Int)
 skip
 ·simp only[go_sem,reduceIte,↓reduceIte,reduceCtorEq,nA,nS,nM,nB,nE,nL,nT,nN,iL,iT,iE,iA,iM,iS,iG,iB,iN,iZ,h,a0,a1,a2,a3,c1,c1',c2,XS,Xv,Xw,Xa,Xc]
 by_cases c3:0<(q8.length:Int)
 skip
 ·simp only[go_sem,reduceIte,↓reduceIte,reduceCtorEq,nA,nS,nM,nB,nE,nL,nT,nN,iL,iT,iE,iA,iM,iS,iG,iB,iN,iZ,h,a0,a1,a2,a3,c1,c1',c2,c3,XS,Xv,Xw,Xa,Xc]
 cases d1:eId==0
 skip
 ·simp only[go_sem,reduceIte,↓reduceIte,reduceCtorEq,nA,nS,nM,nB,nE,nL,nT,nN,iL,iT,iE,iA,iM,iS,iG,iB,iN,iZ,h,a0,a1,a2,a3,c1,c1',c2,c3,d1,XS,Xv,Xw,Xa,Xc]
 cases d2:q1==0
 skip
 ·simp only[go_sem,reduceIte,↓reduceIte,reduceCtorEq,nA,nS,nM,nB,nE,nL,nT,nN,iL,iT,iE,iA,iM,iS,iG,iB,iN,iZ,h,a0,a1,a2,a3,c1,c1',c2,c3,d1,d2,XS,Xv,Xw,Xa,Xc]
 cases d3:eqv q9 ⟨#[]⟩
 skip
 ·simp only[go_sem,reduceIte,↓reduceIte,reduceCtorEq,nA,nS,nM,nB,nE,nL,nT,nN,iL,iT,iE,iA,iM,iS,iG,iB,iN,iZ,h,a0,a1,a2,a3,c1,c1',c2,c3,d1,d2,d3,XS,Xv,Xw,Xa,Xc]
 simp only[go_sem,reduceIte,↓reduceIte,reduceCtorEq,nA,nS,nM,nB,nE,nL,nT,nN,iL,iT,iE,iA,iM,iS,iG,iB,iN,iZ,h,a0,a1,a2,a3,c1,c1',c2,c3,d1,d2,d3,XS,Xv,Xw,Xa,Xc]) (rfl)
def QL(a:Int):Bool:=within a 0 1000000000000000
def s96:SP Tryz.prog:=mkS tyA 96 Tryz.f96 [s41] {md:=[.ro 1],rets:=some ([2],[])} Tryz.func96 (by kernel_rfl)
@[go_sem] def d96:s96.g=96/\s96.fs=⟨[.ro 1],s96.F,false⟩:=⟨nr rfl,nr rfl⟩
@[go_sem] def e96(a:Int):s96.F [.i .i64 a]=some (.b (QL a),[.u]):=Xj (0) rfl rfl (λcx h=>by
 simp only[go_sem,reduceIte,↓reduceIte,reduceCtorEq,nA,nS,nM,nB,nE,nL,nT,nN,iL,iT,iE,iA,iM,iS,iG,iB,iN,iZ,h,QL]) (rfl)
def n1E(e:Event):Bool:=(e.Id==0)||YC e.Kind [1,2,3,4]
def n2E(e:Event):Bool:=(e.Draw==0)||(e.Kind==1)
def n3E(e:Event):Bool:=Xv e.Request||(e.Kind==1)
def n4E(e:Event):Bool:=Xw e.Response||(e.Kind==2)
def n5E(e:Event):Bool:=eqv e.Text ⟨#[]⟩||YC e.Kind [5,6]
def n6E(e:Event):Bool:=!e.Hard||YC e.Kind [5,6,7]
def ZM(e:Event):Bool:=within e.Kind 1 7&&n1E e&&n2E e&&n3E e&&n4E e&&n5E e&&n6E e
def Zo(e:Event):Int:=if(e.Kind==1)=true then Xs e.Request else if(e.Kind==2)=true then XZ e.Response else 0
def Yf(e:Event):Int:=Xab [if(!ZM e)=true then 1 else 0,if(!(QL e.Id&&within e.Draw 0 999))=true then 3 else 0,Zo e,if decide (500<(e.Text.size:Int))=true then 2 else 0]
def Ui{e:Event}{i:Int}(h:e.Kind=i):ZM e=(within i 1 7&&((e.Id==0)||YC i [1,2,3,4])&&((e.Draw==0)||(i==1))&&(Xv e.Request||(i==1))&&(Xw e.Response||(i==2))&&(eqv e.Text ⟨#[]⟩||YC i [5,6])&&(!e.Hard||YC i [5,6,7])):=by
 subst h; rfl
def Xkr{e:Event}(h:e.Kind=1):ZM e=XS e true true true false false false:=by
 rw[Ui h,show within 1 1 7=true from rfl,show YC 1 [1,2,3,4]=true from rfl,show YC 1 [5,6]=false from rfl,show YC 1 [5,6,7]=false from rfl,show((1:Int)==1)=true from rfl,show((1:Int)==2)=false from rfl]
 unfold XS
 cases e.Id==0<;>cases e.Draw==0<;>cases Xv e.Request<;>cases Xw e.Response<;>cases eqv e.Text ⟨#[]⟩<;>cases e.Hard<;>rfl
def Xks{e:Event}(h:e.Kind=2):ZM e=XS e true false false true false false:=by
 rw[Ui h,show within 2 1 7=true from rfl,show YC 2 [1,2,3,4]=true from rfl,show YC 2 [5,6]=false from rfl,show YC 2 [5,6,7]=false from rfl,show((2:Int)==1)=false from rfl,show((2:Int)==2)=true from rfl]
 unfold XS
 cases e.Id==0<;>cases e.Draw==0<;>cases Xv e.Request<;>cases Xw e.Response<;>cases eqv e.Text ⟨#[]⟩<;>cases e.Hard<;>rfl
def Xkt{e:Event}(h:e.Kind=3):ZM e=XS e true false false false false false:=by
 rw[Ui h,show within 3 1 7=true from rfl,show YC 3 [1,2,3,4]=true from rfl,show YC 3 [5,6]=false from rfl,show YC 3 [5,6,7]=false from rfl,show((3:Int)==1)=false from rfl,show((3:Int)==2)=false from rfl]
 unfold XS
 cases e.Id==0<;>cases e.Draw==0<;>cases Xv e.Request<;>cases Xw e.Response<;>cases eqv e.Text ⟨#[]⟩<;>cases e.Hard<;>rfl
def Xku{e:Event}(h:e.Kind=4):ZM e=XS e true false false false false false:=by
 rw[Ui h,show within 4 1 7=true from rfl,show YC 4 [1,2,3,4]=true from rfl,show YC 4 [5,6]=false from rfl,show YC 4 [5,6,7]=false from rfl,show((4:Int)==1)=false from rfl,show((4:Int)==2)=false from rfl]
 unfold XS
 cases e.Id==0<;>cases e.Draw==0<;>cases Xv e.Request<;>cases Xw e.Response<;>cases eqv e.Text ⟨#[]⟩<;>cases e.Hard<;>rfl
def Xkv{e:Event}(h:e.Kind=5):ZM e=XS e false false false false true true:=by
 rw[Ui h,show within 5 1 7=true from rfl,show YC 5 [1,2,3,4]=false from rfl,show YC 5 [5,6]=true from rfl,show YC 5 [5,6,7]=true from rfl,show((5:Int)==1)=false from rfl,show((5:Int)==2)=false from rfl]
 unfold XS
 cases e.Id==0<;>cases e.Draw==0<;>cases Xv e.Request<;>cases Xw e.Response<;>cases eqv e.Text ⟨#[]⟩<;>cases e.Hard<;>rfl
def Xkw{e:Event}(h:e.Kind=6):ZM e=XS e false false false false true true:=by
 rw[Ui h,show within 6 1 7=true from rfl,show YC 6 [1,2,3,4]=false from rfl,show YC 6 [5,6]=true from rfl,show YC 6 [5,6,7]=true from rfl,show((6:Int)==1)=false from rfl,show((6:Int)==2)=false from rfl]
 unfold XS
 cases e.Id==0<;>cases e.Draw==0<;>cases Xv e.Request<;>cases Xw e.Response<;>cases eqv e.Text ⟨#[]⟩<;>cases e.Hard<;>rfl
def Xkx{e:Event}(h:e.Kind=7):ZM e=XS e false false false false false true:=by
 rw[Ui h,show within 7 1 7=true from rfl,show YC 7 [1,2,3,4]=false from rfl,show YC 7 [5,6]=false from rfl,show YC 7 [5,6,7]=true from rfl,show((7:Int)==1)=false from rfl,show((7:Int)==2)=false from rfl]
 unfold XS
 cases e.Id==0<;>cases e.Draw==0<;>cases Xv e.Request<;>cases Xw e.Response<;>cases eqv e.Text ⟨#[]⟩<;>cases e.Hard<;>rfl
def Xky{e:Event}(h:within e.Kind 1 7=false):ZM e=false:=by
 unfold ZM; rw[h]; simp
def Xdg{e:Event}{a b c d f:Bool}(h:XS e a b c d false f=true):(e.Text.size:Int)=0:=by
 unfold XS at h
 simp only[Bool.false_or,Bool.and_eq_true] at h
 have:=Yn.1 h.1.2
 rw[this]; rfl
def s56:SP Tryz.prog:=mkS tyA 56 Tryz.f56 [s12,s38,s41,s95,s96] {md:=[.ro 1],rg:=[(0,[1],[1]),(1,[1,3],[1]),(2,[1,3,5],[1]),(3,[1,3,5,6],[1]),(4,[1,3],[1]),(5,[1,3,5,9],[1]),(6,[1,3],[1]),(7,[1,3,5,12],[1]),(8,[1,3,5,12],[1]),(9,[1,3],[1]),(10,[1,3,5,16],[1]),(11,[1,3,5,16],[1]),(12,[1,3],[1]),(13,[1,3,20],[1]),(14,[1,3],[1]),(15,[1,23],[1]),(16,[2],[]),(17,[1,26],[1]),(18,[2],[]),(19,[1,37],[1]),(20,[2],[]),(21,[1,44],[1]),(22,[2],[]),(23,[51],[]),(24,[2],[]),(25,[2],[])],rets:=some ([2],[])} Tryz.func56 (by kernel_rfl)
@[go_sem] def d56:s56.g=56/\s56.fs=⟨[.ro 1],s56.F,false⟩:=⟨nr rfl,nr rfl⟩
@[go_sem] def e56(q0 eId q1:Int)(q2 q3 q4:ByteArray)(q5:List Xg)(q6:Int)(q7:List Xg)(q8:List UInt8)(q9:ByteArray)(q10:Bool)(h0:smL Ye q5):s56.F [.agg [.i .i64 q0,.i .i64 eId,.i .i64 q1,.s q2,.s q3,.s q4,.sl .ro 2 (q5.map (Xb .ro)),.i .i64 q6,.sl .ro 2 (q7.map (Xb .ro)),.sl .ro 1 (q8.map XE),.s q9,.b q10]]=some (.i .i64 (Yf (Event.mk q0 eId q1 (Request.mk q2 q3 q4 q5) (Response.mk q6 q7 q8) q9 q10)),[.u]):=Xj (0) rfl rfl (λcx h=>by
 have hH:=h0
 have hu:Yf (Event.mk q0 eId q1 (Request.mk q2 q3 q4 q5) (Response.mk q6 q7 q8) q9 q10)=Xab [if(!ZM (Event.mk q0 eId q1 (Request.mk q2 q3 q4 q5) (Response.mk q6 q7 q8) q9 q10))=true then 1 else 0,if(!(QL eId&&within q1 0 999))=true then 3 else 0,Zo (Event.mk q0 eId q1 (Request.mk q2 q3 q4 q5) (Response.mk q6 q7 q8) q9 q10),if decide (500<(q9.size:Int))=true then 2 else 0]:=rfl
 have hku:Zo (Event.mk q0 eId q1 (Request.mk q2 q3 q4 q5) (Response.mk q6 q7 q8) q9 q10)=(if(q0==1)=true then Xs (Request.mk q2 q3 q4 q5) else if(q0==2)=true then XZ (Response.mk q6 q7 q8) else 0):=rfl
 have key:∀i:Int,q0=i->(∀j:Int,i≠j->(q0==j)=false)/\(q0==i)=true:=λi h=>by subst h; exact⟨λj hj=>by simpa using hj,by simp⟩
 by_cases c:q0=1
 ·have hr:ZM (Event.mk q0 eId q1 (Request.mk q2 q3 q4 q5) (Response.mk q6 q7 q8) q9 q10)=XS (Event.mk q0 eId q1 (Request.mk q2 q3 q4 q5) (Response.mk q6 q7 q8) q9 q10) true true true false false false:=Xkr (e:=(Event.mk q0 eId q1 (Request.mk q2 q3 q4 q5) (Response.mk q6 q7 q8) q9 q10)) c
  have k1:(q0==1)=true:=(key 1 c).2
  have k2:(q0==2)=false:=(key 1 c).1 2 (by decide)
  have k3:(q0==3)=false:=(key 1 c).1 3 (by decide)
  have k4:(q0==4)=false:=(key 1 c).1 4 (by decide)
  have k5:(q0==5)=false:=(key 1 c).1 5 (by decide)
  have k6:(q0==6)=false:=(key 1 c).1 6 (by decide)
  have k7:(q0==7)=false:=(key 1 c).1 7 (by decide)
  cases hz:XS (Event.mk q0 eId q1 (Request.mk q2 q3 q4 q5) (Response.mk q6 q7 q8) q9 q10) true true true false false false
  ·rw[hz] at hr
   simp only[go_sem,reduceIte,↓reduceIte,reduceCtorEq,nA,nS,nM,nB,nE,nL,nT,nN,iL,iT,iE,iA,iM,iS,iG,iB,iN,iZ,h,k1,k2,k3,k4,k5,k6,k7,hz,hr,hu,Xh,Xx]
  rw[hz] at hr
  cases t1:QL eId
  ·simp only[go_sem,reduceIte,↓reduceIte,reduceCtorEq,nA,nS,nM,nB,nE,nL,nT,nN,iL,iT,iE,iA,iM,iS,iG,iB,iN,iZ,h,k1,k2,k3,k4,k5,k6,k7,hz,hr,t1,hu,Xh,Xx]
  cases t2:within q1 0 999
  ·simp only[go_sem,reduceIte,↓reduceIte,reduceCtorEq,nA,nS,nM,nB,nE,nL,nT,nN,iL,iT,iE,iA,iM,iS,iG,iB,iN,iZ,h,k1,k2,k3,k4,k5,k6,k7,hz,hr,t1,t2,hu,Xh,Xx]
  have ht:(q9.size:Int)=0:=Xdg hz
  have ht':¬(500<(q9.size:Int)):=by omega
  by_cases y:Xs (Request.mk q2 q3 q4 q5)=0
  ·simp only[go_sem,reduceIte,↓reduceIte,reduceCtorEq,nA,nS,nM,nB,nE,nL,nT,nN,iL,iT,iE,iA,iM,iS,iG,iB,iN,iZ,h,k1,k2,k3,k4,k5,k6,k7,hz,hr,t1,t2,hH,y,ht',hu,hku,Xh,Xx]
  ·have y':(Xs (Request.mk q2 q3 q4 q5) !=0)=true:=by simpa using y
   simp only[go_sem,reduceIte,↓reduceIte,reduceCtorEq,nA,nS,nM,nB,nE,nL,nT,nN,iL,iT,iE,iA,iM,iS,iG,iB,iN,iZ,h,k1,k2,k3,k4,k5,k6,k7,hz,hr,t1,t2,hH,y',hu,hku,Xh,Xx]
 by_cases c:q0=2
 ·have hr:ZM (Event.mk q0 eId q1 (Request.mk q2 q3 q4 q5) (Response.mk q6 q7 q8) q9 q10)=XS (Event.mk q0 eId q1 (Request.mk q2 q3 q4 q5) (Response.mk q6 q7 q8) q9 q10) true false false true false false:=Xks (e:=(Event.mk q0 eId q1 (Request.mk q2 q3 q4 q5) (Response.mk q6 q7 q8) q9 q10)) c
  have k1:(q0==1)=false:=(key 2 c).1 1 (by decide)
  have k2:(q0==2)=true:=(key 2 c).2
  have k3:(q0==3)=false:=(key 2 c).1 3 (by decide)
  have k4:(q0==4)=false:=(key 2 c).1 4 (by decide)
  have k5:(q0==5)=false:=(key 2 c).1 5 (by decide)
  have k6:(q0==6)=false:=(key 2 c).1 6 (by decide)
  have k7:(q0==7)=false:=(key 2 c).1 7 (by decide)
  cases hz:XS (Event.mk q0 eId q1 (Request.mk q2 q3 q4 q5) (Response.mk q6 q7 q8) q9 q10) true false false true false false
  ·rw[hz] at hr
   simp only[go_sem,reduceIte,↓reduceIte,reduceCtorEq,nA,nS,nM,nB,nE,nL,nT,nN,iL,iT,iE,iA,iM,iS,iG,iB,iN,iZ,h,k1,k2,k3,k4,k5,k6,k7,hz,hr,hu,Xh,Xx]
  rw[hz] at hr
  cases t1:QL eId
  ·simp only[go_sem,reduceIte,↓reduceIte,reduceCtorEq,nA,nS,nM,nB,nE,nL,nT,nN,iL,iT,iE,iA,iM,iS,iG,iB,iN,iZ,h,k1,k2,k3,k4,k5,k6,k7,hz,hr,t1,hu,Xh,Xx]
  cases t2:within q1 0 999
  ·simp only[go_sem,reduceIte,↓reduceIte,reduceCtorEq,nA,nS,nM,nB,nE,nL,nT,nN,iL,iT,iE,iA,iM,iS,iG,iB,iN,iZ,h,k1,k2,k3,k4,k5,k6,k7,hz,hr,t1,t2,hu,Xh,Xx]
  have ht:(q9.size:Int)=0:=Xdg hz
  have ht':¬(500<(q9.size:Int)):=by omega
  by_cases y:XZ (Response.mk q6 q7 q8)=0
  ·simp only[go_sem,reduceIte,↓reduceIte,reduceCtorEq,nA,nS,nM,nB,nE,nL,nT,nN,iL,iT,iE,iA,iM,iS,iG,iB,iN,iZ,h,k1,k2,k3,k4,k5,k6,k7,hz,hr,t1,t2,hH,y,ht',hu,hku,Xh,Xx]
  ·have y':(XZ (Response.mk q6 q7 q8) !=0)=true:=by simpa using y
   simp only[go_sem,reduceIte,↓reduceIte,reduceCtorEq,nA,nS,nM,nB,nE,nL,nT,nN,iL,iT,iE,iA,iM,iS,iG,iB,iN,iZ,h,k1,k2,k3,k4,k5,k6,k7,hz,hr,t1,t2,hH,y',hu,hku,Xh,Xx]
 by_cases c:q0=3
 ·have hr:ZM (Event.mk q0 eId q1 (Request.mk q2 q3 q4 q5) (Response.mk q6 q7 q8) q9 q10)=XS (Event.mk q0 eId q1 (Request.mk q2 q3 q4 q5) (Response.mk q6 q7 q8) q9 q10) true false false false false false:=Xkt (e:=(Event.mk q0 eId q1 (Request.mk q2 q3 q4 q5) (Response.mk q6 q7 q8) q9 q10)) c
  have k1:(q0==1)=false:=(key 3 c).1 1 (by decide)
  have k2:(q0==2)=false:=(key 3 c).1 2 (by decide)
  have k3:(q0==3)=true:=(key 3 c).2
  have k4:(q0==4)=false:=(key 3 c).1 4 (by decide)
  have k5:(q0==5)=false:=(key 3 c).1 5 (by decide)
  have k6:(q0==6)=false:=(key 3 c).1 6 (by decide)
  have k7:(q0==7)=false:=(key 3 c).1 7 (by decide)
  cases hz:XS (Event.mk q0 eId q1 (Request.mk q2 q3 q4 q5) (Response.mk q6 q7 q8) q9 q10) true false false false false false
  ·rw[hz] at hr
   simp only[go_sem,reduceIte,↓reduceIte,reduceCtorEq,nA,nS,nM,nB,nE,nL,nT,nN,iL,iT,iE,iA,iM,iS,iG,iB,iN,iZ,h,k1,k2,k3,k4,k5,k6,k7,hz,hr,hu,Xh,Xx]
  rw[hz] at hr
  cases t1:QL eId
  ·simp only[go_sem,reduceIte,↓reduceIte,reduceCtorEq,nA,nS,nM,nB,nE,nL,nT,nN,iL,iT,iE,iA,iM,iS,iG,iB,iN,iZ,h,k1,k2,k3,k4,k5,k6,k7,hz,hr,t1,hu,Xh,Xx]
  cases t2:within q1 0 999
  ·simp only[go_sem,reduceIte,↓reduceIte,reduceCtorEq,nA,nS,nM,nB,nE,nL,nT,nN,iL,iT,iE,iA,iM,iS,iG,iB,iN,iZ,h,k1,k2,k3,k4,k5,k6,k7,hz,hr,t1,t2,hu,Xh,Xx]
  by_cases ht:500<(q9.size:Int)<;>simp only[go_sem,reduceIte,↓reduceIte,reduceCtorEq,nA,nS,nM,nB,nE,nL,nT,nN,iL,iT,iE,iA,iM,iS,iG,iB,iN,iZ,h,k1,k2,k3,k4,k5,k6,k7,hz,hr,t1,t2,ht,hu,hku,Xh,Xx]
 by_cases c:q0=4
 ·have hr:ZM (Event.mk q0 eId q1 (Request.mk q2 q3 q4 q5) (Response.mk q6 q7 q8) q9 q10)=XS (Event.mk q0 eId q1 (Request.mk q2 q3 q4 q5) (Response.mk q6 q7 q8) q9 q10) true false false false false false:=Xku (e:=(Event.mk q0 eId q1 (Request.mk q2 q3 q4 q5) (Response.mk q6 q7 q8) q9 q10)) c
  have k1:(q0==1)=false:=(key 4 c).1 1 (by decide)
  have k2:(q0==2)=false:=(key 4 c).1 2 (by decide)
  have k3:(q0==3)=false:=(key 4 c).1 3 (by decide)
  have k4:(q0==4)=true:=(key 4 c).2
  have k5:(q0==5)=false:=(key 4 c).1 5 (by decide)
  have k6:(q0==6)=false:=(key 4 c).1 6 (by decide)
  have k7:(q0==7)=false:=(key 4 c).1 7 (by decide)
  cases hz:XS (Event.mk q0 eId q1 (Request.mk q2 q3 q4 q5) (Response.mk q6 q7 q8) q9 q10) true false false false false false
  ·rw[hz] at hr
   simp only[go_sem,reduceIte,↓reduceIte,reduceCtorEq,nA,nS,nM,nB,nE,nL,nT,nN,iL,iT,iE,iA,iM,iS,iG,iB,iN,iZ,h,k1,k2,k3,k4,k5,k6,k7,hz,hr,hu,Xh,Xx]
  rw[hz] at hr
  cases t1:QL eId
  ·simp only[go_sem,reduceIte,↓reduceIte,reduceCtorEq,nA,nS,nM,nB,nE,nL,nT,nN,iL,iT,iE,iA,iM,iS,iG,iB,iN,iZ,h,k1,k2,k3,k4,k5,k6,k7,hz,hr,t1,hu,Xh,Xx]
  cases t2:within q1 0 999
  ·simp only[go_sem,reduceIte,↓reduceIte,reduceCtorEq,nA,nS,nM,nB,nE,nL,nT,nN,iL,iT,iE,iA,iM,iS,iG,iB,iN,iZ,h,k1,k2,k3,k4,k5,k6,k7,hz,hr,t1,t2,hu,Xh,Xx]
  by_cases ht:500<(q9.size:Int)<;>simp only[go_sem,reduceIte,↓reduceIte,reduceCtorEq,nA,nS,nM,nB,nE,nL,nT,nN,iL,iT,iE,iA,iM,iS,iG,iB,iN,iZ,h,k1,k2,k3,k4,k5,k6,k7,hz,hr,t1,t2,ht,hu,hku,Xh,Xx]
 by_cases c:q0=5
 ·have hr:ZM (Event.mk q0 eId q1 (Request.mk q2 q3 q4 q5) (Response.mk q6 q7 q8) q9 q10)=XS (Event.mk q0 eId q1 (Request.mk q2 q3 q4 q5) (Response.mk q6 q7 q8) q9 q10) false false false false true true:=Xkv (e:=(Event.mk q0 eId q1 (Request.mk q2 q3 q4 q5) (Response.mk q6 q7 q8) q9 q10)) c
  have k1:(q0==1)=false:=(key 5 c).1 1 (by decide)
  have k2:(q0==2)=false:=(key 5 c).1 2 (by decide)
  have k3:(q0==3)=false:=(key 5 c).1 3 (by decide)
  have k4:(q0==4)=false:=(key 5 c).1 4 (by decide)
  have k5:(q0==5)=true:=(key 5 c).2
  have k6:(q0==6)=false:=(key 5 c).1 6 (by decide)
  have k7:(q0==7)=false:=(key 5 c).1 7 (by decide)
  cases hz:XS (Event.mk q0 eId q1 (Request.mk q2 q3 q4 q5) (Response.mk q6 q7 q8) q9 q10) false false false false true true
  ·rw[hz] at hr
   simp only[go_sem,reduceIte,↓reduceIte,reduceCtorEq,nA,nS,nM,nB,nE,nL,nT,nN,iL,iT,iE,iA,iM,iS,iG,iB,iN,iZ,h,k1,k2,k3,k4,k5,k6,k7,hz,hr,hu,Xh,Xx]
  rw[hz] at hr
  cases t1:QL eId
  ·simp only[go_sem,reduceIte,↓reduceIte,reduceCtorEq,nA,nS,nM,nB,nE,nL,nT,nN,iL,iT,iE,iA,iM,iS,iG,iB,iN,iZ,h,k1,k2,k3,k4,k5,k6,k7,hz,hr,t1,hu,Xh,Xx]
  cases t2:within q1 0 999
  ·simp only[go_sem,reduceIte,↓reduceIte,reduceCtorEq,nA,nS,nM,nB,nE,nL,nT,nN,iL,iT,iE,iA,iM,iS,iG,iB,iN,iZ,h,k1,k2,k3,k4,k5,k6,k7,hz,hr,t1,t2,hu,Xh,Xx]
  by_cases ht:500<(q9.size:Int)<;>simp only[go_sem,reduceIte,↓reduceIte,reduceCtorEq,nA,nS,nM,nB,nE,nL,nT,nN,iL,iT,iE,iA,iM,iS,iG,iB,iN,iZ,h,k1,k2,k3,k4,k5,k6,k7,hz,hr,t1,t2,ht,hu,hku,Xh,Xx]
 by_cases c:q0=6
 ·have hr:ZM (Event.mk q0 eId q1 (Request.mk q2 q3 q4 q5) (Response.mk q6 q7 q8) q9 q10)=XS (Event.mk q0 eId q1 (Request.mk q2 q3 q4 q5) (Response.mk q6 q7 q8) q9 q10) false false false false true true:=Xkw (e:=(Event.mk q0 eId q1 (Request.mk q2 q3 q4 q5) (Response.mk q6 q7 q8) q9 q10)) c
  have k1:(q0==1)=false:=(key 6 c).1 1 (by decide)
  have k2:(q0==2)=false:=(key 6 c).1 2 (by decide)
  have k3:(q0==3)=false:=(key 6 c).1 3 (by decide)
  have k4:(q0==4)=false:=(key 6 c).1 4 (by decide)
  have k5:(q0==5)=false:=(key 6 c).1 5 (by decide)
  have k6:(q0==6)=true:=(key 6 c).2
  have k7:(q0==7)=false:=(key 6 c).1 7 (by decide)
  cases hz:XS (Event.mk q0 eId q1 (Request.mk q2 q3 q4 q5) (Response.mk q6 q7 q8) q9 q10) false false false false true true
  ·rw[hz] at hr
   simp only[go_sem,reduceIte,↓reduceIte,reduceCtorEq,nA,nS,nM,nB,nE,nL,nT,nN,iL,iT,iE,iA,iM,iS,iG,iB,iN,iZ,h,k1,k2,k3,k4,k5,k6,k7,hz,hr,hu,Xh,Xx]
  rw[hz] at hr
  cases t1:QL eId
  ·simp only[go_sem,reduceIte,↓reduceIte,reduceCtorEq,nA,nS,nM,nB,nE,nL,nT,nN,iL,iT,iE,iA,iM,iS,iG,iB,iN,iZ,h,k1,k2,k3,k4,k5,k6,k7,hz,hr,t1,hu,Xh,Xx]
  cases t2:within q1 0 999
  ·simp only[go_sem,reduceIte,↓reduceIte,reduceCtorEq,nA,nS,nM,nB,nE,nL,nT,nN,iL,iT,iE,iA,iM,iS,iG,iB,iN,iZ,h,k1,k2,k3,k4,k5,k6,k7,hz,hr,t1,t2,hu,Xh,Xx]
  by_cases ht:500<(q9.size:Int)<;>simp only[go_sem,reduceIte,↓reduceIte,reduceCtorEq,nA,nS,nM,nB,nE,nL,nT,nN,iL,iT,iE,iA,iM,iS,iG,iB,iN,iZ,h,k1,k2,k3,k4,k5,k6,k7,hz,hr,t1,t2,ht,hu,hku,Xh,Xx]
 by_cases c:q0=7
 ·have hr:ZM (Event.mk q0 eId q1 (Request.mk q2 q3 q4 q5) (Response.mk q6 q7 q8) q9 q10)=XS (Event.mk q0 eId q1 (Request.mk q2 q3 q4 q5) (Response.mk q6 q7 q8) q9 q10) false false false false false true:=Xkx (e:=(Event.mk q0 eId q1 (Request.mk q2 q3 q4 q5) (Response.mk q6 q7 q8) q9 q10)) c
  have k1:(q0==1)=false:=(key 7 c).1 1 (by decide)
  have k2:(q0==2)=false:=(key 7 c).1 2 (by decide)
  have k3:(q0==3)=false:=(key 7 c).1 3 (by decide)
  have k4:(q0==4)=false:=(key 7 c).1 4 (by decide)
  have k5:(q0==5)=false:=(key 7 c).1 5 (by decide)
  have k6:(q0==6)=false:=(key 7 c).1 6 (by decide)
  have k7:(q0==7)=true:=(key 7 c).2
  cases hz:XS (Event.mk q0 eId q1 (Request.mk q2 q3 q4 q5) (Response.mk q6 q7 q8) q9 q10) false false false false false true
  ·rw[hz] at hr
   simp only[go_sem,reduceIte,↓reduceIte,reduceCtorEq,nA,nS,nM,nB,nE,nL,nT,nN,iL,iT,iE,iA,iM,iS,iG,iB,iN,iZ,h,k1,k2,k3,k4,k5,k6,k7,hz,hr,hu,Xh,Xx]
  rw[hz] at hr
  cases t1:QL eId
  ·simp only[go_sem,reduceIte,↓reduceIte,reduceCtorEq,nA,nS,nM,nB,nE,nL,nT,nN,iL,iT,iE,iA,iM,iS,iG,iB,iN,iZ,h,k1,k2,k3,k4,k5,k6,k7,hz,hr,t1,hu,Xh,Xx]
  cases t2:within q1 0 999
  ·simp only[go_sem,reduceIte,↓reduceIte,reduceCtorEq,nA,nS,nM,nB,nE,nL,nT,nN,iL,iT,iE,iA,iM,iS,iG,iB,iN,iZ,h,k1,k2,k3,k4,k5,k6,k7,hz,hr,t1,t2,hu,Xh,Xx]
  by_cases ht:500<(q9.size:Int)<;>simp only[go_sem,reduceIte,↓reduceIte,reduceCtorEq,nA,nS,nM,nB,nE,nL,nT,nN,iL,iT,iE,iA,iM,iS,iG,iB,iN,iZ,h,k1,k2,k3,k4,k5,k6,k7,hz,hr,t1,t2,ht,hu,hku,Xh,Xx]
 have hw:within q0 1 7=false:=by rw[Xkq]; omega
 have hr:ZM (Event.mk q0 eId q1 (Request.mk q2 q3 q4 q5) (Response.mk q6 q7 q8) q9 q10)=false:=Xky (e:=(Event.mk q0 eId q1 (Request.mk q2 q3 q4 q5) (Response.mk q6 q7 q8) q9 q10)) hw
 have k1:(q0==1)=false:=by simp; omega
 have k2:(q0==2)=false:=by simp; omega
 have k3:(q0==3)=false:=by simp; omega
 have k4:(q0==4)=false:=by simp; omega
 have k5:(q0==5)=false:=by simp; omega
 have k6:(q0==6)=false:=by simp; omega
 have k7:(q0==7)=false:=by simp; omega
 simp only[go_sem,reduceIte,↓reduceIte,reduceCtorEq,nA,nS,nM,nB,nE,nL,nT,nN,iL,iT,iE,iA,iM,iS,iG,iB,iN,iZ,h,k1,k2,k3,k4,k5,k6,k7,hr,hu,Xh,Xx]) (rfl)
end
end Go.Vm.A
