/- Functions of the program, walked by the evaluator. -/
import Derived.Test.YtpoannkeaajngaaGreatDoorWb
import Derived.Test.YtpoannkeaajngaaGreatDoorWa
import Derived.Test.YtpoannkeaajngaaGreatDoorFd
import Derived.Test.YtpoannkeaajngaaGreatDoorFe
import Derived.Test.YtpoannkeaajngaaGreatDoorFf
import Derived.Test.YtpoannkeaajngaaGreatDoorFg
import Derived.Test.YtpoannkeaajngaaGreatDoorFh
import Derived.Test.YtpoannkeaajngaaGreatDoorFi
import Derived.Test.YtpoannkeaajngaaGreatDoorFj
set_option linter.unusedVariables false
set_option linter.unusedSimpArgs false
set_option autoImplicit false
set_option maxRecDepth 100000
set_option maxHeartbeats 4000000
set_option linter.defProp false
namespace Go.Vm.A
open Go.Proofs
open Nat renaming reduceAdd -> nA, reduceSub -> nS, reduceMul -> nM, reduceBEq -> nB, reduceEqDiff -> nE, reduceLeDiff -> nL, reduceLT -> nT, reduceBneDiff -> nN
open Int renaming reduceLE -> iL, reduceLT -> iT, reduceEq -> iE, reduceAdd -> iA, reduceMul -> iM, reduceSub -> iS, reduceNeg -> iG, reduceBEq -> iB, reduceBNe -> iN, reduceToNat -> iZ
noncomputable section
def s83:SP Tryz.prog:=mkS tyA 83 Tryz.f83 [XoH] {md:=[.ro 1],rg:=[(0,[0],[]),(1,[3],[]),(2,[2],[])],rets:=some ([2],[]),al:=[5]} Tryz.func83 (by kernel_rfl)
@[go_sem] def d83:s83.g=83/\s83.fs=⟨[.ro 1],s83.F,false⟩:=⟨nr rfl,nr rfl⟩
@[go_sem] def e83(hs:List Xd)(h0:(hs.length<=20/\smL Xg hs)):s83.F [.sl .ro 2 (hs.map (Xb .ro))]=some (.s (QE hs),[.u]):=Xm (0) rfl rfl (λcx h=>by
 have h1:hs.length<=20/\smL Xg hs/\okN ⟨#[101,116,97,103]⟩=true:=⟨h0.1,h0.2,by decide⟩
 have h2:=XjI hs
 simp only[go_sem,reduceIte,↓reduceIte,reduceCtorEq,nA,nS,nM,nB,nE,nL,nT,nN,iL,iT,iE,iA,iM,iS,iG,iB,iN,iZ,h,h1,h2]) (rfl)
def s40:SP Tryz.prog:=mkS tyA 40 Tryz.f40 [s81,s82,s83] {md:=[.ro 1,.ro 1,.ro 1],rg:=[(0,[0,1,2,6],[6,7]),(1,[1,2,6,7],[6,7]),(2,[1,2,6,7],[6,7]),(3,[1,2,6,7],[6,7]),(4,[1,6,7,30],[6,7]),(5,[6,7],[6,7]),(6,[6],[6,7])],rets:=some ([6],[6,7]),plan:=[(5,(.take 0 (.take 1 (.take 2 (.take 3 (.take 4 (.take 5 (.one 6 (.take 7 (.one 8 (.one 9 (.take 10 (.one 11 .done)))))))))))))]} Tryz.func40 (by kernel_rfl)
@[go_sem] def d40:s40.g=40/\s40.fs=⟨[.ro 1,.ro 1,.ro 1],s40.F,false⟩:=⟨nr rfl,nr rfl⟩
@[go_sem] def e40(q0 q1 q2:ByteArray)(q3:List Xd)(q4:ByteArray)(q5:Int)(eHeaders:List Xd)(q6:List UInt8)(q7 q8 q9 q10 q11:Int)(q12 q13:Bool)(q14:List ByteArray)(q15:Int)(has:Bool)(h0:((Request.mk q0 q1 q2 q3).Headers.length<=20/\smL Xg (Request.mk q0 q1 q2 q3).Headers/\smL Xg (X2.mk q4 q5 eHeaders q6 (Meta.mk q7 q8 q9 q10 q11 q12 q13) q14 q15).Headers/\(!has||decide ((X2.mk q4 q5 eHeaders q6 (Meta.mk q7 q8 q9 q10 q11 q12 q13) q14 q15).Headers.length<=20))=true)):s40.F [.pr [.s q0,.s q1,.s q2,.sl .ro 2 (q3.map (Xb .ro))],.pr [.s q4,.i .i64 q5,.sl .ro 2 (eHeaders.map (Xb .ro)),.sl .ro 1 (q6.map Xn),.i .i64 q7,.i .i64 q8,.i .i64 q9,.i .i64 q10,.i .i64 q11,.b q12,.b q13,.sl .ro 1 (q14.map Xbi),.i .i64 q15],.b has]=some (.agg (Zs .mut (XH (Request.mk q0 q1 q2 q3) (X2.mk q4 q5 eHeaders q6 (Meta.mk q7 q8 q9 q10 q11 q12 q13) q14 q15) has)),[.u,.u,.u]):=Xm (0) rfl rfl (λcx h=>by
 obtain⟨hl,hH,hE,hEb⟩:=h0
 have hEl:has=true->eHeaders.length<=20:=λx=>by subst x; simpa using hEb
 have g1:q3.length<=20/\smL Xg q3/\okN ⟨#[105,102,45,110,111,110,101,45,109,97,116,99,104]⟩=true:=⟨hl,hH,by decide⟩
 have g2:(YM q3 ⟨#[105,102,45,110,111,110,101,45,109,97,116,99,104]⟩).length<=20/\smL Xg (YM q3 ⟨#[105,102,45,110,111,110,101,45,109,97,116,99,104]⟩)/\okN ⟨#[105,102,45,109,111,100,105,102,105,101,100,45,115,105,110,99,101]⟩=true:=Xf8 g1 (by decide)
 have g3:YM (YM q3 ⟨#[105,102,45,110,111,110,101,45,109,97,116,99,104]⟩) ⟨#[105,102,45,109,111,100,105,102,105,101,100,45,115,105,110,99,101]⟩=YS (Request.mk q0 q1 q2 q3):=Xfb (Request.mk q0 q1 q2 q3)
 have g4:=Qt (Request.mk q0 q1 q2 q3)
 obtain⟨L,hL⟩:∃L,YS (Request.mk q0 q1 q2 q3)=L:=⟨_,rfl⟩
 rw[hL] at g3 g4
 simp only at g4
 have g5:(L.length+1)*32<=140737488355328:=by omega
 have g6:L.map (Xb .mut)++[[.s ⟨#[73,102,45,78,111,110,101,45,77,97,116,99,104]⟩,.s (QE eHeaders)]]=(L++[Xd.mk ⟨#[73,102,45,78,111,110,101,45,77,97,116,99,104]⟩ (QE eHeaders)]).map (Xb .mut):=by simp[Xb]
 cases has
 ·simp only[go_sem,reduceIte,↓reduceIte,reduceCtorEq,nA,nS,nM,nB,nE,nL,nT,nN,iL,iT,iE,iA,iM,iS,iG,iB,iN,iZ,h,hH,hL,g1,g2,g3,XH]
 have hEE:eHeaders.length<=20/\smL Xg eHeaders:=⟨hEl rfl,hE⟩
 cases c1:eqv (QE eHeaders) ⟨#[]⟩
 rotate_left
 ·simp only[go_sem,reduceIte,↓reduceIte,reduceCtorEq,nA,nS,nM,nB,nE,nL,nT,nN,iL,iT,iE,iA,iM,iS,iG,iB,iN,iZ,h,hH,hL,g1,g2,g3,hEE,c1,Xq,Xt,XH]
 by_cases c2:(L.length:Int)<19<;>simp only[go_sem,reduceIte,↓reduceIte,reduceCtorEq,nA,nS,nM,nB,nE,nL,nT,nN,iL,iT,iE,iA,iM,iS,iG,iB,iN,iZ,h,hH,hL,g1,g2,g3,g5,g6,hEE,c1,c2,Xq,Xt,XH]) (by simp only[go_sem,reduceIte,↓reduceIte,reduceCtorEq,nA,nS,nM,nB,nE,nL,nT,nN,iL,iT,iE,iA,iM,iS,iG,iB,iN,iZ,ZH,XF,XU,XO])
def s11:SP Tryz.prog:=mkS tyA 11 Tryz.f11 [s38,s39,s40] {md:=[.ro 1,.ro 1,.ro 1],rg:=[(0,[2,3,4,6,23],[3,4,6]),(1,[2,3,4,6,7,23],[3,4,6]),(2,[2,3,4,6,7,12,23],[3,4,6]),(3,[6,23],[6]),(4,[2,3,4,6,15,23],[3,4,6]),(5,[2,3,4,6,8,23],[3,4,6]),(6,[2,3,4,6,8,19,23],[3,4,6]),(7,[6,23],[6]),(8,[6,23],[6])],rets:=some ([6,23],[6])} Tryz.func11 (by kernel_rfl)
@[go_sem] def d11:s11.g=11/\s11.fs=⟨[.ro 1,.ro 1,.ro 1],s11.F,false⟩:=⟨nr rfl,nr rfl⟩
@[go_sem] def e11(q0 q1 q2:ByteArray)(q3:List Xd)(q4:ByteArray)(q5:Int)(eHeaders:List Xd)(q6:List UInt8)(q7 q8 q9 q10 q11:Int)(q12 q13:Bool)(q14:List ByteArray)(q15:Int)(has:Bool)(h0:(smL Xg (Request.mk q0 q1 q2 q3).Headers/\smL Xg (X2.mk q4 q5 eHeaders q6 (Meta.mk q7 q8 q9 q10 q11 q12 q13) q14 q15).Headers)):s11.F [.agg [.s q0,.s q1,.s q2,.sl .ro 2 (q3.map (Xb .ro))],.agg [.s q4,.i .i64 q5,.sl .ro 2 (eHeaders.map (Xb .ro)),.sl .ro 1 (q6.map Xn),.i .i64 q7,.i .i64 q8,.i .i64 q9,.i .i64 q10,.i .i64 q11,.b q12,.b q13,.sl .ro 1 (q14.map Xbi),.i .i64 q15],.b has]=some (.agg (Yo .mut (Y1 (Request.mk q0 q1 q2 q3) (X2.mk q4 q5 eHeaders q6 (Meta.mk q7 q8 q9 q10 q11 q12 q13) q14 q15) has)),[.u,.u,.u]):=Xm (0) rfl rfl (λcx h=>by
 obtain⟨hH,hE⟩:=h0
 by_cases z:Xe (Request.mk q0 q1 q2 q3)=0
 rotate_left
 ·have z':(Xe (Request.mk q0 q1 q2 q3) !=0)=true:=by simpa using z
  have z2:(Xe (Request.mk q0 q1 q2 q3)==0)=false:=by simpa using z
  simp only[go_sem,reduceIte,↓reduceIte,reduceCtorEq,nA,nS,nM,nB,nE,nL,nT,nN,iL,iT,iE,iA,iM,iS,iG,iB,iN,iZ,h,hH,z',z2,Y1,U2]
 have hl:=XC (Qu z)
 simp only at hl
 have z':(Xe (Request.mk q0 q1 q2 q3) !=0)=false:=by simpa using z
 cases has
 ·have hk:=hl
  simp only[go_sem,reduceIte,↓reduceIte,reduceCtorEq,nA,nS,nM,nB,nE,nL,nT,nN,iL,iT,iE,iA,iM,iS,iG,iB,iN,iZ,h,hH,hE,z,hk,Y1,U2]
 by_cases y:Xf (X2.mk q4 q5 eHeaders q6 (Meta.mk q7 q8 q9 q10 q11 q12 q13) q14 q15)=0
 rotate_left
 ·have y':(Xf (X2.mk q4 q5 eHeaders q6 (Meta.mk q7 q8 q9 q10 q11 q12 q13) q14 q15) !=0)=true:=by simpa using y
  simp only[go_sem,reduceIte,↓reduceIte,reduceCtorEq,nA,nS,nM,nB,nE,nL,nT,nN,iL,iT,iE,iA,iM,iS,iG,iB,iN,iZ,h,hH,hE,z,y',Y1,U2]
 have y':(Xf (X2.mk q4 q5 eHeaders q6 (Meta.mk q7 q8 q9 q10 q11 q12 q13) q14 q15) !=0)=false:=by simpa using y
 have hk:=hl
 have hk2:=XC (ZA y)
 simp only at hk2
 simp only[go_sem,reduceIte,↓reduceIte,reduceCtorEq,nA,nS,nM,nB,nE,nL,nT,nN,iL,iT,iE,iA,iM,iS,iG,iB,iN,iZ,h,hH,hE,z,y,hk,hk2,Y1,U2]) (by simp only[go_sem,reduceIte,↓reduceIte,reduceCtorEq,nA,nS,nM,nB,nE,nL,nT,nN,iL,iT,iE,iA,iM,iS,iG,iB,iN,iZ,ZH,XF,XU,XO])
def s12:SP Tryz.prog:=mkS tyA 12 Tryz.f12 [s41,s42] {md:=[.ro 1],rg:=[(0,[1],[1]),(1,[1,7],[1]),(2,[2],[]),(3,[1,3],[1]),(4,[1,3,12],[1]),(5,[2],[]),(6,[17],[]),(7,[2],[]),(8,[2],[])],rets:=some ([2],[])} Tryz.func12 (by kernel_rfl)
@[go_sem] def d12:s12.g=12/\s12.fs=⟨[.ro 1],s12.F,false⟩:=⟨nr rfl,nr rfl⟩
@[go_sem] def e12(q16:Int)(q3:List Xd)(q17:List UInt8):s12.F [.agg [.i .i64 q16,.sl .ro 2 (q3.map (Xb .ro)),.sl .ro 1 (q17.map Xn)]]=some (.i .i64 (Xu (Response.mk q16 q3 q17)),[.u]):=Xm (0) rfl rfl (λcx h=>by
 cases h1:within q16 200 599
 ·simp only[go_sem,reduceIte,↓reduceIte,reduceCtorEq,nA,nS,nM,nB,nE,nL,nT,nN,iL,iT,iE,iA,iM,iS,iG,iB,iN,iZ,h,h1,Xu]
 by_cases z:Xa q3=0
 rotate_left
 ·have z':(Xa q3 !=0)=true:=by simpa using z
  simp only[go_sem,reduceIte,↓reduceIte,reduceCtorEq,nA,nS,nM,nB,nE,nL,nT,nN,iL,iT,iE,iA,iM,iS,iG,iB,iN,iZ,h,h1,z',Xu]
 by_cases h2:2000<(q17.length:Int)<;>simp only[go_sem,reduceIte,↓reduceIte,reduceCtorEq,nA,nS,nM,nB,nE,nL,nT,nN,iL,iT,iE,iA,iM,iS,iG,iB,iN,iZ,h,h1,z,h2,Xu]) (rfl)
def Xd8(n:Int):XT:=if within n 400 599=false then⟨3,⟨0,[],[]⟩⟩ else⟨0,⟨n,[⟨⟨#[88,45,67,97,99,104,101]⟩,⟨#[101,114,114,111,114]⟩⟩],[]⟩⟩
def s13:SP Tryz.prog:=mkS tyA 13 Tryz.f13 [s43] {md:=[.ro 1],rg:=[(0,[0,2,8,9,10],[2]),(1,[0,2,5,8,9,10],[2]),(2,[2,8,9,10],[2]),(3,[2,8,9,10],[2])],rets:=some ([2,8,9,10],[2])} Tryz.func13 (by kernel_rfl)
@[go_sem] def d13:s13.g=13/\s13.fs=⟨[.ro 1],s13.F,false⟩:=⟨nr rfl,nr rfl⟩
@[go_sem] def e13(n:Int):s13.F [.i .i64 n]=some (.agg (X9 .mut (Xd8 n)),[.u]):=Xm (0) rfl rfl (λcx h=>by
 cases c:within n 400 599<;>simp only[go_sem,reduceIte,↓reduceIte,reduceCtorEq,nA,nS,nM,nB,nE,nL,nT,nN,iL,iT,iE,iA,iM,iS,iG,iB,iN,iZ,h,c,Xd8]) (by simp only[go_sem,reduceIte,↓reduceIte,reduceCtorEq,nA,nS,nM,nB,nE,nL,nT,nN,iL,iT,iE,iA,iM,iS,iG,iB,iN,iZ,ZH,XF,XU,XO])
def s44:SP Tryz.prog:=mkS tyA 44 Tryz.f44 [] {md:=[.ro 1],rets:=some ([2,4,5],[2])} Tryz.func44 (by kernel_rfl)
@[go_sem] def d44:s44.g=44/\s44.fs=⟨[.ro 1],s44.F,false⟩:=⟨nr rfl,nr rfl⟩
@[go_sem] def e44(n:Int):s44.F [.i .i64 n]=some (.agg (Zn .mut ⟨n,[⟨⟨#[88,45,67,97,99,104,101]⟩,⟨#[101,114,114,111,114]⟩⟩],[]⟩),[.u]):=Xm (0) rfl rfl (λcx h=>by
 simp only[go_sem,reduceIte,↓reduceIte,reduceCtorEq,nA,nS,nM,nB,nE,nL,nT,nN,iL,iT,iE,iA,iM,iS,iG,iB,iN,iZ,h]) (by simp only[go_sem,reduceIte,↓reduceIte,reduceCtorEq,nA,nS,nM,nB,nE,nL,nT,nN,iL,iT,iE,iA,iM,iS,iG,iB,iN,iZ,ZH,XF,XU,XO])
def s14:SP Tryz.prog:=mkS tyA 14 Tryz.f14 [s41,s44] {md:=[.ro 1],rg:=[(0,[0,2,8],[2]),(1,[0,2,5,8],[2]),(2,[2,8],[2]),(3,[2,8],[2])],rets:=some ([2,8],[2])} Tryz.func14 (by kernel_rfl)
@[go_sem] def d14:s14.g=14/\s14.fs=⟨[.ro 1],s14.F,false⟩:=⟨nr rfl,nr rfl⟩
@[go_sem] def e14(n:Int):s14.F [.i .i64 n]=some (.agg (X9 .mut (Xd8 n)),[.u]):=Xm (0) rfl rfl (λcx h=>by
 cases c:within n 400 599<;>simp only[go_sem,reduceIte,↓reduceIte,reduceCtorEq,nA,nS,nM,nB,nE,nL,nT,nN,iL,iT,iE,iA,iM,iS,iG,iB,iN,iZ,h,c,Xd8]) (by simp only[go_sem,reduceIte,↓reduceIte,reduceCtorEq,nA,nS,nM,nB,nE,nL,nT,nN,iL,iT,iE,iA,iM,iS,iG,iB,iN,iZ,ZH,XF,XU,XO])
def s15:SP Tryz.prog:=mkS tyA 15 Tryz.f15 [] {md:=[.ro 1,.ro 1],rets:=some ([4],[])} Tryz.func15 (by kernel_rfl)
@[go_sem] def d15:s15.g=15/\s15.fs=⟨[.ro 1,.ro 1],s15.F,false⟩:=⟨nr rfl,nr rfl⟩
@[go_sem] def e15(x y:List UInt8)(h0:(x.length<=1048576/\y.length<=1048576)):s15.F [.sl .ro 1 (x.map Xn),.sl .ro 1 (y.map Xn)]=some (.b (eqv (⟨x.toArray⟩:ByteArray) ⟨y.toArray⟩),[.u,.u]):=Xm (0) rfl rfl (λcx h=>by
 have h1:x.length<=9223372036854775807:=by omega
 have h2:y.length<=9223372036854775807:=by omega
 simp only[go_sem,reduceIte,↓reduceIte,reduceCtorEq,nA,nS,nM,nB,nE,nL,nT,nN,iL,iT,iE,iA,iM,iS,iG,iB,iN,iZ,h,h1,h2,Xt]) (rfl)
def Qv(hs:List Xd)(name:ByteArray):Yx:=if(Xa hs !=0)=true then⟨Xa hs,⟨#[]⟩⟩ else if ZJ name=false then⟨5,⟨#[]⟩⟩ else if UR hs name=false then⟨4,⟨#[]⟩⟩ else⟨0,XaI ⟨#[44,32]⟩ (Yh hs name)⟩
def Xgc(hs:List Xd)(name:ByteArray):Int:=if(Xa hs !=0)=true then Xa hs else if ZJ name=false then 5 else 0
def Xl7{hs:List Xd}{name:ByteArray}(h:smL Xg hs):Uu (Yh hs name)=true:=by
 simp only[Uu,Bool.and_eq_true,decide_eq_true_eq,List.all_eq_true]
 refine⟨?_,λx hx=>?_⟩
 ·have:(Yh hs name).length<=hs.length:=by unfold Yh; rw[List.length_map]; exact List.length_filter_le _ _
  have:=h.1
  omega
 ·unfold Yh at hx
  obtain⟨y,hy,rfl⟩:=List.mem_map.1 hx
  exact(h.2 y (List.mem_filter.1 hy).1).2
def s47:SP Tryz.prog:=mkS tyA 47 Tryz.f47 [s46,s86] {md:=[.ro 1,.ro 1],rg:=[(0,[0,1],[]),(1,[1,5],[]),(2,[1,5,9],[]),(3,[4],[]),(4,[13],[]),(5,[4],[]),(6,[4],[])],rets:=some ([4],[])} Tryz.func47 (by kernel_rfl)
@[go_sem] def d47:s47.g=47/\s47.fs=⟨[.ro 1,.ro 1],s47.F,false⟩:=⟨nr rfl,nr rfl⟩
@[go_sem] def e47(hs:List Xd)(name:ByteArray)(h0:(smL Xg hs)):s47.F [.sl .ro 2 (hs.map (Xb .ro)),.s name]=some (.i .i64 (Xgc hs name),[.u,.u]):=Xm (0) rfl rfl (λcx h=>by
 by_cases z:Xa hs=0
 ·cases c:ZJ name<;>simp only[go_sem,reduceIte,↓reduceIte,reduceCtorEq,nA,nS,nM,nB,nE,nL,nT,nN,iL,iT,iE,iA,iM,iS,iG,iB,iN,iZ,h,h0,z,c,Xgc]
 ·have z':(Xa hs !=0)=true:=by simpa using z
  simp only[go_sem,reduceIte,↓reduceIte,reduceCtorEq,nA,nS,nM,nB,nE,nL,nT,nN,iL,iT,iE,iA,iM,iS,iG,iB,iN,iZ,h,h0,z',Xgc]) (rfl)
def s87:SP Tryz.prog:=⟨87,⟨[.ro 1,.ro 1],Xlj,false⟩,XnN Tryz.func87 (by kernel_rfl) rfl Go.Proofs.Tryz.strings_Join_none Go.Proofs.Tryz.strings_Join⟩
@[go_sem] def d87:s87.g=87/\s87.fs=⟨[.ro 1,.ro 1],s87.F,false⟩:=⟨nr rfl,nr rfl⟩
@[go_sem] def e87(xs:List ByteArray)(h0:Uu xs=true):s87.F [.sl .ro 1 (xs.map Xbi),.s ⟨#[32]⟩]=some (.s (Xpy xs),[.u,.u]):=Xlk xs h0
@[go_sem] def XrX(xs:List ByteArray)(h0:Uu xs=true):s87.F [.sl .ro 1 (xs.map Xbi),.s ⟨#[44,32]⟩]=some (.s (XaI ⟨#[44,32]⟩ xs),[.u,.u]):=Xjd ⟨#[44,32]⟩ (by decide) xs h0
def s48:SP Tryz.prog:=mkS tyA 48 Tryz.f48 [s53,s87] {md:=[.ro 1,.ro 1],rg:=[(0,[0,1],[]),(1,[6],[]),(2,[4,5],[])],rets:=some ([4,5],[])} Tryz.func48 (by kernel_rfl)
@[go_sem] def d48:s48.g=48/\s48.fs=⟨[.ro 1,.ro 1],s48.F,false⟩:=⟨nr rfl,nr rfl⟩
@[go_sem] def e48(hs:List Xd)(name:ByteArray)(h0:(hs.length<=20/\smL Xg hs/\okN name=true)):s48.F [.sl .ro 2 (hs.map (Xb .ro)),.s name]=some (.tup [.s (XaI ⟨#[44,32]⟩ (Yh hs name)),.b (UR hs name)],[.u,.u]):=Xm (0) rfl rfl (λcx h=>by
 have h1:=Xl7 (name:=name) h0.2.1
 have h2:=QT hs name
 simp only[go_sem,reduceIte,↓reduceIte,reduceCtorEq,nA,nS,nM,nB,nE,nL,nT,nN,iL,iT,iE,iA,iM,iS,iG,iB,iN,iZ,h,h0,h1,h2,List.length_map]) (rfl)
def s17:SP Tryz.prog:=mkS tyA 17 Tryz.f17 [s47,s48] {md:=[.ro 1,.ro 1],rg:=[(0,[0,1,4],[4]),(1,[0,1,4,5],[4]),(2,[0,1,4,5,12],[4]),(3,[4],[4]),(4,[4,6,7],[4]),(5,[4,6,22],[4]),(6,[4],[4]),(7,[4],[4])],rets:=some ([4],[4]),al:=[15]} Tryz.func17 (by kernel_rfl)
@[go_sem] def d17:s17.g=17/\s17.fs=⟨[.ro 1,.ro 1],s17.F,false⟩:=⟨nr rfl,nr rfl⟩
@[go_sem] def e17(hs:List Xd)(name:ByteArray)(h0:(smL Xg hs/\okN name=true)):s17.F [.sl .ro 2 (hs.map (Xb .ro)),.s name]=some (.agg (Zd .mut (Qv hs name)),[.u,.u]):=Xm (0) rfl rfl (λcx h=>by
 have hs0:=h0.1
 have hu:Qv hs name=if(Xa hs !=0)=true then⟨Xa hs,⟨#[]⟩⟩ else if ZJ name=false then⟨5,⟨#[]⟩⟩ else if UR hs name=false then⟨4,⟨#[]⟩⟩ else⟨0,XaI ⟨#[44,32]⟩ (Yh hs name)⟩:=rfl
 have hn:Xgc hs name=if(Xa hs !=0)=true then Xa hs else if ZJ name=false then 5 else 0:=rfl
 by_cases z:Xa hs=0
 rotate_left
 ·have z':(Xa hs !=0)=true:=by simpa using z
  simp only[go_sem,reduceIte,↓reduceIte,reduceCtorEq,nA,nS,nM,nB,nE,nL,nT,nN,iL,iT,iE,iA,iM,iS,iG,iB,iN,iZ,h,hs0,z',hu,hn]
 have h1:hs.length<=20/\smL Xg hs/\okN name=true:=⟨XC z,h0⟩
 cases c:ZJ name<;>cases d:UR hs name<;>simp only[go_sem,reduceIte,↓reduceIte,reduceCtorEq,nA,nS,nM,nB,nE,nL,nT,nN,iL,iT,iE,iA,iM,iS,iG,iB,iN,iZ,h,hs0,h1,z,c,d,hu,hn]) (by simp only[go_sem,reduceIte,↓reduceIte,reduceCtorEq,nA,nS,nM,nB,nE,nL,nT,nN,iL,iT,iE,iA,iM,iS,iG,iB,iN,iZ,ZH,XF,XU,XO])
def XbH:∀{l:List Int},Xce l=0↔∀v∈l,v=0
 | []=>⟨λ_ v hv=>by(cases hv),λ_=>rfl⟩
 | x :: l=>by
  rw[Ur]
  by_cases h:x=0
  ·subst h
   rw[if_neg (by decide),XbH]
   exact⟨λh v hv=>(List.mem_cons.1 hv).elim (λe=>e) (h v),λh v hv=>h v (List.mem_cons_of_mem _ hv)⟩
  ·rw[if_pos (by simpa using h)]
   exact⟨λhx=>absurd hx h,λhx=>hx x (List.mem_cons_self ..)⟩
def XcH{hs:List Xd}:Xa hs=0↔hs.length<=20/\∀x∈hs,XK x=0:=by
 unfold Xa
 split
 ·constructor
  ·intro h; cases h
  ·intro h; omega
 ·rw[XbH]
  constructor
  ·intro h; exact⟨by omega,λx hx=>h _ (List.mem_map_of_mem hx)⟩
  ·intro h v hv
   obtain⟨x,hx,rfl⟩:=List.mem_map.1 hv
   exact h.2 x hx
def XhO{n m v:ByteArray}(h:XK ⟨n,v⟩=0)(hm:ZJ m=true):XK ⟨m,v⟩=0:=by
 unfold XK at h ⊢
 simp only at h ⊢
 rw[if_neg (by rw[hm]; decide)]
 split at h
 ·cases h
 ·exact h
def Xds{hs:List Xd}{n:ByteArray}{x:Xd}(h:x∈YM hs n):x∈hs/\eqv (Yc x.Name) (Yc n)=false:=by
 have:=List.mem_filter.1 h
 exact⟨this.1,by simpa using this.2⟩
def UA{r:Request}{x:Xd}(h:x∈YS r):x∈r.Headers/\eqv (Yc x.Name) (Yc ⟨#[73,102,45,78,111,110,101,45,77,97,116,99,104]⟩)=false/\eqv (Yc x.Name) (Yc ⟨#[73,102,45,77,111,100,105,102,105,101,100,45,83,105,110,99,101]⟩)=false:=by
 obtain⟨h1,h2⟩:=Xds h
 obtain⟨h3,h4⟩:=Xds h1
 exact⟨h3,h4,h2⟩
def XhP{hs:List Xd}{n:ByteArray}(h:eqv (ZW hs n) ⟨#[]⟩=false):∃x∈hs,x.Value=ZW hs n:=by
 unfold ZW at h ⊢
 cases hv:Yh hs n with
 | nil=>rw[hv] at h; simp only[List.head?_nil,Option.getD_none] at h; rw[Yu] at h; cases h
 | cons v r =>
  have:v∈Yh hs n:=by rw[hv]; exact List.mem_cons_self ..
  unfold Yh at this
  obtain⟨x,hx,rfl⟩:=List.mem_map.1 this
  exact⟨x,(List.mem_filter.1 hx).1,rfl⟩
def Xl8:ZJ ⟨#[73,102,45,78,111,110,101,45,77,97,116,99,104]⟩=true:=by decide +kernel
def Xl9:ZJ ⟨#[105,102,45,110,111,110,101,45,109,97,116,99,104]⟩=true:=by decide +kernel
def Xma:ZJ ⟨#[105,102,45,109,111,100,105,102,105,101,100,45,115,105,110,99,101]⟩=true:=by decide +kernel
def Xmb:ZJ ⟨#[88,45,67,97,99,104,101]⟩=true:=by decide +kernel
def Xlr:Yc ⟨#[105,102,45,110,111,110,101,45,109,97,116,99,104]⟩=Yc ⟨#[73,102,45,78,111,110,101,45,77,97,116,99,104]⟩:=by decide +kernel
def XoI:Yc ⟨#[105,102,45,109,111,100,105,102,105,101,100,45,115,105,110,99,101]⟩=Yc ⟨#[73,102,45,77,111,100,105,102,105,101,100,45,83,105,110,99,101]⟩:=by decide +kernel
def Xqa:eqv (Yc ⟨#[73,102,45,78,111,110,101,45,77,97,116,99,104]⟩) (Yc ⟨#[73,102,45,77,111,100,105,102,105,101,100,45,83,105,110,99,101]⟩)=false:=Bool.eq_false_iff.2 λh=>absurd (Za.1 h) (by decide +kernel)
def Xmc:eqv (Yc ⟨#[73,102,45,78,111,110,101,45,77,97,116,99,104]⟩) (Yc ⟨#[72,111,115,116]⟩)=false:=Bool.eq_false_iff.2 λh=>absurd (Za.1 h) (by decide +kernel)
def Xmd:XK ⟨⟨#[88,45,67,97,99,104,101]⟩,⟨#[109,105,115,115]⟩⟩=0:=by
 unfold XK
 simp only
 rw[if_neg (by rw[Xmb]; decide),if_neg (by decide),if_pos]
 rw[Bool.and_eq_true]
 exact⟨by decide +kernel,Za.2 (by decide +kernel)⟩
def Xme{hs:List Xd}{n:ByteArray}(h:∀x∈hs,eqv (Yc x.Name) (Yc n)=false):UR hs n=false:=by
 unfold UR
 rw[List.any_eq_false]
 intro x hx
 rw[h x hx]
 decide
def XoJ{hs:List Xd}{n:ByteArray}(h:UR hs n=false){x:Xd}(hx:x∈hs):eqv (Yc x.Name) (Yc n)=false:=by
 unfold UR at h
 rw[List.any_eq_false] at h
 simpa using h x hx
def XhQ{r:Request}:Xe r=0↔(Yy r.Method&&Qr r.Host&&Qs r.Path)=true/\Xa r.Headers=0/\UR r.Headers ⟨#[72,111,115,116]⟩=false/\r.Headers.length<20:=by
 unfold Xe
 cases h1:(Yy r.Method&&Qr r.Host&&Qs r.Path)
 ·rw[if_pos rfl]
  exact⟨(λh=>by cases h),(λh=>by cases h.1)⟩
 rw[if_neg (by decide)]
 by_cases h2:Xa r.Headers=0
 ·rw[if_neg (by simpa using h2)]
  cases h3:UR r.Headers ⟨#[72,111,115,116]⟩
  ·rw[if_neg (by decide)]
   by_cases h4:20<=(r.Headers.length:Int)
   ·rw[if_pos h4]; exact⟨(λh=>by cases h),(λh=>by omega)⟩
   ·rw[if_neg h4]; exact⟨(λ_=>⟨rfl,h2,rfl,by omega⟩),λ_=>rfl⟩
  ·rw[if_pos rfl]; exact⟨(λh=>by cases h),(λh=>by cases h.2.2.1)⟩
 ·rw[if_pos (by simpa using h2)]
  exact⟨λh=>absurd h h2,λh=>absurd h.2.1 h2⟩
def US(r:Request)(e:X2)(has:Bool):Bool:=has&&!eqv (QE e.Headers) ⟨#[]⟩&&decide (((YS r).length:Int)<19)
def Xdt(r:Request)(e:X2)(has:Bool):(XH r e has).Headers=if US r e has=true then YS r++[⟨⟨#[73,102,45,78,111,110,101,45,77,97,116,99,104]⟩,QE e.Headers⟩] else YS r:=rfl
def U9{r:Request}{e:X2}{has:Bool}(hr:Xe r=0)(he:(has&&Xf e !=0)=false):Xa (XH r e has).Headers=0/\(XH r e has).Headers.length<20/\(∀x∈(XH r e has).Headers,(x∈r.Headers/\eqv (Yc x.Name) (Yc ⟨#[73,102,45,78,111,110,101,45,77,97,116,99,104]⟩)=false/\eqv (Yc x.Name) (Yc ⟨#[73,102,45,77,111,100,105,102,105,101,100,45,83,105,110,99,101]⟩)=false)\/x=⟨⟨#[73,102,45,78,111,110,101,45,77,97,116,99,104]⟩,QE e.Headers⟩):=by
 obtain⟨r1,r2,r3,r4⟩:=XhQ.1 hr
 have hl:=Qt r
 have hc:=(XcH.1 r2).2
 rw[Xdt]
 cases ha:US r e has
 ·rw[if_neg (by decide)]
  exact⟨XcH.2 ⟨by omega,λx hx=>hc x (UA hx).1⟩,by omega,λx hx=>.inl (UA hx)⟩
 ·rw[if_pos rfl]
  unfold US at ha
  simp only[Bool.and_eq_true,Bool.not_eq_true',decide_eq_true_eq] at ha
  obtain⟨⟨a1,a2⟩,a3⟩:=ha
  rw[a1,Bool.true_and] at he
  have he0:=(XcH.1 (ZA (by simpa using he))).2
  obtain⟨x,hx,hv⟩:=XhP (hs:=e.Headers) (n:=⟨#[69,84,97,103]⟩) a2
  have hn:XK ⟨⟨#[73,102,45,78,111,110,101,45,77,97,116,99,104]⟩,QE e.Headers⟩=0:=by
   have:=he0 x hx
   obtain⟨xn,xv⟩:=x
   simp only at hv
   subst hv
   exact XhO this Xl8
  refine⟨XcH.2 ⟨by simp only[List.length_append,List.length_cons,List.length_nil]; omega,λy hy=>?_⟩,by simp only[List.length_append,List.length_cons,List.length_nil]; omega,λy hy=>?_⟩
  ·rcases List.mem_append.1 hy with hy | hy
   ·exact hc y (UA hy).1
   ·rw[List.mem_singleton.1 hy]; exact hn
  ·rcases List.mem_append.1 hy with hy | hy
   ·exact .inl (UA hy)
   ·exact .inr (List.mem_singleton.1 hy)
def Xfe{r:Request}{e:X2}{has:Bool}(hr:Xe r=0)(he:(has&&Xf e !=0)=false):Xe (XH r e has)=0:=by
 obtain⟨r1,r2,r3,r4⟩:=XhQ.1 hr
 obtain⟨h1,h2,h3⟩:=U9 hr he
 simp only[Bool.and_eq_true] at r1
 refine XhQ.2 ⟨?_,h1,Xme λx hx=>?_,h2⟩
 ·have hg:Yy ⟨#[71,69,84]⟩=true:=by unfold Yy; rw[Yu]; rfl
  show(Yy ⟨#[71,69,84]⟩&&Qr r.Host&&Qs r.Path)=true
  rw[hg,r1.1.2,r1.2]; rfl
 ·rcases h3 x hx with⟨a,_⟩ | a
  ·exact XoJ r3 a
  ·rw[a]; exact Xmc
def Xff{r:Request}{e:X2}{has:Bool}(hr:Xe r=0)(he:(has&&Xf e !=0)=false):(Qv (XH r e has).Headers ⟨#[105,102,45,109,111,100,105,102,105,101,100,45,115,105,110,99,101]⟩).Code=4:=by
 obtain⟨h1,h2,h3⟩:=U9 hr he
 have hv:UR (XH r e has).Headers ⟨#[105,102,45,109,111,100,105,102,105,101,100,45,115,105,110,99,101]⟩=false:=Xme λx hx=>by
  rw[XoI]
  rcases h3 x hx with⟨_,_,a⟩ | a
  ·exact a
  ·rw[a]; exact Xqa
 unfold Qv
 rw[if_neg (by rw[h1]; decide),if_neg (by rw[Xma]; decide),if_pos hv]
def XhR(p v:ByteArray):XaI p [v]=v:=by
 unfold XaI
 rw[List.map_cons,List.map_nil,Lib.join_one]
def XgF{r:Request}{e:X2}{has:Bool}(hr:Xe r=0)(he:(has&&Xf e !=0)=false) :
  (∃t,Qv (XH r e has).Headers ⟨#[105,102,45,110,111,110,101,45,109,97,116,99,104]⟩=⟨0,t⟩/\has=true/\QF e.Headers=⟨0,t⟩)\/(Qv (XH r e has).Headers ⟨#[105,102,45,110,111,110,101,45,109,97,116,99,104]⟩=⟨4,⟨#[]⟩⟩/\(has=false\/((QF e.Headers).Code !=0)=true\/19<=(r.Headers.length:Int))):=by
 obtain⟨h1,h2,h3⟩:=U9 hr he
 have h0:∀x∈YS r,eqv (Yc x.Name) (Yc ⟨#[105,102,45,110,111,110,101,45,109,97,116,99,104]⟩)=false:=λx hx=>by rw[Xlr]; exact(UA hx).2.1
 have hu:Qv (XH r e has).Headers ⟨#[105,102,45,110,111,110,101,45,109,97,116,99,104]⟩=if UR (XH r e has).Headers ⟨#[105,102,45,110,111,110,101,45,109,97,116,99,104]⟩=false then⟨4,⟨#[]⟩⟩ else⟨0,XaI ⟨#[44,32]⟩ (Yh (XH r e has).Headers ⟨#[105,102,45,110,111,110,101,45,109,97,116,99,104]⟩)⟩:=by
  unfold Qv
  rw[if_neg (by rw[h1]; decide),if_neg (by rw[Xl9]; decide)]
 have hl:=Qt r
 have hv0:(YS r).filter (λx=>eqv (Yc x.Name) (Yc ⟨#[105,102,45,110,111,110,101,45,109,97,116,99,104]⟩))=[]:=List.filter_eq_nil_iff.2 λx hx=>by rw[h0 x hx]; decide
 rw[hu,Xdt]
 cases ha:US r e has
 ·right
  simp only[Bool.false_eq_true,if_false]
  rw[if_pos (Xme h0)]
  refine⟨rfl,?_⟩
  unfold US at ha
  cases hh:has
  ·exact .inl rfl
  right
  rw[hh,Bool.true_and] at ha he
  have he1:=ZA (by simpa using he)
  cases hv:eqv (QE e.Headers) ⟨#[]⟩
  ·right
   rw[hv] at ha
   simp only[Bool.not_false,Bool.true_and,decide_eq_false_iff_not] at ha
   omega
  ·left
   unfold QF
   rw[if_neg (by rw[he1]; decide),if_pos hv]
   rfl
 ·left
  simp only[if_true]
  unfold US at ha
  simp only[Bool.and_eq_true,Bool.not_eq_true',decide_eq_true_eq] at ha
  obtain⟨⟨a1,a2⟩,a3⟩:=ha
  rw[a1,Bool.true_and] at he
  have he1:=ZA (by simpa using he)
  have hyes:eqv (Yc ⟨#[73,102,45,78,111,110,101,45,77,97,116,99,104]⟩) (Yc ⟨#[105,102,45,110,111,110,101,45,109,97,116,99,104]⟩)=true:=by rw[Xlr]; exact Yu _
  have hany:UR (YS r++[Xd.mk ⟨#[73,102,45,78,111,110,101,45,77,97,116,99,104]⟩ (QE e.Headers)]) ⟨#[105,102,45,110,111,110,101,45,109,97,116,99,104]⟩=true:=by
   unfold UR
   rw[List.any_append,List.any_cons,hyes]
   simp
  have hvs:Yh (YS r++[Xd.mk ⟨#[73,102,45,78,111,110,101,45,77,97,116,99,104]⟩ (QE e.Headers)]) ⟨#[105,102,45,110,111,110,101,45,109,97,116,99,104]⟩=[QE e.Headers]:=by
   unfold Yh
   rw[List.filter_append,hv0,List.filter_cons,if_pos hyes]
   rfl
  rw[if_neg (by rw[hany]; decide),hvs,XhR]
  refine⟨_,rfl,a1,?_⟩
  unfold QF
  rw[if_neg (by rw[he1]; decide),if_neg (by rw[a2]; decide)]
def XhS{n v:ByteArray}:∀{hs:List Xd} {x:Xd},x∈setV n v hs->x∈hs\/x=⟨n,v⟩
 | [],x,h=>.inr (List.mem_singleton.1 h)
 | y :: r,x,h=>by
  rw[setV] at h
  split at h
  ·rcases List.mem_cons.1 h with h | h
   ·exact .inr h
   ·exact .inl (List.mem_cons_of_mem _ (Xds h).1)
  ·rcases List.mem_cons.1 h with h | h
   ·exact .inl (by rw[h]; exact List.mem_cons_self ..)
   ·exact(XhS h).imp (List.mem_cons_of_mem _) id
def XjK{y:Response}{head:Bool}(h:Xu y=0):Xu ⟨y.Status,QO y,if head=true then[] else y.Body⟩=0:=by
 have h1:=XcH.1 (Zp h)
 have h2:Xa (QO y)=0:=by
  unfold QO
  split
  ·exact Zp h
  ·rename_i hc
   exact XcH.2 ⟨by omega,λx hx=>(XhS hx).elim (h1.2 x) (λe=>by rw[e]; exact Xmd)⟩
 have hb:(if head=true then[] else y.Body).length<=y.Body.length:=by split<;>simp
 unfold Xu at h ⊢
 simp only
 split at h
 ·cases h
 rename_i c1
 rw[if_neg c1,if_neg (by rw[h2]; decide)]
 split at h
 ·rename_i hc; rw[h] at hc; exact absurd hc (by decide)
 split at h
 ·cases h
 ·rw[if_neg (by omega)]
def Xmf(code:List UInt8):Xde (Xjl code):=by
 have h1:=Xfc code (a:=0) rfl
 have h0:∀x∈(Xlq code 0).Headers,Xg x:=Xan code _ _ (λx hx=>by simp at hx)
 have hb:=XdZ code (a:=(XeX code 0).1) (by simp only[aOk,decide_eq_true_eq]; omega)
 have hh:smL Xg (Xlq code 0).Headers:=⟨by have:(Xlq code 0).Headers.length<=3:=h1.2.2.1; omega,h0⟩
 have hb2:smL XeT (Xlq code 0).Body:=⟨by show(Xcj code (XeX code 0).1).length<=_; omega,λ_ _=>trivial⟩
 have hA:XjJ code 0=(XeX code 0).1+1:=rfl
 have hd:dOk (XjJ code 0+1)=true:=by simp only[dOk,decide_eq_true_eq]; omega
 have h3:=Xdn code hd
 have h4:=Xam code hd
 have m1:=YX code [2000,2001] (show aOk (XjJ code 0+1)=true by simp only[aOk,decide_eq_true_eq]; omega) (by simp)
 simp only[List.mem_cons,List.not_mem_nil,or_false] at m1
 unfold Xjl
 simp only
 repeat' split
 ·exact⟨trivial,hh,hb2⟩
 ·exact⟨trivial,⟨by show(QN code (XjJ code 0+1)).2.length<=_; omega,h3⟩,hb2⟩
 ·exact⟨trivial,hh,⟨by show(List.replicate _ _).length<=_; rw[List.length_replicate]; omega,λ_ _=>trivial⟩⟩
 ·exact⟨trivial,hh,hb2⟩
end
end Go.Vm.A
