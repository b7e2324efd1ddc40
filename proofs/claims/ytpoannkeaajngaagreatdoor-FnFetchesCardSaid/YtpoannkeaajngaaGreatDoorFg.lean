/- Functions of the program, walked by the evaluator. -/
import Derived.Test.YtpoannkeaajngaaGreatDoorWb
import Derived.Test.YtpoannkeaajngaaGreatDoorWa
import Derived.Test.YtpoannkeaajngaaGreatDoorFa
import Derived.Test.YtpoannkeaajngaaGreatDoorFb
import Derived.Test.YtpoannkeaajngaaGreatDoorFc
import Derived.Test.YtpoannkeaajngaaGreatDoorFe
import Derived.Test.YtpoannkeaajngaaGreatDoorFf
set_option linter.unusedVariables false
set_option linter.unusedSimpArgs false
set_option autoImplicit false
set_option maxRecDepth 100000
set_option maxHeartbeats 4000000
set_option linter.defProp false
namespace Go.Vm.A
open Go.Proofs
open Nat renaming reduceAdd -> nA, reduceSub -> nS, reduceMul -> nM, reduceBEq -> nB, reduceEqDiff -> nE, reduceLeDiff -> nL, reduceLT -> nT, reduceBneDiff -> nN
open Int renaming reduceLE -> iL, reduceLT -> iT, reduceEq -> iE, reduceAdd -> iA, reduceMul -> iM, reduceSub -> iS, reduceNeg -> iG, reduceBEq -> iB, reduceBNe -> iN, reduceToNat -> iZ
noncomputable section
def YS(r:Request):List Xd:=YM (YM r.Headers ⟨#[73,102,45,78,111,110,101,45,77,97,116,99,104]⟩) ⟨#[73,102,45,77,111,100,105,102,105,101,100,45,83,105,110,99,101]⟩
def Xfb(r:Request):YM (YM r.Headers ⟨#[105,102,45,110,111,110,101,45,109,97,116,99,104]⟩) ⟨#[105,102,45,109,111,100,105,102,105,101,100,45,115,105,110,99,101]⟩=YS r:=by
 unfold YS
 rw[Xd6 (show Yc ⟨#[105,102,45,110,111,110,101,45,109,97,116,99,104]⟩=Yc ⟨#[73,102,45,78,111,110,101,45,77,97,116,99,104]⟩ by rfl),Xd6 (show Yc ⟨#[105,102,45,109,111,100,105,102,105,101,100,45,115,105,110,99,101]⟩=Yc ⟨#[73,102,45,77,111,100,105,102,105,101,100,45,83,105,110,99,101]⟩ by rfl)]
def XH(r:Request)(e:X2)(has:Bool):Request :=
 ⟨⟨#[71,69,84]⟩,r.Host,r.Path,if(has&&!eqv (QE e.Headers) ⟨#[]⟩&&decide (((YS r).length:Int)<19))=true then YS r++[⟨⟨#[73,102,45,78,111,110,101,45,77,97,116,99,104]⟩,QE e.Headers⟩] else YS r⟩
def U2:Request:=⟨⟨#[]⟩,⟨#[]⟩,⟨#[]⟩,[]⟩
def Y1(r:Request)(e:X2)(has:Bool):X8:=if(Xe r !=0)=true then⟨Xe r,U2⟩ else if(has&&Xf e !=0)=true then⟨Xf e,U2⟩ else⟨0,XH r e has⟩
def XcG{r:Request}(h:smL Xg r.Headers):smL Xg (YS r):=Xdr (Xdr h)
def Qt(r:Request):(YS r).length<=r.Headers.length:=Nat.le_trans (QW _ _) (QW _ _)
def Qu{r:Request}(h:Xe r=0):Xa r.Headers=0:=by
 unfold Xe at h
 split at h
 ·cases h
 split at h
 ·rename_i hc; rw[h] at hc; exact absurd hc (by decide)
 ·rename_i hc; simpa using hc
def Xbl{hs:List Xd}(h:Xa hs=0):(Xa hs !=0)=false:=by simpa using h
def s31:SP Tryz.prog:=mkS tyA 31 Tryz.f31 [s18,s70] {md:=[.ro 1,.ro 1,.ro 1],rg:=[(0,[2,3,4,6,7,35],[3,4,6]),(1,[2,3,4,6,7,35],[3,4,6]),(2,[3,4,6,7,13,35],[3,4,6]),(3,[3,6,7,8,35],[3,6,8]),(4,[3,6,7,8,24,35],[3,6,8]),(5,[3,6,7,35],[3,6]),(6,[6,7,35],[6])],rets:=some ([6,7,35],[6])} Tryz.func31 (by kernel_rfl)
@[go_sem] def d31:s31.g=31/\s31.fs=⟨[.ro 1,.ro 1,.ro 1],s31.F,false⟩:=⟨nr rfl,nr rfl⟩
@[go_sem] def e31(y0 y1 y2:ByteArray)(y3:List Xd)(y4:ByteArray)(y5:Int)(y6:List Xd)(y7:List UInt8)(y8 y9 y10 y11 y12:Int)(y13 y14:Bool)(y15:List ByteArray)(y16:Int)(has:Bool)(h0:((Request.mk y0 y1 y2 y3).Headers.length<=20/\smL Xg (Request.mk y0 y1 y2 y3).Headers/\smL Xg (X2.mk y4 y5 y6 y7 (Meta.mk y8 y9 y10 y11 y12 y13 y14) y15 y16).Headers/\(!has||decide (Xa (X2.mk y4 y5 y6 y7 (Meta.mk y8 y9 y10 y11 y12 y13 y14) y15 y16).Headers=0))=true)):s31.F [.agg [.s y0,.s y1,.s y2,.sl .ro 2 (y3.map (Xb .ro))],.agg [.s y4,.i .i64 y5,.sl .ro 2 (y6.map (Xb .ro)),.sl .ro 1 (y7.map Xn),.i .i64 y8,.i .i64 y9,.i .i64 y10,.i .i64 y11,.i .i64 y12,.b y13,.b y14,.sl .ro 1 (y15.map Xbi),.i .i64 y16],.b has]=some (.agg (Zs .mut (XH (Request.mk y0 y1 y2 y3) (X2.mk y4 y5 y6 y7 (Meta.mk y8 y9 y10 y11 y12 y13 y14) y15 y16) has)),[.u,.u,.u]):=Xm (0) rfl rfl (λcx h=>by
 obtain⟨hl,hH,hE,hEb⟩:=h0
 have hEl:has=true->Xa y6=0:=λx=>by subst x; simpa using hEb
 have g1:y3.length<=20/\smL Xg y3/\okN ⟨#[73,102,45,78,111,110,101,45,77,97,116,99,104]⟩=true:=⟨hl,hH,by decide⟩
 have g2:(YM y3 ⟨#[73,102,45,78,111,110,101,45,77,97,116,99,104]⟩).length<=20/\smL Xg (YM y3 ⟨#[73,102,45,78,111,110,101,45,77,97,116,99,104]⟩)/\okN ⟨#[73,102,45,77,111,100,105,102,105,101,100,45,83,105,110,99,101]⟩=true:=Xf8 g1 (by decide)
 have g3:YM (YM y3 ⟨#[73,102,45,78,111,110,101,45,77,97,116,99,104]⟩) ⟨#[73,102,45,77,111,100,105,102,105,101,100,45,83,105,110,99,101]⟩=YS (Request.mk y0 y1 y2 y3):=rfl
 have g4:=Qt (Request.mk y0 y1 y2 y3)
 obtain⟨L,hL⟩:∃L,YS (Request.mk y0 y1 y2 y3)=L:=⟨_,rfl⟩
 rw[hL] at g3 g4
 simp only at g4
 have g5:(L.length+1)*32<=140737488355328:=by omega
 have g6:L.map (Xb .mut)++[[.s ⟨#[73,102,45,78,111,110,101,45,77,97,116,99,104]⟩,.s (QE y6)]]=(L++[Xd.mk ⟨#[73,102,45,78,111,110,101,45,77,97,116,99,104]⟩ (QE y6)]).map (Xb .mut):=by simp[Xb]
 cases has
 ·simp only[go_sem,reduceIte,↓reduceIte,reduceCtorEq,nA,nS,nM,nB,nE,nL,nT,nN,iL,iT,iE,iA,iM,iS,iG,iB,iN,iZ,h,hL,g1,g2,g3,XH]
 have ez:=Xbl (hEl rfl)
 cases c1:eqv (QE y6) ⟨#[]⟩
 rotate_left
 ·simp only[go_sem,reduceIte,↓reduceIte,reduceCtorEq,nA,nS,nM,nB,nE,nL,nT,nN,iL,iT,iE,iA,iM,iS,iG,iB,iN,iZ,h,hL,g1,g2,g3,hE,ez,c1,QF,XH]
 by_cases c2:(L.length:Int)<19<;>simp only[go_sem,reduceIte,↓reduceIte,reduceCtorEq,nA,nS,nM,nB,nE,nL,nT,nN,iL,iT,iE,iA,iM,iS,iG,iB,iN,iZ,h,hL,g1,g2,g3,g5,g6,hE,ez,c1,c2,QF,XH]) (by simp only[go_sem,reduceIte,↓reduceIte,reduceCtorEq,nA,nS,nM,nB,nE,nL,nT,nN,iL,iT,iE,iA,iM,iS,iG,iB,iN,iZ,ZH,XF,XU,XO])
def s7:SP Tryz.prog:=mkS tyA 7 Tryz.f7 [s19,s30,s31] {md:=[.ro 1,.ro 1,.ro 1],rg:=[(0,[2,3,4,6,24],[3,4,6]),(1,[2,3,4,6,7,24],[3,4,6]),(2,[2,3,4,6,7,14,24],[3,4,6]),(3,[2,3,4,6,7,24],[3,4,6]),(4,[2,3,4,6,7,18,24],[3,4,6]),(5,[6,24],[6]),(6,[6,24],[6])],rets:=some ([6,24],[6])} Tryz.func7 (by kernel_rfl)
@[go_sem] def d7:s7.g=7/\s7.fs=⟨[.ro 1,.ro 1,.ro 1],s7.F,false⟩:=⟨nr rfl,nr rfl⟩
@[go_sem] def e7(y0 y1 y2:ByteArray)(y3:List Xd)(y4:ByteArray)(y5:Int)(y6:List Xd)(y7:List UInt8)(y8 y9 y10 y11 y12:Int)(y13 y14:Bool)(y15:List ByteArray)(y16:Int)(has:Bool)(h0:(smL Xg (Request.mk y0 y1 y2 y3).Headers/\smL Xg (X2.mk y4 y5 y6 y7 (Meta.mk y8 y9 y10 y11 y12 y13 y14) y15 y16).Headers)):s7.F [.agg [.s y0,.s y1,.s y2,.sl .ro 2 (y3.map (Xb .ro))],.agg [.s y4,.i .i64 y5,.sl .ro 2 (y6.map (Xb .ro)),.sl .ro 1 (y7.map Xn),.i .i64 y8,.i .i64 y9,.i .i64 y10,.i .i64 y11,.i .i64 y12,.b y13,.b y14,.sl .ro 1 (y15.map Xbi),.i .i64 y16],.b has]=some (.agg (Yo .mut (Y1 (Request.mk y0 y1 y2 y3) (X2.mk y4 y5 y6 y7 (Meta.mk y8 y9 y10 y11 y12 y13 y14) y15 y16) has)),[.u,.u,.u]):=Xm (0) rfl rfl (λcx h=>by
 obtain⟨hH,hE⟩:=h0
 by_cases z:Xe (Request.mk y0 y1 y2 y3)=0
 rotate_left
 ·have z':(Xe (Request.mk y0 y1 y2 y3) !=0)=true:=by simpa using z
  have z2:(Xe (Request.mk y0 y1 y2 y3)==0)=false:=by simpa using z
  simp only[go_sem,reduceIte,↓reduceIte,reduceCtorEq,nA,nS,nM,nB,nE,nL,nT,nN,iL,iT,iE,iA,iM,iS,iG,iB,iN,iZ,h,hH,z',z2,Y1,U2]
 have hl:=XC (Qu z)
 simp only at hl
 have z':(Xe (Request.mk y0 y1 y2 y3) !=0)=false:=by simpa using z
 cases has
 ·have hk:=hl
  simp only[go_sem,reduceIte,↓reduceIte,reduceCtorEq,nA,nS,nM,nB,nE,nL,nT,nN,iL,iT,iE,iA,iM,iS,iG,iB,iN,iZ,h,hH,hE,z,hk,Y1,U2]
 by_cases y:Xf (X2.mk y4 y5 y6 y7 (Meta.mk y8 y9 y10 y11 y12 y13 y14) y15 y16)=0
 rotate_left
 ·have y':(Xf (X2.mk y4 y5 y6 y7 (Meta.mk y8 y9 y10 y11 y12 y13 y14) y15 y16) !=0)=true:=by simpa using y
  simp only[go_sem,reduceIte,↓reduceIte,reduceCtorEq,nA,nS,nM,nB,nE,nL,nT,nN,iL,iT,iE,iA,iM,iS,iG,iB,iN,iZ,h,hH,hE,z,y',Y1,U2]
 have y':(Xf (X2.mk y4 y5 y6 y7 (Meta.mk y8 y9 y10 y11 y12 y13 y14) y15 y16) !=0)=false:=by simpa using y
 have hk:=hl
 have hk2:=ZA y
 simp only at hk2
 simp only[go_sem,reduceIte,↓reduceIte,reduceCtorEq,nA,nS,nM,nB,nE,nL,nT,nN,iL,iT,iE,iA,iM,iS,iG,iB,iN,iZ,h,hH,hE,z,y,hk,hk2,Y1,U2]) (by simp only[go_sem,reduceIte,↓reduceIte,reduceCtorEq,nA,nS,nM,nB,nE,nL,nT,nN,iL,iT,iE,iA,iM,iS,iG,iB,iN,iZ,ZH,XF,XU,XO])
def XeX(code:List UInt8)(a:Int):Int×List Xd:=Xbj code (a+2) (XZ code (a+1) [0,1,2,3])
def Xlq(code:List UInt8)(a:Int):Response:=⟨XZ code a [200,200,200,404,410,500,503,304,301],(XeX code a).2,Xcj code (XeX code a).1⟩
def XjJ(code:List UInt8)(a:Int):Int:=(XeX code a).1+1
def Xfc(code:List UInt8){a:Int}(h:aOk (a+1)=true):a+2<=(XeX code a).1/\(XeX code a).1<=a+11/\(XeX code a).2.length<=3/\nOk (XZ code (a+1) [0,1,2,3])=true:=by
 have m:=YX code [0,1,2,3] h (by simp)
 simp only[List.mem_cons,List.not_mem_nil,or_false] at m
 have h2:=Xdj code (a+2) (XZ code (a+1) [0,1,2,3])
 unfold LiI at h2
 unfold XeX
 simp only[nOk,decide_eq_true_eq]
 omega
def Xjl(code:List UInt8):Response :=
 let r:=Xlq code 0
 let p:=XjJ code 0
 let k:=XW code p 10
 if k=0 then{r with Status:=XZ code (p+1) [199,600,599,-1]}
 else if k=1 then{r with Headers:=(QN code (p+1)).2}
 else if k=2 then{r with Body:=List.replicate (XZ code (p+1) [2000,2001]).toNat 0}
 else r
def s71:SP Tryz.prog:=mkS tyA 71 Tryz.f71 [s37,Xln,XnV] {md:=[.rw 2],wk:=true,rets:=some ([0,2,10,12],[0,2])} Tryz.func71 (by kernel_rfl)
@[go_sem] def d71:s71.g=71/\s71.fs=⟨[.rw 2],s71.F,true⟩:=⟨nr rfl,nr rfl⟩
@[go_sem] def e71(code:List UInt8)(a:Int)(h1:dOk a=true):s71.F [.agg [.sl .ro 1 (code.map Xn),.i .i64 a]]=some (.agg (Zn .mut (Xlq code a)),[.agg [.sl .ro 1 (code.map Xn),.i .i64 (XjJ code a)]]):=Xm (0) rfl rfl (λcx h=>by
 have h1':=h1
 simp only[dOk,decide_eq_true_eq] at h1'
 have p0:aOk a=true:=by simp only[aOk,decide_eq_true_eq]; omega
 have p1:aOk (a+1)=true:=by simp only[aOk,decide_eq_true_eq]; omega
 have p2:lOk (a+2)=true:=by simp only[lOk,decide_eq_true_eq]; omega
 have hD:=Xfc code p1
 have hn:=hD.2.2.2
 have hu:Xlq code a=⟨XZ code a [200,200,200,404,410,500,503,304,301],(XeX code a).2,Xcj code (XeX code a).1⟩:=rfl
 have hE:XjJ code a=(XeX code a).1+1:=rfl
 have hDD:Xbj code (a+2) (XZ code (a+1) [0,1,2,3])=XeX code a:=rfl
 obtain⟨D,hD2⟩:∃D,XeX code a=D:=⟨_,rfl⟩
 rw[hD2] at hD hu hE hDD
 obtain⟨d,hs⟩:=D
 simp only at hD hu hE
 have q0:aOk d=true:=by simp only[aOk,decide_eq_true_eq]; omega
 simp only[go_sem,reduceIte,↓reduceIte,reduceCtorEq,nA,nS,nM,nB,nE,nL,nT,nN,iL,iT,iE,iA,iM,iS,iG,iB,iN,iZ,h,p0,p1,p2,hn,hDD,q0,hu,hE,Int.add_assoc,Int.reduceAdd]) (rfl)
def s32:SP Tryz.prog:=mkS tyA 32 Tryz.f32 [s25,s37,s64,s65,s71] {md:=[.ro 1],rg:=[(0,[0,2],[2,4]),(1,[2,3],[2,4,6]),(2,[2,3,4],[2,4,6]),(3,[2,3,4,10],[2,4,6]),(4,[2,3,4,10,11],[2,4,6]),(5,[2,4],[2,4]),(6,[2,3,4,10,17],[2,4,6]),(7,[2,4],[2,4]),(8,[2,3,4,22],[2,4,6]),(9,[2,4],[2,4]),(10,[2],[2,4])],rets:=some ([2],[2,4])} Tryz.func32 (by kernel_rfl)
@[go_sem] def d32:s32.g=32/\s32.fs=⟨[.ro 1],s32.F,false⟩:=⟨nr rfl,nr rfl⟩
@[go_sem] def e32(code:List UInt8):s32.F [.sl .ro 1 (code.map Xn)]=some (.agg (Zn .mut (Xjl code)),[.u]):=Xm (0) rfl rfl (λcx h=>by
 have f0:dOk 0=true:=rfl
 have hD:=Xfc code (a:=0) rfl
 have hE:XjJ code 0=(XeX code 0).1+1:=rfl
 obtain⟨p,hp⟩:∃p,XjJ code 0=p:=⟨_,rfl⟩
 obtain⟨r,hr⟩:∃r,Xlq code 0=r:=⟨_,rfl⟩
 rw[hp] at hE
 have p2:aOk p=true:=by simp only[aOk,decide_eq_true_eq]; omega
 have p3:aOk (p+1)=true:=by simp only[aOk,decide_eq_true_eq]; omega
 have p4:dOk (p+1)=true:=by simp only[dOk,decide_eq_true_eq]; omega
 obtain⟨k,hk⟩:∃k,XW code p 10=k:=⟨_,rfl⟩
 by_cases c0:k=0
 ·subst c0
  simp only[go_sem,reduceIte,↓reduceIte,reduceCtorEq,nA,nS,nM,nB,nE,nL,nT,nN,iL,iT,iE,iA,iM,iS,iG,iB,iN,iZ,h,Xjl,hr,hp,hk,f0,p2,p3,p4]
 have d0:(k==0)=false:=by simpa using c0
 by_cases c1:k=1
 ·subst c1
  simp only[go_sem,reduceIte,↓reduceIte,reduceCtorEq,nA,nS,nM,nB,nE,nL,nT,nN,iL,iT,iE,iA,iM,iS,iG,iB,iN,iZ,h,Xjl,hr,hp,hk,f0,p2,p3,p4]
 have d1:(k==1)=false:=by simpa using c1
 by_cases c2:k=2
 ·subst c2
  have m1:=YX code [2000,2001] p3 (by simp)
  simp only[List.mem_cons,List.not_mem_nil,or_false] at m1
  obtain⟨K,hK⟩:∃K,XZ code (p+1) [2000,2001]=K:=⟨_,rfl⟩
  rw[hK] at m1
  have t1:0<=K:=by omega
  have t2:K*1<=140737488355328:=by omega
  have t4:List.replicate K.toNat [AV.i .u8 0]=(List.replicate K.toNat (0:UInt8)).map Xn:=by simp[Xn]
  simp only[go_sem,reduceIte,↓reduceIte,reduceCtorEq,nA,nS,nM,nB,nE,nL,nT,nN,iL,iT,iE,iA,iM,iS,iG,iB,iN,iZ,h,Xjl,hr,hp,hk,f0,p2,p3,p4,hK,t1,t2,t4]
 have d2:(k==2)=false:=by simpa using c2
 simp only[go_sem,reduceIte,↓reduceIte,reduceCtorEq,nA,nS,nM,nB,nE,nL,nT,nN,iL,iT,iE,iA,iM,iS,iG,iB,iN,iZ,h,Xjl,hr,hp,hk,f0,p2,p3,p4,c0,d0,c1,d1,c2,d2]) (by simp only[go_sem,reduceIte,↓reduceIte,reduceCtorEq,nA,nS,nM,nB,nE,nL,nT,nN,iL,iT,iE,iA,iM,iS,iG,iB,iN,iZ,ZH,XF,XU,XO])
def s33:SP Tryz.prog:=mkS tyA 33 Tryz.f33 [] {md:=[.ro 1,.ro 1],wk:=true,rets:=some ([0,4,5],[10])} Tryz.func33 (by kernel_rfl)
@[go_sem] def d33:s33.g=33/\s33.fs=⟨[.ro 1,.ro 1],s33.F,true⟩:=⟨nr rfl,nr rfl⟩
@[go_sem] def e33(code:List UInt8)(n:Int):s33.F [.sl .ro 1 (code.map Xn),.i .i64 n]=some (.tup [.agg [.sl .ro 1 (code.map Xn),.i .i64 ((IntKind.i64).wrap (5+(IntKind.i64).wrap (7*n)))]],[.u,.u]):=Xm (0) rfl rfl (λcx h=>by
 simp only[go_sem,reduceIte,↓reduceIte,reduceCtorEq,nA,nS,nM,nB,nE,nL,nT,nN,iL,iT,iE,iA,iM,iS,iG,iB,iN,iZ,h]) (rfl)
def s8:SP Tryz.prog:=mkS tyA 8 Tryz.f8 [s27,s32,s33] {md:=[.ro 1],rets:=some ([2,3],[2])} Tryz.func8 (by kernel_rfl)
@[go_sem] def d8:s8.g=8/\s8.fs=⟨[.ro 1],s8.F,false⟩:=⟨nr rfl,nr rfl⟩
@[go_sem] def e8(code:List UInt8):s8.F [.sl .ro 1 (code.map Xn)]=some (.tup [.agg (Zn .mut (Xjl code)),.b (XW code 26 3==0)],[.u]):=Xm (0) rfl rfl (λcx h=>by
 have f0:aOk 26=true:=rfl
 have w1:(IntKind.i64).wrap 21=21:=YC (by omega) (by omega)
 have w2:(IntKind.i64).wrap 26=26:=YC (by omega) (by omega)
 obtain⟨R,hR⟩:∃R,Xjl code=R:=⟨_,rfl⟩
 simp only[go_sem,reduceIte,↓reduceIte,reduceCtorEq,nA,nS,nM,nB,nE,nL,nT,nN,iL,iT,iE,iA,iM,iS,iG,iB,iN,iZ,h,hR,f0,w1,w2]) (by simp only[go_sem,reduceIte,↓reduceIte,reduceCtorEq,nA,nS,nM,nB,nE,nL,nT,nN,iL,iT,iE,iA,iM,iS,iG,iB,iN,iZ,ZH,XF,XU,XO])
def s45:SP Tryz.prog:=mkS tyA 45 Tryz.f45 [s43] {md:=[.ro 1],rets:=some ([2],[])} Tryz.func45 (by kernel_rfl)
@[go_sem] def d45:s45.g=45/\s45.fs=⟨[.ro 1],s45.F,false⟩:=⟨nr rfl,nr rfl⟩
@[go_sem] def e45(v:Int):s45.F [.i .i64 v]=some (.b (within v 200 599),[.u]):=Xm (0) rfl rfl (λcx h=>by
 simp only[go_sem,reduceIte,↓reduceIte,reduceCtorEq,nA,nS,nM,nB,nE,nL,nT,nN,iL,iT,iE,iA,iM,iS,iG,iB,iN,iZ,h]) (rfl)
def Xu(r:Response):Int:=if within r.Status 200 599=false then 3 else if(Xa r.Headers !=0)=true then Xa r.Headers else if 2000<(r.Body.length:Int) then 2 else 0
def s16:SP Tryz.prog:=mkS tyA 16 Tryz.f16 [s45,s46] {md:=[.ro 1],rg:=[(0,[1],[1]),(1,[1,7],[1]),(2,[2],[]),(3,[1,3],[1]),(4,[1,3,12],[1]),(5,[2],[]),(6,[17],[]),(7,[2],[]),(8,[2],[])],rets:=some ([2],[])} Tryz.func16 (by kernel_rfl)
@[go_sem] def d16:s16.g=16/\s16.fs=⟨[.ro 1],s16.F,false⟩:=⟨nr rfl,nr rfl⟩
@[go_sem] def e16(y17:Int)(y3:List Xd)(y18:List UInt8):s16.F [.agg [.i .i64 y17,.sl .ro 2 (y3.map (Xb .ro)),.sl .ro 1 (y18.map Xn)]]=some (.i .i64 (Xu (Response.mk y17 y3 y18)),[.u]):=Xm (0) rfl rfl (λcx h=>by
 cases h1:within y17 200 599
 ·simp only[go_sem,reduceIte,↓reduceIte,reduceCtorEq,nA,nS,nM,nB,nE,nL,nT,nN,iL,iT,iE,iA,iM,iS,iG,iB,iN,iZ,h,h1,Xu]
 by_cases z:Xa y3=0
 rotate_left
 ·have z':(Xa y3 !=0)=true:=by simpa using z
  simp only[go_sem,reduceIte,↓reduceIte,reduceCtorEq,nA,nS,nM,nB,nE,nL,nT,nN,iL,iT,iE,iA,iM,iS,iG,iB,iN,iZ,h,h1,z',Xu]
 by_cases h2:2000<(y18.length:Int)<;>simp only[go_sem,reduceIte,↓reduceIte,reduceCtorEq,nA,nS,nM,nB,nE,nL,nT,nN,iL,iT,iE,iA,iM,iS,iG,iB,iN,iZ,h,h1,z,h2,Xu]) (rfl)
def s73:SP Tryz.prog:=mkS tyA 73 Tryz.f73 [s74] {md:=[.ro 1,.ro 1],rets:=some ([3],[])} Tryz.func73 (by kernel_rfl)
@[go_sem] def d73:s73.g=73/\s73.fs=⟨[.ro 1,.ro 1],s73.F,false⟩:=⟨nr rfl,nr rfl⟩
@[go_sem] def e73(y19 y20 name:ByteArray)(h0:((Xd.mk y19 y20).Name.size<=9223372036854775806/\name.size<=9223372036854775806)):s73.F [.agg [.s y19,.s y20],.pr [.s name]]=some (.b (eqv (Yc (Xd.mk y19 y20).Name) (Yc name)),[.u,.u]):=Xm (0) rfl rfl (λcx h=>by
 simp only[go_sem,reduceIte,↓reduceIte,reduceCtorEq,nA,nS,nM,nB,nE,nL,nT,nN,iL,iT,iE,iA,iM,iS,iG,iB,iN,iZ,h,h0]) (rfl)
def s72:SP Tryz.prog:=mkS tyA 72 Tryz.f72 [s73] {md:=[.ro 1,.ro 1],rg:=[(0,[0,1],[]),(1,[0,1,7,8],[]),(2,[0,1,7,8,9],[]),(3,[0,1,5,7,8],[]),(4,[0,1,5,7,8,16],[]),(5,[4],[]),(6,[0,1,7,8],[]),(7,[4],[])],lv:=[(0,[0,1,7,8],[])],out:=[(0,[],[])],rets:=some ([4],[])} Tryz.func72 (by kernel_rfl)
@[go_sem] def d72:s72.g=72/\s72.fs=⟨[.ro 1,.ro 1],s72.F,false⟩:=⟨nr rfl,nr rfl⟩
@[go_sem] def Xro(xs:List Xd)(name:ByteArray)(hb:xs.length<=9223372036854775806)(h0:Xlb (λx=>x.Name.size<=9223372036854775806/\name.size<=9223372036854775806) xs):s72.F [.sl .ro 2 (xs.map (Xb .ro)),.fn 73 [.pr [.s name]]]=some (.i .i64 (XdW (λx=>eqv (Yc x.Name) (Yc name)) xs 0),[.u,.u]):=Xm (xs.length+1) rfl rfl (λcx h=>by
 have hx:=hb
 have hb0:=XR Tryz.f72 0 _ _ rfl rfl
 obtain⟨r,hr,hq⟩:=YL (cx:=cx) (blk:=0) (body:=Zt Tryz.f72 0) xs (λk (s:Nat)=>⟨E [(0,.sl .ro 2 (xs.map (Xb .ro))),(1,.fn 73 [.pr [.s name]]),(7,.i .i64 xs.length),(8,.i .i64 k)],B []⟩) (λs=>⟨E [],B []⟩) (λx s=>eqv (Yc x.Name) (Yc name)) (λx s=>s+1) (λx s=>(.ret,⟨E [(4,.i .i64 s)],B []⟩)) (λk s=>k=s)
   (λs hI G=>by simp only[go_sem,reduceIte,↓reduceIte,reduceCtorEq,nA,nS,nM,nB,nE,nL,nT,nN,iL,iT,iE,iA,iM,iS,iG,iB,iN,iZ,h,Int.lt_irrefl,hb0,hI]) (λk hk s hI=>by
    have h1:((k:Int)<(xs.length:Int)):=Int.ofNat_lt.2 hk
    obtain rfl:=hI
    have h2:=h0 _ (List.getElem_mem hk)
    simp only at h2
    exact⟨_,_,_,λG=>by simp only[go_sem,reduceIte,↓reduceIte,reduceCtorEq,nA,nS,nM,nB,nE,nL,nT,nN,iL,iT,iE,iA,iM,iS,iG,iB,iN,iZ,h,QJ (Xb .ro) xs _ hk,h2,decide_eq_true_eq,h1,Yb _ _ hk,XD (show k<9223372036854775807 by omega),hb0]<;>with_reducible rfl,by first | exact Iff.rfl | simp,λhc=>⟨rfl,by simp only[go_sem,reduceIte,↓reduceIte,reduceCtorEq,nA,nS,nM,nB,nE,nL,nT,nN,iL,iT,iE,iA,iM,iS,iG,iB,iN,iZ,h]⟩⟩) 0 rfl (xs.length+1) (Nat.le_refl _)
 rw[hb0] at hr
 rcases hq with⟨s',e1,_,e3⟩ | ⟨x,s',e1,e3⟩
 ·simp only[go_sem,reduceIte,↓reduceIte,reduceCtorEq,nA,nS,nM,nB,nE,nL,nT,nN,iL,iT,iE,iA,iM,iS,iG,iB,iN,iZ,h,hr,e3,Xgv e1]
 ·simp only[go_sem,reduceIte,↓reduceIte,reduceCtorEq,nA,nS,nM,nB,nE,nL,nT,nN,iL,iT,iE,iA,iM,iS,iG,iB,iN,iZ,h,hr,e3,XeP e1]) (rfl)
def XhM(tag:Tag):∀hs:List Xd,UP (hs.map (Xb tag))=some (hs.map λx=>(x.Name,x.Value))
 | []=>rfl
 | x :: hs=>by rw[List.map_cons,UP,show Xgw (Xb tag x)=some (x.Name,x.Value) from rfl,XhM tag hs]; rfl
def Xl4:Qi Tryz.prog 75 ⟨[.mv,.ro 1,.mv],Xpw,false⟩:=by
 obtain⟨i0,zv,h1,h2,h3,h4,h5⟩:=Go.Proofs.Tryz.insInfo
 exact Xpx Tryz.func75 (by kernel_rfl) rfl h5 Go.Proofs.Tryz.insOv Go.Proofs.Tryz.insShift Go.Proofs.Tryz.insRoom (Go.Proofs.Tryz.insEnd i0 zv h1 h2 h3 h4) (Go.Proofs.Tryz.insGrow i0 zv h1 h2 h3 h4 h5)
def s75:SP Tryz.prog:=⟨75,⟨[.mv,.ro 1,.mv],Xpw,false⟩,Xl4⟩
@[go_sem] def d75:s75.g=75/\s75.fs=⟨[.mv,.ro 1,.mv],s75.F,false⟩:=⟨nr rfl,nr rfl⟩
@[go_sem] def e75(hs:List Xd)(a b:ByteArray)(k:Nat)(h0:k<=hs.length/\hs.length<=1048576):s75.F [.sl .mut 2 (hs.map (Xb .mut)),.i .i64 (k:Int),.sl .mut 2 [[.s a,.s b]]]=some (.sl .mut 2 ((hs.take k++[Xd.mk a b]++hs.drop k).map (Xb .mut)),[.u,.u,.u]):=by
 show Xp4 (UP (hs.map (Xb .mut))) (k:Int) (some [(a,b)])=_
 rw[XhM]
 unfold Xp4
 simp only[List.length_map]
 rw[if_pos ⟨by omega,by omega,by omega⟩,Int.toNat_natCast,<-List.map_take,<-List.map_drop,<-List.map_singleton (f:=λx:Xd=>(x.Name,x.Value)) (a:=Xd.mk a b),<-List.map_append,<-List.map_append,List.map_map]
 rfl
def Xfd{α:Type}(p:α->Bool):∀(xs:List α) (m:Nat),XdW p xs m =-1\/∃i,i<xs.length/\XdW p xs m=((m+i:Nat):Int)
 | [],_=>.inl rfl
 | x :: xs,m=>by
  rw[XdW]
  split
  ·exact .inr ⟨0,by simp,by simp⟩
  ·rcases Xfd p xs (m+1) with h | ⟨i,h1,h2⟩
   ·exact .inl h
   ·exact .inr ⟨i+1,by simp; omega,by rw[h2]; congr 1; omega⟩
def Xl5{α:Type}(p:α->Bool)(xs:List α)(h:¬XdW p xs 0<0):∃i,i<xs.length/\XdW p xs 0=(i:Int):=by
 rcases Xfd p xs 0 with h1 | ⟨i,h1,h2⟩
 ·rw[h1] at h; exact absurd (by decide) h
 ·exact⟨i,h1,by rw[h2,Nat.zero_add]⟩
end
end Go.Vm.A
