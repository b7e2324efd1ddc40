/- Functions of the program, walked by the evaluator. -/
import Derived.Test.YtpoannkeaajngaaGreatDoorWb
import Derived.Test.YtpoannkeaajngaaGreatDoorWa
import Derived.Test.YtpoannkeaajngaaGreatDoorFk
set_option linter.unusedVariables false
set_option linter.unusedSimpArgs false
set_option autoImplicit false
set_option maxRecDepth 100000
set_option maxHeartbeats 4000000
set_option linter.defProp false
namespace Go.Vm.A
open Go.Proofs
open Nat renaming reduceAdd -> nA, reduceSub -> nS, reduceMul -> nM, reduceBEq -> nB, reduceEqDiff -> nE, reduceLeDiff -> nL, reduceLT -> nT, reduceBneDiff -> nN
open Int renaming reduceLE -> iL, reduceLT -> iT, reduceEq -> iE, reduceAdd -> iA, reduceMul -> iM, reduceSub -> iS, reduceNeg -> iG, reduceBEq -> iB, reduceBNe -> iN, reduceToNat -> iZ
noncomputable section
def Xqb:SP Tryz.prog:=mkS tyA 113 Tryz.f113 [Xo5] {md:=[.mv,.ro 1],rg:=[(0,[0,1,2],[2]),(1,[0,1],[]),(2,[0,4],[])],rets:=some ([0,4],[]),al:=[2]} Tryz.func113 (by kernel_rfl)
@[go_sem] def XHF:Xqb.g=113/\Xqb.fs=⟨[.mv,.ro 1],Xqb.F,false⟩:=⟨nr rfl,nr rfl⟩
@[go_sem] def XHG(w0 w1 w2:ByteArray)(w3:List Xg)(k:Int)(h1:0<=k)(h0:(Yh (Request.mk w0 w1 w2 w3) k).2<=9223372036854775807):Xqb.F [.agg [.s w0,.s w1,.s w2,.sl .mut 2 (w3.map (Xb .mut))],.i .i64 k]=some (.i .i64 (Yh (Request.mk w0 w1 w2 w3) k).2,[.agg (UE .mut (Yh (Request.mk w0 w1 w2 w3) k).1),.u]):=Xj (0) rfl rfl (λcx h=>by
 obtain⟨q0,hq0⟩:∃q,(mkL Xi w3 k).2=q:=⟨_,rfl⟩
 have b0:=UM Yi w3 k
 rw[hq0] at b0
 have p0:0<=k:=by omega
 simp only[XW,hq0] at h0
 have c0:q0<=9223372036854775807:=by omega
 have d0:¬(q0<0):=by omega
 simp only[go_sem,reduceIte,↓reduceIte,reduceCtorEq,nA,nS,nM,nB,nE,nL,nT,nN,iL,iT,iE,iA,iM,iS,iG,iB,iN,iZ,h,p0,c0,d0,hq0,XW]) (by simp only[go_sem,reduceIte,↓reduceIte,reduceCtorEq,nA,nS,nM,nB,nE,nL,nT,nN,iL,iT,iE,iA,iM,iS,iG,iB,iN,iZ,XW,ZS,XJ,XU,XQ])
def Xqc:SP Tryz.prog:=mkS tyA 159 Tryz.f159 [] {md:=[.mv,.ro 1],rg:=[(0,[0,1],[]),(1,[0,1,5],[]),(2,[0,1,5,9],[]),(3,[0,1,5],[]),(4,[0,1,5],[]),(5,[0,1,5],[]),(6,[0,4],[])],lv:=[(0,[0,1,5],[])],out:=[(0,[0,1],[])],rets:=some ([0,4],[])} Tryz.func159 (by kernel_rfl)
@[go_sem] def XHH:Xqc.g=159/\Xqc.fs=⟨[.mv,.ro 1],Xqc.F,false⟩:=⟨nr rfl,nr rfl⟩
@[go_sem] def XHI(xs:List UInt8)(k:Int)(h1:0<=k)(h0:(mkL X7 xs k).2<=9223372036854775807):Xqc.F [.sl .mut 1 (xs.map XE),.i .i64 k]=some (.i .i64 (mkL X7 xs k).2,[.sl .mut 1 ((mkL X7 xs k).1.map XE),.u]):=Xj (xs.length+1) rfl rfl (λcx h=>by
 have hb:=XF Tryz.f159 0 _ _ rfl rfl
 have hx:=XcD Z2 xs k
 have hr:=(YG (cx:=cx) (blk:=0) (body:=YN Tryz.f159 0) xs (λi (s:Int)=>⟨E [(0,.sl .mut 1 ((Xc3 X7 xs k i).map XE)),(1,.i .i64 s),(5,.i .i64 i)],B []⟩) (λ_=>⟨E [(0,.sl .mut 1 ((mkL X7 xs k).1.map XE)),(1,.i .i64 (mkL X7 xs k).2)],B []⟩) (λx s=>(X7 x s).2) (λi s=>s=Xfp X7 xs k i)
  (λs hI G=>by simp only[go_sem,reduceIte,↓reduceIte,reduceCtorEq,nA,nS,nM,nB,nE,nL,nT,nN,iL,iT,iE,iA,iM,iS,iG,iB,iN,iZ,h,Int.lt_irrefl,hb,UA,Xhb,Xa5,Xha,Y4,hI,XbT]) (λi hk s hI=>by
   have h2:((i:Int)<(xs.length:Int)):=Int.ofNat_lt.2 hk
   have g1:=Xem Z2 xs k i
   have g2:=Xen Z2 xs k i hk
   rw[<-hI] at g1 g2
   have h3:=Xhc (f:=X7) XE xs k i hk
   rw[<-hI] at h3
   simp only[X7,XE] at h3 g2
   have v0:(IntKind.i64).wrap (s)=s:=YL (by omega) (by omega)
   have v1:(IntKind.i64).wrap (s+1)=s+1:=YL (by omega) (by omega)
   have hL:i<((Xc3 X7 xs k i).map XE).length:=by rw[List.length_map,UA]; exact hk
   have hg:=λy=>XjT ((Xc3 X7 xs k i).map XE) i y hL
   have hG:=λy=>Xhd ((Xc3 X7 xs k i).map XE) i y hL
   refine⟨by rw[Xaa xs k i hk,<-hI],_,λG=>by simp only[go_sem,reduceIte,↓reduceIte,reduceCtorEq,nA,nS,nM,nB,nE,nL,nT,nN,iL,iT,iE,iA,iM,iS,iG,iB,iN,iZ,h,h3,hg,hG,UA (f:=X7) xs k i,Xeo (f:=X7) XE xs k i hk,Xfr (f:=X7) XE xs k i hk,Xa5 (f:=X7) XE xs k i,Xep,v0,v1,h2,Xt _ _ hk,Xm (show i<9223372036854775807 by omega),hb]<;>with_reducible rfl,by simp only[go_sem,reduceIte,↓reduceIte,reduceCtorEq,nA,nS,nM,nB,nE,nL,nT,nN,iL,iT,iE,iA,iM,iS,iG,iB,iN,iZ,h,X7]⟩) k rfl (xs.length+1) (Nat.le_refl _)).2
 rw[hb] at hr
 simp only[go_sem,reduceIte,↓reduceIte,reduceCtorEq,nA,nS,nM,nB,nE,nL,nT,nN,iL,iT,iE,iA,iM,iS,iG,iB,iN,iZ,h,hr,Xfq]) (by simp only[go_sem,reduceIte,↓reduceIte,reduceCtorEq,nA,nS,nM,nB,nE,nL,nT,nN,iL,iT,iE,iA,iM,iS,iG,iB,iN,iZ,ZS,XJ])
def Xqd:SP Tryz.prog:=mkS tyA 114 Tryz.f114 [Xo5,Xqc] {md:=[.mv,.ro 1],rg:=[(0,[0,1,2],[2]),(1,[0,1,2],[2]),(2,[0,1],[]),(3,[0,4],[])],rets:=some ([0,4],[]),al:=[2]} Tryz.func114 (by kernel_rfl)
@[go_sem] def XHJ:Xqd.g=114/\Xqd.fs=⟨[.mv,.ro 1],Xqd.F,false⟩:=⟨nr rfl,nr rfl⟩
@[go_sem] def XHK(w4:Int)(w3:List Xg)(w5:List UInt8)(k:Int)(h1:0<=k)(h0:(X2 (Response.mk w4 w3 w5) k).2<=9223372036854775807):Xqd.F [.agg [.i .i64 w4,.sl .mut 2 (w3.map (Xb .mut)),.sl .mut 1 (w5.map XE)],.i .i64 k]=some (.i .i64 (X2 (Response.mk w4 w3 w5) k).2,[.agg (QT .mut (X2 (Response.mk w4 w3 w5) k).1),.u]):=Xj (0) rfl rfl (λcx h=>by
 obtain⟨q0,hq0⟩:∃q,(mkL Xi w3 k).2=q:=⟨_,rfl⟩
 have b0:=UM Yi w3 k
 rw[hq0] at b0
 have p0:0<=k:=by omega
 obtain⟨q1,hq1⟩:∃q,(mkL X7 w5 q0).2=q:=⟨_,rfl⟩
 have b1:=UM Z2 w5 q0
 rw[hq1] at b1
 have p1:0<=q0:=by omega
 simp only[XN,hq0,hq1] at h0
 have c0:q0<=9223372036854775807:=by omega
 have d0:¬(q0<0):=by omega
 have c1:q1<=9223372036854775807:=by omega
 have d1:¬(q1<0):=by omega
 simp only[go_sem,reduceIte,↓reduceIte,reduceCtorEq,nA,nS,nM,nB,nE,nL,nT,nN,iL,iT,iE,iA,iM,iS,iG,iB,iN,iZ,h,p0,p1,c0,d0,c1,d1,hq0,hq1,XN]) (by simp only[go_sem,reduceIte,↓reduceIte,reduceCtorEq,nA,nS,nM,nB,nE,nL,nT,nN,iL,iT,iE,iA,iM,iS,iG,iB,iN,iZ,XN,ZS,XJ,XU,XQ])
def s61:SP Tryz.prog:=mkS tyA 61 Tryz.f61 [Xqb,Xqd] {md:=[.mv,.ro 1],rg:=[(0,[0,1,2],[2]),(1,[0,1,2],[2]),(2,[0,1],[]),(3,[0,4],[])],rets:=some ([0,4],[]),al:=[2]} Tryz.func61 (by kernel_rfl)
@[go_sem] def d61:s61.g=61/\s61.fs=⟨[.mv,.ro 1],s61.F,false⟩:=⟨nr rfl,nr rfl⟩
@[go_sem] def e61(w6 xId w7:Int)(w8 w9 w10:ByteArray)(w11:List Xg)(w12:Int)(w13:List Xg)(w14:List UInt8)(w15:ByteArray)(w16:Bool)(k:Int)(h1:0<=k)(h0:(YP (Event.mk w6 xId w7 (Request.mk w8 w9 w10 w11) (Response.mk w12 w13 w14) w15 w16) k).2<=9223372036854775807):s61.F [.agg [.i .i64 w6,.i .i64 xId,.i .i64 w7,.s w8,.s w9,.s w10,.sl .mut 2 (w11.map (Xb .mut)),.i .i64 w12,.sl .mut 2 (w13.map (Xb .mut)),.sl .mut 1 (w14.map XE),.s w15,.b w16],.i .i64 k]=some (.i .i64 (YP (Event.mk w6 xId w7 (Request.mk w8 w9 w10 w11) (Response.mk w12 w13 w14) w15 w16) k).2,[.agg (Ud .mut (YP (Event.mk w6 xId w7 (Request.mk w8 w9 w10 w11) (Response.mk w12 w13 w14) w15 w16) k).1),.u]):=Xj (0) rfl rfl (λcx h=>by
 obtain⟨q0,hq0⟩:∃q,(Yh (Request.mk w8 w9 w10 w11) k).2=q:=⟨_,rfl⟩
 have b0:=UG (Request.mk w8 w9 w10 w11) k
 rw[hq0] at b0
 have p0:0<=k:=by omega
 obtain⟨q1,hq1⟩:∃q,(X2 (Response.mk w12 w13 w14) q0).2=q:=⟨_,rfl⟩
 have b1:=Q3 (Response.mk w12 w13 w14) q0
 rw[hq1] at b1
 have p1:0<=q0:=by omega
 simp only[YM,hq0,hq1] at h0
 have c0:q0<=9223372036854775807:=by omega
 have d0:¬(q0<0):=by omega
 have c1:q1<=9223372036854775807:=by omega
 have d1:¬(q1<0):=by omega
 simp only[go_sem,reduceIte,↓reduceIte,reduceCtorEq,nA,nS,nM,nB,nE,nL,nT,nN,iL,iT,iE,iA,iM,iS,iG,iB,iN,iZ,h,p0,p1,c0,d0,c1,d1,hq0,hq1,YM]
 simp only[XW,XN]) (by simp only[go_sem,reduceIte,↓reduceIte,reduceCtorEq,nA,nS,nM,nB,nE,nL,nT,nN,iL,iT,iE,iA,iM,iS,iG,iB,iN,iZ,YM,ZS,XJ,XU,XQ])
def s23:SP Tryz.prog:=mkS tyA 23 Tryz.f23 [s61] {md:=[.mv,.ro 1],rg:=[(0,[0,1,2],[2]),(1,[0,1],[]),(2,[0,4],[])],rets:=some ([0,4],[]),al:=[2]} Tryz.func23 (by kernel_rfl)
@[go_sem] def d23:s23.g=23/\s23.fs=⟨[.mv,.ro 1],s23.F,false⟩:=⟨nr rfl,nr rfl⟩
@[go_sem] def e23(w17 w18 w19 w20:Int)(w21 w22 w23:ByteArray)(w24:List Xg)(w25:Int)(w26:List Xg)(w27:List UInt8)(w28:ByteArray)(w29:Bool)(k:Int)(h1:0<=k)(h0:(XY (Xy.mk w17 (Event.mk w18 w19 w20 (Request.mk w21 w22 w23 w24) (Response.mk w25 w26 w27) w28 w29)) k).2<=9223372036854775807):s23.F [.agg [.i .i64 w17,.i .i64 w18,.i .i64 w19,.i .i64 w20,.s w21,.s w22,.s w23,.sl .mut 2 (w24.map (Xb .mut)),.i .i64 w25,.sl .mut 2 (w26.map (Xb .mut)),.sl .mut 1 (w27.map XE),.s w28,.b w29],.i .i64 k]=some (.i .i64 (XY (Xy.mk w17 (Event.mk w18 w19 w20 (Request.mk w21 w22 w23 w24) (Response.mk w25 w26 w27) w28 w29)) k).2,[.agg (YJ .mut (XY (Xy.mk w17 (Event.mk w18 w19 w20 (Request.mk w21 w22 w23 w24) (Response.mk w25 w26 w27) w28 w29)) k).1),.u]):=Xj (0) rfl rfl (λcx h=>by
 obtain⟨q0,hq0⟩:∃q,(YP (Event.mk w18 w19 w20 (Request.mk w21 w22 w23 w24) (Response.mk w25 w26 w27) w28 w29) k).2=q:=⟨_,rfl⟩
 have b0:=XaC (Event.mk w18 w19 w20 (Request.mk w21 w22 w23 w24) (Response.mk w25 w26 w27) w28 w29) k
 rw[hq0] at b0
 have p0:0<=k:=by omega
 simp only[Yo,hq0] at h0
 have c0:q0<=9223372036854775807:=by omega
 have d0:¬(q0<0):=by omega
 simp only[go_sem,reduceIte,↓reduceIte,reduceCtorEq,nA,nS,nM,nB,nE,nL,nT,nN,iL,iT,iE,iA,iM,iS,iG,iB,iN,iZ,h,p0,c0,d0,hq0,Yo]
 simp only[YM,XW,XN]) (by simp only[go_sem,reduceIte,↓reduceIte,reduceCtorEq,nA,nS,nM,nB,nE,nL,nT,nN,iL,iT,iE,iA,iM,iS,iG,iB,iN,iZ,Yo,ZS,XJ,XU,XQ])
def Xo6:SP Tryz.prog:=mkS tyA 160 Tryz.f160 [Xo4] {md:=[.ro 1,.ro 1],rg:=[(0,[0,1],[]),(1,[0,1,5],[]),(2,[0,1,5,9],[]),(3,[0,1,5],[]),(4,[0,1,5,19],[]),(5,[4],[]),(6,[0,1,5],[]),(7,[0,1,5,29],[]),(8,[4],[]),(9,[0,1,5],[]),(10,[4],[])],lv:=[(0,[0,1,5],[])],out:=[(0,[1],[])],rets:=some ([4],[]),plan:=[(4,(.take 0 (.take 1 (.take 2 (.take 3 (.take 4 (.take 5 (.one 6 (.take 7 .done))))))))),(7,(.take 0 (.take 1 (.take 2 (.take 3 (.take 4 (.take 5 (.one 6 (.take 7 .done)))))))))]} Tryz.func160 (by kernel_rfl)
@[go_sem] def XHL:Xo6.g=160/\Xo6.fs=⟨[.ro 1,.ro 1],Xo6.F,false⟩:=⟨nr rfl,nr rfl⟩
@[go_sem] def XHM(xs:List Xg)(k:Int)(h1:0<=k)(h0:(mkL Xi xs k).2<=9223372036854775807):Xo6.F [.sl .ro 2 ((mkL Xi xs k).1.map (Xb .ro)),.i .i64 k]=some (.i .i64 (mkL Xi xs k).2,[.u,.u]):=Xj (xs.length+1) rfl rfl (λcx h=>by
 have hb:=XF Tryz.f160 0 _ _ rfl rfl
 have hx:=XcD Yi xs k
 have hr:=(YG (cx:=cx) (blk:=0) (body:=YN Tryz.f160 0) xs (λi (s:Int)=>⟨E [(0,.sl .ro 2 ((mkL Xi xs k).1.map (Xb .ro))),(1,.i .i64 s),(5,.i .i64 i)],B []⟩) (λ_=>⟨E [(1,.i .i64 (mkL Xi xs k).2)],B []⟩) (λx s=>(Xi x s).2) (λi s=>s=Xfp Xi xs k i)
  (λs hI G=>by simp only[go_sem,reduceIte,↓reduceIte,reduceCtorEq,nA,nS,nM,nB,nE,nL,nT,nN,iL,iT,iE,iA,iM,iS,iG,iB,iN,iZ,h,Int.lt_irrefl,hb,Y4,hI,XbT]) (λi hk s hI=>by
   have h2:((i:Int)<(xs.length:Int)):=Int.ofNat_lt.2 hk
   have g1:=Xem Yi xs k i
   have g2:=Xen Yi xs k i hk
   rw[<-hI] at g1 g2
   have h3:=XmH (f:=Xi) (Xb .ro) xs k i hk
   rw[<-hI] at h3
   simp only[Xi,Xb] at h3 g2
   have v0:(IntKind.i64).wrap (s)=s:=YL (by omega) (by omega)
   have t1:s+1<=9223372036854775807:=by omega
   have v1:(IntKind.i64).wrap (s+1)=s+1:=YL (by omega) (by omega)
   have t2:s+1+1<=9223372036854775807:=by omega
   have v2:(IntKind.i64).wrap (s+1+1)=s+1+1:=YL (by omega) (by omega)
   refine⟨by rw[Xaa xs k i hk,<-hI],_,λG=>by simp only[go_sem,reduceIte,↓reduceIte,reduceCtorEq,nA,nS,nM,nB,nE,nL,nT,nN,iL,iT,iE,iA,iM,iS,iG,iB,iN,iZ,h,h3,Y4,Xep,v0,t1,v1,t2,v2,h2,Xt _ _ hk,Xm (show i<9223372036854775807 by omega),hb]<;>with_reducible rfl,by simp only[go_sem,reduceIte,↓reduceIte,reduceCtorEq,nA,nS,nM,nB,nE,nL,nT,nN,iL,iT,iE,iA,iM,iS,iG,iB,iN,iZ,h,Xi]⟩) k rfl (xs.length+1) (Nat.le_refl _)).2
 rw[hb] at hr
 simp only[go_sem,reduceIte,↓reduceIte,reduceCtorEq,nA,nS,nM,nB,nE,nL,nT,nN,iL,iT,iE,iA,iM,iS,iG,iB,iN,iZ,h,hr]) (rfl)
def Xqe:SP Tryz.prog:=mkS tyA 115 Tryz.f115 [Xo6] {md:=[.ro 1,.ro 1],rg:=[(0,[1,2],[2]),(1,[1],[]),(2,[1,10],[]),(3,[4],[]),(4,[4],[])],rets:=some ([4],[])} Tryz.func115 (by kernel_rfl)
@[go_sem] def XHN:Xqe.g=115/\Xqe.fs=⟨[.ro 1,.ro 1],Xqe.F,false⟩:=⟨nr rfl,nr rfl⟩
@[go_sem] def XHO(w0 w1 w2:ByteArray)(w3:List Xg)(k:Int)(h1:0<=k)(h0:(Yh (Request.mk w0 w1 w2 w3) k).2<=9223372036854775807):Xqe.F [.agg [.s w0,.s w1,.s w2,.sl .ro 2 ((mkL Xi w3 k).1.map (Xb .ro))],.i .i64 k]=some (.i .i64 (Yh (Request.mk w0 w1 w2 w3) k).2,[.u,.u]):=Xj (0) rfl rfl (λcx h=>by
 obtain⟨q0,hq0⟩:∃q,(mkL Xi w3 k).2=q:=⟨_,rfl⟩
 have b0:=UM Yi w3 k
 rw[hq0] at b0
 have p0:0<=k:=by omega
 simp only[XW,hq0] at h0
 have c0:q0<=9223372036854775807:=by omega
 have d0:¬(q0<0):=by omega
 simp only[go_sem,reduceIte,↓reduceIte,reduceCtorEq,nA,nS,nM,nB,nE,nL,nT,nN,iL,iT,iE,iA,iM,iS,iG,iB,iN,iZ,h,p0,c0,d0,hq0,XW]) (rfl)
def Xqf:SP Tryz.prog:=mkS tyA 161 Tryz.f161 [] {md:=[.ro 1,.ro 1],rg:=[(0,[0,1],[]),(1,[0,1,5],[]),(2,[0,1,5,9],[]),(3,[0,1,5],[]),(4,[0,1,5,18],[]),(5,[4],[]),(6,[0,1,5],[]),(7,[4],[])],lv:=[(0,[0,1,5],[])],out:=[(0,[1],[])],rets:=some ([4],[])} Tryz.func161 (by kernel_rfl)
@[go_sem] def XHP:Xqf.g=161/\Xqf.fs=⟨[.ro 1,.ro 1],Xqf.F,false⟩:=⟨nr rfl,nr rfl⟩
@[go_sem] def XHQ(xs:List UInt8)(k:Int)(h1:0<=k)(h0:(mkL X7 xs k).2<=9223372036854775807):Xqf.F [.sl .ro 1 ((mkL X7 xs k).1.map XE),.i .i64 k]=some (.i .i64 (mkL X7 xs k).2,[.u,.u]):=Xj (xs.length+1) rfl rfl (λcx h=>by
 have hb:=XF Tryz.f161 0 _ _ rfl rfl
 have hx:=XcD Z2 xs k
 have hr:=(YG (cx:=cx) (blk:=0) (body:=YN Tryz.f161 0) xs (λi (s:Int)=>⟨E [(0,.sl .ro 1 ((mkL X7 xs k).1.map XE)),(1,.i .i64 s),(5,.i .i64 i)],B []⟩) (λ_=>⟨E [(1,.i .i64 (mkL X7 xs k).2)],B []⟩) (λx s=>(X7 x s).2) (λi s=>s=Xfp X7 xs k i)
  (λs hI G=>by simp only[go_sem,reduceIte,↓reduceIte,reduceCtorEq,nA,nS,nM,nB,nE,nL,nT,nN,iL,iT,iE,iA,iM,iS,iG,iB,iN,iZ,h,Int.lt_irrefl,hb,Y4,hI,XbT]) (λi hk s hI=>by
   have h2:((i:Int)<(xs.length:Int)):=Int.ofNat_lt.2 hk
   have g1:=Xem Z2 xs k i
   have g2:=Xen Z2 xs k i hk
   rw[<-hI] at g1 g2
   have h3:=XmH (f:=X7) XE xs k i hk
   rw[<-hI] at h3
   simp only[X7,XE] at h3 g2
   have v0:(IntKind.i64).wrap (s)=s:=YL (by omega) (by omega)
   have v1:(IntKind.i64).wrap (s+1)=s+1:=YL (by omega) (by omega)
   refine⟨by rw[Xaa xs k i hk,<-hI],_,λG=>by simp only[go_sem,reduceIte,↓reduceIte,reduceCtorEq,nA,nS,nM,nB,nE,nL,nT,nN,iL,iT,iE,iA,iM,iS,iG,iB,iN,iZ,h,h3,Y4,Xep,v0,v1,h2,Xt _ _ hk,Xm (show i<9223372036854775807 by omega),hb]<;>with_reducible rfl,by simp only[go_sem,reduceIte,↓reduceIte,reduceCtorEq,nA,nS,nM,nB,nE,nL,nT,nN,iL,iT,iE,iA,iM,iS,iG,iB,iN,iZ,h,X7]⟩) k rfl (xs.length+1) (Nat.le_refl _)).2
 rw[hb] at hr
 simp only[go_sem,reduceIte,↓reduceIte,reduceCtorEq,nA,nS,nM,nB,nE,nL,nT,nN,iL,iT,iE,iA,iM,iS,iG,iB,iN,iZ,h,hr]) (rfl)
def Xqg:SP Tryz.prog:=mkS tyA 116 Tryz.f116 [Xo6,Xqf] {md:=[.ro 1,.ro 1],rg:=[(0,[1,2],[2]),(1,[1,2],[2]),(2,[1,2,10],[2]),(3,[4],[]),(4,[1],[]),(5,[1,16],[]),(6,[4],[]),(7,[4],[])],rets:=some ([4],[])} Tryz.func116 (by kernel_rfl)
@[go_sem] def XHR:Xqg.g=116/\Xqg.fs=⟨[.ro 1,.ro 1],Xqg.F,false⟩:=⟨nr rfl,nr rfl⟩
@[go_sem] def XHS(w4:Int)(w3:List Xg)(w5:List UInt8)(k:Int)(h1:0<=k)(h0:(X2 (Response.mk w4 w3 w5) k).2<=9223372036854775807):Xqg.F [.agg [.i .i64 w4,.sl .ro 2 ((mkL Xi w3 k).1.map (Xb .ro)),.sl .ro 1 ((mkL X7 w5 (mkL Xi w3 k).2).1.map XE)],.i .i64 k]=some (.i .i64 (X2 (Response.mk w4 w3 w5) k).2,[.u,.u]):=Xj (0) rfl rfl (λcx h=>by
 obtain⟨q0,hq0⟩:∃q,(mkL Xi w3 k).2=q:=⟨_,rfl⟩
 have b0:=UM Yi w3 k
 rw[hq0] at b0
 have p0:0<=k:=by omega
 obtain⟨q1,hq1⟩:∃q,(mkL X7 w5 q0).2=q:=⟨_,rfl⟩
 have b1:=UM Z2 w5 q0
 rw[hq1] at b1
 have p1:0<=q0:=by omega
 simp only[XN,hq0,hq1] at h0
 have c0:q0<=9223372036854775807:=by omega
 have d0:¬(q0<0):=by omega
 have c1:q1<=9223372036854775807:=by omega
 have d1:¬(q1<0):=by omega
 simp only[go_sem,reduceIte,↓reduceIte,reduceCtorEq,nA,nS,nM,nB,nE,nL,nT,nN,iL,iT,iE,iA,iM,iS,iG,iB,iN,iZ,h,p0,p1,c0,d0,c1,d1,hq0,hq1,XN]) (rfl)
def s62:SP Tryz.prog:=mkS tyA 62 Tryz.f62 [Xqe,Xqg] {md:=[.ro 1,.ro 1],rg:=[(0,[1,2],[2]),(1,[1,2],[2]),(2,[1,2,10],[2]),(3,[4],[]),(4,[1],[]),(5,[1,16],[]),(6,[4],[]),(7,[4],[])],rets:=some ([4],[])} Tryz.func62 (by kernel_rfl)
@[go_sem] def d62:s62.g=62/\s62.fs=⟨[.ro 1,.ro 1],s62.F,false⟩:=⟨nr rfl,nr rfl⟩
@[go_sem] def e62(w6 xId w7:Int)(w8 w9 w10:ByteArray)(w11:List Xg)(w12:Int)(w13:List Xg)(w14:List UInt8)(w15:ByteArray)(w16:Bool)(k:Int)(h1:0<=k)(h0:(YP (Event.mk w6 xId w7 (Request.mk w8 w9 w10 w11) (Response.mk w12 w13 w14) w15 w16) k).2<=9223372036854775807):s62.F [.agg [.i .i64 w6,.i .i64 xId,.i .i64 w7,.s w8,.s w9,.s w10,.sl .ro 2 ((mkL Xi w11 k).1.map (Xb .ro)),.i .i64 w12,.sl .ro 2 ((mkL Xi w13 (mkL Xi w11 k).2).1.map (Xb .ro)),.sl .ro 1 ((mkL X7 w14 (mkL Xi w13 (mkL Xi w11 k).2).2).1.map XE),.s w15,.b w16],.i .i64 k]=some (.i .i64 (YP (Event.mk w6 xId w7 (Request.mk w8 w9 w10 w11) (Response.mk w12 w13 w14) w15 w16) k).2,[.u,.u]):=Xj (0) rfl rfl (λcx h=>by
 obtain⟨q0,hq0⟩:∃q,(Yh (Request.mk w8 w9 w10 w11) k).2=q:=⟨_,rfl⟩
 have b0:=UG (Request.mk w8 w9 w10 w11) k
 rw[hq0] at b0
 have p0:0<=k:=by omega
 obtain⟨q1,hq1⟩:∃q,(X2 (Response.mk w12 w13 w14) q0).2=q:=⟨_,rfl⟩
 have b1:=Q3 (Response.mk w12 w13 w14) q0
 rw[hq1] at b1
 have p1:0<=q0:=by omega
 simp only[YM,hq0,hq1] at h0
 have c0:q0<=9223372036854775807:=by omega
 have d0:¬(q0<0):=by omega
 have c1:q1<=9223372036854775807:=by omega
 have d1:¬(q1<0):=by omega
 simp only[XW,XN] at hq0
 simp only[XW,XN] at hq1
 simp only[go_sem,reduceIte,↓reduceIte,reduceCtorEq,nA,nS,nM,nB,nE,nL,nT,nN,iL,iT,iE,iA,iM,iS,iG,iB,iN,iZ,h,p0,p1,c0,d0,c1,d1,hq0,hq1,XW,XN,YM]) (rfl)
def s24:SP Tryz.prog:=mkS tyA 24 Tryz.f24 [s62] {md:=[.ro 1,.ro 1],rg:=[(0,[1,2],[2]),(1,[1],[]),(2,[1,10],[]),(3,[4],[]),(4,[4],[])],rets:=some ([4],[])} Tryz.func24 (by kernel_rfl)
@[go_sem] def d24:s24.g=24/\s24.fs=⟨[.ro 1,.ro 1],s24.F,false⟩:=⟨nr rfl,nr rfl⟩
@[go_sem] def e24(w17 w18 w19 w20:Int)(w21 w22 w23:ByteArray)(w24:List Xg)(w25:Int)(w26:List Xg)(w27:List UInt8)(w28:ByteArray)(w29:Bool)(k:Int)(h1:0<=k)(h0:(XY (Xy.mk w17 (Event.mk w18 w19 w20 (Request.mk w21 w22 w23 w24) (Response.mk w25 w26 w27) w28 w29)) k).2<=9223372036854775807):s24.F [.agg [.i .i64 w17,.i .i64 w18,.i .i64 w19,.i .i64 w20,.s w21,.s w22,.s w23,.sl .ro 2 ((mkL Xi w24 k).1.map (Xb .ro)),.i .i64 w25,.sl .ro 2 ((mkL Xi w26 (mkL Xi w24 k).2).1.map (Xb .ro)),.sl .ro 1 ((mkL X7 w27 (mkL Xi w26 (mkL Xi w24 k).2).2).1.map XE),.s w28,.b w29],.i .i64 k]=some (.i .i64 (XY (Xy.mk w17 (Event.mk w18 w19 w20 (Request.mk w21 w22 w23 w24) (Response.mk w25 w26 w27) w28 w29)) k).2,[.u,.u]):=Xj (0) rfl rfl (λcx h=>by
 obtain⟨q0,hq0⟩:∃q,(YP (Event.mk w18 w19 w20 (Request.mk w21 w22 w23 w24) (Response.mk w25 w26 w27) w28 w29) k).2=q:=⟨_,rfl⟩
 have b0:=XaC (Event.mk w18 w19 w20 (Request.mk w21 w22 w23 w24) (Response.mk w25 w26 w27) w28 w29) k
 rw[hq0] at b0
 have p0:0<=k:=by omega
 simp only[Yo,hq0] at h0
 have c0:q0<=9223372036854775807:=by omega
 have d0:¬(q0<0):=by omega
 simp only[YM,XW,XN] at hq0
 simp only[go_sem,reduceIte,↓reduceIte,reduceCtorEq,nA,nS,nM,nB,nE,nL,nT,nN,iL,iT,iE,iA,iM,iS,iG,iB,iN,iZ,h,p0,c0,d0,hq0,YM,XW,XN,Yo]) (rfl)
end
end Go.Vm.A
