/- Functions of the program, walked by the evaluator. -/
import Derived.Test.YtbgfaonlbpkfhaaGreatDoorWb
import Derived.Test.YtbgfaonlbpkfhaaGreatDoorWa
import Derived.Test.YtbgfaonlbpkfhaaGreatDoorFh
set_option linter.unusedVariables false
set_option linter.unusedSimpArgs false
set_option autoImplicit false
set_option maxRecDepth 100000
set_option maxHeartbeats 4000000
set_option linter.defProp false
namespace Go.Vm.A
open Go.Proofs
open Nat renaming reduceAdd -> nA, reduceSub -> nS, reduceMul -> nM, reduceBEq -> nB, reduceEqDiff -> nE, reduceLeDiff -> nL, reduceLT -> nT, reduceBneDiff -> nN
open Int renaming reduceLE -> iL, reduceLT -> iT, reduceEq -> iE, reduceAdd -> iA, reduceMul -> iM, reduceSub -> iS, reduceNeg -> iG, reduceBEq -> iB, reduceBNe -> iN, reduceToNat -> iZ
noncomputable section
def s80:SP Tryz.prog:=mkS tyA 80 Tryz.f80 [XpD] {md:=[.mv,.ro 1],rg:=[(0,[0,1,2],[2]),(1,[0,1,2],[2]),(2,[0,1],[]),(3,[0,4],[])],rets:=some ([0,4],[]),al:=[2]} Tryz.func80 (by kernel_rfl)
@[go_sem] def d80:s80.g=80/\s80.fs=⟨[.mv,.ro 1],s80.F,false⟩:=⟨nr rfl,nr rfl⟩
@[go_sem] def e80(w0 w1:Int)(w2 w3:List XM)(k:Int)(h1:0<=k)(h0:(Zj (Store.mk w0 w1 w2 w3) k).2<=9223372036854775807):s80.F [.agg [.i .i64 w0,.i .i64 w1,.sl .mut 13 (w2.map (Xa .mut)),.sl .mut 13 (w3.map (Xa .mut))],.i .i64 k]=some (.i .i64 (Zj (Store.mk w0 w1 w2 w3) k).2,[.agg (Xcd .mut (Zj (Store.mk w0 w1 w2 w3) k).1),.u]):=Xd (0) rfl rfl (λcx h=>by
 obtain⟨q0,hq0⟩:∃q,(mkL Xk w2 k).2=q:=⟨_,rfl⟩
 have b0:=Yn YM w2 k
 rw[hq0] at b0
 have p0:0<=k:=by omega
 obtain⟨q1,hq1⟩:∃q,(mkL Xk w3 q0).2=q:=⟨_,rfl⟩
 have b1:=Yn YM w3 q0
 rw[hq1] at b1
 have p1:0<=q0:=by omega
 simp only[Yp,hq0,hq1] at h0
 have c0:q0<=9223372036854775807:=by omega
 have d0:¬(q0<0):=by omega
 have c1:q1<=9223372036854775807:=by omega
 have d1:¬(q1<0):=by omega
 simp only[go_sem,reduceIte,↓reduceIte,reduceCtorEq,nA,nS,nM,nB,nE,nL,nT,nN,iL,iT,iE,iA,iM,iS,iG,iB,iN,iZ,h,p0,p1,c0,d0,c1,d1,hq0,hq1,Yp]) (by simp only[go_sem,reduceIte,↓reduceIte,reduceCtorEq,nA,nS,nM,nB,nE,nL,nT,nN,iL,iT,iE,iA,iM,iS,iG,iB,iN,iZ,Yp,Y6,XD,XN,XF])
def XpE:SP Tryz.prog:=mkS tyA 156 Tryz.f156 [] {md:=[.mv,.ro 1],rg:=[(0,[0,1],[]),(1,[0,1,5],[]),(2,[0,1,5,9],[]),(3,[0,1,5],[]),(4,[0,1,5],[]),(5,[0,1,5],[]),(6,[0,1,5],[]),(7,[0,1,5],[]),(8,[0,4],[])],lv:=[(0,[0,1,5],[])],out:=[(0,[0,1],[])],rets:=some ([0,4],[])} Tryz.func156 (by kernel_rfl)
@[go_sem] def XHt:XpE.g=156/\XpE.fs=⟨[.mv,.ro 1],XpE.F,false⟩:=⟨nr rfl,nr rfl⟩
@[go_sem] def XHu(xs:List XaP)(k:Int)(h1:0<=k)(h0:(mkL X3 xs k).2<=9223372036854775807):XpE.F [.sl .mut 2 (xs.map (YU .mut)),.i .i64 k]=some (.i .i64 (mkL X3 xs k).2,[.sl .mut 2 ((mkL X3 xs k).1.map (YU .mut)),.u]):=Xd (xs.length+1) rfl rfl (λcx h=>by
 have hb:=Xn Tryz.f156 0 _ _ rfl rfl
 have hx:=Zu ZQ xs k
 have hr:=(XY (cx:=cx) (blk:=0) (body:=Yl Tryz.f156 0) xs (λi (s:Int)=>⟨E [(0,.sl .mut 2 ((QP X3 xs k i).map (YU .mut))),(1,.i .i64 s),(5,.i .i64 i)],B []⟩) (λ_=>⟨E [(0,.sl .mut 2 ((mkL X3 xs k).1.map (YU .mut))),(1,.i .i64 (mkL X3 xs k).2)],B []⟩) (λx s=>(X3 x s).2) (λi s=>s=XaX X3 xs k i)
  (λs hI G=>by simp only[go_sem,reduceIte,↓reduceIte,reduceCtorEq,nA,nS,nM,nB,nE,nL,nT,nN,iL,iT,iE,iA,iM,iS,iG,iB,iN,iZ,h,Int.lt_irrefl,hb,X5,QR,Yw,QQ,XU,hI,Y3]) (λi hk s hI=>by
   have h2:((i:Int)<(xs.length:Int)):=Int.ofNat_lt.2 hk
   have g1:=ZB ZQ xs k i
   have g2:=ZC ZQ xs k i hk
   rw[<-hI] at g1 g2
   have h3:=QS (f:=X3) (YU .mut) xs k i hk
   rw[<-hI] at h3
   simp only[X3,YU] at h3 g2
   have v0:(IntKind.i64).wrap (s)=s:=Xc (by omega) (by omega)
   have v1:(IntKind.i64).wrap (s+1)=s+1:=Xc (by omega) (by omega)
   have v2:(IntKind.i64).wrap (s+1+1)=s+1+1:=Xc (by omega) (by omega)
   have hL:i<((QP X3 xs k i).map (YU .mut)).length:=by rw[List.length_map,X5]; exact hk
   have hg:=λy=>UY ((QP X3 xs k i).map (YU .mut)) i y hL
   have hG:=λy=>QT ((QP X3 xs k i).map (YU .mut)) i y hL
   refine⟨by rw[Yo xs k i hk,<-hI],_,λG=>by simp only[go_sem,reduceIte,↓reduceIte,reduceCtorEq,nA,nS,nM,nB,nE,nL,nT,nN,iL,iT,iE,iA,iM,iS,iG,iB,iN,iZ,h,h3,hg,hG,X5 (f:=X3) xs k i,Qp (f:=X3) (YU .mut) xs k i hk,Qh (f:=X3) (YU .mut) xs k i hk,Yw (f:=X3) (YU .mut) xs k i,ZD,v0,v1,v2,h2,Xp _ _ hk,Xe (show i<9223372036854775807 by omega),hb]<;>with_reducible rfl,by simp only[go_sem,reduceIte,↓reduceIte,reduceCtorEq,nA,nS,nM,nB,nE,nL,nT,nN,iL,iT,iE,iA,iM,iS,iG,iB,iN,iZ,h,X3]⟩) k rfl (xs.length+1) (Nat.le_refl _)).2
 rw[hb] at hr
 simp only[go_sem,reduceIte,↓reduceIte,reduceCtorEq,nA,nS,nM,nB,nE,nL,nT,nN,iL,iT,iE,iA,iM,iS,iG,iB,iN,iZ,h,hr,Qg]) (by simp only[go_sem,reduceIte,↓reduceIte,reduceCtorEq,nA,nS,nM,nB,nE,nL,nT,nN,iL,iT,iE,iA,iM,iS,iG,iB,iN,iZ,Y6,XD])
def XpF:SP Tryz.prog:=mkS tyA 157 Tryz.f157 [] {md:=[.mv,.ro 1],rg:=[(0,[0,1],[]),(1,[0,1,5],[]),(2,[0,1,5,9],[]),(3,[0,1,5],[]),(4,[0,1,5],[]),(5,[0,1,5],[]),(6,[0,1,5],[]),(7,[0,1,5],[]),(8,[0,4],[])],lv:=[(0,[0,1,5],[])],out:=[(0,[0,1],[])],rets:=some ([0,4],[])} Tryz.func157 (by kernel_rfl)
@[go_sem] def XHv:XpF.g=157/\XpF.fs=⟨[.mv,.ro 1],XpF.F,false⟩:=⟨nr rfl,nr rfl⟩
@[go_sem] def XHw(xs:List XaQ)(k:Int)(h1:0<=k)(h0:(mkL X4 xs k).2<=9223372036854775807):XpF.F [.sl .mut 2 (xs.map (YV .mut)),.i .i64 k]=some (.i .i64 (mkL X4 xs k).2,[.sl .mut 2 ((mkL X4 xs k).1.map (YV .mut)),.u]):=Xd (xs.length+1) rfl rfl (λcx h=>by
 have hb:=Xn Tryz.f157 0 _ _ rfl rfl
 have hx:=Zu ZR xs k
 have hr:=(XY (cx:=cx) (blk:=0) (body:=Yl Tryz.f157 0) xs (λi (s:Int)=>⟨E [(0,.sl .mut 2 ((QP X4 xs k i).map (YV .mut))),(1,.i .i64 s),(5,.i .i64 i)],B []⟩) (λ_=>⟨E [(0,.sl .mut 2 ((mkL X4 xs k).1.map (YV .mut))),(1,.i .i64 (mkL X4 xs k).2)],B []⟩) (λx s=>(X4 x s).2) (λi s=>s=XaX X4 xs k i)
  (λs hI G=>by simp only[go_sem,reduceIte,↓reduceIte,reduceCtorEq,nA,nS,nM,nB,nE,nL,nT,nN,iL,iT,iE,iA,iM,iS,iG,iB,iN,iZ,h,Int.lt_irrefl,hb,X5,QR,Yw,QQ,XU,hI,Y3]) (λi hk s hI=>by
   have h2:((i:Int)<(xs.length:Int)):=Int.ofNat_lt.2 hk
   have g1:=ZB ZR xs k i
   have g2:=ZC ZR xs k i hk
   rw[<-hI] at g1 g2
   have h3:=QS (f:=X4) (YV .mut) xs k i hk
   rw[<-hI] at h3
   simp only[X4,YV] at h3 g2
   have v0:(IntKind.i64).wrap (s)=s:=Xc (by omega) (by omega)
   have v1:(IntKind.i64).wrap (s+1)=s+1:=Xc (by omega) (by omega)
   have v2:(IntKind.i64).wrap (s+1+1)=s+1+1:=Xc (by omega) (by omega)
   have hL:i<((QP X4 xs k i).map (YV .mut)).length:=by rw[List.length_map,X5]; exact hk
   have hg:=λy=>UY ((QP X4 xs k i).map (YV .mut)) i y hL
   have hG:=λy=>QT ((QP X4 xs k i).map (YV .mut)) i y hL
   refine⟨by rw[Yo xs k i hk,<-hI],_,λG=>by simp only[go_sem,reduceIte,↓reduceIte,reduceCtorEq,nA,nS,nM,nB,nE,nL,nT,nN,iL,iT,iE,iA,iM,iS,iG,iB,iN,iZ,h,h3,hg,hG,X5 (f:=X4) xs k i,Qp (f:=X4) (YV .mut) xs k i hk,Qh (f:=X4) (YV .mut) xs k i hk,Yw (f:=X4) (YV .mut) xs k i,ZD,v0,v1,v2,h2,Xp _ _ hk,Xe (show i<9223372036854775807 by omega),hb]<;>with_reducible rfl,by simp only[go_sem,reduceIte,↓reduceIte,reduceCtorEq,nA,nS,nM,nB,nE,nL,nT,nN,iL,iT,iE,iA,iM,iS,iG,iB,iN,iZ,h,X4]⟩) k rfl (xs.length+1) (Nat.le_refl _)).2
 rw[hb] at hr
 simp only[go_sem,reduceIte,↓reduceIte,reduceCtorEq,nA,nS,nM,nB,nE,nL,nT,nN,iL,iT,iE,iA,iM,iS,iG,iB,iN,iZ,h,hr,Qg]) (by simp only[go_sem,reduceIte,↓reduceIte,reduceCtorEq,nA,nS,nM,nB,nE,nL,nT,nN,iL,iT,iE,iA,iM,iS,iG,iB,iN,iZ,Y6,XD])
def s81:SP Tryz.prog:=mkS tyA 81 Tryz.f81 [XgG,XpE,XpF] {md:=[.mv,.ro 1],rg:=[(0,[0,1],[]),(1,[0,1,5],[]),(2,[0,1,5,9],[]),(3,[0,1,5],[]),(4,[0,1,5],[]),(5,[0,1,5],[]),(6,[0,1,5],[]),(7,[0,1,5],[]),(8,[0,1,5],[]),(9,[0,1,5],[]),(10,[0,1,5],[]),(11,[0,1,5],[]),(12,[0,1,5],[]),(13,[0,1,5],[]),(14,[0,1,5],[]),(15,[0,1,5],[]),(16,[0,4],[])],lv:=[(0,[0,1,5],[])],out:=[(0,[0,1],[])],rets:=some ([0,4],[])} Tryz.func81 (by kernel_rfl)
@[go_sem] def d81:s81.g=81/\s81.fs=⟨[.mv,.ro 1],s81.F,false⟩:=⟨nr rfl,nr rfl⟩
@[go_sem] def e81(xs:List Origin)(k:Int)(h1:0<=k)(h0:(mkL Xu xs k).2<=9223372036854775807):s81.F [.sl .mut 7 (xs.map (Xv .mut)),.i .i64 k]=some (.i .i64 (mkL Xu xs k).2,[.sl .mut 7 ((mkL Xu xs k).1.map (Xv .mut)),.u]):=Xd (xs.length+1) rfl rfl (λcx h=>by
 have hb:=Xn Tryz.f81 0 _ _ rfl rfl
 have hx:=Zu Zd xs k
 have hr:=(XY (cx:=cx) (blk:=0) (body:=Yl Tryz.f81 0) xs (λi (s:Int)=>⟨E [(0,.sl .mut 7 ((QP Xu xs k i).map (Xv .mut))),(1,.i .i64 s),(5,.i .i64 i)],B []⟩) (λ_=>⟨E [(0,.sl .mut 7 ((mkL Xu xs k).1.map (Xv .mut))),(1,.i .i64 (mkL Xu xs k).2)],B []⟩) (λx s=>(Xu x s).2) (λi s=>s=XaX Xu xs k i)
  (λs hI G=>by simp only[go_sem,reduceIte,↓reduceIte,reduceCtorEq,nA,nS,nM,nB,nE,nL,nT,nN,iL,iT,iE,iA,iM,iS,iG,iB,iN,iZ,h,Int.lt_irrefl,hb,X5,QR,Yw,QQ,XU,hI,Y3]) (λi hk s hI=>by
   have h2:((i:Int)<(xs.length:Int)):=Int.ofNat_lt.2 hk
   have g1:=ZB Zd xs k i
   have g2:=ZC Zd xs k i hk
   rw[<-hI] at g1 g2
   obtain⟨q0,hq0⟩:∃q,(mkL X3 xs[i].Bulk.Queue (s+1+1)).2=q:=⟨_,rfl⟩
   have b0:=Yn ZQ xs[i].Bulk.Queue (s+1+1)
   rw[hq0] at b0
   obtain⟨q1,hq1⟩:∃q,(mkL X4 xs[i].Breaker.Marks (q0+1+1+1)).2=q:=⟨_,rfl⟩
   have b1:=Yn ZR xs[i].Breaker.Marks (q0+1+1+1)
   rw[hq1] at b1
   have h3:=QS (f:=Xu) (Xv .mut) xs k i hk
   rw[<-hI] at h3
   simp only[Xu,Xv,hq0,hq1] at h3 g2
   have v0:(IntKind.i64).wrap (s)=s:=Xc (by omega) (by omega)
   have t1:s+1<=9223372036854775807:=by omega
   have v1:(IntKind.i64).wrap (s+1)=s+1:=Xc (by omega) (by omega)
   have v2:(IntKind.i64).wrap (s+1+1)=s+1+1:=Xc (by omega) (by omega)
   have p0:0<=s+1+1:=by omega
   have c0:q0<=9223372036854775807:=by omega
   have d0:¬(q0<0):=by omega
   have v3:(IntKind.i64).wrap (q0)=q0:=Xc (by omega) (by omega)
   have v4:(IntKind.i64).wrap (q0+1)=q0+1:=Xc (by omega) (by omega)
   have v5:(IntKind.i64).wrap (q0+1+1)=q0+1+1:=Xc (by omega) (by omega)
   have v6:(IntKind.i64).wrap (q0+1+1+1)=q0+1+1+1:=Xc (by omega) (by omega)
   have p1:0<=q0+1+1+1:=by omega
   have c1:q1<=9223372036854775807:=by omega
   have d1:¬(q1<0):=by omega
   have v7:(IntKind.i64).wrap (q1)=q1:=Xc (by omega) (by omega)
   have hL:i<((QP Xu xs k i).map (Xv .mut)).length:=by rw[List.length_map,X5]; exact hk
   have hg:=λy=>UY ((QP Xu xs k i).map (Xv .mut)) i y hL
   have hG:=λy=>QT ((QP Xu xs k i).map (Xv .mut)) i y hL
   refine⟨by rw[Yo xs k i hk,<-hI],_,λG=>by simp only[go_sem,reduceIte,↓reduceIte,reduceCtorEq,nA,nS,nM,nB,nE,nL,nT,nN,iL,iT,iE,iA,iM,iS,iG,iB,iN,iZ,h,h3,hg,hG,X5 (f:=Xu) xs k i,Qp (f:=Xu) (Xv .mut) xs k i hk,Qh (f:=Xu) (Xv .mut) xs k i hk,Yw (f:=Xu) (Xv .mut) xs k i,ZD,hq0,hq1,v0,t1,v1,v2,p0,c0,d0,v3,v4,v5,v6,p1,c1,d1,v7,h2,Xp _ _ hk,Xe (show i<9223372036854775807 by omega),hb]<;>with_reducible rfl,by simp only[go_sem,reduceIte,↓reduceIte,reduceCtorEq,nA,nS,nM,nB,nE,nL,nT,nN,iL,iT,iE,iA,iM,iS,iG,iB,iN,iZ,h,Xu,hq0,hq1]⟩) k rfl (xs.length+1) (Nat.le_refl _)).2
 rw[hb] at hr
 simp only[go_sem,reduceIte,↓reduceIte,reduceCtorEq,nA,nS,nM,nB,nE,nL,nT,nN,iL,iT,iE,iA,iM,iS,iG,iB,iN,iZ,h,hr,Qg]) (by simp only[go_sem,reduceIte,↓reduceIte,reduceCtorEq,nA,nS,nM,nB,nE,nL,nT,nN,iL,iT,iE,iA,iM,iS,iG,iB,iN,iZ,Y6,XD])
def XpG:SP Tryz.prog:=mkS tyA 159 Tryz.f159 [] {md:=[.mv,.ro 1],rg:=[(0,[0,1],[]),(1,[0,1,5],[]),(2,[0,1,5,9],[]),(3,[0,1,5],[]),(4,[0,1,5],[]),(5,[0,1,5],[]),(6,[0,1,5],[]),(7,[0,1,5],[]),(8,[0,1,5],[]),(9,[0,1,5],[]),(10,[0,1,5],[]),(11,[0,1,5],[]),(12,[0,4],[])],lv:=[(0,[0,1,5],[])],out:=[(0,[0,1],[])],rets:=some ([0,4],[])} Tryz.func159 (by kernel_rfl)
@[go_sem] def XHx:XpG.g=159/\XpG.fs=⟨[.mv,.ro 1],XpG.F,false⟩:=⟨nr rfl,nr rfl⟩
@[go_sem] def XHy(xs:List Zc)(k:Int)(h1:0<=k)(h0:(mkL Xz xs k).2<=9223372036854775807):XpG.F [.sl .mut 4 (xs.map (XS .mut)),.i .i64 k]=some (.i .i64 (mkL Xz xs k).2,[.sl .mut 4 ((mkL Xz xs k).1.map (XS .mut)),.u]):=Xd (xs.length+1) rfl rfl (λcx h=>by
 have hb:=Xn Tryz.f159 0 _ _ rfl rfl
 have hx:=Zu Ze xs k
 have hr:=(XY (cx:=cx) (blk:=0) (body:=Yl Tryz.f159 0) xs (λi (s:Int)=>⟨E [(0,.sl .mut 4 ((QP Xz xs k i).map (XS .mut))),(1,.i .i64 s),(5,.i .i64 i)],B []⟩) (λ_=>⟨E [(0,.sl .mut 4 ((mkL Xz xs k).1.map (XS .mut))),(1,.i .i64 (mkL Xz xs k).2)],B []⟩) (λx s=>(Xz x s).2) (λi s=>s=XaX Xz xs k i)
  (λs hI G=>by simp only[go_sem,reduceIte,↓reduceIte,reduceCtorEq,nA,nS,nM,nB,nE,nL,nT,nN,iL,iT,iE,iA,iM,iS,iG,iB,iN,iZ,h,Int.lt_irrefl,hb,X5,QR,Yw,QQ,XU,hI,Y3]) (λi hk s hI=>by
   have h2:((i:Int)<(xs.length:Int)):=Int.ofNat_lt.2 hk
   have g1:=ZB Ze xs k i
   have g2:=ZC Ze xs k i hk
   rw[<-hI] at g1 g2
   have h3:=QS (f:=Xz) (XS .mut) xs k i hk
   rw[<-hI] at h3
   simp only[Xz,XS] at h3 g2
   have v0:(IntKind.i64).wrap (s)=s:=Xc (by omega) (by omega)
   have v1:(IntKind.i64).wrap (s+1)=s+1:=Xc (by omega) (by omega)
   have v2:(IntKind.i64).wrap (s+1+1)=s+1+1:=Xc (by omega) (by omega)
   have v3:(IntKind.i64).wrap (s+1+1+1)=s+1+1+1:=Xc (by omega) (by omega)
   have v4:(IntKind.i64).wrap (s+1+1+1+1)=s+1+1+1+1:=Xc (by omega) (by omega)
   have hL:i<((QP Xz xs k i).map (XS .mut)).length:=by rw[List.length_map,X5]; exact hk
   have hg:=λy=>UY ((QP Xz xs k i).map (XS .mut)) i y hL
   have hG:=λy=>QT ((QP Xz xs k i).map (XS .mut)) i y hL
   refine⟨by rw[Yo xs k i hk,<-hI],_,λG=>by simp only[go_sem,reduceIte,↓reduceIte,reduceCtorEq,nA,nS,nM,nB,nE,nL,nT,nN,iL,iT,iE,iA,iM,iS,iG,iB,iN,iZ,h,h3,hg,hG,X5 (f:=Xz) xs k i,Qp (f:=Xz) (XS .mut) xs k i hk,Qh (f:=Xz) (XS .mut) xs k i hk,Yw (f:=Xz) (XS .mut) xs k i,ZD,v0,v1,v2,v3,v4,h2,Xp _ _ hk,Xe (show i<9223372036854775807 by omega),hb]<;>with_reducible rfl,by simp only[go_sem,reduceIte,↓reduceIte,reduceCtorEq,nA,nS,nM,nB,nE,nL,nT,nN,iL,iT,iE,iA,iM,iS,iG,iB,iN,iZ,h,Xz]⟩) k rfl (xs.length+1) (Nat.le_refl _)).2
 rw[hb] at hr
 simp only[go_sem,reduceIte,↓reduceIte,reduceCtorEq,nA,nS,nM,nB,nE,nL,nT,nN,iL,iT,iE,iA,iM,iS,iG,iB,iN,iZ,h,hr,Qg]) (by simp only[go_sem,reduceIte,↓reduceIte,reduceCtorEq,nA,nS,nM,nB,nE,nL,nT,nN,iL,iT,iE,iA,iM,iS,iG,iB,iN,iZ,Y6,XD])
def s82:SP Tryz.prog:=mkS tyA 82 Tryz.f82 [XgG,Xoh,XpG] {md:=[.mv,.ro 1],rg:=[(0,[0,1],[]),(1,[0,1,5],[]),(2,[0,1,5,9],[]),(3,[0,1,5],[]),(4,[0,1,5],[]),(5,[0,1,5],[]),(6,[0,1,5],[]),(7,[0,1,5],[]),(8,[0,1,5],[]),(9,[0,1,5],[]),(10,[0,1,5],[]),(11,[0,1,5],[]),(12,[0,1,5],[]),(13,[0,1,5],[]),(14,[0,1,5],[]),(15,[0,1,5],[]),(16,[0,1,5],[]),(17,[0,1,5],[]),(18,[0,1,5],[]),(19,[0,1,5],[]),(20,[0,1,5],[]),(21,[0,1,5],[]),(22,[0,1,5],[]),(23,[0,1,5],[]),(24,[0,4],[])],lv:=[(0,[0,1,5],[])],out:=[(0,[0,1],[])],rets:=some ([0,4],[])} Tryz.func82 (by kernel_rfl)
@[go_sem] def d82:s82.g=82/\s82.fs=⟨[.mv,.ro 1],s82.F,false⟩:=⟨nr rfl,nr rfl⟩
@[go_sem] def e82(xs:List Yk)(k:Int)(h1:0<=k)(h0:(mkL Xw xs k).2<=9223372036854775807):s82.F [.sl .mut 11 (xs.map (Xx .mut)),.i .i64 k]=some (.i .i64 (mkL Xw xs k).2,[.sl .mut 11 ((mkL Xw xs k).1.map (Xx .mut)),.u]):=Xd (xs.length+1) rfl rfl (λcx h=>by
 have hb:=Xn Tryz.f82 0 _ _ rfl rfl
 have hx:=Zu Zf xs k
 have hr:=(XY (cx:=cx) (blk:=0) (body:=Yl Tryz.f82 0) xs (λi (s:Int)=>⟨E [(0,.sl .mut 11 ((QP Xw xs k i).map (Xx .mut))),(1,.i .i64 s),(5,.i .i64 i)],B []⟩) (λ_=>⟨E [(0,.sl .mut 11 ((mkL Xw xs k).1.map (Xx .mut))),(1,.i .i64 (mkL Xw xs k).2)],B []⟩) (λx s=>(Xw x s).2) (λi s=>s=XaX Xw xs k i)
  (λs hI G=>by simp only[go_sem,reduceIte,↓reduceIte,reduceCtorEq,nA,nS,nM,nB,nE,nL,nT,nN,iL,iT,iE,iA,iM,iS,iG,iB,iN,iZ,h,Int.lt_irrefl,hb,X5,QR,Yw,QQ,XU,hI,Y3]) (λi hk s hI=>by
   have h2:((i:Int)<(xs.length:Int)):=Int.ofNat_lt.2 hk
   have g1:=ZB Zf xs k i
   have g2:=ZC Zf xs k i hk
   rw[<-hI] at g1 g2
   obtain⟨q0,hq0⟩:∃q,(mkL Xt xs[i].Get.Headers (s+1+1+1+1+1+1+1+1+1)).2=q:=⟨_,rfl⟩
   have b0:=Yn Yr xs[i].Get.Headers (s+1+1+1+1+1+1+1+1+1)
   rw[hq0] at b0
   obtain⟨q1,hq1⟩:∃q,(mkL Xz xs[i].Waiters (q0)).2=q:=⟨_,rfl⟩
   have b1:=Yn Ze xs[i].Waiters (q0)
   rw[hq1] at b1
   have h3:=QS (f:=Xw) (Xx .mut) xs k i hk
   rw[<-hI] at h3
   simp only[Xw,Xx,hq0,hq1] at h3 g2
   have v0:(IntKind.i64).wrap (s)=s:=Xc (by omega) (by omega)
   have v1:(IntKind.i64).wrap (s+1)=s+1:=Xc (by omega) (by omega)
   have t2:s+1+1<=9223372036854775807:=by omega
   have v2:(IntKind.i64).wrap (s+1+1)=s+1+1:=Xc (by omega) (by omega)
   have v3:(IntKind.i64).wrap (s+1+1+1)=s+1+1+1:=Xc (by omega) (by omega)
   have v4:(IntKind.i64).wrap (s+1+1+1+1)=s+1+1+1+1:=Xc (by omega) (by omega)
   have v5:(IntKind.i64).wrap (s+1+1+1+1+1)=s+1+1+1+1+1:=Xc (by omega) (by omega)
   have v6:(IntKind.i64).wrap (s+1+1+1+1+1+1)=s+1+1+1+1+1+1:=Xc (by omega) (by omega)
   have t7:s+1+1+1+1+1+1+1<=9223372036854775807:=by omega
   have v7:(IntKind.i64).wrap (s+1+1+1+1+1+1+1)=s+1+1+1+1+1+1+1:=Xc (by omega) (by omega)
   have t8:s+1+1+1+1+1+1+1+1<=9223372036854775807:=by omega
   have v8:(IntKind.i64).wrap (s+1+1+1+1+1+1+1+1)=s+1+1+1+1+1+1+1+1:=Xc (by omega) (by omega)
   have t9:s+1+1+1+1+1+1+1+1+1<=9223372036854775807:=by omega
   have v9:(IntKind.i64).wrap (s+1+1+1+1+1+1+1+1+1)=s+1+1+1+1+1+1+1+1+1:=Xc (by omega) (by omega)
   have p0:0<=s+1+1+1+1+1+1+1+1+1:=by omega
   have c0:q0<=9223372036854775807:=by omega
   have d0:¬(q0<0):=by omega
   have v10:(IntKind.i64).wrap (q0)=q0:=Xc (by omega) (by omega)
   have p1:0<=q0:=by omega
   have c1:q1<=9223372036854775807:=by omega
   have d1:¬(q1<0):=by omega
   have v11:(IntKind.i64).wrap (q1)=q1:=Xc (by omega) (by omega)
   have hL:i<((QP Xw xs k i).map (Xx .mut)).length:=by rw[List.length_map,X5]; exact hk
   have hg:=λy=>UY ((QP Xw xs k i).map (Xx .mut)) i y hL
   have hG:=λy=>QT ((QP Xw xs k i).map (Xx .mut)) i y hL
   refine⟨by rw[Yo xs k i hk,<-hI],_,λG=>by simp only[go_sem,reduceIte,↓reduceIte,reduceCtorEq,nA,nS,nM,nB,nE,nL,nT,nN,iL,iT,iE,iA,iM,iS,iG,iB,iN,iZ,h,h3,hg,hG,X5 (f:=Xw) xs k i,Qp (f:=Xw) (Xx .mut) xs k i hk,Qh (f:=Xw) (Xx .mut) xs k i hk,Yw (f:=Xw) (Xx .mut) xs k i,ZD,hq0,hq1,v0,v1,t2,v2,v3,v4,v5,v6,t7,v7,t8,v8,t9,v9,p0,c0,d0,v10,p1,c1,d1,v11,h2,Xp _ _ hk,Xe (show i<9223372036854775807 by omega),hb]<;>with_reducible rfl,by simp only[go_sem,reduceIte,↓reduceIte,reduceCtorEq,nA,nS,nM,nB,nE,nL,nT,nN,iL,iT,iE,iA,iM,iS,iG,iB,iN,iZ,h,Xw,hq0,hq1]⟩) k rfl (xs.length+1) (Nat.le_refl _)).2
 rw[hb] at hr
 simp only[go_sem,reduceIte,↓reduceIte,reduceCtorEq,nA,nS,nM,nB,nE,nL,nT,nN,iL,iT,iE,iA,iM,iS,iG,iB,iN,iZ,h,hr,Qg]) (by simp only[go_sem,reduceIte,↓reduceIte,reduceCtorEq,nA,nS,nM,nB,nE,nL,nT,nN,iL,iT,iE,iA,iM,iS,iG,iB,iN,iZ,Y6,XD])
def s30:SP Tryz.prog:=mkS tyA 30 Tryz.f30 [s14,s80,s81,s82] {md:=[.mv,.ro 1],rg:=[(0,[0,1,2],[2]),(1,[0,1,2],[2]),(2,[0,1,2],[2]),(3,[0,1,2],[2]),(4,[0,1],[]),(5,[0,4],[])],rets:=some ([0,4],[]),al:=[2]} Tryz.func30 (by kernel_rfl)
@[go_sem] def d30:s30.g=30/\s30.fs=⟨[.mv,.ro 1],s30.F,false⟩:=⟨nr rfl,nr rfl⟩
@[go_sem] def e30(w4 w5 w6 w7 w8 w9 w10 w11:Int)(w12:List ByteArray)(w13 w14 w15 w16 w17 w18 w19 w20 w21 w22 w23 w24:Int)(w25 w26:List XM)(w27:List Origin)(w28:List Yk)(k:Int)(h1:0<=k)(h0:(YP (Shield.mk (Config.mk w4 w5 w6 w7 w8 w9 w10 w11 w12 (Lanes.mk w13 w14 w15) (Rules.mk w16 w17 w18 w19 w20)) w21 w22 (Store.mk w23 w24 w25 w26) w27 w28) k).2<=9223372036854775807):s30.F [.agg [.i .i64 w4,.i .i64 w5,.i .i64 w6,.i .i64 w7,.i .i64 w8,.i .i64 w9,.i .i64 w10,.i .i64 w11,.sl .mut 1 (w12.map Yf),.i .i64 w13,.i .i64 w14,.i .i64 w15,.i .i64 w16,.i .i64 w17,.i .i64 w18,.i .i64 w19,.i .i64 w20,.i .i64 w21,.i .i64 w22,.i .i64 w23,.i .i64 w24,.sl .mut 13 (w25.map (Xa .mut)),.sl .mut 13 (w26.map (Xa .mut)),.sl .mut 7 (w27.map (Xv .mut)),.sl .mut 11 (w28.map (Xx .mut))],.i .i64 k]=some (.i .i64 (YP (Shield.mk (Config.mk w4 w5 w6 w7 w8 w9 w10 w11 w12 (Lanes.mk w13 w14 w15) (Rules.mk w16 w17 w18 w19 w20)) w21 w22 (Store.mk w23 w24 w25 w26) w27 w28) k).2,[.agg (Xav .mut (YP (Shield.mk (Config.mk w4 w5 w6 w7 w8 w9 w10 w11 w12 (Lanes.mk w13 w14 w15) (Rules.mk w16 w17 w18 w19 w20)) w21 w22 (Store.mk w23 w24 w25 w26) w27 w28) k).1),.u]):=Xd (0) rfl rfl (λcx h=>by
 obtain⟨q0,hq0⟩:∃q,(Yy (Config.mk w4 w5 w6 w7 w8 w9 w10 w11 w12 (Lanes.mk w13 w14 w15) (Rules.mk w16 w17 w18 w19 w20)) k).2=q:=⟨_,rfl⟩
 have b0:=Uh (Config.mk w4 w5 w6 w7 w8 w9 w10 w11 w12 (Lanes.mk w13 w14 w15) (Rules.mk w16 w17 w18 w19 w20)) k
 rw[hq0] at b0
 have p0:0<=k:=by omega
 obtain⟨q1,hq1⟩:∃q,(Zj (Store.mk w23 w24 w25 w26) q0).2=q:=⟨_,rfl⟩
 have b1:=Xa3 (Store.mk w23 w24 w25 w26) q0
 rw[hq1] at b1
 have p1:0<=q0:=by omega
 obtain⟨q2,hq2⟩:∃q,(mkL Xu w27 q1).2=q:=⟨_,rfl⟩
 have b2:=Yn Zd w27 q1
 rw[hq2] at b2
 have p2:0<=q1:=by omega
 obtain⟨q3,hq3⟩:∃q,(mkL Xw w28 q2).2=q:=⟨_,rfl⟩
 have b3:=Yn Zf w28 q2
 rw[hq3] at b3
 have p3:0<=q2:=by omega
 simp only[YS,hq0,hq1,hq2,hq3] at h0
 have c0:q0<=9223372036854775807:=by omega
 have d0:¬(q0<0):=by omega
 have c1:q1<=9223372036854775807:=by omega
 have d1:¬(q1<0):=by omega
 have c2:q2<=9223372036854775807:=by omega
 have d2:¬(q2<0):=by omega
 have c3:q3<=9223372036854775807:=by omega
 have d3:¬(q3<0):=by omega
 simp only[go_sem,reduceIte,↓reduceIte,reduceCtorEq,nA,nS,nM,nB,nE,nL,nT,nN,iL,iT,iE,iA,iM,iS,iG,iB,iN,iZ,h,p0,p1,p2,p3,c0,d0,c1,d1,c2,d2,c3,d3,hq0,hq1,hq2,hq3,YS]
 simp only[Yb,Yp]) (by simp only[go_sem,reduceIte,↓reduceIte,reduceCtorEq,nA,nS,nM,nB,nE,nL,nT,nN,iL,iT,iE,iA,iM,iS,iG,iB,iN,iZ,YS,Y6,XD,XN,XF])
def s15:SP Tryz.prog:=mkS tyA 15 Tryz.f15 [s30] {md:=[.mv,.ro 1],rg:=[(0,[0,1,2],[2]),(1,[0,1],[]),(2,[0,4],[])],rets:=some ([0,4],[]),al:=[2]} Tryz.func15 (by kernel_rfl)
@[go_sem] def d15:s15.g=15/\s15.fs=⟨[.mv,.ro 1],s15.F,false⟩:=⟨nr rfl,nr rfl⟩
@[go_sem] def e15(w29 w30 w31 w32 w33 w34 w35 w36 w37:Int)(w38:List ByteArray)(w39 w40 w41 w42 w43 w44 w45 w46 w47 w48 w49 w50:Int)(w51 w52:List XM)(w53:List Origin)(w54:List Yk)(k:Int)(h1:0<=k)(h0:(X0 (Xr.mk w29 (Shield.mk (Config.mk w30 w31 w32 w33 w34 w35 w36 w37 w38 (Lanes.mk w39 w40 w41) (Rules.mk w42 w43 w44 w45 w46)) w47 w48 (Store.mk w49 w50 w51 w52) w53 w54)) k).2<=9223372036854775807):s15.F [.agg [.i .i64 w29,.i .i64 w30,.i .i64 w31,.i .i64 w32,.i .i64 w33,.i .i64 w34,.i .i64 w35,.i .i64 w36,.i .i64 w37,.sl .mut 1 (w38.map Yf),.i .i64 w39,.i .i64 w40,.i .i64 w41,.i .i64 w42,.i .i64 w43,.i .i64 w44,.i .i64 w45,.i .i64 w46,.i .i64 w47,.i .i64 w48,.i .i64 w49,.i .i64 w50,.sl .mut 13 (w51.map (Xa .mut)),.sl .mut 13 (w52.map (Xa .mut)),.sl .mut 7 (w53.map (Xv .mut)),.sl .mut 11 (w54.map (Xx .mut))],.i .i64 k]=some (.i .i64 (X0 (Xr.mk w29 (Shield.mk (Config.mk w30 w31 w32 w33 w34 w35 w36 w37 w38 (Lanes.mk w39 w40 w41) (Rules.mk w42 w43 w44 w45 w46)) w47 w48 (Store.mk w49 w50 w51 w52) w53 w54)) k).2,[.agg (YQ .mut (X0 (Xr.mk w29 (Shield.mk (Config.mk w30 w31 w32 w33 w34 w35 w36 w37 w38 (Lanes.mk w39 w40 w41) (Rules.mk w42 w43 w44 w45 w46)) w47 w48 (Store.mk w49 w50 w51 w52) w53 w54)) k).1),.u]):=Xd (0) rfl rfl (λcx h=>by
 obtain⟨q0,hq0⟩:∃q,(YP (Shield.mk (Config.mk w30 w31 w32 w33 w34 w35 w36 w37 w38 (Lanes.mk w39 w40 w41) (Rules.mk w42 w43 w44 w45 w46)) w47 w48 (Store.mk w49 w50 w51 w52) w53 w54) k).2=q:=⟨_,rfl⟩
 have b0:=Xaw (Shield.mk (Config.mk w30 w31 w32 w33 w34 w35 w36 w37 w38 (Lanes.mk w39 w40 w41) (Rules.mk w42 w43 w44 w45 w46)) w47 w48 (Store.mk w49 w50 w51 w52) w53 w54) k
 rw[hq0] at b0
 have p0:0<=k:=by omega
 simp only[Yq,hq0] at h0
 have c0:q0<=9223372036854775807:=by omega
 have d0:¬(q0<0):=by omega
 simp only[go_sem,reduceIte,↓reduceIte,reduceCtorEq,nA,nS,nM,nB,nE,nL,nT,nN,iL,iT,iE,iA,iM,iS,iG,iB,iN,iZ,h,p0,c0,d0,hq0,Yq]
 simp only[YS,Yb,Yp]) (by simp only[go_sem,reduceIte,↓reduceIte,reduceCtorEq,nA,nS,nM,nB,nE,nL,nT,nN,iL,iT,iE,iA,iM,iS,iG,iB,iN,iZ,Yq,Y6,XD,XN,XF])
def Xoi:SP Tryz.prog:=mkS tyA 171 Tryz.f171 [XgG] {md:=[.ro 1,.ro 1],rg:=[(0,[0,1],[]),(1,[0,1,5],[]),(2,[0,1,5,9],[]),(3,[0,1,5],[]),(4,[0,1,5,18],[]),(5,[4],[]),(6,[0,1,5],[]),(7,[4],[])],lv:=[(0,[0,1,5],[])],out:=[(0,[1],[])],rets:=some ([4],[]),plan:=[(4,(.take 0 (.take 1 (.take 2 (.take 3 (.take 4 (.one 5 (.take 6 .done))))))))]} Tryz.func171 (by kernel_rfl)
@[go_sem] def XHz:Xoi.g=171/\Xoi.fs=⟨[.ro 1,.ro 1],Xoi.F,false⟩:=⟨nr rfl,nr rfl⟩
@[go_sem] def XHA(xs:List ByteArray)(k:Int)(h1:0<=k)(h0:(mkL YE xs k).2<=9223372036854775807):Xoi.F [.sl .ro 1 ((mkL YE xs k).1.map Yf),.i .i64 k]=some (.i .i64 (mkL YE xs k).2,[.u,.u]):=Xd (xs.length+1) rfl rfl (λcx h=>by
 have hb:=Xn Tryz.f171 0 _ _ rfl rfl
 have hx:=Zu Z1 xs k
 have hr:=(XY (cx:=cx) (blk:=0) (body:=Yl Tryz.f171 0) xs (λi (s:Int)=>⟨E [(0,.sl .ro 1 ((mkL YE xs k).1.map Yf)),(1,.i .i64 s),(5,.i .i64 i)],B []⟩) (λ_=>⟨E [(1,.i .i64 (mkL YE xs k).2)],B []⟩) (λx s=>(YE x s).2) (λi s=>s=XaX YE xs k i)
  (λs hI G=>by simp only[go_sem,reduceIte,↓reduceIte,reduceCtorEq,nA,nS,nM,nB,nE,nL,nT,nN,iL,iT,iE,iA,iM,iS,iG,iB,iN,iZ,h,Int.lt_irrefl,hb,XU,hI,Y3]) (λi hk s hI=>by
   have h2:((i:Int)<(xs.length:Int)):=Int.ofNat_lt.2 hk
   have g1:=ZB Z1 xs k i
   have g2:=ZC Z1 xs k i hk
   rw[<-hI] at g1 g2
   have h3:=Xbt (f:=YE) Yf xs k i hk
   rw[<-hI] at h3
   simp only[YE,Yf] at h3 g2
   have v0:(IntKind.i64).wrap (s)=s:=Xc (by omega) (by omega)
   have t1:s+1<=9223372036854775807:=by omega
   have v1:(IntKind.i64).wrap (s+1)=s+1:=Xc (by omega) (by omega)
   refine⟨by rw[Yo xs k i hk,<-hI],_,λG=>by simp only[go_sem,reduceIte,↓reduceIte,reduceCtorEq,nA,nS,nM,nB,nE,nL,nT,nN,iL,iT,iE,iA,iM,iS,iG,iB,iN,iZ,h,h3,XU,ZD,v0,t1,v1,h2,Xp _ _ hk,Xe (show i<9223372036854775807 by omega),hb]<;>with_reducible rfl,by simp only[go_sem,reduceIte,↓reduceIte,reduceCtorEq,nA,nS,nM,nB,nE,nL,nT,nN,iL,iT,iE,iA,iM,iS,iG,iB,iN,iZ,h,YE]⟩) k rfl (xs.length+1) (Nat.le_refl _)).2
 rw[hb] at hr
 simp only[go_sem,reduceIte,↓reduceIte,reduceCtorEq,nA,nS,nM,nB,nE,nL,nT,nN,iL,iT,iE,iA,iM,iS,iG,iB,iN,iZ,h,hr]) (rfl)
def XpH:SP Tryz.prog:=mkS tyA 104 Tryz.f104 [Xoi] {md:=[.ro 1,.ro 1],rg:=[(0,[1,2],[2]),(1,[1],[]),(2,[1,10],[]),(3,[4],[]),(4,[4],[])],rets:=some ([4],[])} Tryz.func104 (by kernel_rfl)
@[go_sem] def XHB:XpH.g=104/\XpH.fs=⟨[.ro 1,.ro 1],XpH.F,false⟩:=⟨nr rfl,nr rfl⟩
@[go_sem] def XHC(w0 w1 w55 w56 w57 w58 w59 w60:Int)(w61:List ByteArray)(w62 w63 w64 w65 w66 w67 w68 w69 k:Int)(h1:0<=k)(h0:(Yy (Config.mk w0 w1 w55 w56 w57 w58 w59 w60 w61 (Lanes.mk w62 w63 w64) (Rules.mk w65 w66 w67 w68 w69)) k).2<=9223372036854775807):XpH.F [.agg [.i .i64 w0,.i .i64 w1,.i .i64 w55,.i .i64 w56,.i .i64 w57,.i .i64 w58,.i .i64 w59,.i .i64 w60,.sl .ro 1 ((mkL YE w61 k).1.map Yf),.i .i64 w62,.i .i64 w63,.i .i64 w64,.i .i64 w65,.i .i64 w66,.i .i64 w67,.i .i64 w68,.i .i64 w69],.i .i64 k]=some (.i .i64 (Yy (Config.mk w0 w1 w55 w56 w57 w58 w59 w60 w61 (Lanes.mk w62 w63 w64) (Rules.mk w65 w66 w67 w68 w69)) k).2,[.u,.u]):=Xd (0) rfl rfl (λcx h=>by
 obtain⟨q0,hq0⟩:∃q,(mkL YE w61 k).2=q:=⟨_,rfl⟩
 have b0:=Yn Z1 w61 k
 rw[hq0] at b0
 have p0:0<=k:=by omega
 simp only[Yb,hq0] at h0
 have c0:q0<=9223372036854775807:=by omega
 have d0:¬(q0<0):=by omega
 simp only[go_sem,reduceIte,↓reduceIte,reduceCtorEq,nA,nS,nM,nB,nE,nL,nT,nN,iL,iT,iE,iA,iM,iS,iG,iB,iN,iZ,h,p0,c0,d0,hq0,Yb]) (rfl)
def Xoj:SP Tryz.prog:=mkS tyA 175 Tryz.f175 [XgG] {md:=[.ro 1,.ro 1],rg:=[(0,[0,1],[]),(1,[0,1,5],[]),(2,[0,1,5,9],[]),(3,[0,1,5],[]),(4,[0,1,5,19],[]),(5,[4],[]),(6,[0,1,5],[]),(7,[0,1,5,29],[]),(8,[4],[]),(9,[0,1,5],[]),(10,[4],[])],lv:=[(0,[0,1,5],[])],out:=[(0,[1],[])],rets:=some ([4],[]),plan:=[(4,(.take 0 (.take 1 (.take 2 (.take 3 (.take 4 (.take 5 (.one 6 (.take 7 .done))))))))),(7,(.take 0 (.take 1 (.take 2 (.take 3 (.take 4 (.take 5 (.one 6 (.take 7 .done)))))))))]} Tryz.func175 (by kernel_rfl)
@[go_sem] def XHD:Xoj.g=175/\Xoj.fs=⟨[.ro 1,.ro 1],Xoj.F,false⟩:=⟨nr rfl,nr rfl⟩
@[go_sem] def XHE(xs:List XL)(k:Int)(h1:0<=k)(h0:(mkL Xt xs k).2<=9223372036854775807):Xoj.F [.sl .ro 2 ((mkL Xt xs k).1.map (Xl .ro)),.i .i64 k]=some (.i .i64 (mkL Xt xs k).2,[.u,.u]):=Xd (xs.length+1) rfl rfl (λcx h=>by
 have hb:=Xn Tryz.f175 0 _ _ rfl rfl
 have hx:=Zu Yr xs k
 have hr:=(XY (cx:=cx) (blk:=0) (body:=Yl Tryz.f175 0) xs (λi (s:Int)=>⟨E [(0,.sl .ro 2 ((mkL Xt xs k).1.map (Xl .ro))),(1,.i .i64 s),(5,.i .i64 i)],B []⟩) (λ_=>⟨E [(1,.i .i64 (mkL Xt xs k).2)],B []⟩) (λx s=>(Xt x s).2) (λi s=>s=XaX Xt xs k i)
  (λs hI G=>by simp only[go_sem,reduceIte,↓reduceIte,reduceCtorEq,nA,nS,nM,nB,nE,nL,nT,nN,iL,iT,iE,iA,iM,iS,iG,iB,iN,iZ,h,Int.lt_irrefl,hb,XU,hI,Y3]) (λi hk s hI=>by
   have h2:((i:Int)<(xs.length:Int)):=Int.ofNat_lt.2 hk
   have g1:=ZB Yr xs k i
   have g2:=ZC Yr xs k i hk
   rw[<-hI] at g1 g2
   have h3:=Xbt (f:=Xt) (Xl .ro) xs k i hk
   rw[<-hI] at h3
   simp only[Xt,Xl] at h3 g2
   have v0:(IntKind.i64).wrap (s)=s:=Xc (by omega) (by omega)
   have t1:s+1<=9223372036854775807:=by omega
   have v1:(IntKind.i64).wrap (s+1)=s+1:=Xc (by omega) (by omega)
   have t2:s+1+1<=9223372036854775807:=by omega
   have v2:(IntKind.i64).wrap (s+1+1)=s+1+1:=Xc (by omega) (by omega)
   refine⟨by rw[Yo xs k i hk,<-hI],_,λG=>by simp only[go_sem,reduceIte,↓reduceIte,reduceCtorEq,nA,nS,nM,nB,nE,nL,nT,nN,iL,iT,iE,iA,iM,iS,iG,iB,iN,iZ,h,h3,XU,ZD,v0,t1,v1,t2,v2,h2,Xp _ _ hk,Xe (show i<9223372036854775807 by omega),hb]<;>with_reducible rfl,by simp only[go_sem,reduceIte,↓reduceIte,reduceCtorEq,nA,nS,nM,nB,nE,nL,nT,nN,iL,iT,iE,iA,iM,iS,iG,iB,iN,iZ,h,Xt]⟩) k rfl (xs.length+1) (Nat.le_refl _)).2
 rw[hb] at hr
 simp only[go_sem,reduceIte,↓reduceIte,reduceCtorEq,nA,nS,nM,nB,nE,nL,nT,nN,iL,iT,iE,iA,iM,iS,iG,iB,iN,iZ,h,hr]) (rfl)
end
end Go.Vm.A
