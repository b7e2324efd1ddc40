/- Functions of the program, walked by the evaluator. -/
import Derived.Test.YtbgfaonlbpkfhaaGreatDoorWb
import Derived.Test.YtbgfaonlbpkfhaaGreatDoorWa
import Derived.Test.YtbgfaonlbpkfhaaGreatDoorFa
import Derived.Test.YtbgfaonlbpkfhaaGreatDoorFb
import Derived.Test.YtbgfaonlbpkfhaaGreatDoorFc
import Derived.Test.YtbgfaonlbpkfhaaGreatDoorFd
import Derived.Test.YtbgfaonlbpkfhaaGreatDoorFe
import Derived.Test.YtbgfaonlbpkfhaaGreatDoorFf
import Derived.Test.YtbgfaonlbpkfhaaGreatDoorFg
import Derived.Test.YtbgfaonlbpkfhaaGreatDoorFh
import Derived.Test.YtbgfaonlbpkfhaaGreatDoorFi
set_option linter.unusedVariables false
set_option linter.unusedSimpArgs false
set_option autoImplicit false
set_option maxRecDepth 100000
set_option maxHeartbeats 4000000
set_option linter.defProp false
namespace Go.Vm.A
open Go.Proofs
open Nat renaming reduceAdd -> nA, reduceSub -> nS, reduceMul -> nM, reduceBEq -> nB, reduceEqDiff -> nE, reduceLeDiff -> nL, reduceLT -> nT, reduceBneDiff -> nN
open Int renaming reduceLE -> iL, reduceLT -> iT, reduceEq -> iE, reduceAdd -> iA, reduceMul -> iM, reduceSub -> iS, reduceNeg -> iG, reduceBEq -> iB, reduceBNe -> iN, reduceToNat -> iZ
noncomputable section
def XpI:SP Tryz.prog:=mkS tyA 229 Tryz.f229 [] {md:=[.ro 1,.ro 1],rg:=[(0,[0,1],[]),(1,[0,1,5],[]),(2,[0,1,5,9],[]),(3,[0,1,5],[]),(4,[0,1,5,18],[]),(5,[4],[]),(6,[0,1,5],[]),(7,[4],[])],lv:=[(0,[0,1,5],[])],out:=[(0,[1],[])],rets:=some ([4],[])} Tryz.func229 (by kernel_rfl)
@[go_sem] def XHF:XpI.g=229/\XpI.fs=⟨[.ro 1,.ro 1],XpI.F,false⟩:=⟨nr rfl,nr rfl⟩
@[go_sem] def XHG(xs:List UInt8)(k:Int)(h1:0<=k)(h0:(mkL Yx xs k).2<=9223372036854775807):XpI.F [.sl .ro 1 ((mkL Yx xs k).1.map YL),.i .i64 k]=some (.i .i64 (mkL Yx xs k).2,[.u,.u]):=Xd (xs.length+1) rfl rfl (λcx h=>by
 have hb:=Xn Tryz.f229 0 _ _ rfl rfl
 have hx:=Zu Qi xs k
 have hr:=(XY (cx:=cx) (blk:=0) (body:=Yl Tryz.f229 0) xs (λi (s:Int)=>⟨E [(0,.sl .ro 1 ((mkL Yx xs k).1.map YL)),(1,.i .i64 s),(5,.i .i64 i)],B []⟩) (λ_=>⟨E [(1,.i .i64 (mkL Yx xs k).2)],B []⟩) (λx s=>(Yx x s).2) (λi s=>s=XaX Yx xs k i)
  (λs hI G=>by simp only[go_sem,reduceIte,↓reduceIte,reduceCtorEq,nA,nS,nM,nB,nE,nL,nT,nN,iL,iT,iE,iA,iM,iS,iG,iB,iN,iZ,h,Int.lt_irrefl,hb,XU,hI,Y3]) (λi hk s hI=>by
   have h2:((i:Int)<(xs.length:Int)):=Int.ofNat_lt.2 hk
   have g1:=ZB Qi xs k i
   have g2:=ZC Qi xs k i hk
   rw[<-hI] at g1 g2
   have h3:=Xbt (f:=Yx) YL xs k i hk
   rw[<-hI] at h3
   simp only[Yx,YL] at h3 g2
   have v0:(IntKind.i64).wrap (s)=s:=Xc (by omega) (by omega)
   have v1:(IntKind.i64).wrap (s+1)=s+1:=Xc (by omega) (by omega)
   refine⟨by rw[Yo xs k i hk,<-hI],_,λG=>by simp only[go_sem,reduceIte,↓reduceIte,reduceCtorEq,nA,nS,nM,nB,nE,nL,nT,nN,iL,iT,iE,iA,iM,iS,iG,iB,iN,iZ,h,h3,XU,ZD,v0,v1,h2,Xp _ _ hk,Xe (show i<9223372036854775807 by omega),hb]<;>with_reducible rfl,by simp only[go_sem,reduceIte,↓reduceIte,reduceCtorEq,nA,nS,nM,nB,nE,nL,nT,nN,iL,iT,iE,iA,iM,iS,iG,iB,iN,iZ,h,Yx]⟩) k rfl (xs.length+1) (Nat.le_refl _)).2
 rw[hb] at hr
 simp only[go_sem,reduceIte,↓reduceIte,reduceCtorEq,nA,nS,nM,nB,nE,nL,nT,nN,iL,iT,iE,iA,iM,iS,iG,iB,iN,iZ,h,hr]) (rfl)
def XpJ:SP Tryz.prog:=mkS tyA 172 Tryz.f172 [XgG,Xoi,Xoj,XpI] {md:=[.ro 1,.ro 1],rg:=[(0,[0,1],[]),(1,[0,1,5],[]),(2,[0,1,5,9],[]),(3,[0,1,5],[]),(4,[0,1,5,19],[]),(5,[4],[]),(6,[0,1,5],[]),(7,[0,1,5,28],[]),(8,[4],[]),(9,[0,1,5],[]),(10,[0,1,5],[]),(11,[0,1,5,39],[]),(12,[4],[]),(13,[0,1,5],[]),(14,[0,1,5,48],[]),(15,[4],[]),(16,[0,1,5,56],[]),(17,[4],[]),(18,[0,1,5],[]),(19,[0,1,5,66],[]),(20,[4],[]),(21,[0,1,5],[]),(22,[0,1,5,76],[]),(23,[4],[]),(24,[0,1,5],[]),(25,[0,1,5,86],[]),(26,[4],[]),(27,[0,1,5],[]),(28,[0,1,5,96],[]),(29,[4],[]),(30,[0,1,5],[]),(31,[0,1,5,108],[]),(32,[4],[]),(33,[0,1,5],[]),(34,[0,1,5,120],[]),(35,[4],[]),(36,[0,1,5],[]),(37,[0,1,5],[]),(38,[0,1,5,131],[]),(39,[4],[]),(40,[0,1,5,138],[]),(41,[4],[]),(42,[0,1,5],[]),(43,[4],[])],lv:=[(0,[0,1,5],[])],out:=[(0,[1],[])],rets:=some ([4],[]),plan:=[(4,(.take 0 (.take 1 (.take 2 (.take 3 (.take 4 (.take 5 (.one 6 (.take 7 .done)))))))))]} Tryz.func172 (by kernel_rfl)
@[go_sem] def XHH:XpJ.g=172/\XpJ.fs=⟨[.ro 1,.ro 1],XpJ.F,false⟩:=⟨nr rfl,nr rfl⟩
@[go_sem] def XHI(xs:List XM)(k:Int)(h1:0<=k)(h0:(mkL Xk xs k).2<=9223372036854775807):XpJ.F [.sl .ro 13 ((mkL Xk xs k).1.map (Xa .ro)),.i .i64 k]=some (.i .i64 (mkL Xk xs k).2,[.u,.u]):=Xd (xs.length+1) rfl rfl (λcx h=>by
 have hb:=Xn Tryz.f172 0 _ _ rfl rfl
 have hx:=Zu YM xs k
 have hr:=(XY (cx:=cx) (blk:=0) (body:=Yl Tryz.f172 0) xs (λi (s:Int)=>⟨E [(0,.sl .ro 13 ((mkL Xk xs k).1.map (Xa .ro))),(1,.i .i64 s),(5,.i .i64 i)],B []⟩) (λ_=>⟨E [(1,.i .i64 (mkL Xk xs k).2)],B []⟩) (λx s=>(Xk x s).2) (λi s=>s=XaX Xk xs k i)
  (λs hI G=>by simp only[go_sem,reduceIte,↓reduceIte,reduceCtorEq,nA,nS,nM,nB,nE,nL,nT,nN,iL,iT,iE,iA,iM,iS,iG,iB,iN,iZ,h,Int.lt_irrefl,hb,XU,hI,Y3]) (λi hk s hI=>by
   have h2:((i:Int)<(xs.length:Int)):=Int.ofNat_lt.2 hk
   have g1:=ZB YM xs k i
   have g2:=ZC YM xs k i hk
   rw[<-hI] at g1 g2
   obtain⟨q0,hq0⟩:∃q,(mkL Xt xs[i].Headers (s+1+1)).2=q:=⟨_,rfl⟩
   have b0:=Yn Yr xs[i].Headers (s+1+1)
   rw[hq0] at b0
   obtain⟨q1,hq1⟩:∃q,(mkL Yx xs[i].Body (q0)).2=q:=⟨_,rfl⟩
   have b1:=Yn Qi xs[i].Body (q0)
   rw[hq1] at b1
   obtain⟨q2,hq2⟩:∃q,(mkL YE xs[i].Tags (q1+1+1+1+1+1+1+1)).2=q:=⟨_,rfl⟩
   have b2:=Yn Z1 xs[i].Tags (q1+1+1+1+1+1+1+1)
   rw[hq2] at b2
   have h3:=Xbt (f:=Xk) (Xa .ro) xs k i hk
   rw[<-hI] at h3
   simp only[Xk,Xa,hq0,hq1,hq2] at h3 g2
   have v0:(IntKind.i64).wrap (s)=s:=Xc (by omega) (by omega)
   have t1:s+1<=9223372036854775807:=by omega
   have v1:(IntKind.i64).wrap (s+1)=s+1:=Xc (by omega) (by omega)
   have v2:(IntKind.i64).wrap (s+1+1)=s+1+1:=Xc (by omega) (by omega)
   have p0:0<=s+1+1:=by omega
   have c0:q0<=9223372036854775807:=by omega
   have d0:¬(q0<0):=by omega
   have v3:(IntKind.i64).wrap (q0)=q0:=Xc (by omega) (by omega)
   have p1:0<=q0:=by omega
   have c1:q1<=9223372036854775807:=by omega
   have d1:¬(q1<0):=by omega
   have v4:(IntKind.i64).wrap (q1)=q1:=Xc (by omega) (by omega)
   have v5:(IntKind.i64).wrap (q1+1)=q1+1:=Xc (by omega) (by omega)
   have v6:(IntKind.i64).wrap (q1+1+1)=q1+1+1:=Xc (by omega) (by omega)
   have v7:(IntKind.i64).wrap (q1+1+1+1)=q1+1+1+1:=Xc (by omega) (by omega)
   have v8:(IntKind.i64).wrap (q1+1+1+1+1)=q1+1+1+1+1:=Xc (by omega) (by omega)
   have v9:(IntKind.i64).wrap (q1+1+1+1+1+1)=q1+1+1+1+1+1:=Xc (by omega) (by omega)
   have v10:(IntKind.i64).wrap (q1+1+1+1+1+1+1)=q1+1+1+1+1+1+1:=Xc (by omega) (by omega)
   have v11:(IntKind.i64).wrap (q1+1+1+1+1+1+1+1)=q1+1+1+1+1+1+1+1:=Xc (by omega) (by omega)
   have p2:0<=q1+1+1+1+1+1+1+1:=by omega
   have c2:q2<=9223372036854775807:=by omega
   have d2:¬(q2<0):=by omega
   have v12:(IntKind.i64).wrap (q2)=q2:=Xc (by omega) (by omega)
   have v13:(IntKind.i64).wrap (q2+1)=q2+1:=Xc (by omega) (by omega)
   refine⟨by rw[Yo xs k i hk,<-hI],_,λG=>by simp only[go_sem,reduceIte,↓reduceIte,reduceCtorEq,nA,nS,nM,nB,nE,nL,nT,nN,iL,iT,iE,iA,iM,iS,iG,iB,iN,iZ,h,h3,XU,ZD,hq0,hq1,hq2,v0,t1,v1,v2,p0,c0,d0,v3,p1,c1,d1,v4,v5,v6,v7,v8,v9,v10,v11,p2,c2,d2,v12,v13,h2,Xp _ _ hk,Xe (show i<9223372036854775807 by omega),hb]<;>with_reducible rfl,by simp only[go_sem,reduceIte,↓reduceIte,reduceCtorEq,nA,nS,nM,nB,nE,nL,nT,nN,iL,iT,iE,iA,iM,iS,iG,iB,iN,iZ,h,Xk,hq0,hq1,hq2]⟩) k rfl (xs.length+1) (Nat.le_refl _)).2
 rw[hb] at hr
 simp only[go_sem,reduceIte,↓reduceIte,reduceCtorEq,nA,nS,nM,nB,nE,nL,nT,nN,iL,iT,iE,iA,iM,iS,iG,iB,iN,iZ,h,hr]) (rfl)
def XpK:SP Tryz.prog:=mkS tyA 105 Tryz.f105 [XpJ] {md:=[.ro 1,.ro 1],rg:=[(0,[1,2],[2]),(1,[1,2],[2]),(2,[1,2,10],[2]),(3,[4],[]),(4,[1],[]),(5,[1,16],[]),(6,[4],[]),(7,[4],[])],rets:=some ([4],[])} Tryz.func105 (by kernel_rfl)
@[go_sem] def XHJ:XpK.g=105/\XpK.fs=⟨[.ro 1,.ro 1],XpK.F,false⟩:=⟨nr rfl,nr rfl⟩
@[go_sem] def XHK(w0 w1:Int)(w2 w3:List XM)(k:Int)(h1:0<=k)(h0:(Zj (Store.mk w0 w1 w2 w3) k).2<=9223372036854775807):XpK.F [.agg [.i .i64 w0,.i .i64 w1,.sl .ro 13 ((mkL Xk w2 k).1.map (Xa .ro)),.sl .ro 13 ((mkL Xk w3 (mkL Xk w2 k).2).1.map (Xa .ro))],.i .i64 k]=some (.i .i64 (Zj (Store.mk w0 w1 w2 w3) k).2,[.u,.u]):=Xd (0) rfl rfl (λcx h=>by
 obtain⟨q0,hq0⟩:∃q,(mkL Xk w2 k).2=q:=⟨_,rfl⟩
 have b0:=Yn YM w2 k
 rw[hq0] at b0
 have p0:0<=k:=by omega
 obtain⟨q1,hq1⟩:∃q,(mkL Xk w3 q0).2=q:=⟨_,rfl⟩
 have b1:=Yn YM w3 q0
 rw[hq1] at b1
 have p1:0<=q0:=by omega
 simp only[Yp,hq0,hq1] at h0
 have c0:q0<=9223372036854775807:=by omega
 have d0:¬(q0<0):=by omega
 have c1:q1<=9223372036854775807:=by omega
 have d1:¬(q1<0):=by omega
 simp only[go_sem,reduceIte,↓reduceIte,reduceCtorEq,nA,nS,nM,nB,nE,nL,nT,nN,iL,iT,iE,iA,iM,iS,iG,iB,iN,iZ,h,p0,p1,c0,d0,c1,d1,hq0,hq1,Yp]) (rfl)
def XpL:SP Tryz.prog:=mkS tyA 173 Tryz.f173 [] {md:=[.ro 1,.ro 1],rg:=[(0,[0,1],[]),(1,[0,1,5],[]),(2,[0,1,5,9],[]),(3,[0,1,5],[]),(4,[0,1,5,18],[]),(5,[4],[]),(6,[0,1,5],[]),(7,[0,1,5,27],[]),(8,[4],[]),(9,[0,1,5],[]),(10,[4],[])],lv:=[(0,[0,1,5],[])],out:=[(0,[1],[])],rets:=some ([4],[])} Tryz.func173 (by kernel_rfl)
@[go_sem] def XHL:XpL.g=173/\XpL.fs=⟨[.ro 1,.ro 1],XpL.F,false⟩:=⟨nr rfl,nr rfl⟩
@[go_sem] def XHM(xs:List XaP)(k:Int)(h1:0<=k)(h0:(mkL X3 xs k).2<=9223372036854775807):XpL.F [.sl .ro 2 ((mkL X3 xs k).1.map (YU .ro)),.i .i64 k]=some (.i .i64 (mkL X3 xs k).2,[.u,.u]):=Xd (xs.length+1) rfl rfl (λcx h=>by
 have hb:=Xn Tryz.f173 0 _ _ rfl rfl
 have hx:=Zu ZQ xs k
 have hr:=(XY (cx:=cx) (blk:=0) (body:=Yl Tryz.f173 0) xs (λi (s:Int)=>⟨E [(0,.sl .ro 2 ((mkL X3 xs k).1.map (YU .ro))),(1,.i .i64 s),(5,.i .i64 i)],B []⟩) (λ_=>⟨E [(1,.i .i64 (mkL X3 xs k).2)],B []⟩) (λx s=>(X3 x s).2) (λi s=>s=XaX X3 xs k i)
  (λs hI G=>by simp only[go_sem,reduceIte,↓reduceIte,reduceCtorEq,nA,nS,nM,nB,nE,nL,nT,nN,iL,iT,iE,iA,iM,iS,iG,iB,iN,iZ,h,Int.lt_irrefl,hb,XU,hI,Y3]) (λi hk s hI=>by
   have h2:((i:Int)<(xs.length:Int)):=Int.ofNat_lt.2 hk
   have g1:=ZB ZQ xs k i
   have g2:=ZC ZQ xs k i hk
   rw[<-hI] at g1 g2
   have h3:=Xbt (f:=X3) (YU .ro) xs k i hk
   rw[<-hI] at h3
   simp only[X3,YU] at h3 g2
   have v0:(IntKind.i64).wrap (s)=s:=Xc (by omega) (by omega)
   have v1:(IntKind.i64).wrap (s+1)=s+1:=Xc (by omega) (by omega)
   have v2:(IntKind.i64).wrap (s+1+1)=s+1+1:=Xc (by omega) (by omega)
   refine⟨by rw[Yo xs k i hk,<-hI],_,λG=>by simp only[go_sem,reduceIte,↓reduceIte,reduceCtorEq,nA,nS,nM,nB,nE,nL,nT,nN,iL,iT,iE,iA,iM,iS,iG,iB,iN,iZ,h,h3,XU,ZD,v0,v1,v2,h2,Xp _ _ hk,Xe (show i<9223372036854775807 by omega),hb]<;>with_reducible rfl,by simp only[go_sem,reduceIte,↓reduceIte,reduceCtorEq,nA,nS,nM,nB,nE,nL,nT,nN,iL,iT,iE,iA,iM,iS,iG,iB,iN,iZ,h,X3]⟩) k rfl (xs.length+1) (Nat.le_refl _)).2
 rw[hb] at hr
 simp only[go_sem,reduceIte,↓reduceIte,reduceCtorEq,nA,nS,nM,nB,nE,nL,nT,nN,iL,iT,iE,iA,iM,iS,iG,iB,iN,iZ,h,hr]) (rfl)
def XpM:SP Tryz.prog:=mkS tyA 174 Tryz.f174 [] {md:=[.ro 1,.ro 1],rg:=[(0,[0,1],[]),(1,[0,1,5],[]),(2,[0,1,5,9],[]),(3,[0,1,5],[]),(4,[0,1,5,18],[]),(5,[4],[]),(6,[0,1,5],[]),(7,[0,1,5,29],[]),(8,[4],[]),(9,[0,1,5],[]),(10,[4],[])],lv:=[(0,[0,1,5],[])],out:=[(0,[1],[])],rets:=some ([4],[])} Tryz.func174 (by kernel_rfl)
@[go_sem] def XHN:XpM.g=174/\XpM.fs=⟨[.ro 1,.ro 1],XpM.F,false⟩:=⟨nr rfl,nr rfl⟩
@[go_sem] def XHO(xs:List XaQ)(k:Int)(h1:0<=k)(h0:(mkL X4 xs k).2<=9223372036854775807):XpM.F [.sl .ro 2 ((mkL X4 xs k).1.map (YV .ro)),.i .i64 k]=some (.i .i64 (mkL X4 xs k).2,[.u,.u]):=Xd (xs.length+1) rfl rfl (λcx h=>by
 have hb:=Xn Tryz.f174 0 _ _ rfl rfl
 have hx:=Zu ZR xs k
 have hr:=(XY (cx:=cx) (blk:=0) (body:=Yl Tryz.f174 0) xs (λi (s:Int)=>⟨E [(0,.sl .ro 2 ((mkL X4 xs k).1.map (YV .ro))),(1,.i .i64 s),(5,.i .i64 i)],B []⟩) (λ_=>⟨E [(1,.i .i64 (mkL X4 xs k).2)],B []⟩) (λx s=>(X4 x s).2) (λi s=>s=XaX X4 xs k i)
  (λs hI G=>by simp only[go_sem,reduceIte,↓reduceIte,reduceCtorEq,nA,nS,nM,nB,nE,nL,nT,nN,iL,iT,iE,iA,iM,iS,iG,iB,iN,iZ,h,Int.lt_irrefl,hb,XU,hI,Y3]) (λi hk s hI=>by
   have h2:((i:Int)<(xs.length:Int)):=Int.ofNat_lt.2 hk
   have g1:=ZB ZR xs k i
   have g2:=ZC ZR xs k i hk
   rw[<-hI] at g1 g2
   have h3:=Xbt (f:=X4) (YV .ro) xs k i hk
   rw[<-hI] at h3
   simp only[X4,YV] at h3 g2
   have v0:(IntKind.i64).wrap (s)=s:=Xc (by omega) (by omega)
   have v1:(IntKind.i64).wrap (s+1)=s+1:=Xc (by omega) (by omega)
   have v2:(IntKind.i64).wrap (s+1+1)=s+1+1:=Xc (by omega) (by omega)
   refine⟨by rw[Yo xs k i hk,<-hI],_,λG=>by simp only[go_sem,reduceIte,↓reduceIte,reduceCtorEq,nA,nS,nM,nB,nE,nL,nT,nN,iL,iT,iE,iA,iM,iS,iG,iB,iN,iZ,h,h3,XU,ZD,v0,v1,v2,h2,Xp _ _ hk,Xe (show i<9223372036854775807 by omega),hb]<;>with_reducible rfl,by simp only[go_sem,reduceIte,↓reduceIte,reduceCtorEq,nA,nS,nM,nB,nE,nL,nT,nN,iL,iT,iE,iA,iM,iS,iG,iB,iN,iZ,h,X4]⟩) k rfl (xs.length+1) (Nat.le_refl _)).2
 rw[hb] at hr
 simp only[go_sem,reduceIte,↓reduceIte,reduceCtorEq,nA,nS,nM,nB,nE,nL,nT,nN,iL,iT,iE,iA,iM,iS,iG,iB,iN,iZ,h,hr]) (rfl)
def XpN:SP Tryz.prog:=mkS tyA 106 Tryz.f106 [XgG,XpL,XpM] {md:=[.ro 1,.ro 1],rg:=[(0,[0,1],[]),(1,[0,1,5],[]),(2,[0,1,5,9],[]),(3,[0,1,5],[]),(4,[0,1,5,19],[]),(5,[4],[]),(6,[0,1,5],[]),(7,[0,1,5,29],[]),(8,[4],[]),(9,[0,1,5],[]),(10,[0,1,5],[]),(11,[0,1,5,41],[]),(12,[4],[]),(13,[0,1,5,49],[]),(14,[4],[]),(15,[0,1,5],[]),(16,[0,1,5,59],[]),(17,[4],[]),(18,[0,1,5],[]),(19,[0,1,5,69],[]),(20,[4],[]),(21,[0,1,5],[]),(22,[0,1,5],[]),(23,[0,1,5,81],[]),(24,[4],[]),(25,[4],[])],lv:=[(0,[0,1,5],[])],out:=[(0,[1],[])],rets:=some ([4],[]),plan:=[(4,(.take 0 (.take 1 (.take 2 (.take 3 (.take 4 (.take 5 (.one 6 (.take 7 .done)))))))))]} Tryz.func106 (by kernel_rfl)
@[go_sem] def XHP:XpN.g=106/\XpN.fs=⟨[.ro 1,.ro 1],XpN.F,false⟩:=⟨nr rfl,nr rfl⟩
@[go_sem] def XHQ(xs:List Origin)(k:Int)(h1:0<=k)(h0:(mkL Xu xs k).2<=9223372036854775807):XpN.F [.sl .ro 7 ((mkL Xu xs k).1.map (Xv .ro)),.i .i64 k]=some (.i .i64 (mkL Xu xs k).2,[.u,.u]):=Xd (xs.length+1) rfl rfl (λcx h=>by
 have hb:=Xn Tryz.f106 0 _ _ rfl rfl
 have hx:=Zu Zd xs k
 have hr:=(XY (cx:=cx) (blk:=0) (body:=Yl Tryz.f106 0) xs (λi (s:Int)=>⟨E [(0,.sl .ro 7 ((mkL Xu xs k).1.map (Xv .ro))),(1,.i .i64 s),(5,.i .i64 i)],B []⟩) (λ_=>⟨E [(1,.i .i64 (mkL Xu xs k).2)],B []⟩) (λx s=>(Xu x s).2) (λi s=>s=XaX Xu xs k i)
  (λs hI G=>by simp only[go_sem,reduceIte,↓reduceIte,reduceCtorEq,nA,nS,nM,nB,nE,nL,nT,nN,iL,iT,iE,iA,iM,iS,iG,iB,iN,iZ,h,Int.lt_irrefl,hb,XU,hI,Y3]) (λi hk s hI=>by
   have h2:((i:Int)<(xs.length:Int)):=Int.ofNat_lt.2 hk
   have g1:=ZB Zd xs k i
   have g2:=ZC Zd xs k i hk
   rw[<-hI] at g1 g2
   obtain⟨q0,hq0⟩:∃q,(mkL X3 xs[i].Bulk.Queue (s+1+1)).2=q:=⟨_,rfl⟩
   have b0:=Yn ZQ xs[i].Bulk.Queue (s+1+1)
   rw[hq0] at b0
   obtain⟨q1,hq1⟩:∃q,(mkL X4 xs[i].Breaker.Marks (q0+1+1+1)).2=q:=⟨_,rfl⟩
   have b1:=Yn ZR xs[i].Breaker.Marks (q0+1+1+1)
   rw[hq1] at b1
   have h3:=Xbt (f:=Xu) (Xv .ro) xs k i hk
   rw[<-hI] at h3
   simp only[Xu,Xv,hq0,hq1] at h3 g2
   have v0:(IntKind.i64).wrap (s)=s:=Xc (by omega) (by omega)
   have t1:s+1<=9223372036854775807:=by omega
   have v1:(IntKind.i64).wrap (s+1)=s+1:=Xc (by omega) (by omega)
   have v2:(IntKind.i64).wrap (s+1+1)=s+1+1:=Xc (by omega) (by omega)
   have p0:0<=s+1+1:=by omega
   have c0:q0<=9223372036854775807:=by omega
   have d0:¬(q0<0):=by omega
   have v3:(IntKind.i64).wrap (q0)=q0:=Xc (by omega) (by omega)
   have v4:(IntKind.i64).wrap (q0+1)=q0+1:=Xc (by omega) (by omega)
   have v5:(IntKind.i64).wrap (q0+1+1)=q0+1+1:=Xc (by omega) (by omega)
   have v6:(IntKind.i64).wrap (q0+1+1+1)=q0+1+1+1:=Xc (by omega) (by omega)
   have p1:0<=q0+1+1+1:=by omega
   have c1:q1<=9223372036854775807:=by omega
   have d1:¬(q1<0):=by omega
   have v7:(IntKind.i64).wrap (q1)=q1:=Xc (by omega) (by omega)
   refine⟨by rw[Yo xs k i hk,<-hI],_,λG=>by simp only[go_sem,reduceIte,↓reduceIte,reduceCtorEq,nA,nS,nM,nB,nE,nL,nT,nN,iL,iT,iE,iA,iM,iS,iG,iB,iN,iZ,h,h3,XU,ZD,hq0,hq1,v0,t1,v1,v2,p0,c0,d0,v3,v4,v5,v6,p1,c1,d1,v7,h2,Xp _ _ hk,Xe (show i<9223372036854775807 by omega),hb]<;>with_reducible rfl,by simp only[go_sem,reduceIte,↓reduceIte,reduceCtorEq,nA,nS,nM,nB,nE,nL,nT,nN,iL,iT,iE,iA,iM,iS,iG,iB,iN,iZ,h,Xu,hq0,hq1]⟩) k rfl (xs.length+1) (Nat.le_refl _)).2
 rw[hb] at hr
 simp only[go_sem,reduceIte,↓reduceIte,reduceCtorEq,nA,nS,nM,nB,nE,nL,nT,nN,iL,iT,iE,iA,iM,iS,iG,iB,iN,iZ,h,hr]) (rfl)
def XpO:SP Tryz.prog:=mkS tyA 176 Tryz.f176 [] {md:=[.ro 1,.ro 1],rg:=[(0,[0,1],[]),(1,[0,1,5],[]),(2,[0,1,5,9],[]),(3,[0,1,5],[]),(4,[0,1,5,18],[]),(5,[4],[]),(6,[0,1,5],[]),(7,[0,1,5,29],[]),(8,[4],[]),(9,[0,1,5],[]),(10,[0,1,5,38],[]),(11,[4],[]),(12,[0,1,5],[]),(13,[0,1,5,49],[]),(14,[4],[]),(15,[0,1,5],[]),(16,[4],[])],lv:=[(0,[0,1,5],[])],out:=[(0,[1],[])],rets:=some ([4],[])} Tryz.func176 (by kernel_rfl)
@[go_sem] def XHR:XpO.g=176/\XpO.fs=⟨[.ro 1,.ro 1],XpO.F,false⟩:=⟨nr rfl,nr rfl⟩
@[go_sem] def XHS(xs:List Zc)(k:Int)(h1:0<=k)(h0:(mkL Xz xs k).2<=9223372036854775807):XpO.F [.sl .ro 4 ((mkL Xz xs k).1.map (XS .ro)),.i .i64 k]=some (.i .i64 (mkL Xz xs k).2,[.u,.u]):=Xd (xs.length+1) rfl rfl (λcx h=>by
 have hb:=Xn Tryz.f176 0 _ _ rfl rfl
 have hx:=Zu Ze xs k
 have hr:=(XY (cx:=cx) (blk:=0) (body:=Yl Tryz.f176 0) xs (λi (s:Int)=>⟨E [(0,.sl .ro 4 ((mkL Xz xs k).1.map (XS .ro))),(1,.i .i64 s),(5,.i .i64 i)],B []⟩) (λ_=>⟨E [(1,.i .i64 (mkL Xz xs k).2)],B []⟩) (λx s=>(Xz x s).2) (λi s=>s=XaX Xz xs k i)
  (λs hI G=>by simp only[go_sem,reduceIte,↓reduceIte,reduceCtorEq,nA,nS,nM,nB,nE,nL,nT,nN,iL,iT,iE,iA,iM,iS,iG,iB,iN,iZ,h,Int.lt_irrefl,hb,XU,hI,Y3]) (λi hk s hI=>by
   have h2:((i:Int)<(xs.length:Int)):=Int.ofNat_lt.2 hk
   have g1:=ZB Ze xs k i
   have g2:=ZC Ze xs k i hk
   rw[<-hI] at g1 g2
   have h3:=Xbt (f:=Xz) (XS .ro) xs k i hk
   rw[<-hI] at h3
   simp only[Xz,XS] at h3 g2
   have v0:(IntKind.i64).wrap (s)=s:=Xc (by omega) (by omega)
   have v1:(IntKind.i64).wrap (s+1)=s+1:=Xc (by omega) (by omega)
   have v2:(IntKind.i64).wrap (s+1+1)=s+1+1:=Xc (by omega) (by omega)
   have v3:(IntKind.i64).wrap (s+1+1+1)=s+1+1+1:=Xc (by omega) (by omega)
   have v4:(IntKind.i64).wrap (s+1+1+1+1)=s+1+1+1+1:=Xc (by omega) (by omega)
   refine⟨by rw[Yo xs k i hk,<-hI],_,λG=>by simp only[go_sem,reduceIte,↓reduceIte,reduceCtorEq,nA,nS,nM,nB,nE,nL,nT,nN,iL,iT,iE,iA,iM,iS,iG,iB,iN,iZ,h,h3,XU,ZD,v0,v1,v2,v3,v4,h2,Xp _ _ hk,Xe (show i<9223372036854775807 by omega),hb]<;>with_reducible rfl,by simp only[go_sem,reduceIte,↓reduceIte,reduceCtorEq,nA,nS,nM,nB,nE,nL,nT,nN,iL,iT,iE,iA,iM,iS,iG,iB,iN,iZ,h,Xz]⟩) k rfl (xs.length+1) (Nat.le_refl _)).2
 rw[hb] at hr
 simp only[go_sem,reduceIte,↓reduceIte,reduceCtorEq,nA,nS,nM,nB,nE,nL,nT,nN,iL,iT,iE,iA,iM,iS,iG,iB,iN,iZ,h,hr]) (rfl)
def XpP:SP Tryz.prog:=mkS tyA 107 Tryz.f107 [XgG,Xoj,XpO] {md:=[.ro 1,.ro 1],rg:=[(0,[0,1],[]),(1,[0,1,5],[]),(2,[0,1,5,9],[]),(3,[0,1,5],[]),(4,[0,1,5,18],[]),(5,[4],[]),(6,[0,1,5],[]),(7,[0,1,5,28],[]),(8,[4],[]),(9,[0,1,5],[]),(10,[0,1,5,39],[]),(11,[4],[]),(12,[0,1,5],[]),(13,[0,1,5,50],[]),(14,[4],[]),(15,[0,1,5],[]),(16,[0,1,5,59],[]),(17,[4],[]),(18,[0,1,5],[]),(19,[0,1,5,70],[]),(20,[4],[]),(21,[0,1,5],[]),(22,[0,1,5,81],[]),(23,[4],[]),(24,[0,1,5],[]),(25,[0,1,5,92],[]),(26,[4],[]),(27,[0,1,5],[]),(28,[0,1,5,103],[]),(29,[4],[]),(30,[0,1,5],[]),(31,[0,1,5],[]),(32,[0,1,5,115],[]),(33,[4],[]),(34,[0,1,5],[]),(35,[0,1,5,124],[]),(36,[4],[]),(37,[4],[])],lv:=[(0,[0,1,5],[])],out:=[(0,[1],[])],rets:=some ([4],[]),plan:=[(7,(.take 0 (.take 1 (.take 2 (.take 3 (.take 4 (.take 5 (.one 6 (.take 7 .done))))))))),(22,(.take 0 (.take 1 (.take 2 (.take 3 (.take 4 (.take 5 (.take 6 (.one 7 (.take 8 .done)))))))))),(25,(.take 0 (.take 1 (.take 2 (.take 3 (.take 4 (.take 5 (.take 6 (.one 7 (.take 8 .done)))))))))),(28,(.take 0 (.take 1 (.take 2 (.take 3 (.take 4 (.take 5 (.take 6 (.one 7 (.take 8 .done))))))))))]} Tryz.func107 (by kernel_rfl)
@[go_sem] def XHT:XpP.g=107/\XpP.fs=⟨[.ro 1,.ro 1],XpP.F,false⟩:=⟨nr rfl,nr rfl⟩
@[go_sem] def XHU(xs:List Yk)(k:Int)(h1:0<=k)(h0:(mkL Xw xs k).2<=9223372036854775807):XpP.F [.sl .ro 11 ((mkL Xw xs k).1.map (Xx .ro)),.i .i64 k]=some (.i .i64 (mkL Xw xs k).2,[.u,.u]):=Xd (xs.length+1) rfl rfl (λcx h=>by
 have hb:=Xn Tryz.f107 0 _ _ rfl rfl
 have hx:=Zu Zf xs k
 have hr:=(XY (cx:=cx) (blk:=0) (body:=Yl Tryz.f107 0) xs (λi (s:Int)=>⟨E [(0,.sl .ro 11 ((mkL Xw xs k).1.map (Xx .ro))),(1,.i .i64 s),(5,.i .i64 i)],B []⟩) (λ_=>⟨E [(1,.i .i64 (mkL Xw xs k).2)],B []⟩) (λx s=>(Xw x s).2) (λi s=>s=XaX Xw xs k i)
  (λs hI G=>by simp only[go_sem,reduceIte,↓reduceIte,reduceCtorEq,nA,nS,nM,nB,nE,nL,nT,nN,iL,iT,iE,iA,iM,iS,iG,iB,iN,iZ,h,Int.lt_irrefl,hb,XU,hI,Y3]) (λi hk s hI=>by
   have h2:((i:Int)<(xs.length:Int)):=Int.ofNat_lt.2 hk
   have g1:=ZB Zf xs k i
   have g2:=ZC Zf xs k i hk
   rw[<-hI] at g1 g2
   obtain⟨q0,hq0⟩:∃q,(mkL Xt xs[i].Get.Headers (s+1+1+1+1+1+1+1+1+1)).2=q:=⟨_,rfl⟩
   have b0:=Yn Yr xs[i].Get.Headers (s+1+1+1+1+1+1+1+1+1)
   rw[hq0] at b0
   obtain⟨q1,hq1⟩:∃q,(mkL Xz xs[i].Waiters (q0)).2=q:=⟨_,rfl⟩
   have b1:=Yn Ze xs[i].Waiters (q0)
   rw[hq1] at b1
   have h3:=Xbt (f:=Xw) (Xx .ro) xs k i hk
   rw[<-hI] at h3
   simp only[Xw,Xx,hq0,hq1] at h3 g2
   have v0:(IntKind.i64).wrap (s)=s:=Xc (by omega) (by omega)
   have v1:(IntKind.i64).wrap (s+1)=s+1:=Xc (by omega) (by omega)
   have t2:s+1+1<=9223372036854775807:=by omega
   have v2:(IntKind.i64).wrap (s+1+1)=s+1+1:=Xc (by omega) (by omega)
   have v3:(IntKind.i64).wrap (s+1+1+1)=s+1+1+1:=Xc (by omega) (by omega)
   have v4:(IntKind.i64).wrap (s+1+1+1+1)=s+1+1+1+1:=Xc (by omega) (by omega)
   have v5:(IntKind.i64).wrap (s+1+1+1+1+1)=s+1+1+1+1+1:=Xc (by omega) (by omega)
   have v6:(IntKind.i64).wrap (s+1+1+1+1+1+1)=s+1+1+1+1+1+1:=Xc (by omega) (by omega)
   have t7:s+1+1+1+1+1+1+1<=9223372036854775807:=by omega
   have v7:(IntKind.i64).wrap (s+1+1+1+1+1+1+1)=s+1+1+1+1+1+1+1:=Xc (by omega) (by omega)
   have t8:s+1+1+1+1+1+1+1+1<=9223372036854775807:=by omega
   have v8:(IntKind.i64).wrap (s+1+1+1+1+1+1+1+1)=s+1+1+1+1+1+1+1+1:=Xc (by omega) (by omega)
   have t9:s+1+1+1+1+1+1+1+1+1<=9223372036854775807:=by omega
   have v9:(IntKind.i64).wrap (s+1+1+1+1+1+1+1+1+1)=s+1+1+1+1+1+1+1+1+1:=Xc (by omega) (by omega)
   have p0:0<=s+1+1+1+1+1+1+1+1+1:=by omega
   have c0:q0<=9223372036854775807:=by omega
   have d0:¬(q0<0):=by omega
   have v10:(IntKind.i64).wrap (q0)=q0:=Xc (by omega) (by omega)
   have p1:0<=q0:=by omega
   have c1:q1<=9223372036854775807:=by omega
   have d1:¬(q1<0):=by omega
   have v11:(IntKind.i64).wrap (q1)=q1:=Xc (by omega) (by omega)
   refine⟨by rw[Yo xs k i hk,<-hI],_,λG=>by simp only[go_sem,reduceIte,↓reduceIte,reduceCtorEq,nA,nS,nM,nB,nE,nL,nT,nN,iL,iT,iE,iA,iM,iS,iG,iB,iN,iZ,h,h3,XU,ZD,hq0,hq1,v0,v1,t2,v2,v3,v4,v5,v6,t7,v7,t8,v8,t9,v9,p0,c0,d0,v10,p1,c1,d1,v11,h2,Xp _ _ hk,Xe (show i<9223372036854775807 by omega),hb]<;>with_reducible rfl,by simp only[go_sem,reduceIte,↓reduceIte,reduceCtorEq,nA,nS,nM,nB,nE,nL,nT,nN,iL,iT,iE,iA,iM,iS,iG,iB,iN,iZ,h,Xw,hq0,hq1]⟩) k rfl (xs.length+1) (Nat.le_refl _)).2
 rw[hb] at hr
 simp only[go_sem,reduceIte,↓reduceIte,reduceCtorEq,nA,nS,nM,nB,nE,nL,nT,nN,iL,iT,iE,iA,iM,iS,iG,iB,iN,iZ,h,hr]) (rfl)
def s45:SP Tryz.prog:=mkS tyA 45 Tryz.f45 [XpH,XpK,XpN,XpP] {md:=[.ro 1,.ro 1],rg:=[(0,[1,2],[2]),(1,[1,2],[2]),(2,[1,2,10],[2]),(3,[4],[]),(4,[1,2],[2]),(5,[1,2,16],[2]),(6,[4],[]),(7,[1,2],[2]),(8,[1,2,22],[2]),(9,[4],[]),(10,[1],[]),(11,[1,28],[]),(12,[4],[]),(13,[4],[])],rets:=some ([4],[])} Tryz.func45 (by kernel_rfl)
@[go_sem] def d45:s45.g=45/\s45.fs=⟨[.ro 1,.ro 1],s45.F,false⟩:=⟨nr rfl,nr rfl⟩
@[go_sem] def e45(w4 w5 w6 w7 w8 w9 w10 w11:Int)(w12:List ByteArray)(w13 w14 w15 w16 w17 w18 w19 w20 w21 w22 w23 w24:Int)(w25 w26:List XM)(w27:List Origin)(w28:List Yk)(k:Int)(h1:0<=k)(h0:(YP (Shield.mk (Config.mk w4 w5 w6 w7 w8 w9 w10 w11 w12 (Lanes.mk w13 w14 w15) (Rules.mk w16 w17 w18 w19 w20)) w21 w22 (Store.mk w23 w24 w25 w26) w27 w28) k).2<=9223372036854775807):s45.F [.agg [.i .i64 w4,.i .i64 w5,.i .i64 w6,.i .i64 w7,.i .i64 w8,.i .i64 w9,.i .i64 w10,.i .i64 w11,.sl .ro 1 ((mkL YE w12 k).1.map Yf),.i .i64 w13,.i .i64 w14,.i .i64 w15,.i .i64 w16,.i .i64 w17,.i .i64 w18,.i .i64 w19,.i .i64 w20,.i .i64 w21,.i .i64 w22,.i .i64 w23,.i .i64 w24,.sl .ro 13 ((mkL Xk w25 (mkL YE w12 k).2).1.map (Xa .ro)),.sl .ro 13 ((mkL Xk w26 (mkL Xk w25 (mkL YE w12 k).2).2).1.map (Xa .ro)),.sl .ro 7 ((mkL Xu w27 (mkL Xk w26 (mkL Xk w25 (mkL YE w12 k).2).2).2).1.map (Xv .ro)),.sl .ro 11 ((mkL Xw w28 (mkL Xu w27 (mkL Xk w26 (mkL Xk w25 (mkL YE w12 k).2).2).2).2).1.map (Xx .ro))],.i .i64 k]=some (.i .i64 (YP (Shield.mk (Config.mk w4 w5 w6 w7 w8 w9 w10 w11 w12 (Lanes.mk w13 w14 w15) (Rules.mk w16 w17 w18 w19 w20)) w21 w22 (Store.mk w23 w24 w25 w26) w27 w28) k).2,[.u,.u]):=Xd (0) rfl rfl (λcx h=>by
 obtain⟨q0,hq0⟩:∃q,(Yy (Config.mk w4 w5 w6 w7 w8 w9 w10 w11 w12 (Lanes.mk w13 w14 w15) (Rules.mk w16 w17 w18 w19 w20)) k).2=q:=⟨_,rfl⟩
 have b0:=Uh (Config.mk w4 w5 w6 w7 w8 w9 w10 w11 w12 (Lanes.mk w13 w14 w15) (Rules.mk w16 w17 w18 w19 w20)) k
 rw[hq0] at b0
 have p0:0<=k:=by omega
 obtain⟨q1,hq1⟩:∃q,(Zj (Store.mk w23 w24 w25 w26) q0).2=q:=⟨_,rfl⟩
 have b1:=Xa3 (Store.mk w23 w24 w25 w26) q0
 rw[hq1] at b1
 have p1:0<=q0:=by omega
 obtain⟨q2,hq2⟩:∃q,(mkL Xu w27 q1).2=q:=⟨_,rfl⟩
 have b2:=Yn Zd w27 q1
 rw[hq2] at b2
 have p2:0<=q1:=by omega
 obtain⟨q3,hq3⟩:∃q,(mkL Xw w28 q2).2=q:=⟨_,rfl⟩
 have b3:=Yn Zf w28 q2
 rw[hq3] at b3
 have p3:0<=q2:=by omega
 simp only[YS,hq0,hq1,hq2,hq3] at h0
 have c0:q0<=9223372036854775807:=by omega
 have d0:¬(q0<0):=by omega
 have c1:q1<=9223372036854775807:=by omega
 have d1:¬(q1<0):=by omega
 have c2:q2<=9223372036854775807:=by omega
 have d2:¬(q2<0):=by omega
 have c3:q3<=9223372036854775807:=by omega
 have d3:¬(q3<0):=by omega
 simp only[Yb,Yp] at hq0
 simp only[Yb,Yp] at hq1
 simp only[go_sem,reduceIte,↓reduceIte,reduceCtorEq,nA,nS,nM,nB,nE,nL,nT,nN,iL,iT,iE,iA,iM,iS,iG,iB,iN,iZ,h,p0,p1,p2,p3,c0,d0,c1,d1,c2,d2,c3,d3,hq0,hq1,hq2,hq3,Yb,Yp,YS]) (rfl)
def s16:SP Tryz.prog:=mkS tyA 16 Tryz.f16 [s45] {md:=[.ro 1,.ro 1],rg:=[(0,[1,2],[2]),(1,[1],[]),(2,[1,10],[]),(3,[4],[]),(4,[4],[])],rets:=some ([4],[])} Tryz.func16 (by kernel_rfl)
@[go_sem] def d16:s16.g=16/\s16.fs=⟨[.ro 1,.ro 1],s16.F,false⟩:=⟨nr rfl,nr rfl⟩
@[go_sem] def e16(w29 w30 w31 w32 w33 w34 w35 w36 w37:Int)(w38:List ByteArray)(w39 w40 w41 w42 w43 w44 w45 w46 w47 w48 w49 w50:Int)(w51 w52:List XM)(w53:List Origin)(w54:List Yk)(k:Int)(h1:0<=k)(h0:(X0 (Xr.mk w29 (Shield.mk (Config.mk w30 w31 w32 w33 w34 w35 w36 w37 w38 (Lanes.mk w39 w40 w41) (Rules.mk w42 w43 w44 w45 w46)) w47 w48 (Store.mk w49 w50 w51 w52) w53 w54)) k).2<=9223372036854775807):s16.F [.agg [.i .i64 w29,.i .i64 w30,.i .i64 w31,.i .i64 w32,.i .i64 w33,.i .i64 w34,.i .i64 w35,.i .i64 w36,.i .i64 w37,.sl .ro 1 ((mkL YE w38 k).1.map Yf),.i .i64 w39,.i .i64 w40,.i .i64 w41,.i .i64 w42,.i .i64 w43,.i .i64 w44,.i .i64 w45,.i .i64 w46,.i .i64 w47,.i .i64 w48,.i .i64 w49,.i .i64 w50,.sl .ro 13 ((mkL Xk w51 (mkL YE w38 k).2).1.map (Xa .ro)),.sl .ro 13 ((mkL Xk w52 (mkL Xk w51 (mkL YE w38 k).2).2).1.map (Xa .ro)),.sl .ro 7 ((mkL Xu w53 (mkL Xk w52 (mkL Xk w51 (mkL YE w38 k).2).2).2).1.map (Xv .ro)),.sl .ro 11 ((mkL Xw w54 (mkL Xu w53 (mkL Xk w52 (mkL Xk w51 (mkL YE w38 k).2).2).2).2).1.map (Xx .ro))],.i .i64 k]=some (.i .i64 (X0 (Xr.mk w29 (Shield.mk (Config.mk w30 w31 w32 w33 w34 w35 w36 w37 w38 (Lanes.mk w39 w40 w41) (Rules.mk w42 w43 w44 w45 w46)) w47 w48 (Store.mk w49 w50 w51 w52) w53 w54)) k).2,[.u,.u]):=Xd (0) rfl rfl (λcx h=>by
 obtain⟨q0,hq0⟩:∃q,(YP (Shield.mk (Config.mk w30 w31 w32 w33 w34 w35 w36 w37 w38 (Lanes.mk w39 w40 w41) (Rules.mk w42 w43 w44 w45 w46)) w47 w48 (Store.mk w49 w50 w51 w52) w53 w54) k).2=q:=⟨_,rfl⟩
 have b0:=Xaw (Shield.mk (Config.mk w30 w31 w32 w33 w34 w35 w36 w37 w38 (Lanes.mk w39 w40 w41) (Rules.mk w42 w43 w44 w45 w46)) w47 w48 (Store.mk w49 w50 w51 w52) w53 w54) k
 rw[hq0] at b0
 have p0:0<=k:=by omega
 simp only[Yq,hq0] at h0
 have c0:q0<=9223372036854775807:=by omega
 have d0:¬(q0<0):=by omega
 simp only[YS,Yb,Yp] at hq0
 simp only[go_sem,reduceIte,↓reduceIte,reduceCtorEq,nA,nS,nM,nB,nE,nL,nT,nN,iL,iT,iE,iA,iM,iS,iG,iB,iN,iZ,h,p0,c0,d0,hq0,YS,Yb,Yp,Yq]) (rfl)
def s3:SP Tryz.prog:=mkS tyA 3 Tryz.f3 [s8,s9,s10,s11,s12,s13,s14,s15,s16] {md:=[.ro 1],rg:=[(0,[1],[1]),(1,[1,3],[1]),(2,[1,3],[1]),(3,[1,15],[1]),(4,[2],[]),(5,[1,4],[1,4]),(6,[1,4,5],[1,4,5]),(7,[1,4,5,6],[1,4,5,6]),(8,[1,4,5,6,26],[1,4,5,6]),(9,[2],[]),(10,[1,4,5,6,31],[1,4,5,6]),(11,[2],[]),(12,[1,4,5,6,7],[1,4,5,6]),(13,[1,4,6,7],[1,4,6]),(14,[1,4,6,42],[1,4,6]),(15,[2],[]),(16,[1,4,6,8],[1,4,6]),(17,[1,4,6,8],[1,4,6]),(18,[1,4,6,8,9],[1,4,6]),(19,[1,4,6,8,9],[1,4,6]),(20,[1,4,6,8,9,50],[1,4,6]),(21,[2],[]),(22,[1,4,6,8,53],[1,4,6]),(23,[2],[]),(24,[4,6,8,10],[4,6,10]),(25,[6,8,60],[6]),(26,[2],[]),(27,[6,8,9],[6]),(28,[8,9],[]),(29,[8,9,65],[]),(30,[2],[]),(31,[68],[]),(32,[2],[]),(33,[2],[])],rets:=some ([2],[]),plan:=[(10,(.take 0 (.take 1 (.one 2 (.one 3 (.take 4 .done))))))]} Tryz.func3 (by kernel_rfl)
@[go_sem] def d3:s3.g=3/\s3.fs=⟨[.ro 1],s3.F,false⟩:=⟨nr rfl,nr rfl⟩
def e3(w55 w56 w57 w58 w59 w60 w61 w62:Int)(w63:List ByteArray)(w64 w65 w66 w67 w68 w69 w70 w71:Int)(h0:Xct (Config.mk w55 w56 w57 w58 w59 w60 w61 w62 w63 (Lanes.mk w64 w65 w66) (Rules.mk w67 w68 w69 w70 w71))):s3.F [.agg [.i .i64 w55,.i .i64 w56,.i .i64 w57,.i .i64 w58,.i .i64 w59,.i .i64 w60,.i .i64 w61,.i .i64 w62,.sl .ro 1 (w63.map Yf),.i .i64 w64,.i .i64 w65,.i .i64 w66,.i .i64 w67,.i .i64 w68,.i .i64 w69,.i .i64 w70,.i .i64 w71]]=some (.b true,[.u]):=Xd (0) rfl rfl (λcx h=>by
 have h0_0:=h0
 by_cases hc0:XaG (Config.mk w55 w56 w57 w58 w59 w60 w61 w62 w63 (Lanes.mk w64 w65 w66) (Rules.mk w67 w68 w69 w70 w71)) 1048576<0
 ·simp only[go_sem,reduceIte,↓reduceIte,reduceCtorEq,nA,nS,nM,nB,nE,nL,nT,nN,iL,iT,iE,iA,iM,iS,iG,iB,iN,iZ,h,hc0,h0_0]
 obtain⟨hs0,hl0⟩:=Xez _ _ h0_0 (by decide) (by decide) (show 0<=XaG (Config.mk w55 w56 w57 w58 w59 w60 w61 w62 w63 (Lanes.mk w64 w65 w66) (Rules.mk w67 w68 w69 w70 w71)) 1048576 by omega)
 obtain⟨R,hR⟩:∃R,Qa (Config.mk w55 w56 w57 w58 w59 w60 w61 w62 w63 (Lanes.mk w64 w65 w66) (Rules.mk w67 w68 w69 w70 w71))=R:=⟨_,rfl⟩
 have hsm:=XeI hs0
 rw[hR] at hsm
 have f0:=Xci (Config.mk w55 w56 w57 w58 w59 w60 w61 w62 w63 (Lanes.mk w64 w65 w66) (Rules.mk w67 w68 w69 w70 w71)) 1 hs0
 have g0:=Uh (Config.mk w55 w56 w57 w58 w59 w60 w61 w62 w63 (Lanes.mk w64 w65 w66) (Rules.mk w67 w68 w69 w70 w71)) 1
 have f0':(Yy (Config.mk w55 w56 w57 w58 w59 w60 w61 w62 w63 (Lanes.mk w64 w65 w66) (Rules.mk w67 w68 w69 w70 w71)) 1).2<=9223372036854775807:=by omega
 have g0':¬((Yy (Config.mk w55 w56 w57 w58 w59 w60 w61 w62 w63 (Lanes.mk w64 w65 w66) (Rules.mk w67 w68 w69 w70 w71)) 1).2<0):=by omega
 have f1:=Xby R 1 hsm
 have g1:=Xbx R 1
 have f1':(X0 R 1).2<=9223372036854775807:=by omega
 have g1':¬((X0 R 1).2<0):=by omega
 simp only[Yb,Yq,YS,Yp] at f0' g0' f1' g1'
 simp only[go_sem,reduceIte,↓reduceIte,reduceCtorEq,nA,nS,nM,nB,nE,nL,nT,nN,iL,iT,iE,iA,iM,iS,iG,iB,iN,iZ,h,hc0,hs0,h0_0,hR,hsm,f0',g0',f1',g1',Xbr,Yb,Yq,YS,Yp]) (rfl)
end
end Go.Vm.A
