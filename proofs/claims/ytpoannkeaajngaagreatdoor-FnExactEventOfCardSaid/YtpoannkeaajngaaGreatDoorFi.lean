/- Functions of the program, walked by the evaluator. -/
import Derived.Test.YtpoannkeaajngaaGreatDoorWb
import Derived.Test.YtpoannkeaajngaaGreatDoorWa
import Derived.Test.YtpoannkeaajngaaGreatDoorFa
import Derived.Test.YtpoannkeaajngaaGreatDoorFb
import Derived.Test.YtpoannkeaajngaaGreatDoorFc
import Derived.Test.YtpoannkeaajngaaGreatDoorFd
import Derived.Test.YtpoannkeaajngaaGreatDoorFe
import Derived.Test.YtpoannkeaajngaaGreatDoorFf
import Derived.Test.YtpoannkeaajngaaGreatDoorFh
set_option linter.unusedVariables false
set_option linter.unusedSimpArgs false
set_option autoImplicit false
set_option maxRecDepth 100000
set_option maxHeartbeats 4000000
set_option linter.defProp false
namespace Go.Vm.A
open Go.Proofs
open Nat renaming reduceAdd -> nA, reduceSub -> nS, reduceMul -> nM, reduceBEq -> nB, reduceEqDiff -> nE, reduceLeDiff -> nL, reduceLT -> nT, reduceBneDiff -> nN
open Int renaming reduceLE -> iL, reduceLT -> iT, reduceEq -> iE, reduceAdd -> iA, reduceMul -> iM, reduceSub -> iS, reduceNeg -> iG, reduceBEq -> iB, reduceBNe -> iN, reduceToNat -> iZ
noncomputable section
def XpV:SP Tryz.prog:=⟨102,⟨[.ro 1,.ro 1],XfF,false⟩,Xl9 (gM:=0) Tryz.func102 (by kernel_rfl) rfl (λIm w (h:tbm 0 Im w)=>h.2) (λs sep m w h1 h2 h3=>Go.Proofs.Tryz.strings_Split s sep m w h1 h2 h3)⟩
@[go_sem] def XGZ:XpV.g=102/\XpV.fs=⟨[.ro 1,.ro 1],XpV.F,false⟩:=⟨nr rfl,nr rfl⟩
@[go_sem] def XG0(t:ByteArray)(c:UInt8)(h0:t.size<=1048576):XpV.F [.s t,.s ⟨#[c]⟩]=some (.sl .mut 1 ((XfK t c).map X8),[.u,.u]):=by
 show XfF [.s t,.s ⟨#[c]⟩]=_
 have hc:(⟨#[c]⟩:ByteArray).size=1/\t.size<=1048576:=⟨rfl,h0⟩
 exact if_pos hc
def s58:SP Tryz.prog:=mkS tyA 58 Tryz.f58 [XpU,XpV,Xm0] {md:=[.ro 1],rets:=some ([2],[])} Tryz.func58 (by kernel_rfl)
@[go_sem] def d58:s58.g=58/\s58.fs=⟨[.ro 1],s58.F,false⟩:=⟨nr rfl,nr rfl⟩
@[go_sem] def e58(t:ByteArray)(h0:t.size<=1048575):s58.F [.s t]=some (.sl .mut 1 ((Y7 t).map X8),[.u]):=Xj (0) rfl rfl (λcx h=>by
 have h1:(XfK t 32).length<=1048576:=by have:=XdW t 32; omega
 have h2:t.size<=1048576:=by omega
 simp only[go_sem,reduceIte,↓reduceIte,reduceCtorEq,nA,nS,nM,nB,nE,nL,nT,nN,iL,iT,iE,iA,iM,iS,iG,iB,iN,iZ,h,h0,h1,h2,Y7]) (by simp only[go_sem,reduceIte,↓reduceIte,reduceCtorEq,nA,nS,nM,nB,nE,nL,nT,nN,iL,iT,iE,iA,iM,iS,iG,iB,iN,iZ,ZS,XJ])
def s43:SP Tryz.prog:=mkS tyA 43 Tryz.f43 [] {md:=[.ro 1,.ro 1,.ro 1],rets:=some ([6],[])} Tryz.func43 (by kernel_rfl)
@[go_sem] def d43:s43.g=43/\s43.fs=⟨[.ro 1,.ro 1,.ro 1],s43.F,false⟩:=⟨nr rfl,nr rfl⟩
@[go_sem] def e43(a b c:Int):s43.F [.i .i64 a,.i .i64 b,.i .i64 c]=some (.b (within a b c),[.u,.u,.u]):=Xj (0) rfl rfl (λcx h=>by
 simp only[go_sem,reduceIte,↓reduceIte,reduceCtorEq,nA,nS,nM,nB,nE,nL,nT,nN,iL,iT,iE,iA,iM,iS,iG,iB,iN,iZ,h,within]
 by_cases h:b<=a<;>simp[h]) (rfl)
def XpW:SP Tryz.prog:=mkS tyA 184 Tryz.f184 [] {md:=[.ro 1,.ro 1],rg:=[(0,[0,1],[]),(1,[0,1,7,8],[]),(2,[0,1,7,8,9],[]),(3,[0,1,5,7,8],[]),(4,[0,1,5,7,8,16],[]),(5,[4],[]),(6,[0,1,7,8],[]),(7,[4],[])],lv:=[(0,[0,1,7,8],[])],out:=[(0,[],[])],rets:=some ([4],[])} Tryz.func184 (by kernel_rfl)
@[go_sem] def XG1:XpW.g=184/\XpW.fs=⟨[.ro 1,.ro 1],XpW.F,false⟩:=⟨nr rfl,nr rfl⟩
@[go_sem] def XG2(xs:List Int)(v:Int)(h0:xs.length<=9223372036854775806):XpW.F [.sl .ro 1 (xs.map XfH),.i .i64 v]=some (.i .i64 (XcM (λx=>v==x) xs 0),[.u,.u]):=Xj (xs.length+1) rfl rfl (λcx h=>by
 have hx:=h0
 have hb0:=XF Tryz.f184 0 _ _ rfl rfl
 obtain⟨r,hr,hq⟩:=Yz (cx:=cx) (blk:=0) (body:=YN Tryz.f184 0) xs (λk (s:Nat)=>⟨E [(0,.sl .ro 1 (xs.map XfH)),(1,.i .i64 v),(7,.i .i64 xs.length),(8,.i .i64 k)],B []⟩) (λs=>⟨E [],B []⟩) (λx s=>v==x) (λx s=>s+1) (λx s=>(.ret,⟨E [(4,.i .i64 s)],B []⟩)) (λk s=>k=s)
   (λs hI G=>by simp only[go_sem,reduceIte,↓reduceIte,reduceCtorEq,nA,nS,nM,nB,nE,nL,nT,nN,iL,iT,iE,iA,iM,iS,iG,iB,iN,iZ,h,Int.lt_irrefl,hb0,hI]) (λk hk s hI=>by
    have h1:((k:Int)<(xs.length:Int)):=Int.ofNat_lt.2 hk
    obtain rfl:=hI
    exact⟨_,_,_,λG=>by simp only[go_sem,reduceIte,↓reduceIte,reduceCtorEq,nA,nS,nM,nB,nE,nL,nT,nN,iL,iT,iE,iA,iM,iS,iG,iB,iN,iZ,h,YH XfH xs _ hk,h1,Xt _ _ hk,Xm (show k<9223372036854775807 by omega),hb0]<;>with_reducible rfl,Iff.rfl,λhc=>⟨rfl,by simp only[go_sem,reduceIte,↓reduceIte,reduceCtorEq,nA,nS,nM,nB,nE,nL,nT,nN,iL,iT,iE,iA,iM,iS,iG,iB,iN,iZ,h]⟩⟩) 0 rfl (xs.length+1) (Nat.le_refl _)
 rw[hb0] at hr
 rcases hq with⟨s',e1,_,e3⟩ | ⟨x,s',e1,e3⟩
 ·simp only[go_sem,reduceIte,↓reduceIte,reduceCtorEq,nA,nS,nM,nB,nE,nL,nT,nN,iL,iT,iE,iA,iM,iS,iG,iB,iN,iZ,h,hr,e3,Xej e1]
 ·simp only[go_sem,reduceIte,↓reduceIte,reduceCtorEq,nA,nS,nM,nB,nE,nL,nT,nN,iL,iT,iE,iA,iM,iS,iG,iB,iN,iZ,h,hr,e3,XcC e1]) (rfl)
def XpX:SP Tryz.prog:=mkS tyA 152 Tryz.f152 [XpW] {md:=[.ro 1,.ro 1],rets:=some ([4],[])} Tryz.func152 (by kernel_rfl)
@[go_sem] def XG3:XpX.g=152/\XpX.fs=⟨[.ro 1,.ro 1],XpX.F,false⟩:=⟨nr rfl,nr rfl⟩
@[go_sem] def XG4(xs:List Int)(v:Int)(h0:xs.length<=9223372036854775806):XpX.F [.sl .ro 1 (xs.map XfH),.i .i64 v]=some (.b (YC v xs),[.u,.u]):=Xj (0) rfl rfl (λcx h=>by
 simp only[go_sem,reduceIte,↓reduceIte,reduceCtorEq,nA,nS,nM,nB,nE,nL,nT,nN,iL,iT,iE,iA,iM,iS,iG,iB,iN,iZ,h,h0,Xek,YC]) (rfl)
def Xj7:SP Tryz.prog:=mkS tyA 104 Tryz.f104 [XpX] {md:=[.ro 1,.ro 1],rets:=some ([4],[])} Tryz.func104 (by kernel_rfl)
@[go_sem] def XG5:Xj7.g=104/\Xj7.fs=⟨[.ro 1,.ro 1],Xj7.F,false⟩:=⟨nr rfl,nr rfl⟩
@[go_sem] def XpY(v:Int)(xs:List Int)(h0:xs.length<=9223372036854775806):Xj7.F [.i .i64 v,.sl .ro 1 (xs.map XfH)]=some (.b (YC v xs),[.u,.u]):=Xj (0) rfl rfl (λcx h=>by
 simp only[go_sem,reduceIte,↓reduceIte,reduceCtorEq,nA,nS,nM,nB,nE,nL,nT,nN,iL,iT,iE,iA,iM,iS,iG,iB,iN,iZ,h,h0]) (rfl)
@[go_sem] def Xs4(v a0:Int):Xj7.F [.i .i64 v,.sl .ro 1 [[.i .i64 a0]]]=some (.b (YC v [a0]),[.u,.u]):=XpY v [a0] (by simp)
@[go_sem] def Xs5(v a0 a1:Int):Xj7.F [.i .i64 v,.sl .ro 1 [[.i .i64 a0],[.i .i64 a1]]]=some (.b (YC v [a0,a1]),[.u,.u]):=XpY v [a0,a1] (by simp)
@[go_sem] def Xs6(v a0 a1 a2:Int):Xj7.F [.i .i64 v,.sl .ro 1 [[.i .i64 a0],[.i .i64 a1],[.i .i64 a2]]]=some (.b (YC v [a0,a1,a2]),[.u,.u]):=XpY v [a0,a1,a2] (by simp)
@[go_sem] def Xs7(v a0 a1 a2 a3:Int):Xj7.F [.i .i64 v,.sl .ro 1 [[.i .i64 a0],[.i .i64 a1],[.i .i64 a2],[.i .i64 a3]]]=some (.b (YC v [a0,a1,a2,a3]),[.u,.u]):=XpY v [a0,a1,a2,a3] (by simp)
@[go_sem] def Xs8(v a0 a1 a2 a3 a4:Int):Xj7.F [.i .i64 v,.sl .ro 1 [[.i .i64 a0],[.i .i64 a1],[.i .i64 a2],[.i .i64 a3],[.i .i64 a4]]]=some (.b (YC v [a0,a1,a2,a3,a4]),[.u,.u]):=XpY v [a0,a1,a2,a3,a4] (by simp)
def Xo0:SP Tryz.prog:=mkS tyA 153 Tryz.f153 [] {md:=[.ro 1,.ro 1],rg:=[(0,[0,1],[]),(1,[0,1,10],[]),(2,[4],[]),(3,[0,1,12,13],[]),(4,[0,1,12,13,14],[]),(5,[0,1,5,12,13],[]),(6,[0,1,12,13,24],[]),(7,[4],[]),(8,[0,1,12,13],[]),(9,[4],[])],lv:=[(0,[0,1,12,13],[])],out:=[(0,[],[])],rets:=some ([4],[]),plan:=[(6,(.take 0 (.take 1 (.take 2 (.take 3 (.take 4 (.take 5 (.take 6 (.take 7 (.take 8 .done))))))))))]} Tryz.func153 (by kernel_rfl)
@[go_sem] def XG6:Xo0.g=153/\Xo0.fs=⟨[.ro 1,.ro 1],Xo0.F,false⟩:=⟨nr rfl,nr rfl⟩
@[go_sem] def XG7(xs ys:List Xg)(h0:smL Ye xs):Xo0.F [.sl .ro 2 (xs.map (Xb .ro)),.sl .ro 2 (ys.map (Xb .ro))]=some (.b (eqv xs ys),[.u,.u]):=Xj (xs.length+1) rfl rfl (λcx h=>by
 have hx:=h0.1
 by_cases hl:xs.length=ys.length
 ·have hb0:=XF Tryz.f153 0 _ _ rfl rfl
  obtain⟨r,hr,hq⟩:=Yz (cx:=cx) (blk:=0) (body:=YN Tryz.f153 0) (xs.zip ys) (λk (s:Unit)=>⟨E [(0,.sl .ro 2 (xs.map (Xb .ro))),(1,.sl .ro 2 (ys.map (Xb .ro))),(12,.i .i64 xs.length),(13,.i .i64 k)],B []⟩) (λs=>⟨E [],B []⟩) (λx s=>!eqv x.1 x.2) (λx s=>s) (λx s=>(.ret,⟨E [(4,.b false)],B []⟩)) (λk s=>True)
    (λs hI G=>by simp only[go_sem,reduceIte,↓reduceIte,reduceCtorEq,nA,nS,nM,nB,nE,nL,nT,nN,iL,iT,iE,iA,iM,iS,iG,iB,iN,iZ,h,Int.lt_irrefl,hb0,UD hl,hl]) (λk hk s hI=>by
     have h1:((k:Int)<((xs.zip ys).length:Int)):=Int.ofNat_lt.2 hk
     have hk':k<xs.length:=by rwa [UD hl] at hk
     have h1':((k:Int)<(xs.length:Int)):=Int.ofNat_lt.2 hk'
     have h2:=h0.2 _ (List.getElem_mem hk')
     have h3:(xs.zip ys)[k]=(xs[k],ys[k]'(by omega)):=by simp
     rw[h3]
     have h4:=h2
     obtain⟨u0,u1⟩:=h2
     exact⟨_,_,_,λG=>by simp only[go_sem,reduceIte,↓reduceIte,reduceCtorEq,nA,nS,nM,nB,nE,nL,nT,nN,iL,iT,iE,iA,iM,iS,iG,iB,iN,iZ,h,h1',Xt _ _ hk',Xt ys.length k (by omega),YH (Xb .ro) xs k hk',YH (Xb .ro) ys k (by omega),Xm (show k<9223372036854775807 by omega),h4,Xos,Xg.eqv xs[k] (ys[k]'(by omega)),u0,u1,Xel,Qp,Q2,Xa,Zc,h1,Xt _ _ hk,Xm (show k<9223372036854775807 by omega),hb0]<;>with_reducible rfl,by first | exact Iff.rfl | ((simp only[Xg.eqv xs[k] (ys[k]'(by omega))]<;>simp)<;>done) | ((simp only[Xg.eqv xs[k] (ys[k]'(by omega))]<;>simp[eqv])<;>done) | (simp only[Xg.eqv xs[k] (ys[k]'(by omega))]<;>simp[eqv]<;>(by_cases g:xs[k].Get=(ys[k]'(by omega)).Get<;>simp[g])),λhc=>⟨trivial,by simp only[go_sem,reduceIte,↓reduceIte,reduceCtorEq,nA,nS,nM,nB,nE,nL,nT,nN,iL,iT,iE,iA,iM,iS,iG,iB,iN,iZ,h]⟩⟩) () trivial (xs.length+1) (by rw[UD hl]; exact Nat.le_refl _)
  rw[hb0] at hr
  have hl2:((xs.length:Int) !=(ys.length:Int))=false:=by simp[hl]
  rcases hq with⟨s',e1,_,e3⟩ | ⟨x,s',e1,e3⟩
  ·simp only[go_sem,reduceIte,↓reduceIte,reduceCtorEq,nA,nS,nM,nB,nE,nL,nT,nN,iL,iT,iE,iA,iM,iS,iG,iB,iN,iZ,h,hl2,hr,e3,Xet hl e1]
  ·simp only[go_sem,reduceIte,↓reduceIte,reduceCtorEq,nA,nS,nM,nB,nE,nL,nT,nN,iL,iT,iE,iA,iM,iS,iG,iB,iN,iZ,h,hl2,hr,e3,Xeu hl e1]
 ·have hl2:((xs.length:Int) !=(ys.length:Int))=true:=by simpa using λh=>hl (Int.ofNat_inj.1 h)
  simp only[go_sem,reduceIte,↓reduceIte,reduceCtorEq,nA,nS,nM,nB,nE,nL,nT,nN,iL,iT,iE,iA,iM,iS,iG,iB,iN,iZ,h,hl2,XgG hl]) (rfl)
def Xo1:SP Tryz.prog:=mkS tyA 105 Tryz.f105 [Xo0] {md:=[.ro 1,.ro 1],rets:=some ([4],[])} Tryz.func105 (by kernel_rfl)
@[go_sem] def XG8:Xo1.g=105/\Xo1.fs=⟨[.ro 1,.ro 1],Xo1.F,false⟩:=⟨nr rfl,nr rfl⟩
@[go_sem] def Xtz(z0 z1 z2:ByteArray)(z3:List Xg)(z4 z5 z6:ByteArray)(z7:List Xg)(h0:Qq (Request.mk z0 z1 z2 z3)):Xo1.F [.agg [.s z0,.s z1,.s z2,.sl .ro 2 (z3.map (Xb .ro))],.agg [.s z4,.s z5,.s z6,.sl .ro 2 (z7.map (Xb .ro))]]=some (.b (eqv (Request.mk z0 z1 z2 z3) (Request.mk z4 z5 z6 z7)),[.u,.u]):=Xj (0) rfl rfl (λcx h=>by
 obtain⟨q0,q1,q2,q3⟩:=h0
 simp only[go_sem,reduceIte,↓reduceIte,reduceCtorEq,nA,nS,nM,nB,nE,nL,nT,nN,iL,iT,iE,iA,iM,iS,iG,iB,iN,iZ,h,Qp,Q2,Xa,Zc,QY,XjQ,q0,q1,q2,q3]
 simp only[Request.eqv (Request.mk z0 z1 z2 z3) (Request.mk z4 z5 z6 z7),XqZ,XjR,XmG,Bool.and_true,Bool.and_assoc]) (rfl)
def XpZ:SP Tryz.prog:=mkS tyA 154 Tryz.f154 [] {md:=[.ro 1,.ro 1],rets:=some ([4],[])} Tryz.func154 (by kernel_rfl)
@[go_sem] def XG9:XpZ.g=154/\XpZ.fs=⟨[.ro 1,.ro 1],XpZ.F,false⟩:=⟨nr rfl,nr rfl⟩
@[go_sem] def XHa(x y:List UInt8):XpZ.F [.sl .ro 1 (x.map XE),.sl .ro 1 (y.map XE)]=some (.b (eqv x y),[.u,.u]):=Xj (0) rfl rfl (λcx h=>by
 simp only[go_sem,reduceIte,↓reduceIte,reduceCtorEq,nA,nS,nM,nB,nE,nL,nT,nN,iL,iT,iE,iA,iM,iS,iG,iB,iN,iZ,h,Xa,XjQ]) (rfl)
def Xo2:SP Tryz.prog:=mkS tyA 106 Tryz.f106 [Xo0,XpZ] {md:=[.ro 1,.ro 1],rets:=some ([4],[])} Tryz.func106 (by kernel_rfl)
@[go_sem] def XHb:Xo2.g=106/\Xo2.fs=⟨[.ro 1,.ro 1],Xo2.F,false⟩:=⟨nr rfl,nr rfl⟩
@[go_sem] def XtA(z8:Int)(z3:List Xg)(z9:List UInt8)(z10:Int)(z7:List Xg)(z11:List UInt8)(h0:ZR (Response.mk z8 z3 z9)):Xo2.F [.agg [.i .i64 z8,.sl .ro 2 (z3.map (Xb .ro)),.sl .ro 1 (z9.map XE)],.agg [.i .i64 z10,.sl .ro 2 (z7.map (Xb .ro)),.sl .ro 1 (z11.map XE)]]=some (.b (eqv (Response.mk z8 z3 z9) (Response.mk z10 z7 z11)),[.u,.u]):=Xj (0) rfl rfl (λcx h=>by
 obtain⟨q0,q1,q2⟩:=h0
 simp only[go_sem,reduceIte,↓reduceIte,reduceCtorEq,nA,nS,nM,nB,nE,nL,nT,nN,iL,iT,iE,iA,iM,iS,iG,iB,iN,iZ,h,Qp,Q2,Xa,Zc,QY,XjQ,q0,q1,q2]
 simp only[Response.eqv (Response.mk z8 z3 z9) (Response.mk z10 z7 z11),XqZ,XjR,XmG,Bool.and_true,Bool.and_assoc]) (rfl)
def Xp0:SP Tryz.prog:=mkS tyA 155 Tryz.f155 [] {md:=[.ro 1,.ro 1],rg:=[(0,[0,1],[]),(1,[1,3],[]),(2,[2],[]),(3,[2],[])],rets:=some ([2],[])} Tryz.func155 (by kernel_rfl)
@[go_sem] def XHc:Xp0.g=155/\Xp0.fs=⟨[.ro 1,.ro 1],Xp0.F,false⟩:=⟨nr rfl,nr rfl⟩
@[go_sem] def XHd(x:Bool)(c:Int):Xp0.F [.pr [.b x],.pr [.i .i64 c]]=some (.i .i64 (if x=true then c else 0),[.u,.u]):=Xj (0) rfl rfl (λcx h=>by
 simp only[go_sem,reduceIte,↓reduceIte,reduceCtorEq,nA,nS,nM,nB,nE,nL,nT,nN,iL,iT,iE,iA,iM,iS,iG,iB,iN,iZ,h,XoI]) (rfl)
def s45:SP Tryz.prog:=mkS tyA 45 Tryz.f45 [s43] {md:=[.ro 1],rets:=some ([2],[])} Tryz.func45 (by kernel_rfl)
@[go_sem] def d45:s45.g=45/\s45.fs=⟨[.ro 1],s45.F,false⟩:=⟨nr rfl,nr rfl⟩
@[go_sem] def e45(v:Int):s45.F [.i .i64 v]=some (.b (within v 200 599),[.u]):=Xj (0) rfl rfl (λcx h=>by
 simp only[go_sem,reduceIte,↓reduceIte,reduceCtorEq,nA,nS,nM,nB,nE,nL,nT,nN,iL,iT,iE,iA,iM,iS,iG,iB,iN,iZ,h]) (rfl)
def s86:SP Tryz.prog:=mkS tyA 86 Tryz.f86 [s88,XmX] {md:=[.ro 1],rets:=some ([2],[])} Tryz.func86 (by kernel_rfl)
@[go_sem] def d86:s86.g=86/\s86.fs=⟨[.ro 1],s86.F,false⟩:=⟨nr rfl,nr rfl⟩
@[go_sem] def e86(t:ByteArray):s86.F [.s t]=some (.b (Xb0 t),[.u]):=Xj (0) rfl rfl (λcx h=>by
 simp only[go_sem,reduceIte,↓reduceIte,reduceCtorEq,nA,nS,nM,nB,nE,nL,nT,nN,iL,iT,iE,iA,iM,iS,iG,iB,iN,iZ,h,Xb0]) (rfl)
def Xp1:SP Tryz.prog:=mkS tyA 135 Tryz.f135 [s88,XoX] {md:=[.ro 1],rets:=some ([2],[])} Tryz.func135 (by kernel_rfl)
@[go_sem] def XHe:Xp1.g=135/\Xp1.fs=⟨[.ro 1],Xp1.F,false⟩:=⟨nr rfl,nr rfl⟩
@[go_sem] def XHf(t:ByteArray)(h0:(t.size:Int)<=1000000):Xp1.F [.s t]=some (.b (Xmh t),[.u]):=Xj (0) rfl rfl (λcx h=>by
 simp only[go_sem,reduceIte,↓reduceIte,reduceCtorEq,nA,nS,nM,nB,nE,nL,nT,nN,iL,iT,iE,iA,iM,iS,iG,iB,iN,iZ,h,h0,XmT]) (rfl)
def Xp2:SP Tryz.prog:=⟨136,⟨[.ro 1,.ro 1],Xl6,false⟩,Xoy Tryz.func136 (by kernel_rfl) rfl Go.Proofs.Tryz.trimSpTab⟩
@[go_sem] def XHg:Xp2.g=136/\Xp2.fs=⟨[.ro 1,.ro 1],Xp2.F,false⟩:=⟨nr rfl,nr rfl⟩
@[go_sem] def XHh(x:ByteArray)(h0:x.size<=9223372036854775807):Xp2.F [.s x,.s ⟨#[32,9]⟩]=some (.s (XfQ x),[.u,.u]):=by
 show Xl6 [.s x,.s ⟨#[32,9]⟩]=_
 have hc:(⟨#[32,9]⟩:ByteArray).data.toList=[32,9]/\x.size<=9223372036854775807:=⟨rfl,h0⟩
 exact if_pos hc
def s85:SP Tryz.prog:=mkS tyA 85 Tryz.f85 [s86,Xp1,Xp2] {md:=[.ro 1],rg:=[(0,[1],[1]),(1,[1,3],[1]),(2,[2],[]),(3,[1,8],[1]),(4,[2],[]),(5,[13],[]),(6,[2],[]),(7,[2],[])],rets:=some ([2],[]),plan:=[(5,(.take 0 (.take 1 (.one 2 (.take 3 (.take 4 (.take 5 (.take 6 (.take 8 (.take 9 (.one 7 (.take 10 (.take 11 (.one 12 .done))))))))))))))]} Tryz.func85 (by kernel_rfl)
@[go_sem] def d85:s85.g=85/\s85.fs=⟨[.ro 1],s85.F,false⟩:=⟨nr rfl,nr rfl⟩
@[go_sem] def e85(z12 z13:ByteArray):s85.F [.agg [.s z12,.s z13]]=some (.i .i64 (Yk (Xg.mk z12 z13)),[.u]):=Xj (0) rfl rfl (λcx h=>by
 cases h1:Xb0 z12
 ·simp only[go_sem,reduceIte,↓reduceIte,reduceCtorEq,nA,nS,nM,nB,nE,nL,nT,nN,iL,iT,iE,iA,iM,iS,iG,iB,iN,iZ,h,h1,Yk]
 by_cases h2:200<(z13.size:Int)
 ·simp only[go_sem,reduceIte,↓reduceIte,reduceCtorEq,nA,nS,nM,nB,nE,nL,nT,nN,iL,iT,iE,iA,iM,iS,iG,iB,iN,iZ,h,h1,h2,Yk]
 have h3:(z13.size:Int)<=1000000:=by omega
 have h4:z13.size<=9223372036854775806:=by omega
 have h5:z13.size<=9223372036854775807:=by omega
 cases h6:Xmh z13
 ·simp only[go_sem,reduceIte,↓reduceIte,reduceCtorEq,nA,nS,nM,nB,nE,nL,nT,nN,iL,iT,iE,iA,iM,iS,iG,iB,iN,iZ,h,h1,h2,h3,h4,h5,h6,Yk]
 cases h7:eqv (XfQ z13) z13<;>simp only[go_sem,reduceIte,↓reduceIte,reduceCtorEq,nA,nS,nM,nB,nE,nL,nT,nN,iL,iT,iE,iA,iM,iS,iG,iB,iN,iZ,h,h1,h2,h3,h4,h5,h6,h7,Xa,Zc,bne,Yk]) (rfl)
def s46:SP Tryz.prog:=mkS tyA 46 Tryz.f46 [s85] {md:=[.ro 1],rg:=[(0,[0],[]),(1,[0,8],[]),(2,[2],[]),(3,[0,9,10,11],[]),(4,[0,9,10,11,12],[]),(5,[0,4,9,10,11],[4]),(6,[0,5,9,10,11],[]),(7,[0,5,9,10,11,18],[]),(8,[2],[]),(9,[0,9,10,11],[]),(10,[2],[])],lv:=[(0,[0,9,10,11],[])],out:=[(0,[],[])],rets:=some ([2],[])} Tryz.func46 (by kernel_rfl)
@[go_sem] def d46:s46.g=46/\s46.fs=⟨[.ro 1],s46.F,false⟩:=⟨nr rfl,nr rfl⟩
@[go_sem] def e46(hs:List Xg):s46.F [.sl .ro 2 (hs.map (Xb .ro))]=some (.i .i64 (Xr hs),[.u]):=Xj (hs.length+1) rfl rfl (λcx h=>by
 by_cases h1:20<(hs.length:Int)
 ·simp only[go_sem,reduceIte,↓reduceIte,reduceCtorEq,nA,nS,nM,nB,nE,nL,nT,nN,iL,iT,iE,iA,iM,iS,iG,iB,iN,iZ,h,h1,Xr]
 have hx:hs.length<=9223372036854775806:=by omega
 have hb0:=XF Tryz.f46 0 _ _ rfl rfl
 obtain⟨r,hr,hq⟩:=Yz (cx:=cx) (blk:=0) (body:=YN Tryz.f46 0) hs (λk (s:Unit)=>⟨E [(0,.sl .ro 2 (hs.map (Xb .ro))),(9,.sl .ro 2 (hs.map (Xb .ro))),(10,.i .i64 hs.length),(11,.i .i64 k)],B []⟩) (λs=>⟨E [],B []⟩) (λx s=>Yk x !=0) (λx s=>()) (λx s=>(.ret,⟨E [(2,.i .i64 (Yk x))],B []⟩)) (λk s=>True)
   (λs hI G=>by simp only[go_sem,reduceIte,↓reduceIte,reduceCtorEq,nA,nS,nM,nB,nE,nL,nT,nN,iL,iT,iE,iA,iM,iS,iG,iB,iN,iZ,h,Int.lt_irrefl,hb0,hx]) (λk hk s hI=>by
    have h1:((k:Int)<(hs.length:Int)):=Int.ofNat_lt.2 hk
    exact⟨_,_,_,λG=>by simp only[go_sem,reduceIte,↓reduceIte,reduceCtorEq,nA,nS,nM,nB,nE,nL,nT,nN,iL,iT,iE,iA,iM,iS,iG,iB,iN,iZ,h,YH (Xb .ro) hs _ hk,Xb,h1,Xt _ _ hk,Xm (show k<9223372036854775807 by omega),hb0]<;>with_reducible rfl,Iff.rfl,λhc=>⟨trivial,by simp only[go_sem,reduceIte,↓reduceIte,reduceCtorEq,nA,nS,nM,nB,nE,nL,nT,nN,iL,iT,iE,iA,iM,iS,iG,iB,iN,iZ,h]⟩⟩) () trivial (hs.length+1) (Nat.le_refl _)
 rw[hb0] at hr
 rcases hq with⟨s',e1,_,e3⟩ | ⟨x,s',e1,e3⟩
 ·simp only[go_sem,reduceIte,↓reduceIte,reduceCtorEq,nA,nS,nM,nB,nE,nL,nT,nN,iL,iT,iE,iA,iM,iS,iG,iB,iN,iZ,h,h1,hr,e3,Xr,Xa8 e1]
 ·simp only[go_sem,reduceIte,↓reduceIte,reduceCtorEq,nA,nS,nM,nB,nE,nL,nT,nN,iL,iT,iE,iA,iM,iS,iG,iB,iN,iZ,h,h1,hr,e3,Xr,Xa9 e1]) (rfl)
def s16:SP Tryz.prog:=mkS tyA 16 Tryz.f16 [s45,s46] {md:=[.ro 1],rg:=[(0,[1],[1]),(1,[1,7],[1]),(2,[2],[]),(3,[1,3],[1]),(4,[1,3,12],[1]),(5,[2],[]),(6,[17],[]),(7,[2],[]),(8,[2],[])],rets:=some ([2],[])} Tryz.func16 (by kernel_rfl)
@[go_sem] def d16:s16.g=16/\s16.fs=⟨[.ro 1],s16.F,false⟩:=⟨nr rfl,nr rfl⟩
@[go_sem] def e16(z14:Int)(z15:List Xg)(z16:List UInt8):s16.F [.agg [.i .i64 z14,.sl .ro 2 (z15.map (Xb .ro)),.sl .ro 1 (z16.map XE)]]=some (.i .i64 (XZ (Response.mk z14 z15 z16)),[.u]):=Xj (0) rfl rfl (λcx h=>by
 cases h1:within z14 200 599
 ·simp only[go_sem,reduceIte,↓reduceIte,reduceCtorEq,nA,nS,nM,nB,nE,nL,nT,nN,iL,iT,iE,iA,iM,iS,iG,iB,iN,iZ,h,h1,XZ]
 by_cases z:Xr z15=0
 rotate_left
 ·have z':(Xr z15 !=0)=true:=by simpa using z
  simp only[go_sem,reduceIte,↓reduceIte,reduceCtorEq,nA,nS,nM,nB,nE,nL,nT,nN,iL,iT,iE,iA,iM,iS,iG,iB,iN,iZ,h,h1,z',XZ]
 by_cases h2:2000<(z16.length:Int)<;>simp only[go_sem,reduceIte,↓reduceIte,reduceCtorEq,nA,nS,nM,nB,nE,nL,nT,nN,iL,iT,iE,iA,iM,iS,iG,iB,iN,iZ,h,h1,z,h2,XZ]) (rfl)
def s50:SP Tryz.prog:=mkS tyA 50 Tryz.f50 [] {md:=[.ro 1],rets:=some ([2],[])} Tryz.func50 (by kernel_rfl)
@[go_sem] def d50:s50.g=50/\s50.fs=⟨[.ro 1],s50.F,false⟩:=⟨nr rfl,nr rfl⟩
@[go_sem] def e50(t:ByteArray):s50.F [.s t]=some (.b (ZH t),[.u]):=Xj (0) rfl rfl (λcx h=>by
 have hu:ZH t=(eqv t ⟨#[71,69,84]⟩||eqv t ⟨#[72,69,65,68]⟩):=rfl
 cases h1:eqv t ⟨#[71,69,84]⟩<;>cases h2:eqv t ⟨#[72,69,65,68]⟩<;>simp only[go_sem,reduceIte,↓reduceIte,reduceCtorEq,nA,nS,nM,nB,nE,nL,nT,nN,iL,iT,iE,iA,iM,iS,iG,iB,iN,iZ,h,Xa,h1,h2,hu]) (rfl)
def s51:SP Tryz.prog:=mkS tyA 51 Tryz.f51 [s88,s89] {md:=[.ro 1],rets:=some ([2],[])} Tryz.func51 (by kernel_rfl)
@[go_sem] def d51:s51.g=51/\s51.fs=⟨[.ro 1],s51.F,false⟩:=⟨nr rfl,nr rfl⟩
@[go_sem] def e51(t:ByteArray):s51.F [.s t]=some (.b (UI t),[.u]):=Xj (0) rfl rfl (λcx h=>by
 simp only[go_sem,reduceIte,↓reduceIte,reduceCtorEq,nA,nS,nM,nB,nE,nL,nT,nN,iL,iT,iE,iA,iM,iS,iG,iB,iN,iZ,h,UI]) (rfl)
def s52:SP Tryz.prog:=mkS tyA 52 Tryz.f52 [s88,s90] {md:=[.ro 1],rets:=some ([2],[])} Tryz.func52 (by kernel_rfl)
@[go_sem] def d52:s52.g=52/\s52.fs=⟨[.ro 1],s52.F,false⟩:=⟨nr rfl,nr rfl⟩
@[go_sem] def e52(t:ByteArray):s52.F [.s t]=some (.b (UJ t),[.u]):=Xj (0) rfl rfl (λcx h=>by
 have hu:UJ t=(Xa7 Xam 1 100 t&&(((t.data[0]?.getD 0).toNat:Int)==47)):=rfl
 cases h1:Xa7 Xam 1 100 t
 ·simp only[go_sem,reduceIte,↓reduceIte,reduceCtorEq,nA,nS,nM,nB,nE,nL,nT,nN,iL,iT,iE,iA,iM,iS,iG,iB,iN,iZ,h,h1,hu]
 have hi:YK t.size 0=some 0:=Xt t.size 0 (Xkn h1)
 cases h2:(((t.data[0]?.getD 0).toNat:Int)==47)<;>simp only[go_sem,reduceIte,↓reduceIte,reduceCtorEq,nA,nS,nM,nB,nE,nL,nT,nN,iL,iT,iE,iA,iM,iS,iG,iB,iN,iZ,h,h1,h2,hi,hu]) (rfl)
def Xp3:SP Tryz.prog:=mkS tyA 123 Tryz.f123 [] {md:=[.ro 1],rg:=[(0,[0],[]),(1,[3],[]),(2,[3,8,9,10],[]),(3,[3,8,9,10,11],[]),(4,[3,4,5,8,9,10],[]),(5,[3,4,5,8,9,10,20],[]),(6,[3,8,9,10],[]),(7,[3,8,9,10],[]),(8,[2],[])],lv:=[(0,[3,8,9,10],[])],out:=[(0,[3],[])],rets:=some ([2],[])} Tryz.func123 (by kernel_rfl)
@[go_sem] def XHi:Xp3.g=123/\Xp3.fs=⟨[.ro 1],Xp3.F,false⟩:=⟨nr rfl,nr rfl⟩
@[go_sem] def XHj(t:ByteArray)(h0:t.size<=9223372036854775806):Xp3.F [.s t]=some (.s (Xbr t),[.u]):=Xj (t.data.toList.length+1) rfl rfl (λcx h=>by
 have hz:t.data.toList.length<=9223372036854775807:=by rw[<-Xe]; omega
 have hx:t.data.toList.length<=9223372036854775806:=by rw[<-Xe]; exact h0
 have hb0:=XF Tryz.f123 0 _ _ rfl rfl
 obtain⟨hI,hr⟩:=YG (cx:=cx) (blk:=0) (body:=YN Tryz.f123 0) t.data.toList (λk (s:Unit)=>⟨E [(3,.sl .mut 1 ((Z6 t.data.toList k).map XE)),(8,.rf ⟨true,3,[],0⟩ 1 0 t.data.toList.length),(9,.i .i64 t.data.toList.length),(10,.i .i64 k)],B []⟩) (λs=>⟨E [(3,.sl .mut 1 ((t.data.toList.map XfN).map XE))],B []⟩) (λx s=>s) (λk s=>True)
   (λs hI G=>by simp only[go_sem,reduceIte,↓reduceIte,reduceCtorEq,nA,nS,nM,nB,nE,nL,nT,nN,iL,iT,iE,iA,iM,iS,iG,iB,iN,iZ,h,Int.lt_irrefl,hb0,XaJ t.data.toList t.data.toList.length (Nat.le_refl _),XeB t.data.toList,List.length_map]) (λk hk s hI=>by
    have h1:((k:Int)<(t.data.toList.length:Int)):=Int.ofNat_lt.2 hk
    have g1:=XgL t.data.toList k hk
    have g2:=Xij t.data.toList k hk
    have g3:=XaJ t.data.toList k (Nat.le_of_lt hk)
    have g4:(List.take t.data.toList.length ((Z6 t.data.toList k).map XE))=(Z6 t.data.toList k).map XE:=List.take_of_length_le (by rw[List.length_map,g3]; exact Nat.le_refl _)
    rcases Xil t.data.toList k hk with⟨a1,a2,w1,w2,hs,hv⟩ | ⟨a1,a2,w1,w2,hs,hv⟩ | ⟨a1,a2,w1,w2,hs,hv⟩
    all_goals exact⟨trivial,_,λG=>by simp only[go_sem,reduceIte,↓reduceIte,reduceCtorEq,nA,nS,nM,nB,nE,nL,nT,nN,iL,iT,iE,iA,iM,iS,iG,iB,iN,iZ,h,g1,g2,g3,g4,a1,a2,w1,w2,hs,List.length_map,h1,Xt _ _ hk,Xm (show k<9223372036854775807 by omega),hb0]<;>with_reducible rfl,by simp only[go_sem,reduceIte,↓reduceIte,reduceCtorEq,nA,nS,nM,nB,nE,nL,nT,nN,iL,iT,iE,iA,iM,iS,iG,iB,iN,iZ,h,hv]⟩) () trivial (t.data.toList.length+1) (Nat.le_refl _)
 rw[hb0] at hr
 rw[Xc9] at hr
 simp only[go_sem,reduceIte,↓reduceIte,reduceCtorEq,nA,nS,nM,nB,nE,nL,nT,nN,iL,iT,iE,iA,iM,iS,iG,iB,iN,iZ,h,hz,hr,Xe t,Xbr]) (rfl)
end
end Go.Vm.A
