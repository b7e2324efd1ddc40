/- Functions of the program, walked by the evaluator. -/
import Derived.Test.YtpoannkeaajngaaGreatDoorWb
import Derived.Test.YtpoannkeaajngaaGreatDoorWa
import Derived.Test.YtpoannkeaajngaaGreatDoorFd
import Derived.Test.YtpoannkeaajngaaGreatDoorFe
import Derived.Test.YtpoannkeaajngaaGreatDoorFh
set_option linter.unusedVariables false
set_option linter.unusedSimpArgs false
set_option autoImplicit false
set_option maxRecDepth 100000
set_option maxHeartbeats 4000000
set_option linter.defProp false
namespace Go.Vm.A
open Go.Proofs
open Nat renaming reduceAdd -> nA, reduceSub -> nS, reduceMul -> nM, reduceBEq -> nB, reduceEqDiff -> nE, reduceLeDiff -> nL, reduceLT -> nT, reduceBneDiff -> nN
open Int renaming reduceLE -> iL, reduceLT -> iT, reduceEq -> iE, reduceAdd -> iA, reduceMul -> iM, reduceSub -> iS, reduceNeg -> iG, reduceBEq -> iB, reduceBNe -> iN, reduceToNat -> iZ
noncomputable section
def XoA:SP Tryz.prog:=mkS tyA 166 Tryz.f166 [] {md:=[.ro 1],rets:=some ([2],[])} Tryz.func166 (by kernel_rfl)
@[go_sem] def XFc:XoA.g=166/\XoA.fs=⟨[.ro 1],XoA.F,false⟩:=⟨nr rfl,nr rfl⟩
@[go_sem] def XFd(c:UInt8):XoA.F [.i .u8 c.toNat]=some (.b (U3 c),[.u]):=Xm (0) rfl rfl (λcx h=>by
 cases h1:((c.toNat:Int)==9)<;>by_cases h2:32<=(c.toNat:Int)<;>by_cases h3:(c.toNat:Int)<=126<;>simp only[go_sem,reduceIte,↓reduceIte,reduceCtorEq,nA,nS,nM,nB,nE,nL,nT,nN,iL,iT,iE,iA,iM,iS,iG,iB,iN,iZ,h,h1,h2,h3,U3]) (rfl)
def XoB:SP Tryz.prog:=mkS tyA 133 Tryz.f133 [XoA] {md:=[.ro 1],rg:=[(0,[0],[]),(1,[0,3],[]),(2,[0,3,7],[]),(3,[0,3],[]),(4,[0,3,14],[]),(5,[2],[]),(6,[2],[])],lv:=[(0,[0,3],[])],out:=[(0,[],[])],rets:=some ([2],[])} Tryz.func133 (by kernel_rfl)
@[go_sem] def XFe:XoB.g=133/\XoB.fs=⟨[.ro 1],XoB.F,false⟩:=⟨nr rfl,nr rfl⟩
@[go_sem] def XFf(t:ByteArray)(h0:(t.size:Int)<=1000000):XoB.F [.s t]=some (.b (Xlp t),[.u]):=Xm (t.data.toList.length+1) rfl rfl (λcx h=>by
 have hx:t.data.toList.length<=9223372036854775806:=by rw[<-Xi]; omega
 have hb0:=XR Tryz.f133 0 _ _ rfl rfl
 obtain⟨r,hr,hq⟩:=YL (cx:=cx) (blk:=0) (body:=Zt Tryz.f133 0) t.data.toList (λk (s:Unit)=>⟨E [(0,.s t),(3,.i .i64 k)],B []⟩) (λs=>⟨E [],B []⟩) (λx s=>!U3 x) (λx s=>()) (λx s=>(.ret,⟨E [(2,.b false)],B []⟩)) (λk s=>True)
   (λs hI G=>by simp only[go_sem,reduceIte,↓reduceIte,reduceCtorEq,nA,nS,nM,nB,nE,nL,nT,nN,iL,iT,iE,iA,iM,iS,iG,iB,iN,iZ,h,Int.lt_irrefl,hb0,Xi t]) (λk hk s hI=>by
    have h1:((k:Int)<(t.data.toList.length:Int)):=Int.ofNat_lt.2 hk
    have hz:=Xal t k hk
    exact⟨_,_,_,λG=>by simp only[go_sem,reduceIte,↓reduceIte,reduceCtorEq,nA,nS,nM,nB,nE,nL,nT,nN,iL,iT,iE,iA,iM,iS,iG,iB,iN,iZ,h,hz,Xi t,h1,Yb _ _ hk,XD (show k<9223372036854775807 by omega),hb0]<;>with_reducible rfl,Iff.rfl,λhc=>⟨trivial,by simp only[go_sem,reduceIte,↓reduceIte,reduceCtorEq,nA,nS,nM,nB,nE,nL,nT,nN,iL,iT,iE,iA,iM,iS,iG,iB,iN,iZ,h,Xi t]⟩⟩) () trivial (t.data.toList.length+1) (Nat.le_refl _)
 rw[hb0] at hr
 rcases hq with⟨s',e1,_,e3⟩ | ⟨x,s',e1,e3⟩
 ·simp only[go_sem,reduceIte,↓reduceIte,reduceCtorEq,nA,nS,nM,nB,nE,nL,nT,nN,iL,iT,iE,iA,iM,iS,iG,iB,iN,iZ,h,hr,e3,Xlp,ZT e1]
 ·simp only[go_sem,reduceIte,↓reduceIte,reduceCtorEq,nA,nS,nM,nB,nE,nL,nT,nN,iL,iT,iE,iA,iM,iS,iG,iB,iN,iZ,h,hr,e3,Xlp,Zi e1]) (rfl)
def XoC:SP Tryz.prog:=mkS tyA 167 Tryz.f167 [] {md:=[.ro 1],rets:=some ([2],[])} Tryz.func167 (by kernel_rfl)
@[go_sem] def XFg:XoC.g=167/\XoC.fs=⟨[.ro 1],XoC.F,false⟩:=⟨nr rfl,nr rfl⟩
@[go_sem] def XFh(c:UInt8):XoC.F [.i .u8 c.toNat]=some (.b (Xao c),[.u]):=Xm (0) rfl rfl (λcx h=>by
 cases h1:((c.toNat:Int)==32)<;>cases h2:((c.toNat:Int)==9)<;>simp only[go_sem,reduceIte,↓reduceIte,reduceCtorEq,nA,nS,nM,nB,nE,nL,nT,nN,iL,iT,iE,iA,iM,iS,iG,iB,iN,iZ,h,h1,h2,Xao]) (rfl)
def XoD:SP Tryz.prog:=mkS tyA 134 Tryz.f134 [XoC] {md:=[.ro 1],rg:=[(0,[0],[]),(1,[0,3],[]),(2,[0,3,4],[]),(3,[0,3,4,15],[]),(4,[0,3,4],[]),(5,[0,3,4,27],[]),(6,[0,3,4],[]),(7,[2],[])],lv:=[(0,[0,3,4],[]),(2,[0,3,4],[])],out:=[(0,[0,3,4],[]),(2,[0,3,4],[])],rets:=some ([2],[])} Tryz.func134 (by kernel_rfl)
@[go_sem] def XFi:XoD.g=134/\XoD.fs=⟨[.ro 1],XoD.F,false⟩:=⟨nr rfl,nr rfl⟩
@[go_sem] def XFj(t:ByteArray)(h0:t.size<=9223372036854775806):XoD.F [.s t]=some (.s (Xe9 t),[.u]):=Xm (t.size+1) rfl rfl (λcx h=>by
 have hb:=XR Tryz.f134 0 _ _ rfl rfl
 have hb1:=XR Tryz.f134 1 _ _ rfl rfl
 have lp:=Xgu (cx:=cx) (blk:=0) (body:=Zt Tryz.f134 0) (λ(k:Nat)=>⟨E [(0,.s t),(3,.i .i64 k),(4,.i .i64 t.size)],B []⟩) (λk=>k<=t.size) (λk=>t.size-k)
  (λk r=>∃f:Nat,k<=f/\f<=t.size/\(∀j,k<=j->j<f->bl t j=true)/\(f<t.size->bl t f=false)/\r=some (.ex 0,⟨E [(0,.s t),(3,.i .i64 f),(4,.i .i64 t.size)],B []⟩)) (λk hk=>by
  by_cases h1:(k:Int)<(t.size:Int)
  ·have i1:=Yb t.size k (by omega)
   have w1:=XD (show k<9223372036854775807 by omega)
   cases h2:bl t k
   ·have h3:Xao (t.data[k]?.getD 0)=false:=h2
    exact .inl λG=>⟨k,Nat.le_refl _,hk,λj a b=>by omega,λ_=>h2,by simp only[go_sem,reduceIte,↓reduceIte,reduceCtorEq,nA,nS,nM,nB,nE,nL,nT,nN,iL,iT,iE,iA,iM,iS,iG,iB,iN,iZ,h,hb,h1,h3,i1]⟩
   ·have h3:Xao (t.data[k]?.getD 0)=true:=h2
    refine .inr ⟨_,k+1,?_,by omega,by omega,λr ⟨f,a,b,c,d,e⟩=>⟨f,by omega,b,λj x y=>?_,d,e⟩,λG=>by simp only[go_sem,reduceIte,↓reduceIte,reduceCtorEq,nA,nS,nM,nB,nE,nL,nT,nN,iL,iT,iE,iA,iM,iS,iG,iB,iN,iZ,h,hb,h1,h3,i1,w1]; rfl⟩
    ·simp only[go_sem,reduceIte,↓reduceIte,reduceCtorEq,nA,nS,nM,nB,nE,nL,nT,nN,iL,iT,iE,iA,iM,iS,iG,iB,iN,iZ,h]
    ·rcases Nat.eq_or_lt_of_le x with rfl | x
     ·exact h2
     ·exact c j x y
  ·exact .inl λG=>⟨k,Nat.le_refl _,hk,λj a b=>by omega,λx=>by omega,by simp only[go_sem,reduceIte,↓reduceIte,reduceCtorEq,nA,nS,nM,nB,nE,nL,nT,nN,iL,iT,iE,iA,iM,iS,iG,iB,iN,iZ,h,hb,h1]⟩)
 rw[hb] at lp
 obtain⟨f,_,f2,f3,f4,l1⟩:=lp (t.size+1) 0 (Nat.zero_le _) (by omega) ⟨E [(0,.s t),(3,.i .i64 0),(4,.i .i64 t.size)],B []⟩ (by simp only[go_sem,reduceIte,↓reduceIte,reduceCtorEq,nA,nS,nM,nB,nE,nL,nT,nN,iL,iT,iE,iA,iM,iS,iG,iB,iN,iZ,h])
 have lp2:=Xgu (cx:=cx) (blk:=2) (body:=Zt Tryz.f134 1) (λ(k:Nat)=>⟨E [(0,.s t),(3,.i .i64 f),(4,.i .i64 k)],B []⟩) (λk=>f<=k/\k<=t.size) (λk=>k)
  (λk r=>∃e:Nat,f<=e/\e<=k/\(∀j,e<=j->j<k->bl t j=true)/\(f<e->bl t (e-1)=false)/\r=some (.ex 2,⟨E [(0,.s t),(3,.i .i64 f),(4,.i .i64 e)],B []⟩)) (λk hk=>by
  by_cases h1:(f:Int)<(k:Int)
  ·obtain⟨m,rfl⟩:∃m,k=m+1:=⟨k-1,by omega⟩
   have i1:=Yb t.size m (by omega)
   have w1:(IntKind.i64).wrap (((m+1:Nat):Int)-1)=(m:Int):=by rw[YC (by omega) (by omega)]; omega
   cases h2:bl t m
   ·have h3:Xao (t.data[m]?.getD 0)=false:=h2
    exact .inl λG=>⟨m+1,hk.1,Nat.le_refl _,λj a b=>by omega,λ_=>by simpa using h2,by simp only[go_sem,reduceIte,↓reduceIte,reduceCtorEq,nA,nS,nM,nB,nE,nL,nT,nN,iL,iT,iE,iA,iM,iS,iG,iB,iN,iZ,h,hb1,h1,h3,i1,w1]⟩
   ·have h3:Xao (t.data[m]?.getD 0)=true:=h2
    refine .inr ⟨_,m,?_,⟨by omega,by omega⟩,by omega,λr ⟨e,a,b,c,d,g⟩=>⟨e,a,by omega,λj x y=>?_,d,g⟩,λG=>by simp only[go_sem,reduceIte,↓reduceIte,reduceCtorEq,nA,nS,nM,nB,nE,nL,nT,nN,iL,iT,iE,iA,iM,iS,iG,iB,iN,iZ,h,hb1,h1,h3,i1,w1]; rfl⟩
    ·simp only[go_sem,reduceIte,↓reduceIte,reduceCtorEq,nA,nS,nM,nB,nE,nL,nT,nN,iL,iT,iE,iA,iM,iS,iG,iB,iN,iZ,h]
    ·rcases Nat.lt_or_ge j m with y' | y'
     ·exact c j x y'
     ·obtain rfl:j=m:=by omega
      exact h2
  ·exact .inl λG=>⟨k,hk.1,Nat.le_refl _,λj a b=>by omega,λx=>by omega,by simp only[go_sem,reduceIte,↓reduceIte,reduceCtorEq,nA,nS,nM,nB,nE,nL,nT,nN,iL,iT,iE,iA,iM,iS,iG,iB,iN,iZ,h,hb1,h1]⟩)
 rw[hb1] at lp2
 obtain⟨e,e1,e2,e3,e4,l2⟩:=lp2 (t.size+1) t.size ⟨f2,Nat.le_refl _⟩ (by omega) ⟨E [(0,.s t),(3,.i .i64 f),(4,.i .i64 t.size)],B []⟩ (by simp only[go_sem,reduceIte,↓reduceIte,reduceCtorEq,nA,nS,nM,nB,nE,nL,nT,nN,iL,iT,iE,iA,iM,iS,iG,iB,iN,iZ,h])
 have hc:=XjG t f e e1 e2 (λj hj=>f3 j (Nat.zero_le _) hj) f4 e3 e4
 have c1:(0:Int)<=(e:Int):=by omega
 have c2:(e:Int)<=(t.size:Int):=by omega
 have c3:(0:Int)<=(f:Int):=by omega
 have c4:(f:Int)<=(e:Int):=by omega
 simp only[go_sem,reduceIte,↓reduceIte,reduceCtorEq,nA,nS,nM,nB,nE,nL,nT,nN,iL,iT,iE,iA,iM,iS,iG,iB,iN,iZ,h,l1,l2,c1,c2,c3,c4,Int.toNat_natCast,hc]) (rfl)
def s84:SP Tryz.prog:=mkS tyA 84 Tryz.f84 [Xoz,XoB,XoD] {md:=[.ro 1],rg:=[(0,[1],[1]),(1,[1,3],[1]),(2,[3,6],[]),(3,[2],[]),(4,[3,11],[]),(5,[2],[]),(6,[15],[]),(7,[2],[]),(8,[2],[])],rets:=some ([2],[])} Tryz.func84 (by kernel_rfl)
@[go_sem] def d84:s84.g=84/\s84.fs=⟨[.ro 1],s84.F,false⟩:=⟨nr rfl,nr rfl⟩
@[go_sem] def e84(z0 z1:ByteArray):s84.F [.agg [.s z0,.s z1]]=some (.i .i64 (XK (Xd.mk z0 z1)),[.u]):=Xm (0) rfl rfl (λcx h=>by
 cases h1:ZJ z0
 ·simp only[go_sem,reduceIte,↓reduceIte,reduceCtorEq,nA,nS,nM,nB,nE,nL,nT,nN,iL,iT,iE,iA,iM,iS,iG,iB,iN,iZ,h,h1,XK]
 by_cases h2:200<(z1.size:Int)
 ·simp only[go_sem,reduceIte,↓reduceIte,reduceCtorEq,nA,nS,nM,nB,nE,nL,nT,nN,iL,iT,iE,iA,iM,iS,iG,iB,iN,iZ,h,h1,h2,XK]
 have h3:(z1.size:Int)<=1000000:=by omega
 have h4:z1.size<=9223372036854775806:=by omega
 have h5:z1.size<=9223372036854775807:=by omega
 cases h6:Xlp z1
 ·simp only[go_sem,reduceIte,↓reduceIte,reduceCtorEq,nA,nS,nM,nB,nE,nL,nT,nN,iL,iT,iE,iA,iM,iS,iG,iB,iN,iZ,h,h1,h2,h3,h4,h5,h6,XK]
 cases h7:eqv (Xe9 z1) z1<;>simp only[go_sem,reduceIte,↓reduceIte,reduceCtorEq,nA,nS,nM,nB,nE,nL,nT,nN,iL,iT,iE,iA,iM,iS,iG,iB,iN,iZ,h,h1,h2,h3,h4,h5,h6,h7,Xt,Xc8,bne,XK]) (rfl)
def s42:SP Tryz.prog:=mkS tyA 42 Tryz.f42 [s84] {md:=[.ro 1],rg:=[(0,[0],[]),(1,[0,7],[]),(2,[2],[]),(3,[0,3],[]),(4,[0,3,11],[]),(5,[0,3],[]),(6,[0,3,4],[]),(7,[0,3,4,20],[]),(8,[2],[]),(9,[2],[])],lv:=[(0,[0,3],[])],out:=[(0,[],[])],rets:=some ([2],[])} Tryz.func42 (by kernel_rfl)
@[go_sem] def d42:s42.g=42/\s42.fs=⟨[.ro 1],s42.F,false⟩:=⟨nr rfl,nr rfl⟩
@[go_sem] def e42(hs:List Xd):s42.F [.sl .ro 2 (hs.map (Xb .ro))]=some (.i .i64 (Xa hs),[.u]):=Xm (hs.length+1) rfl rfl (λcx h=>by
 by_cases h1:20<(hs.length:Int)
 ·simp only[go_sem,reduceIte,↓reduceIte,reduceCtorEq,nA,nS,nM,nB,nE,nL,nT,nN,iL,iT,iE,iA,iM,iS,iG,iB,iN,iZ,h,h1,Xa]
 have hx:hs.length<=9223372036854775806:=by omega
 have hb0:=XR Tryz.f42 0 _ _ rfl rfl
 obtain⟨r,hr,hq⟩:=YL (cx:=cx) (blk:=0) (body:=Zt Tryz.f42 0) hs (λk (s:Unit)=>⟨E [(0,.sl .ro 2 (hs.map (Xb .ro))),(3,.i .i64 k)],B []⟩) (λs=>⟨E [],B []⟩) (λx s=>XK x !=0) (λx s=>()) (λx s=>(.ret,⟨E [(2,.i .i64 (XK x))],B []⟩)) (λk s=>True)
   (λs hI G=>by simp only[go_sem,reduceIte,↓reduceIte,reduceCtorEq,nA,nS,nM,nB,nE,nL,nT,nN,iL,iT,iE,iA,iM,iS,iG,iB,iN,iZ,h,Int.lt_irrefl,hb0,hx]) (λk hk s hI=>by
    have h1:((k:Int)<(hs.length:Int)):=Int.ofNat_lt.2 hk
    exact⟨_,_,_,λG=>by simp only[go_sem,reduceIte,↓reduceIte,reduceCtorEq,nA,nS,nM,nB,nE,nL,nT,nN,iL,iT,iE,iA,iM,iS,iG,iB,iN,iZ,h,QJ (Xb .ro) hs _ hk,Xb,h1,Yb _ _ hk,XD (show k<9223372036854775807 by omega),hb0]<;>with_reducible rfl,Iff.rfl,λhc=>⟨trivial,by simp only[go_sem,reduceIte,↓reduceIte,reduceCtorEq,nA,nS,nM,nB,nE,nL,nT,nN,iL,iT,iE,iA,iM,iS,iG,iB,iN,iZ,h]⟩⟩) () trivial (hs.length+1) (Nat.le_refl _)
 rw[hb0] at hr
 rcases hq with⟨s',e1,_,e3⟩ | ⟨x,s',e1,e3⟩
 ·simp only[go_sem,reduceIte,↓reduceIte,reduceCtorEq,nA,nS,nM,nB,nE,nL,nT,nN,iL,iT,iE,iA,iM,iS,iG,iB,iN,iZ,h,h1,hr,e3,Xa,XaL e1]
 ·simp only[go_sem,reduceIte,↓reduceIte,reduceCtorEq,nA,nS,nM,nB,nE,nL,nT,nN,iL,iT,iE,iA,iM,iS,iG,iB,iN,iZ,h,h1,hr,e3,Xa,XaM e1]) (rfl)
def s77:SP Tryz.prog:=mkS tyA 77 Tryz.f77 [Xn0,Xn1] {md:=[.ro 1],rg:=[(0,[0],[]),(1,[0,11],[]),(2,[2],[]),(3,[0,3],[]),(4,[0,3,15],[]),(5,[0,3],[]),(6,[0,3,41],[]),(7,[2],[]),(8,[2],[])],lv:=[(0,[0,3],[])],out:=[(0,[],[])],rets:=some ([2],[])} Tryz.func77 (by kernel_rfl)
@[go_sem] def d77:s77.g=77/\s77.fs=⟨[.ro 1],s77.F,false⟩:=⟨nr rfl,nr rfl⟩
@[go_sem] def e77(t:ByteArray):s77.F [.s t]=some (.b (Qr t),[.u]):=Xm (t.data.toList.length+1) rfl rfl (λcx h=>by
 have hu:Qr t=Xch Xbk 1 60 t:=rfl
 by_cases h1:(t.size:Int)<1
 ·simp only[go_sem,reduceIte,↓reduceIte,reduceCtorEq,nA,nS,nM,nB,nE,nL,nT,nN,iL,iT,iE,iA,iM,iS,iG,iB,iN,iZ,h,h1,hu,Zu h1]
 by_cases h2:60<(t.size:Int)
 ·simp only[go_sem,reduceIte,↓reduceIte,reduceCtorEq,nA,nS,nM,nB,nE,nL,nT,nN,iL,iT,iE,iA,iM,iS,iG,iB,iN,iZ,h,h1,h2,hu,ZV h2]
 have hx:t.data.toList.length<=9223372036854775806:=by rw[<-Xi]; omega
 have ha:=Qc (p:=Xbk) h1 h2
 rw[Xi t] at h1 h2
 ·have hb0:=XR Tryz.f77 0 _ _ rfl rfl
  obtain⟨r,hr,hq⟩:=Xcd (cx:=cx) (blk:=0) (body:=Zt Tryz.f77 0) t.data.toList (λk (s:Unit)=>⟨E [(0,.s t),(3,.i .i64 k)],B []⟩) (λs=>⟨E [],B []⟩) (λx s=>!Xbk x) (λx s=>()) (λx s=>(.ret,⟨E [(2,.b false)],B []⟩)) (λk s=>True)
    (λs hI G=>by simp only[go_sem,reduceIte,↓reduceIte,reduceCtorEq,nA,nS,nM,nB,nE,nL,nT,nN,iL,iT,iE,iA,iM,iS,iG,iB,iN,iZ,h,Int.lt_irrefl,hb0,Xi t]) (λk hk s hI=>by
     have h1:((k:Int)<(t.data.toList.length:Int)):=Int.ofNat_lt.2 hk
     have hz:=Xal t k hk
     have hu:Xbk t.data.toList[k]=(ZM t.data.toList[k]||Z6 t.data.toList[k]||((t.data.toList[k].toNat:Int)==46)||((t.data.toList[k].toNat:Int)==45)):=rfl
     by_cases c0:Xbk t.data.toList[k]=true
     ·skip
      have c9:=c0
      rw[hu] at c0
      cases a1:ZM t.data.toList[k]<;>cases a2:Z6 t.data.toList[k]<;>cases a3:((t.data.toList[k].toNat:Int)==46)<;>cases a4:((t.data.toList[k].toNat:Int)==45)<;>first | (exfalso; rw[a1,a2,a3,a4] at c0; exact absurd c0 (by decide)) | skip
      all_goals exact .inr ⟨by rw[c9]; rfl,trivial,_,λG=>by simp only[go_sem,reduceIte,↓reduceIte,reduceCtorEq,nA,nS,nM,nB,nE,nL,nT,nN,iL,iT,iE,iA,iM,iS,iG,iB,iN,iZ,h,hz,Xi t,bne,a1,a2,a3,a4,h1,Yb _ _ hk,XD (show k<9223372036854775807 by omega),hb0]<;>with_reducible rfl,by simp only[go_sem,reduceIte,↓reduceIte,reduceCtorEq,nA,nS,nM,nB,nE,nL,nT,nN,iL,iT,iE,iA,iM,iS,iG,iB,iN,iZ,h,Xi t]⟩
     ·have c1:Xbk t.data.toList[k]=false:=by simpa using c0
      have c2:=c1
      rw[hu] at c2
      simp only[Bool.or_eq_false_iff] at c2
      obtain⟨⟨⟨b1,b2⟩,b3⟩,b4⟩:=c2
      all_goals exact .inl ⟨by rw[c1]; rfl,λG=>by simp only[go_sem,reduceIte,↓reduceIte,reduceCtorEq,nA,nS,nM,nB,nE,nL,nT,nN,iL,iT,iE,iA,iM,iS,iG,iB,iN,iZ,h,hz,Xi t,bne,b1,b2,b3,b4,h1,Yb _ _ hk,XD (show k<9223372036854775807 by omega),hb0]⟩) () trivial (t.data.toList.length+1) (Nat.le_refl _)
  rw[hb0] at hr
  rcases hq with⟨s',e1,_,e3⟩ | ⟨x,s',e1,e3⟩
  ·simp only[go_sem,reduceIte,↓reduceIte,reduceCtorEq,nA,nS,nM,nB,nE,nL,nT,nN,iL,iT,iE,iA,iM,iS,iG,iB,iN,iZ,h,h1,h2,Xi t,hr,e3,hu,ha,ZT e1]
  ·simp only[go_sem,reduceIte,↓reduceIte,reduceCtorEq,nA,nS,nM,nB,nE,nL,nT,nN,iL,iT,iE,iA,iM,iS,iG,iB,iN,iZ,h,h1,h2,Xi t,hr,e3,hu,ha,Zi e1]) (rfl)
def XoE:SP Tryz.prog:=mkS tyA 128 Tryz.f128 [Xn2] {md:=[.ro 1],rg:=[(0,[0],[]),(1,[0,3],[]),(2,[0,3,4],[]),(3,[0,3,4],[]),(4,[0,3,4],[]),(5,[0,3,4],[]),(6,[0,3,4],[]),(7,[0,3,4],[]),(8,[0,3,4],[]),(9,[0,3,4],[]),(10,[0,3,4],[]),(11,[0,4],[]),(12,[2],[]),(13,[2],[])],rets:=some ([2],[])} Tryz.func128 (by kernel_rfl)
@[go_sem] def XFk:XoE.g=128/\XoE.fs=⟨[.ro 1],XoE.F,false⟩:=⟨nr rfl,nr rfl⟩
@[go_sem] def XFl(c:UInt8):XoE.F [.i .u8 c.toNat]=some (.b (U1 c),[.u]):=Xm (0) rfl rfl (λcx h=>by
 by_cases m:c∈XbD
 ·have hw:=XhE m
  simp only[XbD,List.mem_cons,List.not_mem_nil,or_false] at m
  have u47:(((47:UInt8).toNat:Nat):Int)=47:=rfl
  have u63:(((63:UInt8).toNat:Nat):Int)=63:=rfl
  have u61:(((61:UInt8).toNat:Nat):Int)=61:=rfl
  have u38:(((38:UInt8).toNat:Nat):Int)=38:=rfl
  have u58:(((58:UInt8).toNat:Nat):Int)=58:=rfl
  have u64:(((64:UInt8).toNat:Nat):Int)=64:=rfl
  have u44:(((44:UInt8).toNat:Nat):Int)=44:=rfl
  have u59:(((59:UInt8).toNat:Nat):Int)=59:=rfl
  have u40:(((40:UInt8).toNat:Nat):Int)=40:=rfl
  have u41:(((41:UInt8).toNat:Nat):Int)=41:=rfl
  rcases m with rfl | rfl | rfl | rfl | rfl | rfl | rfl | rfl | rfl | rfl<;>simp only[go_sem,reduceIte,↓reduceIte,reduceCtorEq,nA,nS,nM,nB,nE,nL,nT,nN,iL,iT,iE,iA,iM,iS,iG,iB,iN,iZ,h,hw,wx,u47,u63,u61,u38,u58,u64,u44,u59,u40,u41]
 ·have hw:=XhF m
  have q47:((c.toNat:Int)==47)=false:=Xbr (v:=47) (λe=>m (by subst e; decide))
  have q63:((c.toNat:Int)==63)=false:=Xbr (v:=63) (λe=>m (by subst e; decide))
  have q61:((c.toNat:Int)==61)=false:=Xbr (v:=61) (λe=>m (by subst e; decide))
  have q38:((c.toNat:Int)==38)=false:=Xbr (v:=38) (λe=>m (by subst e; decide))
  have q58:((c.toNat:Int)==58)=false:=Xbr (v:=58) (λe=>m (by subst e; decide))
  have q64:((c.toNat:Int)==64)=false:=Xbr (v:=64) (λe=>m (by subst e; decide))
  have q44:((c.toNat:Int)==44)=false:=Xbr (v:=44) (λe=>m (by subst e; decide))
  have q59:((c.toNat:Int)==59)=false:=Xbr (v:=59) (λe=>m (by subst e; decide))
  have q40:((c.toNat:Int)==40)=false:=Xbr (v:=40) (λe=>m (by subst e; decide))
  have q41:((c.toNat:Int)==41)=false:=Xbr (v:=41) (λe=>m (by subst e; decide))
  cases h1:Q7 c<;>simp only[go_sem,reduceIte,↓reduceIte,reduceCtorEq,nA,nS,nM,nB,nE,nL,nT,nN,iL,iT,iE,iA,iM,iS,iG,iB,iN,iZ,h,hw,h1,q47,q63,q61,q38,q58,q64,q44,q59,q40,q41]) (rfl)
def s78:SP Tryz.prog:=mkS tyA 78 Tryz.f78 [XoE] {md:=[.ro 1],rg:=[(0,[0],[]),(1,[0,16],[]),(2,[2],[]),(3,[0,3],[]),(4,[0,3,20],[]),(5,[0,3],[]),(6,[0,3,27],[]),(7,[2],[]),(8,[2],[])],lv:=[(0,[0,3],[])],out:=[(0,[],[])],rets:=some ([2],[])} Tryz.func78 (by kernel_rfl)
@[go_sem] def d78:s78.g=78/\s78.fs=⟨[.ro 1],s78.F,false⟩:=⟨nr rfl,nr rfl⟩
@[go_sem] def e78(t:ByteArray):s78.F [.s t]=some (.b (Qs t),[.u]):=Xm (t.data.toList.length+1) rfl rfl (λcx h=>by
 have hu:Qs t=(Xch U1 1 100 t&&(((t.data[0]?.getD 0).toNat:Int)==47)):=rfl
 by_cases h1:(t.size:Int)<1
 ·simp only[go_sem,reduceIte,↓reduceIte,reduceCtorEq,nA,nS,nM,nB,nE,nL,nT,nN,iL,iT,iE,iA,iM,iS,iG,iB,iN,iZ,h,h1,hu,Zu h1]
 by_cases h2:100<(t.size:Int)
 ·simp only[go_sem,reduceIte,↓reduceIte,reduceCtorEq,nA,nS,nM,nB,nE,nL,nT,nN,iL,iT,iE,iA,iM,iS,iG,iB,iN,iZ,h,h1,h2,hu,ZV h2]
 have hi:Zg t.size 0=some 0:=Yb t.size 0 (by omega)
 have hi':Zg t.data.toList.length 0=some 0:=by rw[<-Xi]; exact hi
 cases h3:(((t.data[0]?.getD 0).toNat:Int)==47)
 ·simp only[go_sem,reduceIte,↓reduceIte,reduceCtorEq,nA,nS,nM,nB,nE,nL,nT,nN,iL,iT,iE,iA,iM,iS,iG,iB,iN,iZ,h,h1,h2,h3,hi,hu,bne]
 have hx:t.data.toList.length<=9223372036854775806:=by rw[<-Xi]; omega
 have ha:=Qc (p:=U1) h1 h2
 rw[Xi t] at h1 h2
 ·have hb0:=XR Tryz.f78 0 _ _ rfl rfl
  obtain⟨r,hr,hq⟩:=YL (cx:=cx) (blk:=0) (body:=Zt Tryz.f78 0) t.data.toList (λk (s:Unit)=>⟨E [(0,.s t),(3,.i .i64 k)],B []⟩) (λs=>⟨E [],B []⟩) (λx s=>!U1 x) (λx s=>()) (λx s=>(.ret,⟨E [(2,.b false)],B []⟩)) (λk s=>True)
    (λs hI G=>by simp only[go_sem,reduceIte,↓reduceIte,reduceCtorEq,nA,nS,nM,nB,nE,nL,nT,nN,iL,iT,iE,iA,iM,iS,iG,iB,iN,iZ,h,Int.lt_irrefl,hb0,Xi t]) (λk hk s hI=>by
     have h1:((k:Int)<(t.data.toList.length:Int)):=Int.ofNat_lt.2 hk
     have hz:=Xal t k hk
     exact⟨_,_,_,λG=>by simp only[go_sem,reduceIte,↓reduceIte,reduceCtorEq,nA,nS,nM,nB,nE,nL,nT,nN,iL,iT,iE,iA,iM,iS,iG,iB,iN,iZ,h,hz,Xi t,h1,Yb _ _ hk,XD (show k<9223372036854775807 by omega),hb0]<;>with_reducible rfl,Iff.rfl,λhc=>⟨trivial,by simp only[go_sem,reduceIte,↓reduceIte,reduceCtorEq,nA,nS,nM,nB,nE,nL,nT,nN,iL,iT,iE,iA,iM,iS,iG,iB,iN,iZ,h,Xi t]⟩⟩) () trivial (t.data.toList.length+1) (Nat.le_refl _)
  rw[hb0] at hr
  rcases hq with⟨s',e1,_,e3⟩ | ⟨x,s',e1,e3⟩
  ·simp only[go_sem,reduceIte,↓reduceIte,reduceCtorEq,nA,nS,nM,nB,nE,nL,nT,nN,iL,iT,iE,iA,iM,iS,iG,iB,iN,iZ,h,h1,h2,h3,hi',bne,Xi t,hr,e3,hu,ha,ZT e1]
  ·simp only[go_sem,reduceIte,↓reduceIte,reduceCtorEq,nA,nS,nM,nB,nE,nL,nT,nN,iL,iT,iE,iA,iM,iS,iG,iB,iN,iZ,h,h1,h2,h3,hi',bne,Xi t,hr,e3,hu,ha,Zi e1]) (rfl)
def XoF:SP Tryz.prog:=mkS tyA 165 Tryz.f165 [] {md:=[.ro 1],rg:=[(0,[0],[]),(1,[3],[]),(2,[3,4],[]),(3,[3,4,10],[]),(4,[3,4],[]),(5,[3,4,24],[]),(6,[3,4],[]),(7,[2],[])],lv:=[(0,[3,4],[])],out:=[(0,[3],[])],rets:=some ([2],[])} Tryz.func165 (by kernel_rfl)
@[go_sem] def XFm:XoF.g=165/\XoF.fs=⟨[.ro 1],XoF.F,false⟩:=⟨nr rfl,nr rfl⟩
@[go_sem] def XFn(t:ByteArray)(h0:t.size<=9223372036854775806):XoF.F [.s t]=some (.s (Yc t),[.u]):=Xm (t.data.toList.length+1) rfl rfl (λcx h=>by
 have hz:t.data.toList.length<=9223372036854775807:=by rw[<-Xi]; omega
 have hx:t.data.toList.length<=9223372036854775806:=by rw[<-Xi]; exact h0
 have hb0:=XR Tryz.f165 0 _ _ rfl rfl
 obtain⟨hI,hr⟩:=YK (cx:=cx) (blk:=0) (body:=Zt Tryz.f165 0) t.data.toList (λk (s:Unit)=>⟨E [(3,.sl .mut 1 ((ZO t.data.toList k).map Xn)),(4,.i .i64 k)],B []⟩) (λs=>⟨E [(3,.sl .mut 1 ((t.data.toList.map Xfa).map Xn))],B []⟩) (λx s=>s) (λk s=>True)
   (λs hI G=>by simp only[go_sem,reduceIte,↓reduceIte,reduceCtorEq,nA,nS,nM,nB,nE,nL,nT,nN,iL,iT,iE,iA,iM,iS,iG,iB,iN,iZ,h,Int.lt_irrefl,hb0,Xap t.data.toList t.data.toList.length (Nat.le_refl _),Xd1 t.data.toList,List.length_map]) (λk hk s hI=>by
    have h1:((k:Int)<(t.data.toList.length:Int)):=Int.ofNat_lt.2 hk
    have g1:=Xf6 t.data.toList k hk
    have g2:=XhG t.data.toList k hk
    have g3:=Xap t.data.toList k (Nat.le_of_lt hk)
    have g4:(List.take t.data.toList.length ((ZO t.data.toList k).map Xn))=(ZO t.data.toList k).map Xn:=List.take_of_length_le (by rw[List.length_map,g3]; exact Nat.le_refl _)
    rcases XhI t.data.toList k hk with⟨a1,a2,w1,w2,hs,hv⟩ | ⟨a1,a2,w1,w2,hs,hv⟩ | ⟨a1,a2,w1,w2,hs,hv⟩
    all_goals exact⟨trivial,_,λG=>by simp only[go_sem,reduceIte,↓reduceIte,reduceCtorEq,nA,nS,nM,nB,nE,nL,nT,nN,iL,iT,iE,iA,iM,iS,iG,iB,iN,iZ,h,g1,g2,g3,g4,a1,a2,w1,w2,hs,List.length_map,h1,Yb _ _ hk,XD (show k<9223372036854775807 by omega),hb0]<;>with_reducible rfl,by simp only[go_sem,reduceIte,↓reduceIte,reduceCtorEq,nA,nS,nM,nB,nE,nL,nT,nN,iL,iT,iE,iA,iM,iS,iG,iB,iN,iZ,h,hv]⟩) () trivial (t.data.toList.length+1) (Nat.le_refl _)
 rw[hb0] at hr
 rw[Xcz] at hr
 simp only[go_sem,reduceIte,↓reduceIte,reduceCtorEq,nA,nS,nM,nB,nE,nL,nT,nN,iL,iT,iE,iA,iM,iS,iG,iB,iN,iZ,h,hz,hr,Xi t,Yc]) (rfl)
end
end Go.Vm.A
