/- Functions of the program, walked by the evaluator. -/
import Derived.Test.YtebnbhjcfanddaaDoorWb
import Derived.Test.YtebnbhjcfanddaaDoorWa
import Derived.Test.YtebnbhjcfanddaaDoorFa
import Derived.Test.YtebnbhjcfanddaaDoorFb
set_option linter.unusedVariables false
set_option linter.unusedSimpArgs false
set_option autoImplicit false
set_option maxRecDepth 100000
set_option maxHeartbeats 4000000
set_option linter.defProp false
namespace Go.Vm.A
open Go.Proofs
open Nat renaming reduceAdd -> nA, reduceSub -> nS, reduceMul -> nM, reduceBEq -> nB, reduceEqDiff -> nE, reduceLeDiff -> nL, reduceLT -> nT, reduceBneDiff -> nN
open Int renaming reduceLE -> iL, reduceLT -> iT, reduceEq -> iE, reduceAdd -> iA, reduceMul -> iM, reduceSub -> iS, reduceNeg -> iG, reduceBEq -> iB, reduceBNe -> iN, reduceToNat -> iZ
noncomputable section
def XlB:SP Tryd.prog:=mkS tyA 120 Tryd.f120 [Xl4,XlA,Xl7] {md:=[.ro 1],rets:=some ([2],[])} Tryd.func120 (by kernel_rfl)
@[go_sem] def XBp:XlB.g=120/\XlB.fs=⟨[.ro 1],XlB.F,false⟩:=⟨nr rfl,nr rfl⟩
@[go_sem] def XBq(c:UInt8):XlB.F [.i .u8 c.toNat]=some (.b (UB c),[.u]):=Xs (0) rfl rfl (λcx h=>by
 have hix:=XjY c
 have hu:UB c=(Qr c||QI c||Xfc.contains c):=rfl
 cases h1:Qr c<;>cases h2:QI c<;>cases h3:Xfc.contains c<;>simp only[go_sem,reduceIte,↓reduceIte,nA,nB,nE,h,h1,h2,h3,hu,hix]) (rfl)
def XlC:SP Tryd.prog:=mkS tyA 121 Tryd.f121 [] {md:=[.ro 1],rets:=some ([2],[])} Tryd.func121 (by kernel_rfl)
@[go_sem] def XBr:XlC.g=121/\XlC.fs=⟨[.ro 1],XlC.F,false⟩:=⟨nr rfl,nr rfl⟩
@[go_sem] def XBs(c:UInt8):XlC.F [.i .u8 c.toNat]=some (.b (Uj c),[.u]):=Xs (0) rfl rfl (λcx h=>by
 cases h1:((c.toNat:Int)==9)<;>by_cases h2:32<=(c.toNat:Int)<;>by_cases h3:(c.toNat:Int)<=126<;>simp only[go_sem,reduceIte,↓reduceIte,nB,h,h1,h2,h3,Uj]) (rfl)
def Xjy:SP Tryd.prog:=mkS tyA 119 Tryd.f119 [XlB,XlC,XlA] {md:=[.ro 1,.ro 1,.ro 1,.ro 1],rg:=[(0,[0,1,2,3],[]),(1,[0,3,19],[]),(2,[8],[]),(3,[0,3,21,22],[]),(4,[0,3,21,22,23],[]),(5,[0,3,9,21,22],[]),(6,[0,3,21,22,30],[]),(7,[8],[]),(8,[0,3,21,22],[]),(9,[8],[])],lv:=[(0,[0,3,21,22],[])],out:=[(0,[],[])],rets:=some ([8],[])} Tryd.func119 (by kernel_rfl)
@[go_sem] def XBt:Xjy.g=119/\Xjy.fs=⟨[.ro 1,.ro 1,.ro 1,.ro 1],Xjy.F,false⟩:=⟨nr rfl,nr rfl⟩
@[go_sem] def Xm4(t:ByteArray)(lo hi:Int)(hb:hi<=1000000):Xjy.F [.s t,.i .i64 lo,.i .i64 hi,.fn 120 []]=some (.b (Xf3 UB lo hi t),[.u,.u,.u,.u]):=Xs (t.data.toList.length+1) rfl rfl (λcx h=>by
 by_cases h1:(t.size:Int)<lo
 ·simp only[go_sem,reduceIte,↓reduceIte,nA,nB,nE,h,h1,Q5 h1]
 by_cases h2:hi<(t.size:Int)
 ·simp only[go_sem,reduceIte,↓reduceIte,nA,nB,nE,h,h1,h2,UC h2]
 have hx:t.data.toList.length<=9223372036854775806:=by rw[<-Xv]; omega
 have ha:=UD (p:=UB) h1 h2
 rw[Xv t] at h1 h2
 ·have hb0:=XS Tryd.f119 0 _ _ rfl rfl
  obtain⟨r,hr,hq⟩:=Zy (cx:=cx) (blk:=0) (body:=Zw Tryd.f119 0) t.data.toList (λk (s:Unit)=>⟨E [(0,.s t),(3,.fn 120 []),(21,.i .i64 t.size),(22,.i .i64 k)],B []⟩) (λs=>⟨E [],B []⟩) (λx s=>!UB x) (λx s=>()) (λx s=>(.ret,⟨E [(8,.b false)],B []⟩)) (λk s=>True)
    (λs hI G=>by simp only[go_sem,reduceIte,↓reduceIte,nB,nE,h,Int.lt_irrefl,hb0,Xv t]) (λk hk s hI=>by
     have h1:((k:Int)<(t.data.toList.length:Int)):=Int.ofNat_lt.2 hk
     have hz:=XcL t k hk
     exact⟨_,_,_,λG=>by simp only[go_sem,reduceIte,↓reduceIte,nB,nE,h,hz,Xv t,h1,Yi _ _ hk,XN (show k<9223372036854775807 by omega),hb0]<;>with_reducible rfl,Iff.rfl,λhc=>⟨trivial,by simp only[go_sem,reduceIte,↓reduceIte,nB,h,Xv t]⟩⟩) () trivial (t.data.toList.length+1) (Nat.le_refl _)
  rw[hb0] at hr
  rcases hq with⟨s',e1,_,e3⟩ | ⟨x,s',e1,e3⟩
  ·simp only[go_sem,reduceIte,↓reduceIte,nA,nB,nE,h,h1,h2,Xv t,hr,e3,ha,Q6 e1]
  ·simp only[go_sem,reduceIte,↓reduceIte,nA,nB,nE,h,h1,h2,Xv t,hr,e3,ha,Qg e1]) (rfl)
@[go_sem] def Xm5(t:ByteArray)(lo hi:Int)(hb:hi<=1000000):Xjy.F [.s t,.i .i64 lo,.i .i64 hi,.fn 121 []]=some (.b (Xf3 Uj lo hi t),[.u,.u,.u,.u]):=Xs (t.data.toList.length+1) rfl rfl (λcx h=>by
 by_cases h1:(t.size:Int)<lo
 ·simp only[go_sem,reduceIte,↓reduceIte,nA,nB,nE,h,h1,Q5 h1]
 by_cases h2:hi<(t.size:Int)
 ·simp only[go_sem,reduceIte,↓reduceIte,nA,nB,nE,h,h1,h2,UC h2]
 have hx:t.data.toList.length<=9223372036854775806:=by rw[<-Xv]; omega
 have ha:=UD (p:=Uj) h1 h2
 rw[Xv t] at h1 h2
 ·have hb0:=XS Tryd.f119 0 _ _ rfl rfl
  obtain⟨r,hr,hq⟩:=Zy (cx:=cx) (blk:=0) (body:=Zw Tryd.f119 0) t.data.toList (λk (s:Unit)=>⟨E [(0,.s t),(3,.fn 121 []),(21,.i .i64 t.size),(22,.i .i64 k)],B []⟩) (λs=>⟨E [],B []⟩) (λx s=>!Uj x) (λx s=>()) (λx s=>(.ret,⟨E [(8,.b false)],B []⟩)) (λk s=>True)
    (λs hI G=>by simp only[go_sem,reduceIte,↓reduceIte,nB,nE,h,Int.lt_irrefl,hb0,Xv t]) (λk hk s hI=>by
     have h1:((k:Int)<(t.data.toList.length:Int)):=Int.ofNat_lt.2 hk
     have hz:=XcL t k hk
     exact⟨_,_,_,λG=>by simp only[go_sem,reduceIte,↓reduceIte,nB,nE,h,hz,Xv t,h1,Yi _ _ hk,XN (show k<9223372036854775807 by omega),hb0]<;>with_reducible rfl,Iff.rfl,λhc=>⟨trivial,by simp only[go_sem,reduceIte,↓reduceIte,nB,h,Xv t]⟩⟩) () trivial (t.data.toList.length+1) (Nat.le_refl _)
  rw[hb0] at hr
  rcases hq with⟨s',e1,_,e3⟩ | ⟨x,s',e1,e3⟩
  ·simp only[go_sem,reduceIte,↓reduceIte,nA,nB,nE,h,h1,h2,Xv t,hr,e3,ha,Q6 e1]
  ·simp only[go_sem,reduceIte,↓reduceIte,nA,nB,nE,h,h1,h2,Xv t,hr,e3,ha,Qg e1]) (rfl)
@[go_sem] def Xm6(t:ByteArray)(lo hi:Int)(hb:hi<=1000000):Xjy.F [.s t,.i .i64 lo,.i .i64 hi,.fn 140 []]=some (.b (Xf3 QI lo hi t),[.u,.u,.u,.u]):=Xs (t.data.toList.length+1) rfl rfl (λcx h=>by
 by_cases h1:(t.size:Int)<lo
 ·simp only[go_sem,reduceIte,↓reduceIte,nA,nB,nE,h,h1,Q5 h1]
 by_cases h2:hi<(t.size:Int)
 ·simp only[go_sem,reduceIte,↓reduceIte,nA,nB,nE,h,h1,h2,UC h2]
 have hx:t.data.toList.length<=9223372036854775806:=by rw[<-Xv]; omega
 have ha:=UD (p:=QI) h1 h2
 rw[Xv t] at h1 h2
 ·have hb0:=XS Tryd.f119 0 _ _ rfl rfl
  obtain⟨r,hr,hq⟩:=Zy (cx:=cx) (blk:=0) (body:=Zw Tryd.f119 0) t.data.toList (λk (s:Unit)=>⟨E [(0,.s t),(3,.fn 140 []),(21,.i .i64 t.size),(22,.i .i64 k)],B []⟩) (λs=>⟨E [],B []⟩) (λx s=>!QI x) (λx s=>()) (λx s=>(.ret,⟨E [(8,.b false)],B []⟩)) (λk s=>True)
    (λs hI G=>by simp only[go_sem,reduceIte,↓reduceIte,nB,nE,h,Int.lt_irrefl,hb0,Xv t]) (λk hk s hI=>by
     have h1:((k:Int)<(t.data.toList.length:Int)):=Int.ofNat_lt.2 hk
     have hz:=XcL t k hk
     exact⟨_,_,_,λG=>by simp only[go_sem,reduceIte,↓reduceIte,nB,nE,h,hz,Xv t,h1,Yi _ _ hk,XN (show k<9223372036854775807 by omega),hb0]<;>with_reducible rfl,Iff.rfl,λhc=>⟨trivial,by simp only[go_sem,reduceIte,↓reduceIte,nB,h,Xv t]⟩⟩) () trivial (t.data.toList.length+1) (Nat.le_refl _)
  rw[hb0] at hr
  rcases hq with⟨s',e1,_,e3⟩ | ⟨x,s',e1,e3⟩
  ·simp only[go_sem,reduceIte,↓reduceIte,nA,nB,nE,h,h1,h2,Xv t,hr,e3,ha,Q6 e1]
  ·simp only[go_sem,reduceIte,↓reduceIte,nA,nB,nE,h,h1,h2,Xv t,hr,e3,ha,Qg e1]) (rfl)
def Xl8:SP Tryd.prog:=mkS tyA 103 Tryd.f103 [Xjy,XlB] {md:=[.ro 1],rets:=some ([2],[])} Tryd.func103 (by kernel_rfl)
@[go_sem] def XBu:Xl8.g=103/\Xl8.fs=⟨[.ro 1],Xl8.F,false⟩:=⟨nr rfl,nr rfl⟩
@[go_sem] def XBv(t:ByteArray):Xl8.F [.s t]=some (.b (XaP t),[.u]):=Xs (0) rfl rfl (λcx h=>by
 simp only[go_sem,reduceIte,↓reduceIte,nA,nB,iL,h,XaP]) (rfl)
def Xl9:SP Tryd.prog:=mkS tyA 104 Tryd.f104 [Xjy,XlC] {md:=[.ro 1],rets:=some ([2],[])} Tryd.func104 (by kernel_rfl)
@[go_sem] def XBw:Xl9.g=104/\Xl9.fs=⟨[.ro 1],Xl9.F,false⟩:=⟨nr rfl,nr rfl⟩
@[go_sem] def XBx(t:ByteArray)(h0:(t.size:Int)<=1000000):Xl9.F [.s t]=some (.b (Xjw t),[.u]):=Xs (0) rfl rfl (λcx h=>by
 simp only[go_sem,reduceIte,↓reduceIte,nA,nB,h,h0,XjZ]) (rfl)
def Xma:SP Tryd.prog:=⟨105,⟨[.ro 1,.ro 1],Xjq,false⟩,Xlu Tryd.func105 (by kernel_rfl) rfl Go.Proofs.Tryd.trimSpTab⟩
@[go_sem] def XBy:Xma.g=105/\Xma.fs=⟨[.ro 1,.ro 1],Xma.F,false⟩:=⟨nr rfl,nr rfl⟩
@[go_sem] def XBz(x:ByteArray)(h0:x.size<=9223372036854775807):Xma.F [.s x,.s ⟨#[32,9]⟩]=some (.s (XdO x),[.u,.u]):=by
 show Xjq [.s x,.s ⟨#[32,9]⟩]=_
 have hc:(⟨#[32,9]⟩:ByteArray).data.toList=[32,9]/\x.size<=9223372036854775807:=⟨rfl,h0⟩
 exact if_pos hc
def s88:SP Tryd.prog:=mkS tyA 88 Tryd.f88 [Xl8,Xl9,Xma] {md:=[.ro 1],rg:=[(0,[1],[1]),(1,[1,3],[1]),(2,[2],[]),(3,[1,8],[1]),(4,[2],[]),(5,[13],[]),(6,[2],[]),(7,[2],[])],rets:=some ([2],[]),plan:=[(5,(.take 0 (.take 1 (.one 2 (.take 3 (.take 4 (.take 5 (.take 6 (.take 8 (.take 9 (.one 7 (.take 10 (.take 11 (.one 12 .done))))))))))))))]} Tryd.func88 (by kernel_rfl)
@[go_sem] def d88:s88.g=88/\s88.fs=⟨[.ro 1],s88.F,false⟩:=⟨nr rfl,nr rfl⟩
@[go_sem] def e88(z0 z1:ByteArray):s88.F [.agg [.s z0,.s z1]]=some (.i .i64 (X2 (Xh.mk z0 z1)),[.u]):=Xs (0) rfl rfl (λcx h=>by
 cases h1:XaP z0
 ·simp only[go_sem,reduceIte,↓reduceIte,nA,nB,nE,nL,h,h1,X2]
 by_cases h2:200<(z1.size:Int)
 ·simp only[go_sem,reduceIte,↓reduceIte,nA,nB,nE,nL,h,h1,h2,X2]
 have h3:(z1.size:Int)<=1000000:=by omega
 have h4:z1.size<=9223372036854775806:=by omega
 have h5:z1.size<=9223372036854775807:=by omega
 cases h6:Xjw z1
 ·simp only[go_sem,reduceIte,↓reduceIte,nA,nB,nE,nL,h,h1,h2,h3,h6,X2]
 cases h7:eqv (XdO z1) z1<;>simp only[go_sem,reduceIte,↓reduceIte,nA,nB,nE,nL,h,h1,h2,h3,h5,h6,h7,Q1,X2]) (rfl)
def s72:SP Tryd.prog:=mkS tyA 72 Tryd.f72 [s88] {md:=[.ro 1],rg:=[(0,[0],[]),(1,[0,8],[]),(2,[2],[]),(3,[0,9,10,11],[]),(4,[0,9,10,11,12],[]),(5,[0,4,9,10,11],[4]),(6,[0,5,9,10,11],[]),(7,[0,5,9,10,11,18],[]),(8,[2],[]),(9,[0,9,10,11],[]),(10,[2],[])],lv:=[(0,[0,9,10,11],[])],out:=[(0,[],[])],rets:=some ([2],[])} Tryd.func72 (by kernel_rfl)
@[go_sem] def d72:s72.g=72/\s72.fs=⟨[.ro 1],s72.F,false⟩:=⟨nr rfl,nr rfl⟩
@[go_sem] def e72(hs:List Xh):s72.F [.sl .ro 2 (hs.map (Xb .ro))]=some (.i .i64 (XC hs),[.u]):=Xs (hs.length+1) rfl rfl (λcx h=>by
 by_cases h1:20<(hs.length:Int)
 ·simp only[go_sem,reduceIte,↓reduceIte,nB,nE,h,h1,XC]
 have hx:hs.length<=9223372036854775806:=by omega
 have hb0:=XS Tryd.f72 0 _ _ rfl rfl
 obtain⟨r,hr,hq⟩:=Zy (cx:=cx) (blk:=0) (body:=Zw Tryd.f72 0) hs (λk (s:Unit)=>⟨E [(0,.sl .ro 2 (hs.map (Xb .ro))),(9,.sl .ro 2 (hs.map (Xb .ro))),(10,.i .i64 hs.length),(11,.i .i64 k)],B []⟩) (λs=>⟨E [],B []⟩) (λx s=>X2 x !=0) (λx s=>()) (λx s=>(.ret,⟨E [(2,.i .i64 (X2 x))],B []⟩)) (λk s=>True)
   (λs hI G=>by simp only[go_sem,reduceIte,↓reduceIte,nB,nE,h,Int.lt_irrefl,hb0]) (λk hk s hI=>by
    have h1:((k:Int)<(hs.length:Int)):=Int.ofNat_lt.2 hk
    exact⟨_,_,_,λG=>by simp only[go_sem,reduceIte,↓reduceIte,nA,nB,nE,h,Zg (Xb .ro) hs _ hk,Xb,h1,Yi _ _ hk,XN (show k<9223372036854775807 by omega),hb0]<;>with_reducible rfl,Iff.rfl,λhc=>⟨trivial,by simp only[go_sem,reduceIte,↓reduceIte,nB,h]⟩⟩) () trivial (hs.length+1) (Nat.le_refl _)
 rw[hb0] at hr
 rcases hq with⟨s',e1,_,e3⟩ | ⟨x,s',e1,e3⟩
 ·simp only[go_sem,reduceIte,↓reduceIte,nB,nE,h,h1,hr,e3,XC,U2 e1]
 ·simp only[go_sem,reduceIte,↓reduceIte,nB,nE,h,h1,hr,e3,XC,U3 e1]) (rfl)
def s45:SP Tryd.prog:=mkS tyA 45 Tryd.f45 [s71,s72] {md:=[.ro 1],rg:=[(0,[1],[1]),(1,[1,7],[1]),(2,[2],[]),(3,[1,3],[1]),(4,[1,3,12],[1]),(5,[2],[]),(6,[17],[]),(7,[2],[]),(8,[2],[])],rets:=some ([2],[])} Tryd.func45 (by kernel_rfl)
@[go_sem] def d45:s45.g=45/\s45.fs=⟨[.ro 1],s45.F,false⟩:=⟨nr rfl,nr rfl⟩
@[go_sem] def e45(z2:Int)(rHeaders:List Xh)(rBody:List UInt8):s45.F [.agg [.i .i64 z2,.sl .ro 2 (rHeaders.map (Xb .ro)),.sl .ro 1 (rBody.map Xw)]]=some (.i .i64 (Xt (Response.mk z2 rHeaders rBody)),[.u]):=Xs (0) rfl rfl (λcx h=>by
 cases h1:within z2 200 599
 ·simp only[go_sem,reduceIte,↓reduceIte,nA,nB,nE,nL,h,h1,Xt]
 by_cases z:XC rHeaders=0
 rotate_left
 ·have z':(XC rHeaders !=0)=true:=by simpa using z
  simp only[go_sem,reduceIte,↓reduceIte,nA,nB,nE,nL,h,h1,z',Xt]
 by_cases h2:2000<(rBody.length:Int)<;>simp only[go_sem,reduceIte,↓reduceIte,nA,nB,nE,nL,h,h1,z,h2,Xt]) (rfl)
def s89:SP Tryd.prog:=mkS tyA 89 Tryd.f89 [] {md:=[.ro 1],rg:=[(0,[0],[]),(1,[3],[]),(2,[3,8,9,10],[]),(3,[3,8,9,10,11],[]),(4,[3,4,5,8,9,10],[]),(5,[3,4,5,8,9,10,20],[]),(6,[3,8,9,10],[]),(7,[3,8,9,10],[]),(8,[2],[])],lv:=[(0,[3,8,9,10],[])],out:=[(0,[3],[])],rets:=some ([2],[])} Tryd.func89 (by kernel_rfl)
@[go_sem] def d89:s89.g=89/\s89.fs=⟨[.ro 1],s89.F,false⟩:=⟨nr rfl,nr rfl⟩
@[go_sem] def e89(t:ByteArray)(h0:t.size<=9223372036854775806):s89.F [.s t]=some (.s (Z7 t),[.u]):=Xs (t.data.toList.length+1) rfl rfl (λcx h=>by
 have hz:t.data.toList.length<=9223372036854775807:=by rw[<-Xv]; omega
 have hx:t.data.toList.length<=9223372036854775806:=by rw[<-Xv]; exact h0
 have hb0:=XS Tryd.f89 0 _ _ rfl rfl
 obtain⟨hI,hr⟩:=YY (cx:=cx) (blk:=0) (body:=Zw Tryd.f89 0) t.data.toList (λk (s:Unit)=>⟨E [(3,.sl .mut 1 ((Zi t.data.toList k).map Xw)),(8,.rf ⟨true,3,[],0⟩ 1 0 t.data.toList.length),(9,.i .i64 t.data.toList.length),(10,.i .i64 k)],B []⟩) (λs=>⟨E [(3,.sl .mut 1 ((t.data.toList.map XdP).map Xw))],B []⟩) (λx s=>s) (λk s=>True)
   (λs hI G=>by simp only[go_sem,reduceIte,↓reduceIte,nB,nE,h,Int.lt_irrefl,hb0,XcN t.data.toList]) (λk hk s hI=>by
    have h1:((k:Int)<(t.data.toList.length:Int)):=Int.ofNat_lt.2 hk
    have g1:=XeG t.data.toList k hk
    have g2:=Xf9 t.data.toList k hk
    have g3:=XcO t.data.toList k (Nat.le_of_lt hk)
    have g4:(List.take t.data.toList.length ((Zi t.data.toList k).map Xw))=(Zi t.data.toList k).map Xw:=List.take_of_length_le (by rw[List.length_map,g3]; exact Nat.le_refl _)
    rcases Xgb t.data.toList k hk with⟨a1,a2,w1,w2,hs,hv⟩ | ⟨a1,a2,w1,w2,hs,hv⟩ | ⟨a1,a2,w1,w2,hs,hv⟩
    all_goals exact⟨trivial,_,λG=>by simp only[go_sem,reduceIte,↓reduceIte,nB,nE,h,g1,g2,g3,a1,a2,w1,hs,List.length_map,h1,Yi _ _ hk,XN (show k<9223372036854775807 by omega),hb0]<;>with_reducible rfl,by simp only[go_sem,reduceIte,↓reduceIte,nB,h,hv]⟩) () trivial (t.data.toList.length+1) (Nat.le_refl _)
 rw[hb0] at hr
 rw[XbE] at hr
 simp only[go_sem,reduceIte,↓reduceIte,nB,nE,h,hz,hr,Xv t,Z7]) (rfl)
def s75:SP Tryd.prog:=mkS tyA 75 Tryd.f75 [s89] {md:=[.ro 1,.ro 1],rets:=some ([4],[])} Tryd.func75 (by kernel_rfl)
@[go_sem] def d75:s75.g=75/\s75.fs=⟨[.ro 1,.ro 1],s75.F,false⟩:=⟨nr rfl,nr rfl⟩
@[go_sem] def e75(a b:ByteArray)(h0:(a.size<=9223372036854775806/\b.size<=9223372036854775806)):s75.F [.s a,.s b]=some (.b (eqv (Z7 a) (Z7 b)),[.u,.u]):=Xs (0) rfl rfl (λcx h=>by
 simp only[go_sem,reduceIte,↓reduceIte,nB,h,h0.1,h0.2,Q1]) (rfl)
def s74:SP Tryd.prog:=mkS tyA 74 Tryd.f74 [s75] {md:=[.ro 1,.ro 1],rets:=some ([3],[])} Tryd.func74 (by kernel_rfl)
@[go_sem] def d74:s74.g=74/\s74.fs=⟨[.ro 1,.ro 1],s74.F,false⟩:=⟨nr rfl,nr rfl⟩
@[go_sem] def e74(z0 z1 name:ByteArray)(h0:((Xh.mk z0 z1).Name.size<=9223372036854775806/\name.size<=9223372036854775806)):s74.F [.agg [.s z0,.s z1],.pr [.s name]]=some (.b (eqv (Z7 (Xh.mk z0 z1).Name) (Z7 name)),[.u,.u]):=Xs (0) rfl rfl (λcx h=>by
 simp only[go_sem,reduceIte,↓reduceIte,nA,nB,nL,h,h0]) (rfl)
def s73:SP Tryd.prog:=mkS tyA 73 Tryd.f73 [s74] {md:=[.ro 1,.ro 1],rg:=[(0,[0,1],[]),(1,[0,1,7,8],[]),(2,[0,1,7,8,9],[]),(3,[0,1,5,7,8],[]),(4,[0,1,5,7,8,16],[]),(5,[4],[]),(6,[0,1,7,8],[]),(7,[4],[])],lv:=[(0,[0,1,7,8],[])],out:=[(0,[],[])],rets:=some ([4],[])} Tryd.func73 (by kernel_rfl)
@[go_sem] def d73:s73.g=73/\s73.fs=⟨[.ro 1,.ro 1],s73.F,false⟩:=⟨nr rfl,nr rfl⟩
@[go_sem] def XoJ(xs:List Xh)(name:ByteArray)(hb:xs.length<=9223372036854775806)(h0:Xjl (λx=>x.Name.size<=9223372036854775806/\name.size<=9223372036854775806) xs):s73.F [.sl .ro 2 (xs.map (Xb .ro)),.fn 74 [.pr [.s name]]]=some (.i .i64 (XcK (λx=>eqv (Z7 x.Name) (Z7 name)) xs 0),[.u,.u]):=Xs (xs.length+1) rfl rfl (λcx h=>by
 have hx:=hb
 have hb0:=XS Tryd.f73 0 _ _ rfl rfl
 obtain⟨r,hr,hq⟩:=Zy (cx:=cx) (blk:=0) (body:=Zw Tryd.f73 0) xs (λk (s:Nat)=>⟨E [(0,.sl .ro 2 (xs.map (Xb .ro))),(1,.fn 74 [.pr [.s name]]),(7,.i .i64 xs.length),(8,.i .i64 k)],B []⟩) (λs=>⟨E [],B []⟩) (λx s=>eqv (Z7 x.Name) (Z7 name)) (λx s=>s+1) (λx s=>(.ret,⟨E [(4,.i .i64 s)],B []⟩)) (λk s=>k=s)
   (λs hI G=>by simp only[go_sem,reduceIte,↓reduceIte,nB,nE,h,Int.lt_irrefl,hb0,hI]) (λk hk s hI=>by
    have h1:((k:Int)<(xs.length:Int)):=Int.ofNat_lt.2 hk
    obtain rfl:=hI
    have h2:=h0 _ (List.getElem_mem hk)
    simp only at h2
    exact⟨_,_,_,λG=>by simp only[go_sem,reduceIte,↓reduceIte,nA,nB,nE,h,Zg (Xb .ro) xs _ hk,h2,h1,Yi _ _ hk,XN (show k<9223372036854775807 by omega),hb0]<;>with_reducible rfl,by first | exact Iff.rfl | simp,λhc=>⟨rfl,by simp only[go_sem,reduceIte,↓reduceIte,nB,h]⟩⟩) 0 rfl (xs.length+1) (Nat.le_refl _)
 rw[hb0] at hr
 rcases hq with⟨s',e1,_,e3⟩ | ⟨x,s',e1,e3⟩
 ·simp only[go_sem,reduceIte,↓reduceIte,nB,nE,iG,h,hr,e3,Xe0 e1]
 ·simp only[go_sem,reduceIte,↓reduceIte,nB,h,hr,e3,Xdy e1]) (rfl)
def s76:SP Tryd.prog:=mkS tyA 76 Tryd.f76 [s75] {md:=[.ro 1,.ro 1],rg:=[(0,[0,1],[]),(1,[0,1,5],[]),(2,[0,1,5,9,10,11],[]),(3,[0,1,5,9,10,11,12],[]),(4,[0,1,5,7,9,10,11],[7]),(5,[0,1,5,7,9,10,11,19],[7]),(6,[0,1,5,9,10,11],[]),(7,[0,1,5,9,10,11],[]),(8,[4],[])],lv:=[(0,[0,1,5,9,10,11],[])],out:=[(0,[5],[])],rets:=some ([4],[])} Tryd.func76 (by kernel_rfl)
@[go_sem] def d76:s76.g=76/\s76.fs=⟨[.ro 1,.ro 1],s76.F,false⟩:=⟨nr rfl,nr rfl⟩
@[go_sem] def e76(hs:List Xh)(name:ByteArray)(h0:(hs.length<=20/\smL Ya hs/\okN name=true)):s76.F [.sl .ro 2 (hs.map (Xb .ro)),.s name]=some (.sl .mut 2 ((ZJ hs name).map (Xb .mut)),[.u,.u]):=Xs (hs.length+1) rfl rfl (λcx h=>by
 have hl:=h0.1
 have hx:hs.length<=9223372036854775806:=by omega
 have hb0:=XS Tryd.f76 0 _ _ rfl rfl
 obtain⟨hI,hr⟩:=YY (cx:=cx) (blk:=0) (body:=Zw Tryd.f76 0) hs (λk (s:List Xh)=>⟨E [(0,.sl .ro 2 (hs.map (Xb .ro))),(1,.s name),(5,.sl .mut 2 (s.map (Xb .mut))),(9,.sl .ro 2 (hs.map (Xb .ro))),(10,.i .i64 hs.length),(11,.i .i64 k)],B []⟩) (λs=>⟨E [(5,.sl .mut 2 (s.map (Xb .mut)))],B []⟩) (λx s=>(if eqv (Z7 x.Name) (Z7 name)=true then s else s++[x])) (λk s=>s.length<=k)
   (λs hI G=>by simp only[go_sem,reduceIte,↓reduceIte,nB,nE,h,Int.lt_irrefl,hb0]) (λk hk s hI=>by
    have h1:((k:Int)<(hs.length:Int)):=Int.ofNat_lt.2 hk
    have t3:(s.length+1)*32<=140737488355328:=by omega
    have t4:s.map (Xb .mut)++[[.s hs[k].Name,.s hs[k].Value]]=(s++[hs[k]]).map (Xb .mut):=by simp[Xb]
    obtain⟨u1,u2⟩:=h0.2.1.2 _ (List.getElem_mem hk)
    have n1:hs[k].Name.size<=9223372036854775806/\name.size<=9223372036854775806:=⟨by have:hs[k].Name.size<=1048576:=u1; omega,of_decide_eq_true h0.2.2⟩
    cases d1:eqv (Z7 hs[k].Name) (Z7 name)
    all_goals exact⟨by split<;>(try simp only[List.length_append,List.length_cons,List.length_nil])<;>omega,_,λG=>by simp only[go_sem,reduceIte,↓reduceIte,nA,nM,nB,nE,nL,nT,h,t3,t4,Zg (Xb .ro) hs k hk,n1,d1,Xb,h1,Yi _ _ hk,XN (show k<9223372036854775807 by omega),hb0]<;>with_reducible rfl,by simp only[go_sem,reduceIte,↓reduceIte,nB,h]⟩) [] (by simp) (hs.length+1) (Nat.le_refl _)
 rw[hb0] at hr
 have hff:=XcP (λx:Xh=>eqv (Z7 x.Name) (Z7 name)) hs []
 simp only[List.nil_append] at hff
 rw[hff] at hr
 simp only[go_sem,reduceIte,↓reduceIte,nA,nM,nB,nE,nT,h,hr,ZJ]) (by simp only[go_sem,Zl,XG])
def Xgf(tag:Tag):∀hs:List Xh,Q3 (hs.map (Xb tag))=some (hs.map λx=>(x.Name,x.Value))
 | []=>rfl
 | x :: hs=>by rw[List.map_cons,Q3,show Xe8 (Xb tag x)=some (x.Name,x.Value) from rfl,Xgf tag hs]; rfl
def Xj2:Z3 Tryd.prog 77 ⟨[.mv,.ro 1,.mv],XmS,false⟩:=by
 obtain⟨i0,zv,h1,h2,h3,h4,h5⟩:=Go.Proofs.Tryd.insInfo
 exact XmT Tryd.func77 (by kernel_rfl) rfl h5 Go.Proofs.Tryd.insOv Go.Proofs.Tryd.insShift Go.Proofs.Tryd.insRoom (Go.Proofs.Tryd.insEnd i0 zv h1 h2 h3 h4) (Go.Proofs.Tryd.insGrow i0 zv h1 h2 h3 h4 h5)
def s77:SP Tryd.prog:=⟨77,⟨[.mv,.ro 1,.mv],XmS,false⟩,Xj2⟩
@[go_sem] def d77:s77.g=77/\s77.fs=⟨[.mv,.ro 1,.mv],s77.F,false⟩:=⟨nr rfl,nr rfl⟩
@[go_sem] def e77(hs:List Xh)(a b:ByteArray)(k:Nat)(h0:k<=hs.length/\hs.length<=1048576):s77.F [.sl .mut 2 (hs.map (Xb .mut)),.i .i64 (k:Int),.sl .mut 2 [[.s a,.s b]]]=some (.sl .mut 2 ((hs.take k++[Xh.mk a b]++hs.drop k).map (Xb .mut)),[.u,.u,.u]):=by
 show Xnu (Q3 (hs.map (Xb .mut))) (k:Int) (some [(a,b)])=_
 rw[Xgf]
 unfold Xnu
 simp only[List.length_map]
 rw[if_pos ⟨by omega,by omega,by omega⟩,Int.toNat_natCast,<-List.map_take,<-List.map_drop,<-List.map_singleton (f:=λx:Xh=>(x.Name,x.Value)) (a:=Xh.mk a b),<-List.map_append,<-List.map_append,List.map_map]
 rfl
def s46:SP Tryd.prog:=mkS tyA 46 Tryd.f46 [s73,s76,s77] {md:=[.ro 1,.ro 1,.ro 1],rg:=[(0,[0,2,4],[4]),(1,[0,2,4,7],[4]),(2,[2,4,7,8],[4]),(3,[2,4,7,8,16],[4]),(4,[6],[]),(5,[6],[])],rets:=some ([6],[]),fz:=[4]} Tryd.func46 (by kernel_rfl)
@[go_sem] def d46:s46.g=46/\s46.fs=⟨[.ro 1,.ro 1,.ro 1],s46.F,false⟩:=⟨nr rfl,nr rfl⟩
@[go_sem] def e46(hs:List Xh)(name value:ByteArray)(h0:(hs.length<=20/\smL Ya hs/\okN name=true)):s46.F [.sl .ro 2 (hs.map (Xb .ro)),.s name,.s value]=some (.sl .mut 2 ((setV name value hs).map (Xb .mut)),[.u,.u,.u]):=Xs (0) rfl rfl (λcx h=>by
 have hl:hs.length<=9223372036854775806:=by have:=h0.1; omega
 have hE:Xjl (λx:Xh=>x.Name.size<=9223372036854775806/\name.size<=9223372036854775806) hs:=λx hx=>⟨by have:x.Name.size<=1048576:=(h0.2.1.2 x hx).1; omega,of_decide_eq_true h0.2.2⟩
 have hd:=XaQ hs name
 have hdl:(ZJ hs name).length<=20:=Nat.le_trans hd h0.1
 have t3:((ZJ hs name).length+1)*32<=140737488355328:=by omega
 by_cases c:XcK (λx:Xh=>eqv (Z7 x.Name) (Z7 name)) hs 0<0
 ·have hs1:=XeH (n:=name) (v:=value) hs 0 c
  have t4:(ZJ hs name).map (Xb .mut)++[[.s name,.s value]]=(setV name value hs).map (Xb .mut):=by rw[hs1,List.map_append]; rfl
  simp only[go_sem,reduceIte,↓reduceIte,nA,nM,nB,nE,nL,nT,h,hl,hE,h0,c,t3,t4,List.length_map]
 ·obtain⟨i,hi1,hi2⟩:=Xj1 (λx:Xh=>eqv (Z7 x.Name) (Z7 name)) hs c
  obtain⟨hs1,hs2⟩:=XeI (n:=name) (v:=value) hs 0 i (by rw[hi2,Nat.zero_add])
  have hn:¬((i:Int)<0):=by omega
  have hk:i<=(ZJ hs name).length/\(ZJ hs name).length<=1048576:=⟨hs2,by omega⟩
  simp only[go_sem,reduceIte,↓reduceIte,nA,nM,nB,nE,nL,nT,h,hl,hE,h0,hi2,hn,hk]
  rw[hs1]) (by simp only[go_sem,Zl,XG])
def s47:SP Tryd.prog:=mkS tyA 47 Tryd.f47 [] {md:=[.ro 1],rg:=[(0,[0],[]),(1,[0,4],[]),(2,[2],[]),(3,[2],[])],rets:=some ([2],[]),nz:=true} Tryd.func47 (by kernel_rfl)
@[go_sem] def d47:s47.g=47/\s47.fs=⟨[.ro 1],s47.F,false⟩:=⟨nr rfl,nr rfl⟩
@[go_sem] def e47(xs:List Xh)(h0:smL Ya xs):s47.F [.sl .ro 2 (xs.map (Xb .ro))]=some (.sl .mut 2 (xs.map (Xb .mut)),[.u]):=Xht (0) rfl rfl (λcx h=>by
 have h0:=h0.1
 have h1:(xs.map (Xb .ro)).all (·.all plain)=true:=by simp[Xb,plain]
 have h2:xs.length*32<=140737488355328:=by omega
 have h3:xs.map (Xb .ro)=xs.map (Xb .mut):=rfl
 rcases Nat.eq_zero_or_pos xs.length with hp | hp
 ·obtain rfl:=List.length_eq_zero_iff.1 hp
  simp only[go_sem,reduceIte,↓reduceIte,nA,nM,nB,nE,h]
 ·simp only[go_sem,reduceIte,↓reduceIte,nA,nM,nB,nE,h,h1,h2,hp]
  rw[h3]) (by simp only[go_sem,Zl,XG])
def s78:SP Tryd.prog:=mkS tyA 78 Tryd.f78 [] {md:=[.ro 1],rg:=[(0,[0],[]),(1,[0,4],[]),(2,[2],[]),(3,[2],[])],rets:=some ([2],[]),nz:=true} Tryd.func78 (by kernel_rfl)
@[go_sem] def d78:s78.g=78/\s78.fs=⟨[.ro 1],s78.F,false⟩:=⟨nr rfl,nr rfl⟩
@[go_sem] def e78(xs:List UInt8)(h0:smL Q4 xs):s78.F [.sl .ro 1 (xs.map Xw)]=some (.sl .mut 1 (xs.map Xw),[.u]):=Xht (0) rfl rfl (λcx h=>by
 have h0:=h0.1
 have h1:(xs.map Xw).all (·.all plain)=true:=by simp[Xw,plain]
 have h2:xs.length*1<=140737488355328:=by omega
 rcases Nat.eq_zero_or_pos xs.length with hp | hp
 ·obtain rfl:=List.length_eq_zero_iff.1 hp
  simp only[go_sem,reduceIte,↓reduceIte,nA,nM,nB,nE,h]
 ·simp only[go_sem,reduceIte,↓reduceIte,nA,nM,nB,nE,h,h1,h2,hp]) (by simp only[go_sem,Zl,XG])
@[go_sem] def Xo0:s78.F [.sl .ro 1 []]=some (.sl .mut 1 [],[.u]):=e78 [] ⟨Nat.zero_le _,λx hx=>by cases hx⟩
def s48:SP Tryd.prog:=mkS tyA 48 Tryd.f48 [s78] {md:=[.mv,.ro 1],rg:=[(0,[0,1,2,4],[2,4]),(1,[0,2,4,5],[2,4]),(2,[0,2,4],[2,4]),(3,[0,2,4],[2,4]),(4,[0,4],[2,4])],rets:=some ([0,4],[2,4])} Tryd.func48 (by kernel_rfl)
@[go_sem] def d48:s48.g=48/\s48.fs=⟨[.mv,.ro 1],s48.F,false⟩:=⟨nr rfl,nr rfl⟩
@[go_sem] def e48(st:Int)(hs:List Xh)(body:List UInt8)(head:Bool)(h0:smL Q4 body):s48.F [.agg [.i .i64 st,.sl .mut 2 (hs.map (Xb .mut)),.sl .ro 1 (body.map Xw)],.b head]=some (.agg [.i .i64 st,.sl .mut 2 (hs.map (Xb .mut)),.sl .mut 1 ((if head=true then[] else body).map Xw)],[.u,.u]):=Xs (0) rfl rfl (λcx h=>by
 cases head<;>simp only[go_sem,reduceIte,↓reduceIte,nA,nB,nE,nL,nT,h,h0]) (by simp only[go_sem,Zl,XG])
def s20:SP Tryd.prog:=mkS tyA 20 Tryd.f20 [s45,s46,s47,s48] {md:=[.ro 1,.ro 1],rg:=[(0,[1,2,4,29],[2,4]),(1,[1,2,4,5,29],[2,4]),(2,[1,2,4,5,10,29],[2,4]),(3,[4,29],[4]),(4,[1,2,4,6,29],[2,4]),(5,[1,2,4,6,18,29],[2,4]),(6,[1,2,4,6,29],[2,4]),(7,[4,29],[4])],rets:=some ([4,29],[4]),fz:=[2]} Tryd.func20 (by kernel_rfl)
@[go_sem] def d20:s20.g=20/\s20.fs=⟨[.ro 1,.ro 1],s20.F,false⟩:=⟨nr rfl,nr rfl⟩
@[go_sem] def e20(z2:Int)(rHeaders:List Xh)(rBody:List UInt8)(head:Bool)(h0:YE (Response.mk z2 rHeaders rBody)):s20.F [.agg [.i .i64 z2,.sl .ro 2 (rHeaders.map (Xb .ro)),.sl .ro 1 (rBody.map Xw)],.b head]=some (.agg (XZ .mut (Uk (Response.mk z2 rHeaders rBody) head)),[.u,.u]):=Xs (0) rfl rfl (λcx h=>by
 by_cases z:Xt (Response.mk z2 rHeaders rBody)=0
 rotate_left
 ·have z':(Xt (Response.mk z2 rHeaders rBody) !=0)=true:=by simpa using z
  simp only[go_sem,reduceIte,↓reduceIte,nA,nB,nE,h,z',Uk]
 have h1:rHeaders.length<=20/\smL Ya rHeaders/\okN ⟨#[88,45,67,97,99,104,101]⟩=true:=⟨ZY (Zz z),h0.2.1,by decide⟩
 have hh:smL Ya rHeaders:=h0.2.1
 have hb:smL Q4 rBody:=h0.2.2
 have hu:U4 (Response.mk z2 rHeaders rBody)=if(20:Int)<((setV ⟨#[88,45,67,97,99,104,101]⟩ ⟨#[109,105,115,115]⟩ rHeaders).length:Int) then rHeaders else setV ⟨#[88,45,67,97,99,104,101]⟩ ⟨#[109,105,115,115]⟩ rHeaders:=rfl
 by_cases c:(20:Int)<((setV ⟨#[88,45,67,97,99,104,101]⟩ ⟨#[109,105,115,115]⟩ rHeaders).length:Int)
 ·rw[if_pos c] at hu
  cases head<;>simp only[go_sem,reduceIte,↓reduceIte,nA,nB,nE,nL,nT,h,z,Uk,h1,hb,c,hu,List.length_map]
 ·rw[if_neg c] at hu
  cases head<;>simp only[go_sem,reduceIte,↓reduceIte,nA,nB,nE,nL,nT,h,z,Uk,h1,hb,c,hu,List.length_map]) (by simp only[go_sem,Zl,XG,X7])
def s79:SP Tryd.prog:=mkS tyA 79 Tryd.f79 [] {md:=[.ro 1,.ro 1],rg:=[(0,[2,3],[2,3]),(1,[2,3,9],[2,3]),(2,[4],[]),(3,[14],[]),(4,[4],[]),(5,[4],[])],rets:=some ([4],[])} Tryd.func79 (by kernel_rfl)
@[go_sem] def d79:s79.g=79/\s79.fs=⟨[.ro 1,.ro 1],s79.F,false⟩:=⟨nr rfl,nr rfl⟩
@[go_sem] def e79(z0 z1 z3 z4:ByteArray)(h0:Ya (Xh.mk z0 z1)):s79.F [.agg [.s z0,.s z1],.agg [.s z3,.s z4]]=some (.b (eqv (Xh.mk z0 z1) (Xh.mk z3 z4)),[.u,.u]):=Xs (0) rfl rfl (λcx h=>by
 obtain⟨q0,q1⟩:=h0
 simp only[go_sem,reduceIte,↓reduceIte,nA,nB,nE,nL,h,Q1]
 simp only[Xh.eqv (Xh.mk z0 z1) (Xh.mk z3 z4),XoI,XcF,Xly,Bool.and_true]) (rfl)
def s49:SP Tryd.prog:=mkS tyA 49 Tryd.f49 [s79] {md:=[.ro 1,.ro 1],rg:=[(0,[0,1],[]),(1,[0,1,10],[]),(2,[4],[]),(3,[0,1,5],[]),(4,[0,1,5,14],[]),(5,[0,1,5],[]),(6,[0,1,5,26],[]),(7,[4],[]),(8,[4],[])],lv:=[(0,[0,1,5],[])],out:=[(0,[],[])],rets:=some ([4],[]),plan:=[(6,(.take 0 (.take 1 (.take 2 (.take 3 (.take 4 (.take 5 (.take 6 (.take 7 (.one 8 (.take 9 .done)))))))))))]} Tryd.func49 (by kernel_rfl)
@[go_sem] def d49:s49.g=49/\s49.fs=⟨[.ro 1,.ro 1],s49.F,false⟩:=⟨nr rfl,nr rfl⟩
@[go_sem] def e49(xs ys:List Xh)(h0:smL Ya xs):s49.F [.sl .ro 2 (xs.map (Xb .ro)),.sl .ro 2 (ys.map (Xb .ro))]=some (.b (eqv xs ys),[.u,.u]):=Xs (xs.length+1) rfl rfl (λcx h=>by
 have hb:=XS Tryd.f49 0 _ _ rfl rfl
 have hx:=h0.1
 by_cases hl:xs.length=ys.length
 ·obtain⟨r,hr,hq⟩:=Q0 (cx:=cx) (blk:=0) (body:=Zw Tryd.f49 0) (xs.zip ys) (λk (_:Unit)=>⟨E [(0,.sl .ro 2 (xs.map (Xb .ro))),(1,.sl .ro 2 (ys.map (Xb .ro))),(5,.i .i64 k)],B []⟩) (λ_=>⟨E [],B []⟩) (λx _=>!eqv x.1 x.2) (λ_ _=>()) (λ_ _=>(.ret,⟨E [(4,.b false)],B []⟩)) (λ_ _=>True)
   (λl _ G=>by simp only[go_sem,reduceIte,↓reduceIte,nB,nE,h,Xan hl,hl,Int.lt_irrefl,hb]) (λk hk l _=>by
    have hk:k<xs.length:=by rwa [Xan hl] at hk
    have h1:((k:Int)<(xs.length:Int)):=Int.ofNat_lt.2 hk
    have h2:=h0.2 _ (List.getElem_mem hk)
    have h3:(xs.zip ys)[k]=(xs[k],ys[k]'(by omega)):=by simp
    rw[h3]
    cases hc:eqv xs[k] (ys[k]'(by omega))
    ·exact .inl ⟨rfl,λG=>by simp only[go_sem,reduceIte,↓reduceIte,nA,nB,nE,h,hc,Zg (Xb .ro) xs k hk,Zg (Xb .ro) ys k (by omega),Yi ys.length k (by omega),h2,h1,Yi _ _ hk,hb]⟩
    ·exact .inr ⟨rfl,trivial,_,λG=>by simp only[go_sem,reduceIte,↓reduceIte,nA,nB,nE,h,hc,Zg (Xb .ro) xs k hk,Zg (Xb .ro) ys k (by omega),Yi ys.length k (by omega),h2,h1,Yi _ _ hk,XN (show k<9223372036854775807 by omega),hb]<;>with_reducible rfl,by simp only[go_sem,reduceIte,↓reduceIte,nB,h]⟩) () trivial (xs.length+1) (by rw[Xan hl]; exact Nat.le_refl _)
  rw[hb] at hr
  have hl2:((xs.length:Int) !=(ys.length:Int))=false:=by simp[hl]
  rcases hq with⟨s',e1,e2,e3⟩ | ⟨x,s',e1,e3⟩
  ·simp only[go_sem,reduceIte,↓reduceIte,nB,nE,h,hl2,hr,e3,XeC hl e1]
  ·simp only[go_sem,reduceIte,↓reduceIte,nB,nE,h,hl2,hr,e3,XeD hl e1]
 ·have hl2:((xs.length:Int) !=(ys.length:Int))=true:=by simpa using λh=>hl (Int.ofNat_inj.1 h)
  simp only[go_sem,reduceIte,↓reduceIte,nB,nE,h,hl2,XhF hl]) (rfl)
end
end Go.Vm.A
