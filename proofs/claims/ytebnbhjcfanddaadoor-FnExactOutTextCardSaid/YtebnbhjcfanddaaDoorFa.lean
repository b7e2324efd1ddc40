/- Functions of the program, walked by the evaluator. -/
import Derived.Test.YtebnbhjcfanddaaDoorWb
import Derived.Test.YtebnbhjcfanddaaDoorWa
set_option linter.unusedVariables false
set_option linter.unusedSimpArgs false
set_option autoImplicit false
set_option maxRecDepth 100000
set_option maxHeartbeats 4000000
set_option linter.defProp false
namespace Go.Vm.A
open Go.Proofs
open Nat renaming reduceAdd -> nA, reduceSub -> nS, reduceMul -> nM, reduceBEq -> nB, reduceEqDiff -> nE, reduceLeDiff -> nL, reduceLT -> nT, reduceBneDiff -> nN
open Int renaming reduceLE -> iL, reduceLT -> iT, reduceEq -> iE, reduceAdd -> iA, reduceMul -> iM, reduceSub -> iS, reduceNeg -> iG, reduceBEq -> iB, reduceBNe -> iN, reduceToNat -> iZ
noncomputable section
def s65:SP Tryd.prog:=mkS tyA 65 Tryd.f65 [] {md:=[.ro 1,.ro 1],rg:=[(0,[1,2],[2]),(1,[1,2],[2]),(2,[1,2,11],[2]),(3,[4],[]),(4,[1],[]),(5,[1,18],[]),(6,[4],[]),(7,[4],[])],rets:=some ([4],[])} Tryd.func65 (by kernel_rfl)
@[go_sem] def d65:s65.g=65/\s65.fs=⟨[.ro 1,.ro 1],s65.F,false⟩:=⟨nr rfl,nr rfl⟩
@[go_sem] def e65(y0 y1:ByteArray)(l:Int)(h0:ZP (Xj.mk y0 y1)):s65.F [.agg [.s y0,.s y1],.i .i64 l]=some (.i .i64 (Y8 (Xj.mk y0 y1) l),[.u,.u]):=XI (0) rfl rfl (λcx h=>by
 obtain⟨q0,q1⟩:=h0
 simp only[go_sem,reduceIte,↓reduceIte,reduceCtorEq,nA,nS,nM,nB,nE,nL,nT,nN,iL,iT,iE,iA,iM,iS,iG,iB,iN,iZ,h,q0,q1]
 simp only[Y8,szs,szn,Xlj,decide_eq_true_eq]) (rfl)
def s39:SP Tryd.prog:=mkS tyA 39 Tryd.f39 [s65] {md:=[.ro 1,.ro 1],rg:=[(0,[0,1],[]),(1,[0,1],[]),(2,[0,1,11],[]),(3,[4],[]),(4,[0,1,5],[]),(5,[0,1,5,15],[]),(6,[0,1,5],[]),(7,[0,1,5],[]),(8,[0,1,5,25],[]),(9,[4],[]),(10,[4],[])],lv:=[(0,[0,1,5],[])],out:=[(0,[1],[])],rets:=some ([4],[])} Tryd.func39 (by kernel_rfl)
@[go_sem] def d39:s39.g=39/\s39.fs=⟨[.ro 1,.ro 1],s39.F,false⟩:=⟨nr rfl,nr rfl⟩
@[go_sem] def e39(xs:List Xj)(l:Int)(h0:okL ZP xs):s39.F [.sl .ro 2 (xs.map (Xc .ro)),.i .i64 l]=some (.i .i64 (szL Y8 xs l),[.u,.u]):=XI (xs.length+1) rfl rfl (λcx h=>by
 have hb:=YW Tryd.f39 0 _ _ rfl rfl
 have hx:=h0.1
 obtain⟨r,hr,hq⟩:=Uo (cx:=cx) (blk:=0) (body:=UL Tryd.f39 0) xs (λk l=>⟨E [(0,.sl .ro 2 (xs.map (Xc .ro))),(1,.i .i64 l),(5,.i .i64 k)],B []⟩) (λl=>⟨E [(1,.i .i64 l)],B []⟩) (λx l=>decide (Y8 x l<0)) (λx l=>Y8 x l) (λ_ _=>(.ret,⟨E [(4,.i .i64 (-1))],B []⟩)) (λ_ _=>True)
  (λl _ G=>by simp only[go_sem,reduceIte,↓reduceIte,reduceCtorEq,nA,nS,nM,nB,nE,nL,nT,nN,iL,iT,iE,iA,iM,iS,iG,iB,iN,iZ,h,Int.lt_irrefl,hb]) (λk hk l _=>by
   have h1:((k:Int)<(xs.length:Int)):=Int.ofNat_lt.2 hk
   have h2:=h0.2 _ (List.getElem_mem hk)
   by_cases hc:Y8 xs[k] l<0
   ·exact .inl ⟨decide_eq_true hc,λG=>by simp only[go_sem,reduceIte,↓reduceIte,reduceCtorEq,nA,nS,nM,nB,nE,nL,nT,nN,iL,iT,iE,iA,iM,iS,iG,iB,iN,iZ,h,h2,hc,Zp (Xc .ro) xs k hk,h1,YN _ _ hk,X7 (show k<9223372036854775807 by omega),hb]⟩
   ·exact .inr ⟨decide_eq_false hc,trivial,_,λG=>by simp only[go_sem,reduceIte,↓reduceIte,reduceCtorEq,nA,nS,nM,nB,nE,nL,nT,nN,iL,iT,iE,iA,iM,iS,iG,iB,iN,iZ,h,h2,hc,Zp (Xc .ro) xs k hk,h1,YN _ _ hk,X7 (show k<9223372036854775807 by omega),hb]<;>with_reducible rfl,by simp only[go_sem,reduceIte,↓reduceIte,reduceCtorEq,nA,nS,nM,nB,nE,nL,nT,nN,iL,iT,iE,iA,iM,iS,iG,iB,iN,iZ,h]⟩) ((IntKind.i64).wrap (l-(xs.length:Int))) trivial (xs.length+1) (Nat.le_refl _)
 rw[hb] at hr
 unfold szL szs
 by_cases hc:(IntKind.i64).wrap (l-(xs.length:Int))<0
 ·simp only[go_sem,reduceIte,↓reduceIte,reduceCtorEq,nA,nS,nM,nB,nE,nL,nT,nN,iL,iT,iE,iA,iM,iS,iG,iB,iN,iZ,h,hc]
 ·rcases hq with⟨s',e1,e2,e3⟩ | ⟨x,s',e1,e3⟩
  ·simp only[go_sem,reduceIte,↓reduceIte,reduceCtorEq,nA,nS,nM,nB,nE,nL,nT,nN,iL,iT,iE,iA,iM,iS,iG,iB,iN,iZ,h,hc,hr,e3,Xgw e1,Option.getD_some]
  ·simp only[go_sem,reduceIte,↓reduceIte,reduceCtorEq,nA,nS,nM,nB,nE,nL,nT,nN,iL,iT,iE,iA,iM,iS,iG,iB,iN,iZ,h,hc,hr,e3,Xgx e1,Option.getD_none]) (rfl)
def s40:SP Tryd.prog:=mkS tyA 40 Tryd.f40 [] {md:=[.ro 1,.ro 1],rg:=[(0,[0,1],[]),(1,[1],[]),(2,[1,10],[]),(3,[4],[]),(4,[4],[])],rets:=some ([4],[])} Tryd.func40 (by kernel_rfl)
@[go_sem] def d40:s40.g=40/\s40.fs=⟨[.ro 1,.ro 1],s40.F,false⟩:=⟨nr rfl,nr rfl⟩
@[go_sem] def e40(xs:List UInt8)(l:Int):s40.F [.sl .ro 1 (xs.map XH),.i .i64 l]=some (.i .i64 (XaL xs l),[.u,.u]):=XI (0) rfl rfl (λcx h=>by
 simp only[go_sem,reduceIte,↓reduceIte,reduceCtorEq,nA,nS,nM,nB,nE,nL,nT,nN,iL,iT,iE,iA,iM,iS,iG,iB,iN,iZ,h]
 simp only[XaL,szF,szs,szn,Xlj,decide_eq_true_eq]) (rfl)
def s17:SP Tryd.prog:=mkS tyA 17 Tryd.f17 [s39,s40] {md:=[.ro 1,.ro 1],rg:=[(0,[1,2],[2]),(1,[1,2],[2]),(2,[1,2,10],[2]),(3,[4],[]),(4,[1],[]),(5,[1,16],[]),(6,[4],[]),(7,[4],[])],rets:=some ([4],[])} Tryd.func17 (by kernel_rfl)
@[go_sem] def d17:s17.g=17/\s17.fs=⟨[.ro 1,.ro 1],s17.F,false⟩:=⟨nr rfl,nr rfl⟩
@[go_sem] def e17(y2:Int)(y3:List Xj)(y4:List UInt8)(l:Int)(h0:UQ (Response.mk y2 y3 y4)):s17.F [.agg [.i .i64 y2,.sl .ro 2 (y3.map (Xc .ro)),.sl .ro 1 (y4.map XH)],.i .i64 l]=some (.i .i64 (Z2 (Response.mk y2 y3 y4) l),[.u,.u]):=XI (0) rfl rfl (λcx h=>by
 obtain⟨q0,q1,q2⟩:=h0
 simp only[go_sem,reduceIte,↓reduceIte,reduceCtorEq,nA,nS,nM,nB,nE,nL,nT,nN,iL,iT,iE,iA,iM,iS,iG,iB,iN,iZ,h,q0,q1,q2]
 simp only[Z2,szs,szn,Xlj,decide_eq_true_eq]) (rfl)
def s31:SP Tryd.prog:=mkS tyA 31 Tryd.f31 [s39] {md:=[.ro 1,.ro 1],rg:=[(0,[1,2],[2]),(1,[1,2],[2]),(2,[1,2,11],[2]),(3,[4],[]),(4,[1,2],[2]),(5,[1,2,18],[2]),(6,[4],[]),(7,[1,2],[2]),(8,[1,2,25],[2]),(9,[4],[]),(10,[1],[]),(11,[1,31],[]),(12,[4],[]),(13,[4],[])],rets:=some ([4],[])} Tryd.func31 (by kernel_rfl)
@[go_sem] def d31:s31.g=31/\s31.fs=⟨[.ro 1,.ro 1],s31.F,false⟩:=⟨nr rfl,nr rfl⟩
@[go_sem] def e31(y5 y6 y7:ByteArray)(y3:List Xj)(l:Int)(h0:XaQ (Request.mk y5 y6 y7 y3)):s31.F [.agg [.s y5,.s y6,.s y7,.sl .ro 2 (y3.map (Xc .ro))],.i .i64 l]=some (.i .i64 (QE (Request.mk y5 y6 y7 y3) l),[.u,.u]):=XI (0) rfl rfl (λcx h=>by
 obtain⟨q0,q1,q2,q3⟩:=h0
 simp only[go_sem,reduceIte,↓reduceIte,reduceCtorEq,nA,nS,nM,nB,nE,nL,nT,nN,iL,iT,iE,iA,iM,iS,iG,iB,iN,iZ,h,q0,q1,q2,q3]
 simp only[QE,szs,szn,Xlj,decide_eq_true_eq]) (rfl)
def s11:SP Tryd.prog:=mkS tyA 11 Tryd.f11 [s17,s31] {md:=[.ro 1,.ro 1],rg:=[(0,[1,2],[2]),(1,[1,2],[2]),(2,[1,2,11],[2]),(3,[4],[]),(4,[1,2],[2]),(5,[1,2,17],[2]),(6,[4],[]),(7,[1],[]),(8,[1,23],[]),(9,[4],[]),(10,[4],[])],rets:=some ([4],[])} Tryd.func11 (by kernel_rfl)
@[go_sem] def d11:s11.g=11/\s11.fs=⟨[.ro 1,.ro 1],s11.F,false⟩:=⟨nr rfl,nr rfl⟩
@[go_sem] def e11(y8 xId:Int)(y9:ByteArray)(y10:Int)(y11:List Xj)(y12:List UInt8)(y13 y14 y15:ByteArray)(y16:List Xj)(l:Int)(h0:Xih (Out.mk y8 xId y9 (Response.mk y10 y11 y12) (Request.mk y13 y14 y15 y16))):s11.F [.agg [.i .i64 y8,.i .i64 xId,.s y9,.i .i64 y10,.sl .ro 2 (y11.map (Xc .ro)),.sl .ro 1 (y12.map XH),.s y13,.s y14,.s y15,.sl .ro 2 (y16.map (Xc .ro))],.i .i64 l]=some (.i .i64 (Xe4 (Out.mk y8 xId y9 (Response.mk y10 y11 y12) (Request.mk y13 y14 y15 y16)) l),[.u,.u]):=XI (0) rfl rfl (λcx h=>by
 obtain⟨q0,q1,q2,q3,q4⟩:=h0
 simp only[go_sem,reduceIte,↓reduceIte,reduceCtorEq,nA,nS,nM,nB,nE,nL,nT,nN,iL,iT,iE,iA,iM,iS,iG,iB,iN,iZ,h,q0,q1,q2,q3,q4]
 simp only[Xe4,szs,szn,Xlj,decide_eq_true_eq]) (rfl)
def within(a b c:Int):Bool:=decide (b<=a)&&decide (a<=c)
def XbH{a b c:Int}:within a b c=true↔b<=a/\a<=c:=by simp[within]
def s60:SP Tryd.prog:=mkS tyA 60 Tryd.f60 [] {md:=[.ro 1,.ro 1,.ro 1],rets:=some ([6],[])} Tryd.func60 (by kernel_rfl)
@[go_sem] def d60:s60.g=60/\s60.fs=⟨[.ro 1,.ro 1,.ro 1],s60.F,false⟩:=⟨nr rfl,nr rfl⟩
@[go_sem] def e60(a b c:Int):s60.F [.i .i64 a,.i .i64 b,.i .i64 c]=some (.b (within a b c),[.u,.u,.u]):=XI (0) rfl rfl (λcx h=>by
 simp only[go_sem,reduceIte,↓reduceIte,reduceCtorEq,nA,nS,nM,nB,nE,nL,nT,nN,iL,iT,iE,iA,iM,iS,iG,iB,iN,iZ,h,within]
 by_cases h:b<=a<;>simp[h]) (rfl)
def QQ(a:Int):Bool:=within a 0 1000000000000000
def XdP{a:Int}:QQ a=true↔0<=a/\a<=1000000000000000:=XbH
def s59:SP Tryd.prog:=mkS tyA 59 Tryd.f59 [s60] {md:=[.ro 1],rets:=some ([2],[])} Tryd.func59 (by kernel_rfl)
@[go_sem] def d59:s59.g=59/\s59.fs=⟨[.ro 1],s59.F,false⟩:=⟨nr rfl,nr rfl⟩
@[go_sem] def e59(a:Int):s59.F [.i .i64 a]=some (.b (QQ a),[.u]):=XI (0) rfl rfl (λcx h=>by
 simp only[go_sem,reduceIte,↓reduceIte,reduceCtorEq,nA,nS,nM,nB,nE,nL,nT,nN,iL,iT,iE,iA,iM,iS,iG,iB,iN,iZ,h,QQ]) (rfl)
def Xe9(a b:ByteArray):(a++b).data.toList=a.data.toList++b.data.toList:=by simp[ByteArray.data_append]
def XiE{a b:ByteArray}(h:a.data.toList=b.data.toList):a=b:=by
 cases a; cases b
 congr 1
 exact Array.ext' h
def Xaf{n:Int}(h0:0<=n)(h:n<10):YZ n=⟨#[UInt8.ofNat (48+n).toNat]⟩:=by
 unfold YZ Lib.itoa
 rw[if_neg (by omega),Lib.decDigits,dif_pos (by omega)]
 congr 4; omega
def Xfa{n:Int}(h0:0<=n)(h:¬n<10):YZ n=YZ (n.tdiv 10)++⟨#[UInt8.ofNat (48+n.tmod 10).toNat]⟩:=by
 have h1:n.tdiv 10=n / 10:=Int.tdiv_eq_ediv_of_nonneg h0
 have h2:n.tmod 10=n%10:=Int.tmod_eq_emod_of_nonneg h0
 rw[h1,h2]
 unfold YZ Lib.itoa
 rw[if_neg (by omega),if_neg (by omega),Lib.decDigits,dif_neg (by omega)]
 apply XiE
 rw[Xe9]
 have e1:(n / 10).toNat=n.toNat / 10:=by omega
 have e2:(48+n%10).toNat=48+n.toNat%10:=by omega
 rw[e1,e2]
def XdQ{n:Int}(h:0<=n)(h1:n<=255):(IntKind.u8).wrap n=n:=by unfold IntKind.wrap; simp[IntKind.bits,IntKind.signed]; omega
def Xfb(n:Int)(h0:0<=n):∀k:Nat,n<10^(k+1)->(YZ n).size<=k+1:=by
 intro k
 induction k generalizing n with
 | zero=>intro h; rw[Xaf h0 (by simpa using h)]; exact Nat.le_refl _
 | succ k ih =>
  intro h
  by_cases c:n<10
  ·rw[Xaf h0 c]; show 1<=_; omega
  ·rw[Xfa h0 c,ByteArray.size_append]
   have h1:n.tdiv 10=n / 10:=Int.tdiv_eq_ediv_of_nonneg h0
   have:=ih (n.tdiv 10) (by rw[h1]; omega) (by rw[h1,Int.pow_succ] at *; omega)
   show(YZ (n.tdiv 10)).size+1<=_
   omega
def XiF(F:List AV->Option (AV×List AV))(h:Ze Tryd.prog 61 ⟨[.ro 1],F,false⟩):SP Tryd.prog:=⟨61,⟨[.ro 1],F,false⟩,h⟩
@[go_sem] def Xzi(F:List AV->Option (AV×List AV))(h:Ze Tryd.prog 61 ⟨[.ro 1],F,false⟩):(XiF F h).g=61/\(XiF F h).fs=⟨[.ro 1],(XiF F h).F,false⟩:=⟨nr rfl,nr rfl⟩
@[go_sem] def Xzj(F:List AV->Option (AV×List AV))(h:Ze Tryd.prog 61 ⟨[.ro 1],F,false⟩):(XiF F h).F=F:=nr rfl
def Xnc(F:List AV->Option (AV×List AV))(h:Ze Tryd.prog 61 ⟨[.ro 1],F,false⟩):ckS tyA [XiF F h] {md:=[.ro 1],rg:=[(0,[0],[]),(1,[0,4],[]),(2,[2],[]),(3,[2],[])],rets:=some ([2],[]),plan:=[(3,(.take 0 (.take 1 (.take 3 (.take 4 (.take 5 (.take 6 (.alt 2 (.one 7 (.take 8 (.take 9 (.one 10 .done)))) (.one 7 (.take 8 (.one 2 (.take 9 (.one 10 .done)))))))))))))]} Tryd.f61=true:=by kernel_rfl
def XlJ(F:List AV->Option (AV×List AV))(h:Ze Tryd.prog 61 ⟨[.ro 1],F,false⟩):SP Tryd.prog:=mkS tyA 61 Tryd.f61 [XiF F h] {md:=[.ro 1],rg:=[(0,[0],[]),(1,[0,4],[]),(2,[2],[]),(3,[2],[])],rets:=some ([2],[]),plan:=[(3,(.take 0 (.take 1 (.take 3 (.take 4 (.take 5 (.take 6 (.alt 2 (.one 7 (.take 8 (.take 9 (.one 10 .done)))) (.one 7 (.take 8 (.one 2 (.take 9 (.one 10 .done)))))))))))))]} Tryd.func61 (Xnc F h)
def XiG:Nat->{F:List AV->Option (AV×List AV) // Ze Tryd.prog 61 ⟨[.ro 1],F,false⟩}
 | 0=>⟨λ_=>none,λ_ _ _ _ _ _ _ h=>nomatch h⟩
 | k+1=>⟨(XlJ (XiG k).1 (XiG k).2).F,(XlJ (XiG k).1 (XiG k).2).ok⟩
def XmV(F:List AV->Option (AV×List AV))(hv:Ze Tryd.prog 61 ⟨[.ro 1],F,false⟩)(n:Int)(h0:0<=n/\n<=1000000000000000000)(hF:¬n<10->F [.i .i64 (n.tdiv 10)]=some (.s (YZ (n.tdiv 10)),[.u])):(XlJ F hv).F [.i .i64 n]=some (.s (YZ n),[.u]):=XI (0) rfl rfl (λcx h=>by
 by_cases c1:n<10
 ·have w1:(IntKind.i64).wrap (48+n)=48+n:=UM (by omega) (by omega)
  have w2:(IntKind.u8).wrap (48+n)=48+n:=XdQ (by omega) (by omega)
  have e:=Xaf h0.1 c1
  simp only[go_sem,reduceIte,↓reduceIte,reduceCtorEq,nA,nS,nM,nB,nE,nL,nT,nN,iL,iT,iE,iA,iM,iS,iG,iB,iN,iZ,h,c1,w1,w2,U5,e]
 ·have hq:=hF c1
  have e:=Xfa h0.1 c1
  have r1:=Int.tmod_lt_of_pos n (b:=10) (by omega)
  have r0:=Int.tmod_nonneg (a:=n) 10 (by omega)
  obtain⟨q,hq'⟩:∃q,n.tdiv 10=q:=⟨_,rfl⟩
  obtain⟨r,hr⟩:∃r,n.tmod 10=r:=⟨_,rfl⟩
  have eq:=Int.mul_tdiv_add_tmod n 10
  rw[hr] at r1 r0 e eq
  rw[hq'] at hq e eq
  have d1:(IntKind.i64).wrap q=q:=UM (by omega) (by omega)
  have d2:(IntKind.i64).wrap r=r:=UM (by omega) (by omega)
  have w1:(IntKind.i64).wrap (48+r)=48+r:=UM (by omega) (by omega)
  have w2:(IntKind.u8).wrap (48+r)=48+r:=XdQ (by omega) (by omega)
  have hz:(YZ q).size+#[UInt8.ofNat (48+r).toNat].size<=9223372036854775807:=by
   have:=Xfb q (by omega) 19 (by rw[show(10:Int)^(19+1)=100000000000000000000 from by decide]; omega)
   show _+1<=_
   omega
  simp only[go_sem,reduceIte,↓reduceIte,reduceCtorEq,nA,nS,nM,nB,nE,nL,nT,nN,iL,iT,iE,iA,iM,iS,iG,iB,iN,iZ,h,c1,hq,hq',hr,d1,d2,w1,w2,U5,e,hz]) (rfl)
def XmW:∀(k:Nat) (n:Int),0<=n->n<=1000000000000000000->n<10^k->(XiG (k+1)).1 [.i .i64 n]=some (.s (YZ n),[.u])
 | 0,n,h0,h1,h2=>XmV _ _ n ⟨h0,h1⟩ (λc=>absurd h2 (by simp; omega))
 | k+1,n,h0,h1,h2=>XmV _ _ n ⟨h0,h1⟩ (λc=>by
   have e:n.tdiv 10=n / 10:=Int.tdiv_eq_ediv_of_nonneg h0
   rw[e]
   exact XmW k (n / 10) (by omega) (by omega) (by rw[Int.pow_succ] at h2; omega))
def s61:SP Tryd.prog:=XiF (XiG 20).1 (XiG 20).2
@[go_sem] def d61:s61.g=61/\s61.fs=⟨[.ro 1],s61.F,false⟩:=⟨nr rfl,nr rfl⟩
@[go_sem] def e61(n:Int)(h0:0<=n/\n<=1000000000000000000):s61.F [.i .i64 n]=some (.s (YZ n),[.u]):=XmW 19 n h0.1 h0.2 (by rw[show(10:Int)^19=10000000000000000000 from by decide]; omega)
def QF(t:ByteArray):t.size=t.data.toList.length:=by
 show t.data.size=_
 simp
@[go_sem] def XiH(xs:List UInt8):xs.map Uv=xs.map XH:=nr rfl
def Xc1(c:UInt8):UInt8:=if 65<=(c.toNat:Int)/\(c.toNat:Int)<=90 then c+32 else c
def QG(t:ByteArray):ByteArray:=⟨(t.data.toList.map Xc1).toArray⟩
def Y1(xs:List UInt8)(k:Nat):List UInt8:=(xs.take k).map Xc1++xs.drop k
def Xa7(xs:List UInt8):Y1 xs 0=xs:=by simp[Y1]
def Xca(xs:List UInt8):Y1 xs xs.length=xs.map Xc1:=by simp[Y1]
def Q2(xs:List UInt8)(k:Nat)(h:k<=xs.length):(Y1 xs k).length=xs.length:=by simp[Y1]; omega
def XbI(xs:List UInt8)(k:Nat)(h:k<xs.length):(Y1 xs k)[k]?=some xs[k]:=by
 unfold Y1
 rw[List.getElem?_append_right (by simp; omega)]
 simp[Nat.min_eq_left (Nat.le_of_lt h),h]
def Xa8(xs:List UInt8)(k:Nat)(h:k<xs.length):(Y1 xs k).set k (Xc1 xs[k])=Y1 xs (k+1):=by
 unfold Y1
 rw[List.set_append_right _ _ (by simp; omega)]
 rw[List.length_map,List.length_take,Nat.min_eq_left (Nat.le_of_lt h),Nat.sub_self,List.drop_eq_getElem_cons h,List.set_cons_zero]
 have e:(xs.take (k+1)).map Xc1=(xs.take k).map Xc1++[Xc1 xs[k]]:=by
  rw[List.take_add_one,List.getElem?_eq_getElem h,Option.toList_some,List.map_append]; rfl
 rw[e]
 simp
def Xa9(xs:List UInt8)(k:Nat)(h:k<xs.length)(hc:Xc1 xs[k]=xs[k]):Y1 xs (k+1)=Y1 xs k:=by
 rw[<-Xa8 xs k h,hc]
 have:=XbI xs k h
 obtain⟨h1,h2⟩:=List.getElem?_eq_some_iff.1 this
 rw[<-h2]
 exact List.set_getElem_self h1
def XdR(xs:List UInt8)(k:Nat)(h:k<xs.length):((Y1 xs k).map XH).getD k []=[.i .u8 xs[k].toNat]:=by
 rw[List.getD_eq_getElem?_getD,List.getElem?_map,XbI xs k h]; rfl
def Xfc(xs:List UInt8)(k:Nat)(h:k<xs.length):((Y1 xs k).map XH)[k]?=some [.i .u8 xs[k].toNat]:=by
 rw[List.getElem?_map,XbI xs k h]; rfl
def Xfd{c:UInt8}(h:(c.toNat:Int)<=90):(c+32).toNat=c.toNat+32:=by
 rw[UInt8.toNat_add]
 have:(32:UInt8).toNat=32:=rfl
 rw[this]
 omega
def Xfe(xs:List UInt8)(k:Nat)(h:k<xs.length) :
  (65<=(xs[k].toNat:Int)/\(xs[k].toNat:Int)<=90/\((IntKind.u8).wrap ((IntKind.u8).wrap ((xs[k].toNat:Int)+97)-65)=((Xc1 xs[k]).toNat:Int))/\((IntKind.u8).wrap ((xs[k].toNat:Int)+32)=((Xc1 xs[k]).toNat:Int))/\((Y1 xs k).map XH).set k [.i .u8 (Xc1 xs[k]).toNat]=(Y1 xs (k+1)).map XH/\True) \/
  (¬65<=(xs[k].toNat:Int)/\True/\True/\True/\True/\Y1 xs (k+1)=Y1 xs k)\/(65<=(xs[k].toNat:Int)/\¬(xs[k].toNat:Int)<=90/\True/\True/\True/\Y1 xs (k+1)=Y1 xs k):=by
 by_cases a1:65<=(xs[k].toNat:Int)
 ·by_cases a2:(xs[k].toNat:Int)<=90
  ·refine .inl ⟨a1,a2,?_,?_,?_,trivial⟩
   ·have hl:Xc1 xs[k]=xs[k]+32:=if_pos ⟨a1,a2⟩
    rw[hl,Xfd a2]
    simp only[IntKind.wrap,IntKind.bits,IntKind.signed]
    simp
    omega
   ·have hl:Xc1 xs[k]=xs[k]+32:=if_pos ⟨a1,a2⟩
    rw[hl,Xfd a2]
    simp only[IntKind.wrap,IntKind.bits,IntKind.signed]
    simp
    omega
   ·rw[<-Xa8 xs k h,List.map_set]; rfl
  ·exact .inr (.inr ⟨a1,a2,trivial,trivial,trivial,Xa9 xs k h (if_neg λx=>a2 x.2)⟩)
 ·exact .inr (.inl ⟨a1,trivial,trivial,trivial,trivial,Xa9 xs k h (if_neg λx=>a1 x.1)⟩)
def s95:SP Tryd.prog:=mkS tyA 95 Tryd.f95 [] {md:=[.ro 1],rg:=[(0,[0],[]),(1,[3],[]),(2,[3,4],[]),(3,[3,4,10],[]),(4,[3,4],[]),(5,[3,4,24],[]),(6,[3,4],[]),(7,[2],[])],lv:=[(0,[3,4],[])],out:=[(0,[3],[])],rets:=some ([2],[])} Tryd.func95 (by kernel_rfl)
@[go_sem] def d95:s95.g=95/\s95.fs=⟨[.ro 1],s95.F,false⟩:=⟨nr rfl,nr rfl⟩
@[go_sem] def e95(t:ByteArray)(h0:t.size<=9223372036854775806):s95.F [.s t]=some (.s (QG t),[.u]):=XI (t.data.toList.length+1) rfl rfl (λcx h=>by
 have hz:t.data.toList.length<=9223372036854775807:=by rw[<-QF]; omega
 have hx:t.data.toList.length<=9223372036854775806:=by rw[<-QF]; exact h0
 have hb0:=YW Tryd.f95 0 _ _ rfl rfl
 obtain⟨hI,hr⟩:=Zf (cx:=cx) (blk:=0) (body:=UL Tryd.f95 0) t.data.toList (λk (s:Unit)=>⟨E [(3,.sl .mut 1 ((Y1 t.data.toList k).map XH)),(4,.i .i64 k)],B []⟩) (λs=>⟨E [(3,.sl .mut 1 ((t.data.toList.map Xc1).map XH))],B []⟩) (λx s=>s) (λk s=>True)
   (λs hI G=>by simp only[go_sem,reduceIte,↓reduceIte,reduceCtorEq,nA,nS,nM,nB,nE,nL,nT,nN,iL,iT,iE,iA,iM,iS,iG,iB,iN,iZ,h,Int.lt_irrefl,hb0,Q2 t.data.toList t.data.toList.length (Nat.le_refl _),Xca t.data.toList,List.length_map]) (λk hk s hI=>by
    have h1:((k:Int)<(t.data.toList.length:Int)):=Int.ofNat_lt.2 hk
    have g1:=XdR t.data.toList k hk
    have g2:=Xfc t.data.toList k hk
    have g3:=Q2 t.data.toList k (Nat.le_of_lt hk)
    have g4:(List.take t.data.toList.length ((Y1 t.data.toList k).map XH))=(Y1 t.data.toList k).map XH:=List.take_of_length_le (by rw[List.length_map,g3]; exact Nat.le_refl _)
    rcases Xfe t.data.toList k hk with⟨a1,a2,w1,w2,hs,hv⟩ | ⟨a1,a2,w1,w2,hs,hv⟩ | ⟨a1,a2,w1,w2,hs,hv⟩
    all_goals exact⟨trivial,_,λG=>by simp only[go_sem,reduceIte,↓reduceIte,reduceCtorEq,nA,nS,nM,nB,nE,nL,nT,nN,iL,iT,iE,iA,iM,iS,iG,iB,iN,iZ,h,g1,g2,g3,g4,a1,a2,w1,w2,hs,List.length_map,h1,YN _ _ hk,X7 (show k<9223372036854775807 by omega),hb0]<;>with_reducible rfl,by simp only[go_sem,reduceIte,↓reduceIte,reduceCtorEq,nA,nS,nM,nB,nE,nL,nT,nN,iL,iT,iE,iA,iM,iS,iG,iB,iN,iZ,h,hv]⟩) () trivial (t.data.toList.length+1) (Nat.le_refl _)
 rw[hb0] at hr
 rw[Xa7] at hr
 simp only[go_sem,reduceIte,↓reduceIte,reduceCtorEq,nA,nS,nM,nB,nE,nL,nT,nN,iL,iT,iE,iA,iM,iS,iG,iB,iN,iZ,h,hz,hr,QF t,QG]) (rfl)
def s84:SP Tryd.prog:=mkS tyA 84 Tryd.f84 [s95] {md:=[.ro 1,.ro 1],rets:=some ([4],[])} Tryd.func84 (by kernel_rfl)
@[go_sem] def d84:s84.g=84/\s84.fs=⟨[.ro 1,.ro 1],s84.F,false⟩:=⟨nr rfl,nr rfl⟩
@[go_sem] def e84(a b:ByteArray)(h0:(a.size<=9223372036854775806/\b.size<=9223372036854775806)):s84.F [.s a,.s b]=some (.b (eqv (QG a) (QG b)),[.u,.u]):=XI (0) rfl rfl (λcx h=>by
 simp only[go_sem,reduceIte,↓reduceIte,reduceCtorEq,nA,nS,nM,nB,nE,nL,nT,nN,iL,iT,iE,iA,iM,iS,iG,iB,iN,iZ,h,h0.1,h0.2,Zg]) (rfl)
def okN(n:ByteArray):Bool:=decide (n.size<=9223372036854775806)
def ZT(hs:List Xj)(n:ByteArray):List ByteArray:=(hs.filter λx=>eqv (QG x.Name) (QG n)).map (·.Value)
def U9(hs:List Xj)(n:ByteArray):Bool:=hs.any λx=>eqv (QG x.Name) (QG n)
def Xee(hs:List Xj)(n:ByteArray):decide (0<((ZT hs n).length:Int))=U9 hs n:=by
 have:0<(ZT hs n).length↔U9 hs n=true:=by
  unfold ZT U9
  rw[List.length_map,List.length_pos_iff_exists_mem,List.any_eq_true]
  simp only[List.mem_filter]
 rw[Bool.eq_iff_iff,decide_eq_true_eq,<-this]
 omega
def Zq(n:ByteArray)(s:ByteArray×Bool)(x:Xj):ByteArray×Bool:=if eqv (QG x.Name) (QG n)=true then((if s.2=true then s.1++⟨#[44,32]⟩ else s.1)++x.Value,true) else s
def Xcb(hs:List Xj)(n:ByteArray):ByteArray×Bool:=hs.foldl (λs x=>Zq n s x) (⟨#[]⟩,false)
def Xba(n:ByteArray):∀(hs:List Xj) (s:ByteArray×Bool),(hs.foldl (λs x=>Zq n s x) s).2=(s.2||U9 hs n)
 | [],s=>by simp[U9]
 | x :: hs,s=>by
  rw[List.foldl_cons,Xba n hs]
  unfold Zq U9
  rw[List.any_cons]
  cases eqv (QG x.Name) (QG n)<;>simp
def Xff(hs:List Xj)(n:ByteArray):(Xcb hs n).2=U9 hs n:=by
 unfold Xcb; rw[Xba]; rfl
def Q3{n:ByteArray}{s:ByteArray×Bool}{x:Xj}{k:Nat}(h:s.1.size<=k*1048578)(hx:x.Value.size<=1048576):(Zq n s x).1.size<=(k+1)*1048578:=by
 have h2:(⟨#[44,32]⟩:ByteArray).size=2:=rfl
 have h3:(k+1)*1048578=k*1048578+1048578:=Nat.succ_mul _ _
 rw[h3]
 generalize k*1048578=K at h ⊢
 unfold Zq
 split
 ·show(((if s.2=true then s.1++⟨#[44,32]⟩ else s.1)++x.Value).size)<=_
  rw[ByteArray.size_append]
  split
  ·rw[ByteArray.size_append]; omega
  ·omega
 ·omega
def s62:SP Tryd.prog:=mkS tyA 62 Tryd.f62 [s84] {md:=[.ro 1,.ro 1],rg:=[(0,[0,1],[]),(1,[0,1,6],[]),(2,[0,1,6,7],[]),(3,[0,1,6,7,8],[]),(4,[0,1,6,7,8,12],[]),(5,[0,1,6,7,8],[]),(6,[0,1,6,7,8,22],[]),(7,[0,1,6,8,23],[]),(8,[0,1,6,8],[]),(9,[0,1,6,8],[]),(10,[0,1,6,7,8],[]),(11,[4,5],[])],lv:=[(0,[0,1,6,7,8],[])],out:=[(0,[6,7],[])],rets:=some ([4,5],[])} Tryd.func62 (by kernel_rfl)
@[go_sem] def d62:s62.g=62/\s62.fs=⟨[.ro 1,.ro 1],s62.F,false⟩:=⟨nr rfl,nr rfl⟩
@[go_sem] def e62(hs:List Xj)(name:ByteArray)(h0:(hs.length<=20/\smL XW hs/\okN name=true)):s62.F [.sl .ro 2 (hs.map (Xc .ro)),.s name]=some (.tup [.s (Xcb hs name).1,.b (U9 hs name)],[.u,.u]):=XI (hs.length+1) rfl rfl (λcx h=>by
 have hl:=h0.1
 have hx:hs.length<=9223372036854775806:=by omega
 have hj:=Xff hs name
 have hb0:=YW Tryd.f62 0 _ _ rfl rfl
 obtain⟨hI,hr⟩:=Zf (cx:=cx) (blk:=0) (body:=UL Tryd.f62 0) hs (λk (s:ByteArray×Bool)=>⟨E [(0,.sl .ro 2 (hs.map (Xc .ro))),(1,.s name),(6,.s s.1),(7,.b s.2),(8,.i .i64 k)],B []⟩) (λs=>⟨E [(6,.s s.1),(7,.b s.2)],B []⟩) (λx s=>Zq name s x) (λk s=>s.1.size<=k*1048578)
   (λs hI G=>by simp only[go_sem,reduceIte,↓reduceIte,reduceCtorEq,nA,nS,nM,nB,nE,nL,nT,nN,iL,iT,iE,iA,iM,iS,iG,iB,iN,iZ,h,Int.lt_irrefl,hb0,h0.1]) (λk hk s hI=>by
    have h1:((k:Int)<(hs.length:Int)):=Int.ofNat_lt.2 hk
    obtain⟨u1,u2⟩:=h0.2.1.2 _ (List.getElem_mem hk)
    have u2':hs[k].Value.size<=1048576:=u2
    have hJ:=Q3 (n:=name) hI u2'
    have hl:=h0.1
    have e0:(⟨#[44,32]⟩:ByteArray).size=2:=rfl
    have e1:s.1.size+2<=9223372036854775807:=by omega
    have e1':s.1.size+(⟨#[44,32]⟩:ByteArray).size<=9223372036854775807:=e1
    have e2:s.1.size+hs[k].Value.size<=9223372036854775807:=by omega
    have e3:s.1.size+2+hs[k].Value.size<=9223372036854775807:=by omega
    have n1:hs[k].Name.size<=9223372036854775806/\name.size<=9223372036854775806:=⟨by have:hs[k].Name.size<=1048576:=u1; omega,of_decide_eq_true h0.2.2⟩
    cases d1:eqv (QG hs[k].Name) (QG name)<;>cases d2:s.2
    all_goals exact⟨hJ,_,λG=>by simp only[go_sem,reduceIte,↓reduceIte,reduceCtorEq,nA,nS,nM,nB,nE,nL,nT,nN,iL,iT,iE,iA,iM,iS,iG,iB,iN,iZ,h,e0,e1,e2,e3,Zp (Xc .ro) hs k hk,n1,d1,d2,ByteArray.size_append,h1,YN _ _ hk,X7 (show k<9223372036854775807 by omega),hb0]<;>with_reducible rfl,by simp only[go_sem,reduceIte,↓reduceIte,reduceCtorEq,nA,nS,nM,nB,nE,nL,nT,nN,iL,iT,iE,iA,iM,iS,iG,iB,iN,iZ,h,d1,d2,Zq]⟩) (⟨#[]⟩,false) (by show 0<=_; omega) (hs.length+1) (Nat.le_refl _)
 rw[hb0] at hr
 unfold Xcb at hj
 simp only[go_sem,reduceIte,↓reduceIte,reduceCtorEq,nA,nS,nM,nB,nE,nL,nT,nN,iL,iT,iE,iA,iM,iS,iG,iB,iN,iZ,h,hr,Xcb,hj]) (rfl)
def XiI{α β:Type}(p:α->Bool)(f:α->β):∀(xs:List α) (acc:List β),xs.foldl (λs x=>if p x=true then s++[f x] else s) acc=acc++(xs.filter p).map f
 | [],acc=>by simp
 | x :: xs,acc=>by
  rw[List.foldl_cons,XiI p f xs,List.filter_cons]
  cases p x<;>simp
def Xbb(hs:List Xj)(n:ByteArray):ByteArray:=((ZT hs n).head?).getD ⟨#[]⟩
def Xcc(hs:List Xj)(n:ByteArray):U9 hs n=decide (0<((ZT hs n).length:Int)):=(Xee hs n).symm
def Xbc{hs:List Xj}{n:ByteArray}(h:ZT hs n=[]):Xbb hs n=⟨#[]⟩/\U9 hs n=false:=by
 rw[Xcc]; unfold Xbb; rw[h]; exact⟨rfl,rfl⟩
def Xag{hs:List Xj}{n v:ByteArray}{r:List ByteArray}(h:ZT hs n=v :: r):Xbb hs n=v/\U9 hs n=true:=by
 rw[Xcc]; unfold Xbb; rw[h]; exact⟨rfl,by simp⟩
def Xcd(o:Out):Bool:=(o.Kind !=1&&o.Kind !=2)||!QQ o.Id||(o.Kind==1&&!within o.Response.Status 0 999)
def Yu(o:Out):ByteArray:=⟨#[97,110,115,119,101,114,32]⟩++YZ o.Id++⟨#[32]⟩++o.Source++⟨#[32]⟩++YZ o.Response.Status++⟨#[32]⟩++YZ (o.Response.Body.length:Int)
def Yv(o:Out):ByteArray:=if U9 o.Request.Headers ⟨#[73,102,45,78,111,110,101,45,77,97,116,99,104]⟩=true then⟨#[102,101,116,99,104,32]⟩++YZ o.Id++⟨#[32]⟩++o.Request.Host++o.Request.Path++⟨#[32,105,102]⟩ else⟨#[102,101,116,99,104,32]⟩++YZ o.Id++⟨#[32]⟩++o.Request.Host++o.Request.Path
def X4(o:Out):Xt:=if Xcd o=true then⟨3,⟨#[]⟩⟩ else if(o.Kind==1)=true then⟨0,Yu o⟩ else⟨0,Yv o⟩
def XdS{n m:ByteArray}(h:QG n=QG m)(hs:List Xj):U9 hs n=U9 hs m:=by unfold U9; rw[h]
def Xbd{n:Int}(h0:0<=n)(h:n<=1000000000000000000):(YZ n).size<=1048576:=by
 have:=Xfb n h0 19 (by rw[show(10:Int)^(19+1)=100000000000000000000 from by decide]; omega)
 omega
@[go_sem] def Xnd(hs:List Xj)(name:ByteArray)(h0:(hs.length<=1048576/\smL XW hs/\okN name=true)):s62.F [.sl .ro 2 (hs.map (Xc .ro)),.s name]=some (.tup [.s (Xcb hs name).1,.b (U9 hs name)],[.u,.u]):=XI (hs.length+1) rfl rfl (λcx h=>by
 have hl:=h0.1
 have hx:hs.length<=9223372036854775806:=by omega
 have hj:=Xff hs name
 have hb0:=YW Tryd.f62 0 _ _ rfl rfl
 obtain⟨hI,hr⟩:=Zf (cx:=cx) (blk:=0) (body:=UL Tryd.f62 0) hs (λk (s:ByteArray×Bool)=>⟨E [(0,.sl .ro 2 (hs.map (Xc .ro))),(1,.s name),(6,.s s.1),(7,.b s.2),(8,.i .i64 k)],B []⟩) (λs=>⟨E [(6,.s s.1),(7,.b s.2)],B []⟩) (λx s=>Zq name s x) (λk s=>s.1.size<=k*1048578)
   (λs hI G=>by simp only[go_sem,reduceIte,↓reduceIte,reduceCtorEq,nA,nS,nM,nB,nE,nL,nT,nN,iL,iT,iE,iA,iM,iS,iG,iB,iN,iZ,h,Int.lt_irrefl,hb0,h0.1]) (λk hk s hI=>by
    have h1:((k:Int)<(hs.length:Int)):=Int.ofNat_lt.2 hk
    obtain⟨u1,u2⟩:=h0.2.1.2 _ (List.getElem_mem hk)
    have u2':hs[k].Value.size<=1048576:=u2
    have hJ:=Q3 (n:=name) hI u2'
    have hl:=h0.1
    have e0:(⟨#[44,32]⟩:ByteArray).size=2:=rfl
    have e1:s.1.size+2<=9223372036854775807:=by omega
    have e1':s.1.size+(⟨#[44,32]⟩:ByteArray).size<=9223372036854775807:=e1
    have e2:s.1.size+hs[k].Value.size<=9223372036854775807:=by omega
    have e3:s.1.size+2+hs[k].Value.size<=9223372036854775807:=by omega
    have n1:hs[k].Name.size<=9223372036854775806/\name.size<=9223372036854775806:=⟨by have:hs[k].Name.size<=1048576:=u1; omega,of_decide_eq_true h0.2.2⟩
    cases d1:eqv (QG hs[k].Name) (QG name)<;>cases d2:s.2
    all_goals exact⟨hJ,_,λG=>by simp only[go_sem,reduceIte,↓reduceIte,reduceCtorEq,nA,nS,nM,nB,nE,nL,nT,nN,iL,iT,iE,iA,iM,iS,iG,iB,iN,iZ,h,e0,e1,e2,e3,Zp (Xc .ro) hs k hk,n1,d1,d2,ByteArray.size_append,h1,YN _ _ hk,X7 (show k<9223372036854775807 by omega),hb0]<;>with_reducible rfl,by simp only[go_sem,reduceIte,↓reduceIte,reduceCtorEq,nA,nS,nM,nB,nE,nL,nT,nN,iL,iT,iE,iA,iM,iS,iG,iB,iN,iZ,h,d1,d2,Zq]⟩) (⟨#[]⟩,false) (by show 0<=_; omega) (hs.length+1) (Nat.le_refl _)
 rw[hb0] at hr
 unfold Xcb at hj
 simp only[go_sem,reduceIte,↓reduceIte,reduceCtorEq,nA,nS,nM,nB,nE,nL,nT,nN,iL,iT,iE,iA,iM,iS,iG,iB,iN,iZ,h,hr,Xcb,hj]) (rfl)
def s32:SP Tryd.prog:=mkS tyA 32 Tryd.f32 [s59,s60,s61,s62] {md:=[.ro 1],rg:=[(0,[0],[]),(1,[0,12],[]),(2,[2,3],[]),(3,[0,16],[]),(4,[0,16,17],[]),(5,[0,25],[]),(6,[2,3],[]),(7,[2,3],[]),(8,[0,55],[]),(9,[0,4],[]),(10,[4,6],[]),(11,[4,85],[]),(12,[4],[]),(13,[2,3],[]),(14,[2,3],[])],rets:=some ([2,3],[]),al:=[76],plan:=[(7,(.take 0 (.take 1 (.take 2 (.take 3 (.take 7 (.take 8 (.take 9 (.take 10 (.take 13 (.take 14 (.take 15 (.take 16 (.take 17 (.take 21 (.take 22 (.take 23 (.take 24 (.take 25 (.take 26 (.one 4 (.take 5 (.take 6 (.take 11 (.take 12 (.one 18 (.take 19 (.take 20 (.one 27 (.take 28 (.one 29 (.one 30 .done)))))))))))))))))))))))))))))))),(9,(.take 0 (.take 1 (.take 2 (.take 3 (.take 7 (.take 8 (.take 9 (.take 10 (.take 11 (.take 13 (.take 14 (.take 15 (.take 16 (.take 17 (.one 4 (.take 5 (.take 6 (.take 12 (.take 18 (.one 19 .done)))))))))))))))))))))]} Tryd.func32 (by kernel_rfl)
@[go_sem] def d32:s32.g=32/\s32.fs=⟨[.ro 1],s32.F,false⟩:=⟨nr rfl,nr rfl⟩
@[go_sem] def e32(y17 oId:Int)(y18:ByteArray)(y19:Int)(y20:List Xj)(y21:List UInt8)(y22 y23 y24:ByteArray)(oRequestHeaders:List Xj)(h0:Xe3 (Out.mk y17 oId y18 (Response.mk y19 y20 y21) (Request.mk y22 y23 y24 oRequestHeaders))):s32.F [.pr [.i .i64 y17,.i .i64 oId,.s y18,.i .i64 y19,.sl .ro 2 (y20.map (Xc .ro)),.sl .ro 1 (y21.map XH),.s y22,.s y23,.s y24,.sl .ro 2 (oRequestHeaders.map (Xc .ro))]]=some (.tup [.s (X4 (Out.mk y17 oId y18 (Response.mk y19 y20 y21) (Request.mk y22 y23 y24 oRequestHeaders))).Text,.b (!Xcd (Out.mk y17 oId y18 (Response.mk y19 y20 y21) (Request.mk y22 y23 y24 oRequestHeaders)))],[.u]):=XI (0) rfl rfl (λcx h=>by
 have hS:y18.size<=1048576:=h0.2.2.1
 have hH:y23.size<=1048576:=h0.2.2.2.2.2.1
 have hP:y24.size<=1048576:=h0.2.2.2.2.2.2.1
 have hR:smL XW oRequestHeaders:=h0.2.2.2.2.2.2.2
 have hB:y21.length<=1048576:=h0.2.2.2.1.2.2.1
 have l1:(⟨#[97,110,115,119,101,114,32]⟩:ByteArray).size=7:=rfl
 have l2:(⟨#[32]⟩:ByteArray).size=1:=rfl
 have l3:(⟨#[102,101,116,99,104,32]⟩:ByteArray).size=6:=rfl
 have l4:(⟨#[32,105,102]⟩:ByteArray).size=3:=rfl
 have b1:oRequestHeaders.length<=1048576/\smL XW oRequestHeaders/\okN ⟨#[73,102,45,78,111,110,101,45,77,97,116,99,104]⟩=true:=⟨hR.1,hR,by decide⟩
 have b2:oRequestHeaders.length<=1048576/\smL XW oRequestHeaders/\okN ⟨#[105,102,45,110,111,110,101,45,109,97,116,99,104]⟩=true:=⟨hR.1,hR,by decide⟩
 have lo:U9 oRequestHeaders ⟨#[105,102,45,110,111,110,101,45,109,97,116,99,104]⟩=U9 oRequestHeaders ⟨#[73,102,45,78,111,110,101,45,77,97,116,99,104]⟩:=XdS (by rfl) _
 have hob:Xcd (Out.mk y17 oId y18 (Response.mk y19 y20 y21) (Request.mk y22 y23 y24 oRequestHeaders))=((y17 !=1&&y17 !=2)||!QQ oId||(y17==1&&!within y19 0 999)):=rfl
 rcases Bool.eq_false_or_eq_true (QQ oId) with t1 | t1
 rotate_left
 ·by_cases k1:y17=1
  ·have k1e:(y17==1)=true:=by simpa using k1
   have k1n:(y17 !=1)=false:=by simpa using k1
   simp only[go_sem,reduceIte,↓reduceIte,reduceCtorEq,nA,nS,nM,nB,nE,nL,nT,nN,iL,iT,iE,iA,iM,iS,iG,iB,iN,iZ,h,t1,k1e,k1n,hob,X4,Yu,Yv]
  have k1e:(y17==1)=false:=by simpa using k1
  have k1n:(y17 !=1)=true:=by simpa using k1
  by_cases k2:y17=2
  ·have k2e:(y17==2)=true:=by simpa using k2
   have k2n:(y17 !=2)=false:=by simpa using k2
   simp only[go_sem,reduceIte,↓reduceIte,reduceCtorEq,nA,nS,nM,nB,nE,nL,nT,nN,iL,iT,iE,iA,iM,iS,iG,iB,iN,iZ,h,t1,k1e,k1n,k2e,k2n,hob,X4,Yu,Yv]
  ·have k2e:(y17==2)=false:=by simpa using k2
   have k2n:(y17 !=2)=true:=by simpa using k2
   simp only[go_sem,reduceIte,↓reduceIte,reduceCtorEq,nA,nS,nM,nB,nE,nL,nT,nN,iL,iT,iE,iA,iM,iS,iG,iB,iN,iZ,h,t1,k1e,k1n,k2e,k2n,hob,X4,Yu,Yv]
 have i1:=XdP.1 t1
 have i2:0<=oId/\oId<=1000000000000000000:=by omega
 have i3:-9223372036854775808<=oId/\oId<=9223372036854775807:=by omega
 have z1:=Xbd i2.1 i2.2
 by_cases k1:y17=1
 ·have k1e:(y17==1)=true:=by simpa using k1
  have k1n:(y17 !=1)=false:=by simpa using k1
  rcases Bool.eq_false_or_eq_true (within y19 0 999) with w1 | w1
  rotate_left
  ·simp only[go_sem,reduceIte,↓reduceIte,reduceCtorEq,nA,nS,nM,nB,nE,nL,nT,nN,iL,iT,iE,iA,iM,iS,iG,iB,iN,iZ,h,t1,k1e,k1n,w1,hob,X4,Yu,Yv]
  have j1:=XbH.1 w1
  have j2:0<=y19/\y19<=1000000000000000000:=by omega
  have j3:-9223372036854775808<=y19/\y19<=9223372036854775807:=by omega
  have z2:=Xbd j2.1 j2.2
  have m2:(0:Int)<=(y21.length:Int)/\(y21.length:Int)<=1000000000000000000:=by omega
  have m3:-9223372036854775808<=(y21.length:Int)/\(y21.length:Int)<=9223372036854775807:=by omega
  have z3:=Xbd m2.1 m2.2
  have p1:7+(YZ oId).size<=9223372036854775807:=by omega
  have p2:7+(YZ oId).size+1<=9223372036854775807:=by omega
  have p3:7+(YZ oId).size+1+y18.size<=9223372036854775807:=by omega
  have p4:7+(YZ oId).size+1+y18.size+1<=9223372036854775807:=by omega
  have p5:7+(YZ oId).size+1+y18.size+1+(YZ y19).size<=9223372036854775807:=by omega
  have p6:7+(YZ oId).size+1+y18.size+1+(YZ y19).size+1<=9223372036854775807:=by omega
  have p7:7+(YZ oId).size+1+y18.size+1+(YZ y19).size+1+(YZ (y21.length:Int)).size<=9223372036854775807:=by omega
  simp only[go_sem,reduceIte,↓reduceIte,reduceCtorEq,nA,nS,nM,nB,nE,nL,nT,nN,iL,iT,iE,iA,iM,iS,iG,iB,iN,iZ,h,t1,k1e,k1n,w1,hob,i2,i3,j2,j3,m2,m3,p1,p2,p3,p4,p5,p6,p7,l1,l2,l3,l4,ByteArray.size_append,X4,Yu,Yv]
 have k1e:(y17==1)=false:=by simpa using k1
 have k1n:(y17 !=1)=true:=by simpa using k1
 by_cases k2:y17=2
 rotate_left
 ·have k2e:(y17==2)=false:=by simpa using k2
  have k2n:(y17 !=2)=true:=by simpa using k2
  simp only[go_sem,reduceIte,↓reduceIte,reduceCtorEq,nA,nS,nM,nB,nE,nL,nT,nN,iL,iT,iE,iA,iM,iS,iG,iB,iN,iZ,h,t1,k1e,k1n,k2e,k2n,hob,X4,Yu,Yv]
 have k2e:(y17==2)=true:=by simpa using k2
 have k2n:(y17 !=2)=false:=by simpa using k2
 have q1:6+(YZ oId).size<=9223372036854775807:=by omega
 have q2:6+(YZ oId).size+1<=9223372036854775807:=by omega
 have q3:6+(YZ oId).size+1+y23.size<=9223372036854775807:=by omega
 have q4:6+(YZ oId).size+1+y23.size+y24.size<=9223372036854775807:=by omega
 have q5:6+(YZ oId).size+1+y23.size+y24.size+3<=9223372036854775807:=by omega
 rcases Bool.eq_false_or_eq_true (U9 oRequestHeaders ⟨#[73,102,45,78,111,110,101,45,77,97,116,99,104]⟩) with v1 | v1
 ·simp only[go_sem,reduceIte,↓reduceIte,reduceCtorEq,nA,nS,nM,nB,nE,nL,nT,nN,iL,iT,iE,iA,iM,iS,iG,iB,iN,iZ,h,t1,k1e,k1n,k2e,k2n,hob,i2,i3,b1,b2,lo,v1,q1,q2,q3,q4,q5,l1,l2,l3,l4,ByteArray.size_append,X4,Yu,Yv]
 ·simp only[go_sem,reduceIte,↓reduceIte,reduceCtorEq,nA,nS,nM,nB,nE,nL,nT,nN,iL,iT,iE,iA,iM,iS,iG,iB,iN,iZ,h,t1,k1e,k1n,k2e,k2n,hob,i2,i3,b1,b2,lo,v1,q1,q2,q3,q4,q5,l1,l2,l3,l4,ByteArray.size_append,X4,Yu,Yv]) (rfl)
end
end Go.Vm.A
