/- Functions of the program, walked by the evaluator. -/
import Derived.Test.YtpoannkeaajngaaGreatDoorWb
import Derived.Test.YtpoannkeaajngaaGreatDoorWa
import Derived.Test.YtpoannkeaajngaaGreatDoorFe
import Derived.Test.YtpoannkeaajngaaGreatDoorFf
import Derived.Test.YtpoannkeaajngaaGreatDoorFi
set_option linter.unusedVariables false
set_option linter.unusedSimpArgs false
set_option autoImplicit false
set_option maxRecDepth 100000
set_option maxHeartbeats 4000000
set_option linter.defProp false
namespace Go.Vm.A
open Go.Proofs
open Nat renaming reduceAdd -> nA, reduceSub -> nS, reduceMul -> nM, reduceBEq -> nB, reduceEqDiff -> nE, reduceLeDiff -> nL, reduceLT -> nT, reduceBneDiff -> nN
open Int renaming reduceLE -> iL, reduceLT -> iT, reduceEq -> iE, reduceAdd -> iA, reduceMul -> iM, reduceSub -> iS, reduceNeg -> iG, reduceBEq -> iB, reduceBNe -> iN, reduceToNat -> iZ
noncomputable section
def Xl6:SP Tryz.prog:=mkS tyA 129 Tryz.f129 [XoF] {md:=[.ro 1,.ro 1],rets:=some ([4],[])} Tryz.func129 (by kernel_rfl)
@[go_sem] def XFo:Xl6.g=129/\Xl6.fs=⟨[.ro 1,.ro 1],Xl6.F,false⟩:=⟨nr rfl,nr rfl⟩
@[go_sem] def XFp(a b:ByteArray)(h0:(a.size<=9223372036854775806/\b.size<=9223372036854775806)):Xl6.F [.s a,.s b]=some (.b (eqv (Yc a) (Yc b)),[.u,.u]):=Xm (0) rfl rfl (λcx h=>by
 simp only[go_sem,reduceIte,↓reduceIte,reduceCtorEq,nA,nS,nM,nB,nE,nL,nT,nN,iL,iT,iE,iA,iM,iS,iG,iB,iN,iZ,h,h0.1,h0.2,Xt]) (rfl)
def s79:SP Tryz.prog:=mkS tyA 79 Tryz.f79 [Xl6] {md:=[.ro 1,.ro 1],rg:=[(0,[0,1],[]),(1,[0,1,6],[]),(2,[0,1,6,7],[]),(3,[0,1,6,7,8],[]),(4,[0,1,6,7,8,12],[]),(5,[0,1,6,7,8],[]),(6,[0,1,6,7,8,22],[]),(7,[0,1,6,8,23],[]),(8,[0,1,6,8],[]),(9,[0,1,6,8],[]),(10,[0,1,6,7,8],[]),(11,[4,5],[])],lv:=[(0,[0,1,6,7,8],[])],out:=[(0,[6,7],[])],rets:=some ([4,5],[])} Tryz.func79 (by kernel_rfl)
@[go_sem] def d79:s79.g=79/\s79.fs=⟨[.ro 1,.ro 1],s79.F,false⟩:=⟨nr rfl,nr rfl⟩
@[go_sem] def e79(hs:List Xd)(name:ByteArray)(h0:(hs.length<=20/\smL Xg hs/\okN name=true)):s79.F [.sl .ro 2 (hs.map (Xb .ro)),.s name]=some (.tup [.s (XhJ hs name).1,.b (UR hs name)],[.u,.u]):=Xm (hs.length+1) rfl rfl (λcx h=>by
 have hl:=h0.1
 have hx:hs.length<=9223372036854775806:=by omega
 have hj:=Xl3 hs name
 have hb0:=XR Tryz.f79 0 _ _ rfl rfl
 obtain⟨hI,hr⟩:=YK (cx:=cx) (blk:=0) (body:=Zt Tryz.f79 0) hs (λk (s:ByteArray×Bool)=>⟨E [(0,.sl .ro 2 (hs.map (Xb .ro))),(1,.s name),(6,.s s.1),(7,.b s.2),(8,.i .i64 k)],B []⟩) (λs=>⟨E [(6,.s s.1),(7,.b s.2)],B []⟩) (λx s=>Q8 name s x) (λk s=>s.1.size<=k*1048578)
   (λs hI G=>by simp only[go_sem,reduceIte,↓reduceIte,reduceCtorEq,nA,nS,nM,nB,nE,nL,nT,nN,iL,iT,iE,iA,iM,iS,iG,iB,iN,iZ,h,Int.lt_irrefl,hb0,h0.1]) (λk hk s hI=>by
    have h1:((k:Int)<(hs.length:Int)):=Int.ofNat_lt.2 hk
    obtain⟨u1,u2⟩:=h0.2.1.2 _ (List.getElem_mem hk)
    have u2':hs[k].Value.size<=1048576:=u2
    have hJ:=Xdq (n:=name) hI u2'
    have hl:=h0.1
    have e0:(⟨#[44,32]⟩:ByteArray).size=2:=rfl
    have e1:s.1.size+2<=9223372036854775807:=by omega
    have e1':s.1.size+(⟨#[44,32]⟩:ByteArray).size<=9223372036854775807:=e1
    have e2:s.1.size+hs[k].Value.size<=9223372036854775807:=by omega
    have e3:s.1.size+2+hs[k].Value.size<=9223372036854775807:=by omega
    have n1:hs[k].Name.size<=9223372036854775806/\name.size<=9223372036854775806:=⟨by have:hs[k].Name.size<=1048576:=u1; omega,of_decide_eq_true h0.2.2⟩
    cases d1:eqv (Yc hs[k].Name) (Yc name)<;>cases d2:s.2
    all_goals exact⟨hJ,_,λG=>by simp only[go_sem,reduceIte,↓reduceIte,reduceCtorEq,nA,nS,nM,nB,nE,nL,nT,nN,iL,iT,iE,iA,iM,iS,iG,iB,iN,iZ,h,e0,e1,e2,e3,QJ (Xb .ro) hs k hk,n1,d1,d2,ByteArray.size_append,h1,Yb _ _ hk,XD (show k<9223372036854775807 by omega),hb0]<;>with_reducible rfl,by simp only[go_sem,reduceIte,↓reduceIte,reduceCtorEq,nA,nS,nM,nB,nE,nL,nT,nN,iL,iT,iE,iA,iM,iS,iG,iB,iN,iZ,h,d1,d2,Q8]⟩) (⟨#[]⟩,false) (by show 0<=_; omega) (hs.length+1) (Nat.le_refl _)
 rw[hb0] at hr
 unfold XhJ at hj
 simp only[go_sem,reduceIte,↓reduceIte,reduceCtorEq,nA,nS,nM,nB,nE,nL,nT,nN,iL,iT,iE,iA,iM,iS,iG,iB,iN,iZ,h,hr,XhJ,hj]) (rfl)
def s38:SP Tryz.prog:=mkS tyA 38 Tryz.f38 [s42,s77,s78,s79] {md:=[.ro 1],rg:=[(0,[1],[1]),(1,[1,25],[1]),(2,[2],[]),(3,[1,3],[1]),(4,[1,3,30],[1]),(5,[2],[]),(6,[1,5],[1]),(7,[1,38],[1]),(8,[2],[]),(9,[42],[]),(10,[2],[]),(11,[2],[])],rets:=some ([2],[]),al:=[32]} Tryz.func38 (by kernel_rfl)
@[go_sem] def d38:s38.g=38/\s38.fs=⟨[.ro 1],s38.F,false⟩:=⟨nr rfl,nr rfl⟩
@[go_sem] def e38(q0 q1 q2:ByteArray)(q3:List Xd)(h0:smL Xg (Request.mk q0 q1 q2 q3).Headers):s38.F [.agg [.s q0,.s q1,.s q2,.sl .ro 2 (q3.map (Xb .ro))]]=some (.i .i64 (Xe (Request.mk q0 q1 q2 q3)),[.u]):=Xm (0) rfl rfl (λcx h=>by
 have hm:Yy q0=(eqv q0 ⟨#[71,69,84]⟩||eqv q0 ⟨#[72,69,65,68]⟩):=rfl
 have key:∀m:Bool,Yy q0=m->(Yy q0&&Qr q1&&Qs q2)=(m&&Qr q1&&Qs q2):=λm h=>by rw[h]
 have hn1:okN ⟨#[72,111,115,116]⟩=true:=by decide
 have hn2:okN ⟨#[104,111,115,116]⟩=true:=by decide
 rcases(show(Yy q0=false/\eqv q0 ⟨#[71,69,84]⟩=false/\eqv q0 ⟨#[72,69,65,68]⟩=false)\/(Yy q0=true/\eqv q0 ⟨#[71,69,84]⟩=true)\/(Yy q0=true/\eqv q0 ⟨#[71,69,84]⟩=false/\eqv q0 ⟨#[72,69,65,68]⟩=true) from by
  rw[hm]; cases eqv q0 ⟨#[71,69,84]⟩<;>cases eqv q0 ⟨#[72,69,65,68]⟩<;>simp) with⟨m0,m1,m2⟩ | ⟨m0,m1⟩ | ⟨m0,m1,m2⟩
 ·simp only[go_sem,reduceIte,↓reduceIte,reduceCtorEq,nA,nS,nM,nB,nE,nL,nT,nN,iL,iT,iE,iA,iM,iS,iG,iB,iN,iZ,h,m0,m1,m2,Xq,Xt,Xe]
 ·cases h2:Qr q1
  ·simp only[go_sem,reduceIte,↓reduceIte,reduceCtorEq,nA,nS,nM,nB,nE,nL,nT,nN,iL,iT,iE,iA,iM,iS,iG,iB,iN,iZ,h,h2,m0,m1,Xq,Xt,Xe]
  cases h3:Qs q2
  ·simp only[go_sem,reduceIte,↓reduceIte,reduceCtorEq,nA,nS,nM,nB,nE,nL,nT,nN,iL,iT,iE,iA,iM,iS,iG,iB,iN,iZ,h,h2,h3,m0,m1,Xq,Xt,Xe]
  by_cases z:Xa q3=0
  rotate_left
  ·have z':(Xa q3 !=0)=true:=by simpa using z
   simp only[go_sem,reduceIte,↓reduceIte,reduceCtorEq,nA,nS,nM,nB,nE,nL,nT,nN,iL,iT,iE,iA,iM,iS,iG,iB,iN,iZ,h,h2,h3,z',m0,m1,Xq,Xt,Xe]
  have z':(Xa q3 !=0)=false:=by simpa using z
  have h4:q3.length<=20/\smL Xg q3/\okN ⟨#[72,111,115,116]⟩=true:=⟨XC z,h0,hn1⟩
  have h5:q3.length<=20/\smL Xg q3/\okN ⟨#[104,111,115,116]⟩=true:=⟨XC z,h0,hn2⟩
  have h6:=QT q3 ⟨#[72,111,115,116]⟩
  have h7:=XbE q3
  cases h8:UR q3 ⟨#[72,111,115,116]⟩
  ·by_cases h9:20<=(q3.length:Int)
   ·have h10:((q3.length:Int)==20)=true:=by have:=h4.1; simp; omega
    simp only[go_sem,reduceIte,↓reduceIte,reduceCtorEq,nA,nS,nM,nB,nE,nL,nT,nN,iL,iT,iE,iA,iM,iS,iG,iB,iN,iZ,h,h2,h3,z,h4,h5,h6,h7,h8,h9,h10,m0,m1,Xq,Xt,Xe]
   ·have h10:((q3.length:Int)==20)=false:=by have:=h4.1; simp; omega
    simp only[go_sem,reduceIte,↓reduceIte,reduceCtorEq,nA,nS,nM,nB,nE,nL,nT,nN,iL,iT,iE,iA,iM,iS,iG,iB,iN,iZ,h,h2,h3,z,h4,h5,h6,h7,h8,h9,h10,m0,m1,Xq,Xt,Xe]
  ·simp only[go_sem,reduceIte,↓reduceIte,reduceCtorEq,nA,nS,nM,nB,nE,nL,nT,nN,iL,iT,iE,iA,iM,iS,iG,iB,iN,iZ,h,h2,h3,z,h4,h5,h6,h7,h8,m0,m1,Xq,Xt,Xe]
 ·cases h2:Qr q1
  ·simp only[go_sem,reduceIte,↓reduceIte,reduceCtorEq,nA,nS,nM,nB,nE,nL,nT,nN,iL,iT,iE,iA,iM,iS,iG,iB,iN,iZ,h,h2,m0,m1,m2,Xq,Xt,Xe]
  cases h3:Qs q2
  ·simp only[go_sem,reduceIte,↓reduceIte,reduceCtorEq,nA,nS,nM,nB,nE,nL,nT,nN,iL,iT,iE,iA,iM,iS,iG,iB,iN,iZ,h,h2,h3,m0,m1,m2,Xq,Xt,Xe]
  by_cases z:Xa q3=0
  rotate_left
  ·have z':(Xa q3 !=0)=true:=by simpa using z
   simp only[go_sem,reduceIte,↓reduceIte,reduceCtorEq,nA,nS,nM,nB,nE,nL,nT,nN,iL,iT,iE,iA,iM,iS,iG,iB,iN,iZ,h,h2,h3,z',m0,m1,m2,Xq,Xt,Xe]
  have z':(Xa q3 !=0)=false:=by simpa using z
  have h4:q3.length<=20/\smL Xg q3/\okN ⟨#[72,111,115,116]⟩=true:=⟨XC z,h0,hn1⟩
  have h5:q3.length<=20/\smL Xg q3/\okN ⟨#[104,111,115,116]⟩=true:=⟨XC z,h0,hn2⟩
  have h6:=QT q3 ⟨#[72,111,115,116]⟩
  have h7:=XbE q3
  cases h8:UR q3 ⟨#[72,111,115,116]⟩
  ·by_cases h9:20<=(q3.length:Int)
   ·have h10:((q3.length:Int)==20)=true:=by have:=h4.1; simp; omega
    simp only[go_sem,reduceIte,↓reduceIte,reduceCtorEq,nA,nS,nM,nB,nE,nL,nT,nN,iL,iT,iE,iA,iM,iS,iG,iB,iN,iZ,h,h2,h3,z,h4,h5,h6,h7,h8,h9,h10,m0,m1,m2,Xq,Xt,Xe]
   ·have h10:((q3.length:Int)==20)=false:=by have:=h4.1; simp; omega
    simp only[go_sem,reduceIte,↓reduceIte,reduceCtorEq,nA,nS,nM,nB,nE,nL,nT,nN,iL,iT,iE,iA,iM,iS,iG,iB,iN,iZ,h,h2,h3,z,h4,h5,h6,h7,h8,h9,h10,m0,m1,m2,Xq,Xt,Xe]
  ·simp only[go_sem,reduceIte,↓reduceIte,reduceCtorEq,nA,nS,nM,nB,nE,nL,nT,nN,iL,iT,iE,iA,iM,iS,iG,iB,iN,iZ,h,h2,h3,z,h4,h5,h6,h7,h8,m0,m1,m2,Xq,Xt,Xe]) (rfl)
def s41:SP Tryz.prog:=mkS tyA 41 Tryz.f41 [] {md:=[.ro 1,.ro 1,.ro 1],rets:=some ([6],[])} Tryz.func41 (by kernel_rfl)
@[go_sem] def d41:s41.g=41/\s41.fs=⟨[.ro 1,.ro 1,.ro 1],s41.F,false⟩:=⟨nr rfl,nr rfl⟩
@[go_sem] def e41(a b c:Int):s41.F [.i .i64 a,.i .i64 b,.i .i64 c]=some (.b (within a b c),[.u,.u,.u]):=Xm (0) rfl rfl (λcx h=>by
 simp only[go_sem,reduceIte,↓reduceIte,reduceCtorEq,nA,nS,nM,nB,nE,nL,nT,nN,iL,iT,iE,iA,iM,iS,iG,iB,iN,iZ,h,within]
 by_cases h:b<=a<;>simp[h]) (rfl)
def s96:SP Tryz.prog:=mkS tyA 96 Tryz.f96 [s41] {md:=[.ro 1],rets:=some ([2],[])} Tryz.func96 (by kernel_rfl)
@[go_sem] def d96:s96.g=96/\s96.fs=⟨[.ro 1],s96.F,false⟩:=⟨nr rfl,nr rfl⟩
@[go_sem] def e96(a:Int):s96.F [.i .i64 a]=some (.b (Z7 a),[.u]):=Xm (0) rfl rfl (λcx h=>by
 simp only[go_sem,reduceIte,↓reduceIte,reduceCtorEq,nA,nS,nM,nB,nE,nL,nT,nN,iL,iT,iE,iA,iM,iS,iG,iB,iN,iZ,h,Z7]) (rfl)
def s80:SP Tryz.prog:=mkS tyA 80 Tryz.f80 [s96] {md:=[.ro 1],rg:=[(0,[1],[1]),(1,[30],[]),(2,[2],[]),(3,[2],[])],rets:=some ([2],[])} Tryz.func80 (by kernel_rfl)
@[go_sem] def d80:s80.g=80/\s80.fs=⟨[.ro 1],s80.F,false⟩:=⟨nr rfl,nr rfl⟩
@[go_sem] def e80(mAt q4 q5 q6 q7:Int)(q8 q9:Bool):s80.F [.agg [.i .i64 mAt,.i .i64 q4,.i .i64 q5,.i .i64 q6,.i .i64 q7,.b q8,.b q9]]=some (.i .i64 (QV (Meta.mk mAt q4 q5 q6 q7 q8 q9)),[.u]):=Xm (0) rfl rfl (λcx h=>by
 have hu:QV (Meta.mk mAt q4 q5 q6 q7 q8 q9)=if(!Z7 mAt||(!Z7 q4||(!Z7 q5||(!Z7 q6||(!Z7 q7||false)))))=true then 3 else 0:=rfl
 cases cmAt:Z7 mAt
 ·simp only[go_sem,reduceIte,↓reduceIte,reduceCtorEq,nA,nS,nM,nB,nE,nL,nT,nN,iL,iT,iE,iA,iM,iS,iG,iB,iN,iZ,h,hu,cmAt]
 cases cmAge:Z7 q4
 ·simp only[go_sem,reduceIte,↓reduceIte,reduceCtorEq,nA,nS,nM,nB,nE,nL,nT,nN,iL,iT,iE,iA,iM,iS,iG,iB,iN,iZ,h,hu,cmAt,cmAge]
 cases cmLife:Z7 q5
 ·simp only[go_sem,reduceIte,↓reduceIte,reduceCtorEq,nA,nS,nM,nB,nE,nL,nT,nN,iL,iT,iE,iA,iM,iS,iG,iB,iN,iZ,h,hu,cmAt,cmAge,cmLife]
 cases cmSwr:Z7 q6
 ·simp only[go_sem,reduceIte,↓reduceIte,reduceCtorEq,nA,nS,nM,nB,nE,nL,nT,nN,iL,iT,iE,iA,iM,iS,iG,iB,iN,iZ,h,hu,cmAt,cmAge,cmLife,cmSwr]
 cases cmSie:Z7 q7
 ·simp only[go_sem,reduceIte,↓reduceIte,reduceCtorEq,nA,nS,nM,nB,nE,nL,nT,nN,iL,iT,iE,iA,iM,iS,iG,iB,iN,iZ,h,hu,cmAt,cmAge,cmLife,cmSwr,cmSie]
 simp only[go_sem,reduceIte,↓reduceIte,reduceCtorEq,nA,nS,nM,nB,nE,nL,nT,nN,iL,iT,iE,iA,iM,iS,iG,iB,iN,iZ,h,hu,cmAt,cmAge,cmLife,cmSwr,cmSie]) (rfl)
def s39:SP Tryz.prog:=mkS tyA 39 Tryz.f39 [s41,s42,s80] {md:=[.ro 1],rg:=[(0,[1],[1]),(1,[1,13],[1]),(2,[2],[]),(3,[1,32],[1]),(4,[2],[]),(5,[1,3],[1]),(6,[1,3,37],[1]),(7,[2],[]),(8,[1,48],[1]),(9,[2],[]),(10,[2],[])],rets:=some ([2],[])} Tryz.func39 (by kernel_rfl)
@[go_sem] def d39:s39.g=39/\s39.fs=⟨[.ro 1],s39.F,false⟩:=⟨nr rfl,nr rfl⟩
@[go_sem] def e39(q10:ByteArray)(q11:Int)(q12:List Xd)(q13:List UInt8)(q14 q15 q16 q17 q18:Int)(q19 q20:Bool)(q21:List ByteArray)(q22:Int)(h0:smL Xg (X2.mk q10 q11 q12 q13 (Meta.mk q14 q15 q16 q17 q18 q19 q20) q21 q22).Headers):s39.F [.agg [.s q10,.i .i64 q11,.sl .ro 2 (q12.map (Xb .ro)),.sl .ro 1 (q13.map Xn),.i .i64 q14,.i .i64 q15,.i .i64 q16,.i .i64 q17,.i .i64 q18,.b q19,.b q20,.sl .ro 1 (q21.map Xbi),.i .i64 q22]]=some (.i .i64 (Xf (X2.mk q10 q11 q12 q13 (Meta.mk q14 q15 q16 q17 q18 q19 q20) q21 q22)),[.u]):=Xm (0) rfl rfl (λcx h=>by
 have hku:Xd2 q10=(decide (1<=(q10.size:Int))&&decide ((q10.size:Int)<=500)):=rfl
 by_cases k1:(q10.size:Int)<1
 ·have hk:Xd2 q10=false:=by rw[hku]; simp; omega
  simp only[go_sem,reduceIte,↓reduceIte,reduceCtorEq,nA,nS,nM,nB,nE,nL,nT,nN,iL,iT,iE,iA,iM,iS,iG,iB,iN,iZ,h,k1,hk,Xf]
 by_cases k2:500<(q10.size:Int)
 ·have hk:Xd2 q10=false:=by rw[hku]; simp; omega
  simp only[go_sem,reduceIte,↓reduceIte,reduceCtorEq,nA,nS,nM,nB,nE,nL,nT,nN,iL,iT,iE,iA,iM,iS,iG,iB,iN,iZ,h,k1,k2,hk,Xf]
 have hk:Xd2 q10=true:=by rw[hku]; simp; omega
 cases hp:XbF q11
 rotate_left
 ·have hp':=hp
  unfold XbF at hp'
  simp only[Bool.and_eq_true] at hp'
  obtain⟨⟨s1,s2⟩,s3⟩:=hp'
  simp only[go_sem,reduceIte,↓reduceIte,reduceCtorEq,nA,nS,nM,nB,nE,nL,nT,nN,iL,iT,iE,iA,iM,iS,iG,iB,iN,iZ,h,k1,k2,hk,Xf,hp,s1,s2,s3]
 rcases Xf7 hp with rfl | ⟨s1,rfl⟩ | ⟨s1,s2,rfl⟩
 ·cases w1:within q22 0 20
  ·simp only[go_sem,reduceIte,↓reduceIte,reduceCtorEq,nA,nS,nM,nB,nE,nL,nT,nN,iL,iT,iE,iA,iM,iS,iG,iB,iN,iZ,h,k1,k2,hk,Xf,hp,w1]
  by_cases z:Xa q12=0
  rotate_left
  ·have z':(Xa q12 !=0)=true:=by simpa using z
   simp only[go_sem,reduceIte,↓reduceIte,reduceCtorEq,nA,nS,nM,nB,nE,nL,nT,nN,iL,iT,iE,iA,iM,iS,iG,iB,iN,iZ,h,k1,k2,hk,Xf,hp,w1,z']
  have z':(Xa q12 !=0)=false:=by simpa using z
  by_cases b1:2000<(q13.length:Int)
  ·simp only[go_sem,reduceIte,↓reduceIte,reduceCtorEq,nA,nS,nM,nB,nE,nL,nT,nN,iL,iT,iE,iA,iM,iS,iG,iB,iN,iZ,h,k1,k2,hk,Xf,hp,w1,z,b1]
  by_cases b2:10<(q21.length:Int)
  ·simp only[go_sem,reduceIte,↓reduceIte,reduceCtorEq,nA,nS,nM,nB,nE,nL,nT,nN,iL,iT,iE,iA,iM,iS,iG,iB,iN,iZ,h,k1,k2,hk,Xf,hp,w1,z,b1,b2]
  simp only[go_sem,reduceIte,↓reduceIte,reduceCtorEq,nA,nS,nM,nB,nE,nL,nT,nN,iL,iT,iE,iA,iM,iS,iG,iB,iN,iZ,h,k1,k2,hk,Xf,hp,w1,z,b1,b2]
 ·cases w1:within q22 0 20
  ·simp only[go_sem,reduceIte,↓reduceIte,reduceCtorEq,nA,nS,nM,nB,nE,nL,nT,nN,iL,iT,iE,iA,iM,iS,iG,iB,iN,iZ,h,k1,k2,hk,Xf,hp,w1]
  by_cases z:Xa q12=0
  rotate_left
  ·have z':(Xa q12 !=0)=true:=by simpa using z
   simp only[go_sem,reduceIte,↓reduceIte,reduceCtorEq,nA,nS,nM,nB,nE,nL,nT,nN,iL,iT,iE,iA,iM,iS,iG,iB,iN,iZ,h,k1,k2,hk,Xf,hp,w1,z']
  have z':(Xa q12 !=0)=false:=by simpa using z
  by_cases b1:2000<(q13.length:Int)
  ·simp only[go_sem,reduceIte,↓reduceIte,reduceCtorEq,nA,nS,nM,nB,nE,nL,nT,nN,iL,iT,iE,iA,iM,iS,iG,iB,iN,iZ,h,k1,k2,hk,Xf,hp,w1,z,b1]
  by_cases b2:10<(q21.length:Int)
  ·simp only[go_sem,reduceIte,↓reduceIte,reduceCtorEq,nA,nS,nM,nB,nE,nL,nT,nN,iL,iT,iE,iA,iM,iS,iG,iB,iN,iZ,h,k1,k2,hk,Xf,hp,w1,z,b1,b2]
  simp only[go_sem,reduceIte,↓reduceIte,reduceCtorEq,nA,nS,nM,nB,nE,nL,nT,nN,iL,iT,iE,iA,iM,iS,iG,iB,iN,iZ,h,k1,k2,hk,Xf,hp,w1,z,b1,b2]
 ·cases w1:within q22 0 20
  ·simp only[go_sem,reduceIte,↓reduceIte,reduceCtorEq,nA,nS,nM,nB,nE,nL,nT,nN,iL,iT,iE,iA,iM,iS,iG,iB,iN,iZ,h,k1,k2,hk,Xf,hp,w1]
  by_cases z:Xa q12=0
  rotate_left
  ·have z':(Xa q12 !=0)=true:=by simpa using z
   simp only[go_sem,reduceIte,↓reduceIte,reduceCtorEq,nA,nS,nM,nB,nE,nL,nT,nN,iL,iT,iE,iA,iM,iS,iG,iB,iN,iZ,h,k1,k2,hk,Xf,hp,w1,z']
  have z':(Xa q12 !=0)=false:=by simpa using z
  by_cases b1:2000<(q13.length:Int)
  ·simp only[go_sem,reduceIte,↓reduceIte,reduceCtorEq,nA,nS,nM,nB,nE,nL,nT,nN,iL,iT,iE,iA,iM,iS,iG,iB,iN,iZ,h,k1,k2,hk,Xf,hp,w1,z,b1]
  by_cases b2:10<(q21.length:Int)
  ·simp only[go_sem,reduceIte,↓reduceIte,reduceCtorEq,nA,nS,nM,nB,nE,nL,nT,nN,iL,iT,iE,iA,iM,iS,iG,iB,iN,iZ,h,k1,k2,hk,Xf,hp,w1,z,b1,b2]
  simp only[go_sem,reduceIte,↓reduceIte,reduceCtorEq,nA,nS,nM,nB,nE,nL,nT,nN,iL,iT,iE,iA,iM,iS,iG,iB,iN,iZ,h,k1,k2,hk,Xf,hp,w1,z,b1,b2]) (rfl)
def XoG:SP Tryz.prog:=mkS tyA 130 Tryz.f130 [] {md:=[.ro 1],rets:=some ([2],[])} Tryz.func130 (by kernel_rfl)
@[go_sem] def XFq:XoG.g=130/\XoG.fs=⟨[.ro 1],XoG.F,false⟩:=⟨nr rfl,nr rfl⟩
@[go_sem] def XFr(xs:List Xd)(h0:smL Xg xs):XoG.F [.sl .ro 2 (xs.map (Xb .ro))]=some (.sl .mut 2 (xs.map (Xb .mut)),[.u]):=Xm (0) rfl rfl (λcx h=>by
 have h1:(xs.map (Xb .ro)).all (·.all plain)=true:=by simp[Xb,plain]
 have h2:xs.length*32<=140737488355328:=by have:=h0.1; omega
 have h3:xs.map (Xb .ro)=xs.map (Xb .mut):=rfl
 simp only[go_sem,reduceIte,↓reduceIte,reduceCtorEq,nA,nS,nM,nB,nE,nL,nT,nN,iL,iT,iE,iA,iM,iS,iG,iB,iN,iZ,h,h1,h2]
 rw[h3]) (by simp only[go_sem,reduceIte,↓reduceIte,reduceCtorEq,nA,nS,nM,nB,nE,nL,nT,nN,iL,iT,iE,iA,iM,iS,iG,iB,iN,iZ,ZH,XF])
def s81:SP Tryz.prog:=mkS tyA 81 Tryz.f81 [XoG] {md:=[.ro 1],rg:=[(0,[0,2],[2,3]),(1,[0,2,3],[2,3]),(2,[2,3],[2,3]),(3,[2],[2,3])],rets:=some ([2],[2,3])} Tryz.func81 (by kernel_rfl)
@[go_sem] def d81:s81.g=81/\s81.fs=⟨[.ro 1],s81.F,false⟩:=⟨nr rfl,nr rfl⟩
@[go_sem] def e81(q0 q1 q2:ByteArray)(q3:List Xd)(h0:smL Xg (Request.mk q0 q1 q2 q3).Headers):s81.F [.pr [.s q0,.s q1,.s q2,.sl .ro 2 (q3.map (Xb .ro))]]=some (.agg (Zs .mut (Request.mk q0 q1 q2 q3)),[.u]):=Xm (0) rfl rfl (λcx h=>by
 simp only[go_sem,reduceIte,↓reduceIte,reduceCtorEq,nA,nS,nM,nB,nE,nL,nT,nN,iL,iT,iE,iA,iM,iS,iG,iB,iN,iZ,h,h0]) (by simp only[go_sem,reduceIte,↓reduceIte,reduceCtorEq,nA,nS,nM,nB,nE,nL,nT,nN,iL,iT,iE,iA,iM,iS,iG,iB,iN,iZ,ZH,XF,XU,XO])
def s82:SP Tryz.prog:=mkS tyA 82 Tryz.f82 [Xl6] {md:=[.ro 1,.ro 1],rg:=[(0,[0,1],[]),(1,[0,1,5],[]),(2,[0,1,5,6],[]),(3,[0,1,5,6,11],[]),(4,[0,1,5,6],[]),(5,[0,1,5,6,21],[]),(6,[0,1,5,6],[]),(7,[4],[])],lv:=[(0,[0,1,5,6],[])],out:=[(0,[5],[])],rets:=some ([4],[])} Tryz.func82 (by kernel_rfl)
@[go_sem] def d82:s82.g=82/\s82.fs=⟨[.ro 1,.ro 1],s82.F,false⟩:=⟨nr rfl,nr rfl⟩
@[go_sem] def e82(hs:List Xd)(name:ByteArray)(h0:(hs.length<=20/\smL Xg hs/\okN name=true)):s82.F [.sl .ro 2 (hs.map (Xb .ro)),.s name]=some (.sl .mut 2 ((YM hs name).map (Xb .mut)),[.u,.u]):=Xm (hs.length+1) rfl rfl (λcx h=>by
 have hl:=h0.1
 have hx:hs.length<=9223372036854775806:=by omega
 have hb0:=XR Tryz.f82 0 _ _ rfl rfl
 obtain⟨hI,hr⟩:=YK (cx:=cx) (blk:=0) (body:=Zt Tryz.f82 0) hs (λk (s:List Xd)=>⟨E [(0,.sl .ro 2 (hs.map (Xb .ro))),(1,.s name),(5,.sl .mut 2 (s.map (Xb .mut))),(6,.i .i64 k)],B []⟩) (λs=>⟨E [(5,.sl .mut 2 (s.map (Xb .mut)))],B []⟩) (λx s=>(if eqv (Yc x.Name) (Yc name)=true then s else s++[x])) (λk s=>s.length<=k)
   (λs hI G=>by simp only[go_sem,reduceIte,↓reduceIte,reduceCtorEq,nA,nS,nM,nB,nE,nL,nT,nN,iL,iT,iE,iA,iM,iS,iG,iB,iN,iZ,h,Int.lt_irrefl,hb0,h0.1]) (λk hk s hI=>by
    have h1:((k:Int)<(hs.length:Int)):=Int.ofNat_lt.2 hk
    have t3:(s.length+1)*32<=140737488355328:=by omega
    have t4:s.map (Xb .mut)++[[.s hs[k].Name,.s hs[k].Value]]=(s++[hs[k]]).map (Xb .mut):=by simp[Xb]
    obtain⟨u1,u2⟩:=h0.2.1.2 _ (List.getElem_mem hk)
    have n1:hs[k].Name.size<=9223372036854775806/\name.size<=9223372036854775806:=⟨by have:hs[k].Name.size<=1048576:=u1; omega,of_decide_eq_true h0.2.2⟩
    cases d1:eqv (Yc hs[k].Name) (Yc name)
    all_goals exact⟨by split<;>(try simp only[List.length_append,List.length_cons,List.length_nil])<;>omega,_,λG=>by simp only[go_sem,reduceIte,↓reduceIte,reduceCtorEq,nA,nS,nM,nB,nE,nL,nT,nN,iL,iT,iE,iA,iM,iS,iG,iB,iN,iZ,h,t3,t4,QJ (Xb .ro) hs k hk,n1,d1,Xb,h1,Yb _ _ hk,XD (show k<9223372036854775807 by omega),hb0]<;>with_reducible rfl,by simp only[go_sem,reduceIte,↓reduceIte,reduceCtorEq,nA,nS,nM,nB,nE,nL,nT,nN,iL,iT,iE,iA,iM,iS,iG,iB,iN,iZ,h,d1]⟩) [] (by simp) (hs.length+1) (Nat.le_refl _)
 rw[hb0] at hr
 have hff:=Xaq (λx:Xd=>eqv (Yc x.Name) (Yc name)) hs []
 simp only[List.nil_append] at hff
 rw[hff] at hr
 simp only[go_sem,reduceIte,↓reduceIte,reduceCtorEq,nA,nS,nM,nB,nE,nL,nT,nN,iL,iT,iE,iA,iM,iS,iG,iB,iN,iZ,h,hr,YM]) (by simp only[go_sem,reduceIte,↓reduceIte,reduceCtorEq,nA,nS,nM,nB,nE,nL,nT,nN,iL,iT,iE,iA,iM,iS,iG,iB,iN,iZ,ZH,XF])
def XoH:SP Tryz.prog:=mkS tyA 131 Tryz.f131 [Xl6] {md:=[.ro 1,.ro 1],rg:=[(0,[0,1],[]),(1,[0,1,6],[]),(2,[0,1,6,10],[]),(3,[0,1,6],[]),(4,[0,1,6,19],[]),(5,[4,5],[]),(6,[4,5],[])],lv:=[(0,[0,1,6],[])],out:=[(0,[],[])],rets:=some ([4,5],[])} Tryz.func131 (by kernel_rfl)
@[go_sem] def XFs:XoH.g=131/\XoH.fs=⟨[.ro 1,.ro 1],XoH.F,false⟩:=⟨nr rfl,nr rfl⟩
@[go_sem] def XFt(hs:List Xd)(name:ByteArray)(h0:(hs.length<=20/\smL Xg hs/\okN name=true)):XoH.F [.sl .ro 2 (hs.map (Xb .ro)),.s name]=some (.tup [.s (ZW hs name),.b (UR hs name)],[.u,.u]):=Xm (hs.length+1) rfl rfl (λcx h=>by
 have hl:=h0.1
 have hx:hs.length<=9223372036854775806:=by omega
 have hb0:=XR Tryz.f131 0 _ _ rfl rfl
 obtain⟨r,hr,hq⟩:=YL (cx:=cx) (blk:=0) (body:=Zt Tryz.f131 0) hs (λk (s:Unit)=>⟨E [(0,.sl .ro 2 (hs.map (Xb .ro))),(1,.s name),(6,.i .i64 k)],B []⟩) (λs=>⟨E [],B []⟩) (λx s=>eqv (Yc x.Name) (Yc name)) (λx s=>()) (λx s=>(.ret,⟨E [(4,.s x.Value),(5,.b true)],B []⟩)) (λk s=>True)
   (λs hI G=>by simp only[go_sem,reduceIte,↓reduceIte,reduceCtorEq,nA,nS,nM,nB,nE,nL,nT,nN,iL,iT,iE,iA,iM,iS,iG,iB,iN,iZ,h,Int.lt_irrefl,hb0,h0.1]) (λk hk s hI=>by
    have h1:((k:Int)<(hs.length:Int)):=Int.ofNat_lt.2 hk
    obtain⟨u1,u2⟩:=h0.2.1.2 _ (List.getElem_mem hk)
    have n1:hs[k].Name.size<=9223372036854775806/\name.size<=9223372036854775806:=⟨by have:hs[k].Name.size<=1048576:=u1; omega,of_decide_eq_true h0.2.2⟩
    exact⟨_,_,_,λG=>by simp only[go_sem,reduceIte,↓reduceIte,reduceCtorEq,nA,nS,nM,nB,nE,nL,nT,nN,iL,iT,iE,iA,iM,iS,iG,iB,iN,iZ,h,QJ (Xb .ro) hs k hk,n1,h1,Yb _ _ hk,XD (show k<9223372036854775807 by omega),hb0]<;>with_reducible rfl,Iff.rfl,λhc=>⟨trivial,by simp only[go_sem,reduceIte,↓reduceIte,reduceCtorEq,nA,nS,nM,nB,nE,nL,nT,nN,iL,iT,iE,iA,iM,iS,iG,iB,iN,iZ,h]⟩⟩) () trivial (hs.length+1) (Nat.le_refl _)
 rw[hb0] at hr
 rcases hq with⟨s',e1,_,e3⟩ | ⟨x,s',e1,e3⟩
 ·obtain⟨a1,a2⟩:=XcF (XcD e1)
  simp only[go_sem,reduceIte,↓reduceIte,reduceCtorEq,nA,nS,nM,nB,nE,nL,nT,nN,iL,iT,iE,iA,iM,iS,iG,iB,iN,iZ,h,hr,e3,a1,a2]
 ·obtain⟨r,hv⟩:=XcE e1
  obtain⟨a1,a2⟩:=XbG hv
  simp only[go_sem,reduceIte,↓reduceIte,reduceCtorEq,nA,nS,nM,nB,nE,nL,nT,nN,iL,iT,iE,iA,iM,iS,iG,iB,iN,iZ,h,hr,e3,a1,a2]) (rfl)
end
end Go.Vm.A
