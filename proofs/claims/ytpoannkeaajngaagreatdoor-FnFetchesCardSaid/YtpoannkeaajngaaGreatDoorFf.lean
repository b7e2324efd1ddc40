/- Functions of the program, walked by the evaluator. -/
import Derived.Test.YtpoannkeaajngaaGreatDoorWb
import Derived.Test.YtpoannkeaajngaaGreatDoorWa
import Derived.Test.YtpoannkeaajngaaGreatDoorFe
set_option linter.unusedVariables false
set_option linter.unusedSimpArgs false
set_option autoImplicit false
set_option maxRecDepth 100000
set_option maxHeartbeats 4000000
set_option linter.defProp false
namespace Go.Vm.A
open Go.Proofs
open Nat renaming reduceAdd -> nA, reduceSub -> nS, reduceMul -> nM, reduceBEq -> nB, reduceEqDiff -> nE, reduceLeDiff -> nL, reduceLT -> nT, reduceBneDiff -> nN
open Int renaming reduceLE -> iL, reduceLT -> iT, reduceEq -> iE, reduceAdd -> iA, reduceMul -> iM, reduceSub -> iS, reduceNeg -> iG, reduceBEq -> iB, reduceBNe -> iN, reduceToNat -> iZ
noncomputable section
def s19:SP Tryz.prog:=mkS tyA 19 Tryz.f19 [s46,s50,s51,s52,s53] {md:=[.ro 1],rg:=[(0,[1],[1]),(1,[1,19],[1]),(2,[2],[]),(3,[1,3],[1]),(4,[1,3,24],[1]),(5,[2],[]),(6,[1,26],[1]),(7,[2],[]),(8,[32],[]),(9,[2],[]),(10,[2],[])],rets:=some ([2],[])} Tryz.func19 (by kernel_rfl)
@[go_sem] def d19:s19.g=19/\s19.fs=⟨[.ro 1],s19.F,false⟩:=⟨nr rfl,nr rfl⟩
@[go_sem] def e19(q0 q1 q2:ByteArray)(q3:List Xd)(h0:smL Xg (Request.mk q0 q1 q2 q3).Headers):s19.F [.agg [.s q0,.s q1,.s q2,.sl .ro 2 (q3.map (Xb .ro))]]=some (.i .i64 (Xe (Request.mk q0 q1 q2 q3)),[.u]):=Xm (0) rfl rfl (λcx h=>by
 have key:∀m:Bool,Yy q0=m->(Yy q0&&Qr q1&&Qs q2)=(m&&Qr q1&&Qs q2):=λm h=>by rw[h]
 have hn1:okN ⟨#[72,111,115,116]⟩=true:=by decide
 have hn2:okN ⟨#[104,111,115,116]⟩=true:=by decide
 cases m0:Yy q0
 ·simp only[go_sem,reduceIte,↓reduceIte,reduceCtorEq,nA,nS,nM,nB,nE,nL,nT,nN,iL,iT,iE,iA,iM,iS,iG,iB,iN,iZ,h,m0,Xe]
 cases h2:Qr q1
 ·simp only[go_sem,reduceIte,↓reduceIte,reduceCtorEq,nA,nS,nM,nB,nE,nL,nT,nN,iL,iT,iE,iA,iM,iS,iG,iB,iN,iZ,h,h2,m0,Xe]
 cases h3:Qs q2
 ·simp only[go_sem,reduceIte,↓reduceIte,reduceCtorEq,nA,nS,nM,nB,nE,nL,nT,nN,iL,iT,iE,iA,iM,iS,iG,iB,iN,iZ,h,h2,h3,m0,Xe]
 by_cases z:Xa q3=0
 rotate_left
 ·have z':(Xa q3 !=0)=true:=by simpa using z
  simp only[go_sem,reduceIte,↓reduceIte,reduceCtorEq,nA,nS,nM,nB,nE,nL,nT,nN,iL,iT,iE,iA,iM,iS,iG,iB,iN,iZ,h,h2,h3,z',m0,Xe]
 have z':(Xa q3 !=0)=false:=by simpa using z
 have h4:q3.length<=20/\smL Xg q3/\okN ⟨#[72,111,115,116]⟩=true:=⟨XC z,h0,hn1⟩
 have h5:q3.length<=20/\smL Xg q3/\okN ⟨#[104,111,115,116]⟩=true:=⟨XC z,h0,hn2⟩
 have h6:=QT q3 ⟨#[72,111,115,116]⟩
 have h7:=XbE q3
 cases h8:UR q3 ⟨#[72,111,115,116]⟩
 ·by_cases h9:20<=(q3.length:Int)
  ·have h10:((q3.length:Int)==20)=true:=by have:=h4.1; simp; omega
   simp only[go_sem,reduceIte,↓reduceIte,reduceCtorEq,nA,nS,nM,nB,nE,nL,nT,nN,iL,iT,iE,iA,iM,iS,iG,iB,iN,iZ,h,h2,h3,z,h4,h5,h6,h7,h8,h9,h10,m0,Xe]
  ·have h10:((q3.length:Int)==20)=false:=by have:=h4.1; simp; omega
   simp only[go_sem,reduceIte,↓reduceIte,reduceCtorEq,nA,nS,nM,nB,nE,nL,nT,nN,iL,iT,iE,iA,iM,iS,iG,iB,iN,iZ,h,h2,h3,z,h4,h5,h6,h7,h8,h9,h10,m0,Xe]
 ·simp only[go_sem,reduceIte,↓reduceIte,reduceCtorEq,nA,nS,nM,nB,nE,nL,nT,nN,iL,iT,iE,iA,iM,iS,iG,iB,iN,iZ,h,h2,h3,z,h4,h5,h6,h7,h8,m0,Xe]) (rfl)
def within(a b c:Int):Bool:=decide (b<=a)&&decide (a<=c)
def s43:SP Tryz.prog:=mkS tyA 43 Tryz.f43 [] {md:=[.ro 1,.ro 1,.ro 1],rets:=some ([6],[])} Tryz.func43 (by kernel_rfl)
@[go_sem] def d43:s43.g=43/\s43.fs=⟨[.ro 1,.ro 1,.ro 1],s43.F,false⟩:=⟨nr rfl,nr rfl⟩
@[go_sem] def e43(a b c:Int):s43.F [.i .i64 a,.i .i64 b,.i .i64 c]=some (.b (within a b c),[.u,.u,.u]):=Xm (0) rfl rfl (λcx h=>by
 simp only[go_sem,reduceIte,↓reduceIte,reduceCtorEq,nA,nS,nM,nB,nE,nL,nT,nN,iL,iT,iE,iA,iM,iS,iG,iB,iN,iZ,h,within]
 by_cases h:b<=a<;>simp[h]) (rfl)
def Xd2(t:ByteArray):Bool:=decide (1<=(t.size:Int))&&decide ((t.size:Int)<=500)
def s68:SP Tryz.prog:=mkS tyA 68 Tryz.f68 [] {md:=[.ro 1],rets:=some ([2],[])} Tryz.func68 (by kernel_rfl)
@[go_sem] def d68:s68.g=68/\s68.fs=⟨[.ro 1],s68.F,false⟩:=⟨nr rfl,nr rfl⟩
@[go_sem] def e68(t:ByteArray):s68.F [.s t]=some (.b (Xd2 t),[.u]):=Xm (0) rfl rfl (λcx h=>by
 by_cases h1:1<=(t.size:Int)<;>by_cases h2:(t.size:Int)<=500<;>simp only[go_sem,reduceIte,↓reduceIte,reduceCtorEq,nA,nS,nM,nB,nE,nL,nT,nN,iL,iT,iE,iA,iM,iS,iG,iB,iN,iZ,h,h1,h2,Xd2]) (rfl)
def Z7(a:Int):Bool:=within a 0 1000000000000000
def Xoy:SP Tryz.prog:=mkS tyA 109 Tryz.f109 [s43] {md:=[.ro 1],rets:=some ([2],[])} Tryz.func109 (by kernel_rfl)
@[go_sem] def XE2:Xoy.g=109/\Xoy.fs=⟨[.ro 1],Xoy.F,false⟩:=⟨nr rfl,nr rfl⟩
@[go_sem] def XE3(a:Int):Xoy.F [.i .i64 a]=some (.b (Z7 a),[.u]):=Xm (0) rfl rfl (λcx h=>by
 simp only[go_sem,reduceIte,↓reduceIte,reduceCtorEq,nA,nS,nM,nB,nE,nL,nT,nN,iL,iT,iE,iA,iM,iS,iG,iB,iN,iZ,h,Z7]) (rfl)
def Xd3(m:Meta):List Int:=[m.At,m.Age,m.Life,m.Swr,m.Sie]
def Q9(pl:Pl):∀(j:Nat) (xs:List Int),Yi pl j (xs.map λa=>AV.i .i64 a)=xs.map λa=>AV.i .i64 a
 | _,[]=>rfl
 | j,x :: xs=>by
  rw[List.map_cons,Yi,Q9 pl (j+1) xs]; rfl
def QU(kp kr:Pl->Bool):∀xs:List Int,X3 kp kr (xs.map λa=>AV.i .i64 a)=xs.map λa=>AV.i .i64 a
 | []=>rfl
 | x :: xs=>by
  rw[List.map_cons,X3,QU kp kr xs]; rfl
def QV(m:Meta):Int:=if((Xd3 m).any λx=>!Z7 x)=true then 3 else 0
def XhK{α:Type}{f:α->AV}{xs:List α}{n k:Nat}(hn:n=xs.length)(h:k<xs.length):XhX n (xs.map f) (k:Int)=some (f xs[k]):=by
 subst hn
 unfold XhX Zg
 rw[if_pos (by simp),if_pos (by omega)]
 simp[h]
def runS_any{α:Type}{p:α->Bool}:∀{xs:List α} {u u':Unit},Xci (λx _=>p x) (λ_ _=>()) xs u=.inl u'->xs.any p=false
 | [],_,_,_=>rfl
 | x :: xs,u,u',h=>by
  rw[YJ] at h
  split at h
  ·cases h
  ·rename_i hc
   simp only[List.any_cons,runS_any h,Bool.or_false]
   simpa using hc
def Xd4{α:Type}{p:α->Bool}:∀{xs:List α} {u:Unit} {q:α×Unit},Xci (λx _=>p x) (λ_ _=>()) xs u=.inr q->xs.any p=true
 | [],_,_,h=>by cases h
 | x :: xs,u,q,h=>by
  rw[YJ] at h
  split at h
  ·rename_i hc; simp[hc]
  ·simp only[List.any_cons,Xd4 h,Bool.or_true]
def s69:SP Tryz.prog:=mkS tyA 69 Tryz.f69 [Xoy] {md:=[.ro 1],rg:=[(0,[1],[1]),(1,[15,16],[]),(2,[15,16,17],[]),(3,[4,15,16],[]),(4,[15,16,21],[]),(5,[2],[]),(6,[15,16],[]),(7,[2],[])],lv:=[(0,[15,16],[])],out:=[(0,[],[])],rets:=some ([2],[])} Tryz.func69 (by kernel_rfl)
@[go_sem] def d69:s69.g=69/\s69.fs=⟨[.ro 1],s69.F,false⟩:=⟨nr rfl,nr rfl⟩
@[go_sem] def e69(mAt q4 q5 q6 q7:Int)(q8 q9:Bool):s69.F [.agg [.i .i64 mAt,.i .i64 q4,.i .i64 q5,.i .i64 q6,.i .i64 q7,.b q8,.b q9]]=some (.i .i64 (QV (Meta.mk mAt q4 q5 q6 q7 q8 q9)),[.u]):=Xm (6) rfl rfl (λcx h=>by
 obtain⟨xs,hxs⟩:∃xs:List Int,xs=[mAt,q4,q5,q6,q7]:=⟨_,rfl⟩
 have hxl:xs.length=5:=by rw[hxs]; rfl
 have hm:Xd3 (Meta.mk mAt q4 q5 q6 q7 q8 q9)=xs:=by rw[hxs]; rfl
 have hz:[AV.i .i64 mAt,.i .i64 q4,.i .i64 q5,.i .i64 q6,.i .i64 q7]=xs.map λa=>AV.i .i64 a:=by rw[hxs]; rfl
 have hb0:=XR Tryz.f69 0 _ _ rfl rfl
 obtain⟨r,hr,hq⟩:=YL (cx:=cx) (blk:=0) (body:=Zt Tryz.f69 0) xs (λk (s:Unit)=>⟨E [(15,.agg (xs.map λa=>.i .i64 a)),(16,.i .i64 k)],B []⟩) (λs=>⟨E [],B []⟩) (λx s=>!Z7 x) (λx s=>()) (λx s=>(.ret,⟨E [(2,.i .i64 3)],B []⟩)) (λk s=>True)
   (λs hI G=>by simp only[go_sem,reduceIte,↓reduceIte,reduceCtorEq,nA,nS,nM,nB,nE,nL,nT,nN,iL,iT,iE,iA,iM,iS,iG,iB,iN,iZ,h,Int.lt_irrefl,hb0,hxl,Q9,QU]) (λk hk s hI=>by
    have h1:((k:Int)<(xs.length:Int)):=Int.ofNat_lt.2 hk
    have h1':(k:Int)<5:=by rw[hxl] at h1; exact h1
    have hA:=XhK (f:=λa=>AV.i .i64 a) hxl.symm hk
    exact⟨_,_,_,λG=>by simp only[go_sem,reduceIte,↓reduceIte,reduceCtorEq,nA,nS,nM,nB,nE,nL,nT,nN,iL,iT,iE,iA,iM,iS,iG,iB,iN,iZ,h,h1',hA,Q9,QU,h1,Yb _ _ hk,XD (show k<9223372036854775807 by omega),hb0]<;>with_reducible rfl,Iff.rfl,λhc=>⟨trivial,by simp only[go_sem,reduceIte,↓reduceIte,reduceCtorEq,nA,nS,nM,nB,nE,nL,nT,nN,iL,iT,iE,iA,iM,iS,iG,iB,iN,iZ,h,QU]⟩⟩) () trivial 6 (by rw[hxl]; exact Nat.le_refl _)
 rw[hb0] at hr
 rcases hq with⟨s',e1,_,e3⟩ | ⟨x,s',e1,e3⟩
 ·simp only[go_sem,reduceIte,↓reduceIte,reduceCtorEq,nA,nS,nM,nB,nE,nL,nT,nN,iL,iT,iE,iA,iM,iS,iG,iB,iN,iZ,h,hz,hr,e3,QU,QV,hm,runS_any e1]
 ·simp only[go_sem,reduceIte,↓reduceIte,reduceCtorEq,nA,nS,nM,nB,nE,nL,nT,nN,iL,iT,iE,iA,iM,iS,iG,iB,iN,iZ,h,hz,hr,e3,QU,QV,hm,Xd4 e1]) (rfl)
def XbF(s:Int):Bool:=s !=200&&s !=404&&s !=410
def Xf(e:X2):Int :=
 if Xd2 e.Key=false then 2 else if(XbF e.Status||!within e.Pins 0 20)=true then 3 else if(Xa e.Headers !=0)=true then Xa e.Headers
 else if(decide (2000<(e.Body.length:Int))||decide (10<(e.Tags.length:Int)))=true then 2 else QV e.Meta
def Xf7{s:Int}(h:XbF s=false):s=200\/(s≠200/\s=404)\/(s≠200/\s≠404/\s=410):=by
 unfold XbF at h
 simp only[Bool.and_eq_false_iff,bne_eq_false_iff_eq] at h
 omega
def ZA{e:X2}(h:Xf e=0):Xa e.Headers=0:=by
 unfold Xf at h
 split at h
 ·cases h
 split at h
 ·cases h
 split at h
 ·rename_i hc; rw[h] at hc; exact absurd hc (by decide)
 ·rename_i hc; simpa using hc
def s30:SP Tryz.prog:=mkS tyA 30 Tryz.f30 [s43,s46,s68,s69] {md:=[.ro 1],rg:=[(0,[1],[1]),(1,[1,4],[1]),(2,[2],[]),(3,[1,9],[1]),(4,[2],[]),(5,[1,3],[1]),(6,[1,3,33],[1]),(7,[2],[]),(8,[1,44],[1]),(9,[2],[]),(10,[2],[])],rets:=some ([2],[])} Tryz.func30 (by kernel_rfl)
@[go_sem] def d30:s30.g=30/\s30.fs=⟨[.ro 1],s30.F,false⟩:=⟨nr rfl,nr rfl⟩
@[go_sem] def e30(q10:ByteArray)(q11:Int)(q12:List Xd)(q13:List UInt8)(q14 q15 q16 q17 q18:Int)(q19 q20:Bool)(q21:List ByteArray)(q22:Int)(h0:smL Xg (X2.mk q10 q11 q12 q13 (Meta.mk q14 q15 q16 q17 q18 q19 q20) q21 q22).Headers):s30.F [.agg [.s q10,.i .i64 q11,.sl .ro 2 (q12.map (Xb .ro)),.sl .ro 1 (q13.map Xn),.i .i64 q14,.i .i64 q15,.i .i64 q16,.i .i64 q17,.i .i64 q18,.b q19,.b q20,.sl .ro 1 (q21.map Xbi),.i .i64 q22]]=some (.i .i64 (Xf (X2.mk q10 q11 q12 q13 (Meta.mk q14 q15 q16 q17 q18 q19 q20) q21 q22)),[.u]):=Xm (0) rfl rfl (λcx h=>by
 cases hk:Xd2 q10
 ·simp only[go_sem,reduceIte,↓reduceIte,reduceCtorEq,nA,nS,nM,nB,nE,nL,nT,nN,iL,iT,iE,iA,iM,iS,iG,iB,iN,iZ,h,hk,Xf]
 cases hp:XbF q11
 rotate_left
 ·have hp':=hp
  unfold XbF at hp'
  simp only[Bool.and_eq_true] at hp'
  obtain⟨⟨s1,s2⟩,s3⟩:=hp'
  simp only[go_sem,reduceIte,↓reduceIte,reduceCtorEq,nA,nS,nM,nB,nE,nL,nT,nN,iL,iT,iE,iA,iM,iS,iG,iB,iN,iZ,h,hk,Xf,hp,s1,s2,s3]
 rcases Xf7 hp with rfl | ⟨s1,rfl⟩ | ⟨s1,s2,rfl⟩
 ·cases w1:within q22 0 20
  ·simp only[go_sem,reduceIte,↓reduceIte,reduceCtorEq,nA,nS,nM,nB,nE,nL,nT,nN,iL,iT,iE,iA,iM,iS,iG,iB,iN,iZ,h,hk,Xf,hp,w1]
  by_cases z:Xa q12=0
  rotate_left
  ·have z':(Xa q12 !=0)=true:=by simpa using z
   simp only[go_sem,reduceIte,↓reduceIte,reduceCtorEq,nA,nS,nM,nB,nE,nL,nT,nN,iL,iT,iE,iA,iM,iS,iG,iB,iN,iZ,h,hk,Xf,hp,w1,z']
  have z':(Xa q12 !=0)=false:=by simpa using z
  by_cases b1:2000<(q13.length:Int)
  ·simp only[go_sem,reduceIte,↓reduceIte,reduceCtorEq,nA,nS,nM,nB,nE,nL,nT,nN,iL,iT,iE,iA,iM,iS,iG,iB,iN,iZ,h,hk,Xf,hp,w1,z,b1]
  by_cases b2:10<(q21.length:Int)
  ·simp only[go_sem,reduceIte,↓reduceIte,reduceCtorEq,nA,nS,nM,nB,nE,nL,nT,nN,iL,iT,iE,iA,iM,iS,iG,iB,iN,iZ,h,hk,Xf,hp,w1,z,b1,b2]
  simp only[go_sem,reduceIte,↓reduceIte,reduceCtorEq,nA,nS,nM,nB,nE,nL,nT,nN,iL,iT,iE,iA,iM,iS,iG,iB,iN,iZ,h,hk,Xf,hp,w1,z,b1,b2]
 ·cases w1:within q22 0 20
  ·simp only[go_sem,reduceIte,↓reduceIte,reduceCtorEq,nA,nS,nM,nB,nE,nL,nT,nN,iL,iT,iE,iA,iM,iS,iG,iB,iN,iZ,h,hk,Xf,hp,w1]
  by_cases z:Xa q12=0
  rotate_left
  ·have z':(Xa q12 !=0)=true:=by simpa using z
   simp only[go_sem,reduceIte,↓reduceIte,reduceCtorEq,nA,nS,nM,nB,nE,nL,nT,nN,iL,iT,iE,iA,iM,iS,iG,iB,iN,iZ,h,hk,Xf,hp,w1,z']
  have z':(Xa q12 !=0)=false:=by simpa using z
  by_cases b1:2000<(q13.length:Int)
  ·simp only[go_sem,reduceIte,↓reduceIte,reduceCtorEq,nA,nS,nM,nB,nE,nL,nT,nN,iL,iT,iE,iA,iM,iS,iG,iB,iN,iZ,h,hk,Xf,hp,w1,z,b1]
  by_cases b2:10<(q21.length:Int)
  ·simp only[go_sem,reduceIte,↓reduceIte,reduceCtorEq,nA,nS,nM,nB,nE,nL,nT,nN,iL,iT,iE,iA,iM,iS,iG,iB,iN,iZ,h,hk,Xf,hp,w1,z,b1,b2]
  simp only[go_sem,reduceIte,↓reduceIte,reduceCtorEq,nA,nS,nM,nB,nE,nL,nT,nN,iL,iT,iE,iA,iM,iS,iG,iB,iN,iZ,h,hk,Xf,hp,w1,z,b1,b2]
 ·cases w1:within q22 0 20
  ·simp only[go_sem,reduceIte,↓reduceIte,reduceCtorEq,nA,nS,nM,nB,nE,nL,nT,nN,iL,iT,iE,iA,iM,iS,iG,iB,iN,iZ,h,hk,Xf,hp,w1]
  by_cases z:Xa q12=0
  rotate_left
  ·have z':(Xa q12 !=0)=true:=by simpa using z
   simp only[go_sem,reduceIte,↓reduceIte,reduceCtorEq,nA,nS,nM,nB,nE,nL,nT,nN,iL,iT,iE,iA,iM,iS,iG,iB,iN,iZ,h,hk,Xf,hp,w1,z']
  have z':(Xa q12 !=0)=false:=by simpa using z
  by_cases b1:2000<(q13.length:Int)
  ·simp only[go_sem,reduceIte,↓reduceIte,reduceCtorEq,nA,nS,nM,nB,nE,nL,nT,nN,iL,iT,iE,iA,iM,iS,iG,iB,iN,iZ,h,hk,Xf,hp,w1,z,b1]
  by_cases b2:10<(q21.length:Int)
  ·simp only[go_sem,reduceIte,↓reduceIte,reduceCtorEq,nA,nS,nM,nB,nE,nL,nT,nN,iL,iT,iE,iA,iM,iS,iG,iB,iN,iZ,h,hk,Xf,hp,w1,z,b1,b2]
  simp only[go_sem,reduceIte,↓reduceIte,reduceCtorEq,nA,nS,nM,nB,nE,nL,nT,nN,iL,iT,iE,iA,iM,iS,iG,iB,iN,iZ,h,hk,Xf,hp,w1,z,b1,b2]) (rfl)
def YM(hs:List Xd)(n:ByteArray):List Xd:=hs.filter λx=>!eqv (Yc x.Name) (Yc n)
def ZW(hs:List Xd)(n:ByteArray):ByteArray:=((Yh hs n).head?).getD ⟨#[]⟩
def QW(hs:List Xd)(n:ByteArray):(YM hs n).length<=hs.length:=List.length_filter_le _ _
def Xdr{hs:List Xd}{n:ByteArray}(h:smL Xg hs):smL Xg (YM hs n):=⟨Nat.le_trans (QW hs n) h.1,λx hx=>h.2 x ((List.mem_filter.1 hx).1)⟩
def Xf8{hs:List Xd}{n m:ByteArray}(h:hs.length<=20/\smL Xg hs/\okN n=true)(hm:okN m=true):(YM hs n).length<=20/\smL Xg (YM hs n)/\okN m=true:=⟨Nat.le_trans (QW hs n) h.1,Xdr h.2.1,hm⟩
def Xaq{α:Type}(p:α->Bool):∀(xs s:List α),xs.foldl (λs x=>if p x=true then s else s++[x]) s=s++xs.filter λx=>!p x
 | [],s=>by simp
 | x :: xs,s=>by
  rw[List.foldl_cons,Xaq p xs]
  cases hp:p x<;>simp[hp]
def U8(x:Xd)(hs:List Xd)(n:ByteArray):Yh (x :: hs) n=if eqv (Yc x.Name) (Yc n)=true then x.Value :: Yh hs n else Yh hs n:=by
 unfold Yh
 rw[List.filter_cons]
 split<;>rfl
def XcD{n:ByteArray}:∀{hs:List Xd} {u u':Unit},Xci (λx _=>eqv (Yc x.Name) (Yc n)) (λ_ _=>()) hs u=.inl u'->Yh hs n=[]
 | [],_,_,_=>rfl
 | x :: hs,u,u',h=>by
  rw[YJ] at h
  split at h
  ·cases h
  ·rename_i hc; rw[U8,if_neg hc]; exact XcD h
def XcE{n:ByteArray}:∀{hs:List Xd} {u:Unit} {q:Xd×Unit},Xci (λx _=>eqv (Yc x.Name) (Yc n)) (λ_ _=>()) hs u=.inr q->∃r,Yh hs n=q.1.Value :: r
 | [],_,_,h=>by cases h
 | x :: hs,u,q,h=>by
  rw[YJ] at h
  split at h
  ·rename_i hc; injection h with h; subst h; exact⟨_,by rw[U8,if_pos hc]⟩
  ·rename_i hc; rw[U8,if_neg hc]; exact XcE h
def Xd5(hs:List Xd)(n:ByteArray):UR hs n=decide (0<((Yh hs n).length:Int)):=(QT hs n).symm
def XcF{hs:List Xd}{n:ByteArray}(h:Yh hs n=[]):ZW hs n=⟨#[]⟩/\UR hs n=false:=by
 rw[Xd5]; unfold ZW; rw[h]; exact⟨rfl,rfl⟩
def XbG{hs:List Xd}{n v:ByteArray}{r:List ByteArray}(h:Yh hs n=v :: r):ZW hs n=v/\UR hs n=true:=by
 rw[Xd5]; unfold ZW; rw[h]; exact⟨rfl,by simp⟩
def XgC{n m:ByteArray}(h:Yc n=Yc m)(hs:List Xd):Yh hs n=Yh hs m:=by unfold Yh; rw[h]
def XgD{n m:ByteArray}(h:Yc n=Yc m)(hs:List Xd):ZW hs n=ZW hs m:=by unfold ZW; rw[XgC h]
def Xd6{n m:ByteArray}(h:Yc n=Yc m)(hs:List Xd):YM hs n=YM hs m:=by unfold YM; rw[h]
def XhL{hs:List Xd}{n:ByteArray}(h:smL Xg hs):(ZW hs n).size<=1048576:=by
 unfold ZW
 cases hv:Yh hs n with
 | nil=>show 0<=_; omega
 | cons v r =>
  have:v∈Yh hs n:=by rw[hv]; exact List.mem_cons_self ..
  unfold Yh at this
  obtain⟨x,hx,rfl⟩:=List.mem_map.1 this
  exact(h.2 x ((List.mem_filter.1 hx).1)).2
def s49:SP Tryz.prog:=mkS tyA 49 Tryz.f49 [s53] {md:=[.ro 1,.ro 1],rg:=[(0,[0,1],[]),(1,[6],[]),(2,[6,12],[]),(3,[4,5],[]),(4,[4,5],[])],rets:=some ([4,5],[])} Tryz.func49 (by kernel_rfl)
@[go_sem] def d49:s49.g=49/\s49.fs=⟨[.ro 1,.ro 1],s49.F,false⟩:=⟨nr rfl,nr rfl⟩
@[go_sem] def e49(hs:List Xd)(name:ByteArray)(h0:(hs.length<=20/\smL Xg hs/\okN name=true)):s49.F [.sl .ro 2 (hs.map (Xb .ro)),.s name]=some (.tup [.s (ZW hs name),.b (UR hs name)],[.u,.u]):=Xm (0) rfl rfl (λcx h=>by
 cases hv:Yh hs name with
 | nil =>
  obtain⟨a1,a2⟩:=XcF hv
  simp only[go_sem,reduceIte,↓reduceIte,reduceCtorEq,nA,nS,nM,nB,nE,nL,nT,nN,iL,iT,iE,iA,iM,iS,iG,iB,iN,iZ,h,h0,hv,a1,a2]
 | cons v r =>
  obtain⟨a1,a2⟩:=XbG hv
  have a3:(((r.length+1:Nat):Int)==0)=false:=by simp; omega
  have a4:Zg (r.length+1) 0=some 0:=Yb _ 0 (by omega)
  simp only[go_sem,reduceIte,↓reduceIte,reduceCtorEq,nA,nS,nM,nB,nE,nL,nT,nN,iL,iT,iE,iA,iM,iS,iG,iB,iN,iZ,h,h0,hv,a1,a2,a3,a4]) (rfl)
def QE(hs:List Xd):ByteArray:=ZW hs ⟨#[69,84,97,103]⟩
def XjI(hs:List Xd):ZW hs ⟨#[101,116,97,103]⟩=QE hs:=XgD (by rfl) hs
def QF(hs:List Xd):Yx:=if(Xa hs !=0)=true then⟨Xa hs,⟨#[]⟩⟩ else if eqv (QE hs) ⟨#[]⟩=true then⟨4,⟨#[]⟩⟩ else⟨0,QE hs⟩
def s18:SP Tryz.prog:=mkS tyA 18 Tryz.f18 [s46,s49] {md:=[.ro 1],rg:=[(0,[0,2],[2]),(1,[0,2,3],[2]),(2,[0,2,3,9],[2]),(3,[2],[2]),(4,[2,4],[2]),(5,[2,4,18],[2]),(6,[2],[2]),(7,[2],[2])],rets:=some ([2],[2]),al:=[12]} Tryz.func18 (by kernel_rfl)
@[go_sem] def d18:s18.g=18/\s18.fs=⟨[.ro 1],s18.F,false⟩:=⟨nr rfl,nr rfl⟩
@[go_sem] def e18(hs:List Xd)(h0:smL Xg hs):s18.F [.sl .ro 2 (hs.map (Xb .ro))]=some (.agg (Zd .mut (QF hs)),[.u]):=Xm (0) rfl rfl (λcx h=>by
 by_cases z:Xa hs=0
 rotate_left
 ·have z':(Xa hs !=0)=true:=by simpa using z
  simp only[go_sem,reduceIte,↓reduceIte,reduceCtorEq,nA,nS,nM,nB,nE,nL,nT,nN,iL,iT,iE,iA,iM,iS,iG,iB,iN,iZ,h,h0,z',QF]
 have z':(Xa hs !=0)=false:=by simpa using z
 have h1:hs.length<=20/\smL Xg hs/\okN ⟨#[69,84,97,103]⟩=true:=⟨XC z,h0,by decide⟩
 have h2:ZW hs ⟨#[69,84,97,103]⟩=QE hs:=rfl
 cases c1:eqv (QE hs) ⟨#[]⟩<;>simp only[go_sem,reduceIte,↓reduceIte,reduceCtorEq,nA,nS,nM,nB,nE,nL,nT,nN,iL,iT,iE,iA,iM,iS,iG,iB,iN,iZ,h,h0,z,h1,h2,c1,Xt,QF]) (rfl)
def s70:SP Tryz.prog:=mkS tyA 70 Tryz.f70 [s74] {md:=[.ro 1,.ro 1],rg:=[(0,[0,1],[]),(1,[0,1,5],[]),(2,[0,1,5,9,10,11],[]),(3,[0,1,5,9,10,11,12],[]),(4,[0,1,5,7,9,10,11],[7]),(5,[0,1,5,7,9,10,11,19],[7]),(6,[0,1,5,9,10,11],[]),(7,[0,1,5,9,10,11],[]),(8,[4],[])],lv:=[(0,[0,1,5,9,10,11],[])],out:=[(0,[5],[])],rets:=some ([4],[])} Tryz.func70 (by kernel_rfl)
@[go_sem] def d70:s70.g=70/\s70.fs=⟨[.ro 1,.ro 1],s70.F,false⟩:=⟨nr rfl,nr rfl⟩
@[go_sem] def e70(hs:List Xd)(name:ByteArray)(h0:(hs.length<=20/\smL Xg hs/\okN name=true)):s70.F [.sl .ro 2 (hs.map (Xb .ro)),.s name]=some (.sl .mut 2 ((YM hs name).map (Xb .mut)),[.u,.u]):=Xm (hs.length+1) rfl rfl (λcx h=>by
 have hl:=h0.1
 have hx:hs.length<=9223372036854775806:=by omega
 have hb0:=XR Tryz.f70 0 _ _ rfl rfl
 obtain⟨hI,hr⟩:=YK (cx:=cx) (blk:=0) (body:=Zt Tryz.f70 0) hs (λk (s:List Xd)=>⟨E [(0,.sl .ro 2 (hs.map (Xb .ro))),(1,.s name),(5,.sl .mut 2 (s.map (Xb .mut))),(9,.sl .ro 2 (hs.map (Xb .ro))),(10,.i .i64 hs.length),(11,.i .i64 k)],B []⟩) (λs=>⟨E [(5,.sl .mut 2 (s.map (Xb .mut)))],B []⟩) (λx s=>(if eqv (Yc x.Name) (Yc name)=true then s else s++[x])) (λk s=>s.length<=k)
   (λs hI G=>by simp only[go_sem,reduceIte,↓reduceIte,reduceCtorEq,nA,nS,nM,nB,nE,nL,nT,nN,iL,iT,iE,iA,iM,iS,iG,iB,iN,iZ,h,Int.lt_irrefl,hb0,h0.1]) (λk hk s hI=>by
    have h1:((k:Int)<(hs.length:Int)):=Int.ofNat_lt.2 hk
    have t3:(s.length+1)*32<=140737488355328:=by omega
    have t4:s.map (Xb .mut)++[[.s hs[k].Name,.s hs[k].Value]]=(s++[hs[k]]).map (Xb .mut):=by simp[Xb]
    obtain⟨u1,u2⟩:=h0.2.1.2 _ (List.getElem_mem hk)
    have n1:hs[k].Name.size<=9223372036854775806/\name.size<=9223372036854775806:=⟨by have:hs[k].Name.size<=1048576:=u1; omega,of_decide_eq_true h0.2.2⟩
    cases d1:eqv (Yc hs[k].Name) (Yc name)
    all_goals exact⟨by split<;>(try simp only[List.length_append,List.length_cons,List.length_nil])<;>omega,_,λG=>by simp only[go_sem,reduceIte,↓reduceIte,reduceCtorEq,nA,nS,nM,nB,nE,nL,nT,nN,iL,iT,iE,iA,iM,iS,iG,iB,iN,iZ,h,t3,t4,QJ (Xb .ro) hs k hk,n1,d1,Xb,h1,Yb _ _ hk,XD (show k<9223372036854775807 by omega),hb0]<;>with_reducible rfl,by simp only[go_sem,reduceIte,↓reduceIte,reduceCtorEq,nA,nS,nM,nB,nE,nL,nT,nN,iL,iT,iE,iA,iM,iS,iG,iB,iN,iZ,h,d1]⟩) [] (by simp) (hs.length+1) (Nat.le_refl _)
 rw[hb0] at hr
 have hff:=Xaq (λx:Xd=>eqv (Yc x.Name) (Yc name)) hs []
 simp only[List.nil_append] at hff
 rw[hff] at hr
 simp only[go_sem,reduceIte,↓reduceIte,reduceCtorEq,nA,nS,nM,nB,nE,nL,nT,nN,iL,iT,iE,iA,iM,iS,iG,iB,iN,iZ,h,hr,YM]) (by simp only[go_sem,reduceIte,↓reduceIte,reduceCtorEq,nA,nS,nM,nB,nE,nL,nT,nN,iL,iT,iE,iA,iM,iS,iG,iB,iN,iZ,ZH,XF])
end
end Go.Vm.A
