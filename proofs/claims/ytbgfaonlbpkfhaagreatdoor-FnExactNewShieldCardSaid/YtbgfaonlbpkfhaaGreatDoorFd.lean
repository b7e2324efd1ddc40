/- Functions of the program, walked by the evaluator. -/
import Derived.Test.YtbgfaonlbpkfhaaGreatDoorWb
import Derived.Test.YtbgfaonlbpkfhaaGreatDoorWa
import Derived.Test.YtbgfaonlbpkfhaaGreatDoorFa
import Derived.Test.YtbgfaonlbpkfhaaGreatDoorFb
import Derived.Test.YtbgfaonlbpkfhaaGreatDoorFc
set_option linter.unusedVariables false
set_option linter.unusedSimpArgs false
set_option autoImplicit false
set_option maxRecDepth 100000
set_option maxHeartbeats 4000000
set_option linter.defProp false
namespace Go.Vm.A
open Go.Proofs
open Nat renaming reduceAdd -> nA, reduceSub -> nS, reduceMul -> nM, reduceBEq -> nB, reduceEqDiff -> nE, reduceLeDiff -> nL, reduceLT -> nT, reduceBneDiff -> nN
open Int renaming reduceLE -> iL, reduceLT -> iT, reduceEq -> iE, reduceAdd -> iA, reduceMul -> iM, reduceSub -> iS, reduceNeg -> iG, reduceBEq -> iB, reduceBNe -> iN, reduceToNat -> iZ
noncomputable section
def Xn7:SP Tryz.prog:=mkS tyA 167 Tryz.f167 [XjD,Xl9] {md:=[.ro 1],rets:=some ([2],[])} Tryz.func167 (by kernel_rfl)
@[go_sem] def XFX:Xn7.g=167/\Xn7.fs=⟨[.ro 1],Xn7.F,false⟩:=⟨nr rfl,nr rfl⟩
@[go_sem] def XFY(t:ByteArray):Xn7.F [.s t]=some (.b (Ua t),[.u]):=Xd (0) rfl rfl (λcx h=>by
 simp only[go_sem,reduceIte,↓reduceIte,reduceCtorEq,nA,nS,nM,nB,nE,nL,nT,nN,iL,iT,iE,iA,iM,iS,iG,iB,iN,iZ,h,Ua]) (rfl)
def Xo2:SP Tryz.prog:=mkS tyA 270 Tryz.f270 [XjD,Xn6] {md:=[.ro 1],rets:=some ([2],[])} Tryz.func270 (by kernel_rfl)
@[go_sem] def XFZ:Xo2.g=270/\Xo2.fs=⟨[.ro 1],Xo2.F,false⟩:=⟨nr rfl,nr rfl⟩
@[go_sem] def XF0(t:ByteArray)(h0:(t.size:Int)<=1000000):Xo2.F [.s t]=some (.b (XlA t),[.u]):=Xd (0) rfl rfl (λcx h=>by
 simp only[go_sem,reduceIte,↓reduceIte,reduceCtorEq,nA,nS,nM,nB,nE,nL,nT,nN,iL,iT,iE,iA,iM,iS,iG,iB,iN,iZ,h,h0,Xl6]) (rfl)
def Xo3:SP Tryz.prog:=⟨271,⟨[.ro 1,.ro 1],Xlp,false⟩,XnE Tryz.func271 (by kernel_rfl) rfl Go.Proofs.Tryz.trimSpTab⟩
@[go_sem] def XF1:Xo3.g=271/\Xo3.fs=⟨[.ro 1,.ro 1],Xo3.F,false⟩:=⟨nr rfl,nr rfl⟩
@[go_sem] def XF2(x:ByteArray)(h0:x.size<=9223372036854775807):Xo3.F [.s x,.s ⟨#[32,9]⟩]=some (.s (XfI x),[.u,.u]):=by
 show Xlp [.s x,.s ⟨#[32,9]⟩]=_
 have hc:(⟨#[32,9]⟩:ByteArray).data.toList=[32,9]/\x.size<=9223372036854775807:=⟨rfl,h0⟩
 exact if_pos hc
def Xo4:SP Tryz.prog:=mkS tyA 245 Tryz.f245 [Xn7,Xo2,Xo3] {md:=[.ro 1],rg:=[(0,[1],[1]),(1,[1,3],[1]),(2,[2],[]),(3,[1,8],[1]),(4,[2],[]),(5,[13],[]),(6,[2],[]),(7,[2],[])],rets:=some ([2],[]),plan:=[(5,(.take 0 (.take 1 (.one 2 (.take 3 (.take 4 (.take 5 (.take 6 (.take 8 (.take 9 (.one 7 (.take 10 (.take 11 (.one 12 .done))))))))))))))]} Tryz.func245 (by kernel_rfl)
@[go_sem] def XF3:Xo4.g=245/\Xo4.fs=⟨[.ro 1],Xo4.F,false⟩:=⟨nr rfl,nr rfl⟩
@[go_sem] def XF4(q0 q1:ByteArray):Xo4.F [.agg [.s q0,.s q1]]=some (.i .i64 (Yz (XL.mk q0 q1)),[.u]):=Xd (0) rfl rfl (λcx h=>by
 cases h1:Ua q0
 ·simp only[go_sem,reduceIte,↓reduceIte,reduceCtorEq,nA,nS,nM,nB,nE,nL,nT,nN,iL,iT,iE,iA,iM,iS,iG,iB,iN,iZ,h,h1,Yz]
 by_cases h2:200<(q1.size:Int)
 ·simp only[go_sem,reduceIte,↓reduceIte,reduceCtorEq,nA,nS,nM,nB,nE,nL,nT,nN,iL,iT,iE,iA,iM,iS,iG,iB,iN,iZ,h,h1,h2,Yz]
 have h3:(q1.size:Int)<=1000000:=by omega
 have h4:q1.size<=9223372036854775806:=by omega
 have h5:q1.size<=9223372036854775807:=by omega
 cases h6:XlA q1
 ·simp only[go_sem,reduceIte,↓reduceIte,reduceCtorEq,nA,nS,nM,nB,nE,nL,nT,nN,iL,iT,iE,iA,iM,iS,iG,iB,iN,iZ,h,h1,h2,h3,h4,h5,h6,Yz]
 cases h7:eqv (XfI q1) q1<;>simp only[go_sem,reduceIte,↓reduceIte,reduceCtorEq,nA,nS,nM,nB,nE,nL,nT,nN,iL,iT,iE,iA,iM,iS,iG,iB,iN,iZ,h,h1,h2,h3,h4,h5,h6,h7,X8,X9,bne,Yz]) (rfl)
def Xo5:SP Tryz.prog:=mkS tyA 195 Tryz.f195 [Xo4] {md:=[.ro 1],rg:=[(0,[0],[]),(1,[0,8],[]),(2,[2],[]),(3,[0,9,10,11],[]),(4,[0,9,10,11,12],[]),(5,[0,4,9,10,11],[4]),(6,[0,5,9,10,11],[]),(7,[0,5,9,10,11,18],[]),(8,[2],[]),(9,[0,9,10,11],[]),(10,[2],[])],lv:=[(0,[0,9,10,11],[])],out:=[(0,[],[])],rets:=some ([2],[])} Tryz.func195 (by kernel_rfl)
@[go_sem] def XF5:Xo5.g=195/\Xo5.fs=⟨[.ro 1],Xo5.F,false⟩:=⟨nr rfl,nr rfl⟩
@[go_sem] def XF6(hs:List XL):Xo5.F [.sl .ro 2 (hs.map (Xl .ro))]=some (.i .i64 (Xq hs),[.u]):=Xd (hs.length+1) rfl rfl (λcx h=>by
 by_cases h1:20<(hs.length:Int)
 ·simp only[go_sem,reduceIte,↓reduceIte,reduceCtorEq,nA,nS,nM,nB,nE,nL,nT,nN,iL,iT,iE,iA,iM,iS,iG,iB,iN,iZ,h,h1,Xq]
 have hx:hs.length<=9223372036854775806:=by omega
 have hb0:=Xn Tryz.f195 0 _ _ rfl rfl
 obtain⟨r,hr,hq⟩:=Yj (cx:=cx) (blk:=0) (body:=Yl Tryz.f195 0) hs (λk (s:Unit)=>⟨E [(0,.sl .ro 2 (hs.map (Xl .ro))),(9,.sl .ro 2 (hs.map (Xl .ro))),(10,.i .i64 hs.length),(11,.i .i64 k)],B []⟩) (λs=>⟨E [],B []⟩) (λx s=>Yz x !=0) (λx s=>()) (λx s=>(.ret,⟨E [(2,.i .i64 (Yz x))],B []⟩)) (λk s=>True)
   (λs hI G=>by simp only[go_sem,reduceIte,↓reduceIte,reduceCtorEq,nA,nS,nM,nB,nE,nL,nT,nN,iL,iT,iE,iA,iM,iS,iG,iB,iN,iZ,h,Int.lt_irrefl,hb0,hx]) (λk hk s hI=>by
    have h1:((k:Int)<(hs.length:Int)):=Int.ofNat_lt.2 hk
    exact⟨_,_,_,λG=>by simp only[go_sem,reduceIte,↓reduceIte,reduceCtorEq,nA,nS,nM,nB,nE,nL,nT,nN,iL,iT,iE,iA,iM,iS,iG,iB,iN,iZ,h,XP (Xl .ro) hs _ hk,Xl,h1,Xp _ _ hk,Xe (show k<9223372036854775807 by omega),hb0]<;>with_reducible rfl,Iff.rfl,λhc=>⟨trivial,by simp only[go_sem,reduceIte,↓reduceIte,reduceCtorEq,nA,nS,nM,nB,nE,nL,nT,nN,iL,iT,iE,iA,iM,iS,iG,iB,iN,iZ,h]⟩⟩) () trivial (hs.length+1) (Nat.le_refl _)
 rw[hb0] at hr
 rcases hq with⟨s',e1,_,e3⟩ | ⟨x,s',e1,e3⟩
 ·simp only[go_sem,reduceIte,↓reduceIte,reduceCtorEq,nA,nS,nM,nB,nE,nL,nT,nN,iL,iT,iE,iA,iM,iS,iG,iB,iN,iZ,h,h1,hr,e3,Xq,Uq e1]
 ·simp only[go_sem,reduceIte,↓reduceIte,reduceCtorEq,nA,nS,nM,nB,nE,nL,nT,nN,iL,iT,iE,iA,iM,iS,iG,iB,iN,iZ,h,h1,hr,e3,Xq,Ur e1]) (rfl)
def s60:SP Tryz.prog:=mkS tyA 60 Tryz.f60 [s93] {md:=[.ro 1],rets:=some ([2],[])} Tryz.func60 (by kernel_rfl)
@[go_sem] def d60:s60.g=60/\s60.fs=⟨[.ro 1],s60.F,false⟩:=⟨nr rfl,nr rfl⟩
@[go_sem] def e60(a:Int):s60.F [.i .i64 a]=some (.b (Z8 a),[.u]):=Xd (0) rfl rfl (λcx h=>by
 simp only[go_sem,reduceIte,↓reduceIte,reduceCtorEq,nA,nS,nM,nB,nE,nL,nT,nN,iL,iT,iE,iA,iM,iS,iG,iB,iN,iZ,h,Z8]) (rfl)
def Xo6:SP Tryz.prog:=mkS tyA 196 Tryz.f196 [s60] {md:=[.ro 1],rg:=[(0,[1],[1]),(1,[15,16],[]),(2,[15,16,17],[]),(3,[4,15,16],[]),(4,[15,16,21],[]),(5,[2],[]),(6,[15,16],[]),(7,[2],[])],lv:=[(0,[15,16],[])],out:=[(0,[],[])],rets:=some ([2],[])} Tryz.func196 (by kernel_rfl)
@[go_sem] def XF7:Xo6.g=196/\Xo6.fs=⟨[.ro 1],Xo6.F,false⟩:=⟨nr rfl,nr rfl⟩
@[go_sem] def XF8(mAt q2 q3 q4 q5:Int)(q6 q7:Bool):Xo6.F [.agg [.i .i64 mAt,.i .i64 q2,.i .i64 q3,.i .i64 q4,.i .i64 q5,.b q6,.b q7]]=some (.i .i64 (Ut (Meta.mk mAt q2 q3 q4 q5 q6 q7)),[.u]):=Xd (6) rfl rfl (λcx h=>by
 obtain⟨xs,hxs⟩:∃xs:List Int,xs=[mAt,q2,q3,q4,q5]:=⟨_,rfl⟩
 have hxl:xs.length=5:=by rw[hxs]; rfl
 have hm:XeF (Meta.mk mAt q2 q3 q4 q5 q6 q7)=xs:=by rw[hxs]; rfl
 have hz:[AV.i .i64 mAt,.i .i64 q2,.i .i64 q3,.i .i64 q4,.i .i64 q5]=xs.map λa=>AV.i .i64 a:=by rw[hxs]; rfl
 have hb0:=Xn Tryz.f196 0 _ _ rfl rfl
 obtain⟨r,hr,hq⟩:=Yj (cx:=cx) (blk:=0) (body:=Yl Tryz.f196 0) xs (λk (s:Unit)=>⟨E [(15,.agg (xs.map λa=>.i .i64 a)),(16,.i .i64 k)],B []⟩) (λs=>⟨E [],B []⟩) (λx s=>!Z8 x) (λx s=>()) (λx s=>(.ret,⟨E [(2,.i .i64 3)],B []⟩)) (λk s=>True)
   (λs hI G=>by simp only[go_sem,reduceIte,↓reduceIte,reduceCtorEq,nA,nS,nM,nB,nE,nL,nT,nN,iL,iT,iE,iA,iM,iS,iG,iB,iN,iZ,h,Int.lt_irrefl,hb0,hxl,UD,Us]) (λk hk s hI=>by
    have h1:((k:Int)<(xs.length:Int)):=Int.ofNat_lt.2 hk
    have h1':(k:Int)<5:=by rw[hxl] at h1; exact h1
    have hA:=Xia (f:=λa=>AV.i .i64 a) hxl.symm hk
    exact⟨_,_,_,λG=>by simp only[go_sem,reduceIte,↓reduceIte,reduceCtorEq,nA,nS,nM,nB,nE,nL,nT,nN,iL,iT,iE,iA,iM,iS,iG,iB,iN,iZ,h,h1',hA,UD,Us,h1,Xp _ _ hk,Xe (show k<9223372036854775807 by omega),hb0]<;>with_reducible rfl,Iff.rfl,λhc=>⟨trivial,by simp only[go_sem,reduceIte,↓reduceIte,reduceCtorEq,nA,nS,nM,nB,nE,nL,nT,nN,iL,iT,iE,iA,iM,iS,iG,iB,iN,iZ,h,Us]⟩⟩) () trivial 6 (by rw[hxl]; exact Nat.le_refl _)
 rw[hb0] at hr
 rcases hq with⟨s',e1,_,e3⟩ | ⟨x,s',e1,e3⟩
 ·simp only[go_sem,reduceIte,↓reduceIte,reduceCtorEq,nA,nS,nM,nB,nE,nL,nT,nN,iL,iT,iE,iA,iM,iS,iG,iB,iN,iZ,h,hz,hr,e3,Us,Ut,hm,runS_any e1]
 ·simp only[go_sem,reduceIte,↓reduceIte,reduceCtorEq,nA,nS,nM,nB,nE,nL,nT,nN,iL,iT,iE,iA,iM,iS,iG,iB,iN,iZ,h,hz,hr,e3,Us,Ut,hm,Xcx e1]) (rfl)
def Xo7:SP Tryz.prog:=mkS tyA 126 Tryz.f126 [s93,XoX,Xo5,Xo6] {md:=[.ro 1],rg:=[(0,[1],[1]),(1,[1,4],[1]),(2,[2],[]),(3,[1,9],[1]),(4,[2],[]),(5,[1,3],[1]),(6,[1,3,33],[1]),(7,[2],[]),(8,[1,44],[1]),(9,[2],[]),(10,[2],[])],rets:=some ([2],[])} Tryz.func126 (by kernel_rfl)
@[go_sem] def XF9:Xo7.g=126/\Xo7.fs=⟨[.ro 1],Xo7.F,false⟩:=⟨nr rfl,nr rfl⟩
@[go_sem] def XGa(q8:ByteArray)(q9:Int)(q10:List XL)(q11:List UInt8)(q12 q13 q14 q15 q16:Int)(q17 q18:Bool)(q19:List ByteArray)(q20:Int)(h0:smL Yv (XM.mk q8 q9 q10 q11 (Meta.mk q12 q13 q14 q15 q16 q17 q18) q19 q20).Headers):Xo7.F [.agg [.s q8,.i .i64 q9,.sl .ro 2 (q10.map (Xl .ro)),.sl .ro 1 (q11.map YL),.i .i64 q12,.i .i64 q13,.i .i64 q14,.i .i64 q15,.i .i64 q16,.b q17,.b q18,.sl .ro 1 (q19.map Yf),.i .i64 q20]]=some (.i .i64 (Xi (XM.mk q8 q9 q10 q11 (Meta.mk q12 q13 q14 q15 q16 q17 q18) q19 q20)),[.u]):=Xd (0) rfl rfl (λcx h=>by
 cases hk:XeG q8
 ·simp only[go_sem,reduceIte,↓reduceIte,reduceCtorEq,nA,nS,nM,nB,nE,nL,nT,nN,iL,iT,iE,iA,iM,iS,iG,iB,iN,iZ,h,hk,Xi]
 cases hp:Xcy q9
 rotate_left
 ·have hp':=hp
  unfold Xcy at hp'
  simp only[Bool.and_eq_true] at hp'
  obtain⟨⟨s1,s2⟩,s3⟩:=hp'
  simp only[go_sem,reduceIte,↓reduceIte,reduceCtorEq,nA,nS,nM,nB,nE,nL,nT,nN,iL,iT,iE,iA,iM,iS,iG,iB,iN,iZ,h,hk,Xi,hp,s1,s2,s3]
 rcases XgE hp with rfl | ⟨s1,rfl⟩ | ⟨s1,s2,rfl⟩
 ·cases w1:within q20 0 20
  ·simp only[go_sem,reduceIte,↓reduceIte,reduceCtorEq,nA,nS,nM,nB,nE,nL,nT,nN,iL,iT,iE,iA,iM,iS,iG,iB,iN,iZ,h,hk,Xi,hp,w1]
  by_cases z:Xq q10=0
  rotate_left
  ·have z':(Xq q10 !=0)=true:=by simpa using z
   simp only[go_sem,reduceIte,↓reduceIte,reduceCtorEq,nA,nS,nM,nB,nE,nL,nT,nN,iL,iT,iE,iA,iM,iS,iG,iB,iN,iZ,h,hk,Xi,hp,w1,z']
  have z':(Xq q10 !=0)=false:=by simpa using z
  by_cases b1:2000<(q11.length:Int)
  ·simp only[go_sem,reduceIte,↓reduceIte,reduceCtorEq,nA,nS,nM,nB,nE,nL,nT,nN,iL,iT,iE,iA,iM,iS,iG,iB,iN,iZ,h,hk,Xi,hp,w1,z,b1]
  by_cases b2:10<(q19.length:Int)
  ·simp only[go_sem,reduceIte,↓reduceIte,reduceCtorEq,nA,nS,nM,nB,nE,nL,nT,nN,iL,iT,iE,iA,iM,iS,iG,iB,iN,iZ,h,hk,Xi,hp,w1,z,b1,b2]
  simp only[go_sem,reduceIte,↓reduceIte,reduceCtorEq,nA,nS,nM,nB,nE,nL,nT,nN,iL,iT,iE,iA,iM,iS,iG,iB,iN,iZ,h,hk,Xi,hp,w1,z,b1,b2]
 ·cases w1:within q20 0 20
  ·simp only[go_sem,reduceIte,↓reduceIte,reduceCtorEq,nA,nS,nM,nB,nE,nL,nT,nN,iL,iT,iE,iA,iM,iS,iG,iB,iN,iZ,h,hk,Xi,hp,w1]
  by_cases z:Xq q10=0
  rotate_left
  ·have z':(Xq q10 !=0)=true:=by simpa using z
   simp only[go_sem,reduceIte,↓reduceIte,reduceCtorEq,nA,nS,nM,nB,nE,nL,nT,nN,iL,iT,iE,iA,iM,iS,iG,iB,iN,iZ,h,hk,Xi,hp,w1,z']
  have z':(Xq q10 !=0)=false:=by simpa using z
  by_cases b1:2000<(q11.length:Int)
  ·simp only[go_sem,reduceIte,↓reduceIte,reduceCtorEq,nA,nS,nM,nB,nE,nL,nT,nN,iL,iT,iE,iA,iM,iS,iG,iB,iN,iZ,h,hk,Xi,hp,w1,z,b1]
  by_cases b2:10<(q19.length:Int)
  ·simp only[go_sem,reduceIte,↓reduceIte,reduceCtorEq,nA,nS,nM,nB,nE,nL,nT,nN,iL,iT,iE,iA,iM,iS,iG,iB,iN,iZ,h,hk,Xi,hp,w1,z,b1,b2]
  simp only[go_sem,reduceIte,↓reduceIte,reduceCtorEq,nA,nS,nM,nB,nE,nL,nT,nN,iL,iT,iE,iA,iM,iS,iG,iB,iN,iZ,h,hk,Xi,hp,w1,z,b1,b2]
 ·cases w1:within q20 0 20
  ·simp only[go_sem,reduceIte,↓reduceIte,reduceCtorEq,nA,nS,nM,nB,nE,nL,nT,nN,iL,iT,iE,iA,iM,iS,iG,iB,iN,iZ,h,hk,Xi,hp,w1]
  by_cases z:Xq q10=0
  rotate_left
  ·have z':(Xq q10 !=0)=true:=by simpa using z
   simp only[go_sem,reduceIte,↓reduceIte,reduceCtorEq,nA,nS,nM,nB,nE,nL,nT,nN,iL,iT,iE,iA,iM,iS,iG,iB,iN,iZ,h,hk,Xi,hp,w1,z']
  have z':(Xq q10 !=0)=false:=by simpa using z
  by_cases b1:2000<(q11.length:Int)
  ·simp only[go_sem,reduceIte,↓reduceIte,reduceCtorEq,nA,nS,nM,nB,nE,nL,nT,nN,iL,iT,iE,iA,iM,iS,iG,iB,iN,iZ,h,hk,Xi,hp,w1,z,b1]
  by_cases b2:10<(q19.length:Int)
  ·simp only[go_sem,reduceIte,↓reduceIte,reduceCtorEq,nA,nS,nM,nB,nE,nL,nT,nN,iL,iT,iE,iA,iM,iS,iG,iB,iN,iZ,h,hk,Xi,hp,w1,z,b1,b2]
  simp only[go_sem,reduceIte,↓reduceIte,reduceCtorEq,nA,nS,nM,nB,nE,nL,nT,nN,iL,iT,iE,iA,iM,iS,iG,iB,iN,iZ,h,hk,Xi,hp,w1,z,b1,b2]) (rfl)
def Xo8:SP Tryz.prog:=mkS tyA 128 Tryz.f128 [] {md:=[.ro 1,.ro 1],rets:=some ([3],[])} Tryz.func128 (by kernel_rfl)
@[go_sem] def XGb:Xo8.g=128/\Xo8.fs=⟨[.ro 1,.ro 1],Xo8.F,false⟩:=⟨nr rfl,nr rfl⟩
@[go_sem] def XGc(q21:ByteArray)(q22:Int)(q23:List XL)(q24:List UInt8)(q25 q26 q27 q28 q29:Int)(q30 q31:Bool)(q32:List ByteArray)(q33:Int)(q34:ByteArray)(q35:Int)(q36:List XL)(q37:List UInt8)(q38 q39 q40 q41 q42:Int)(q43 q44:Bool)(q45:List ByteArray)(q46:Int):Xo8.F [.agg [.s q21,.i .i64 q22,.sl .ro 2 (q23.map (Xl .ro)),.sl .ro 1 (q24.map YL),.i .i64 q25,.i .i64 q26,.i .i64 q27,.i .i64 q28,.i .i64 q29,.b q30,.b q31,.sl .ro 1 (q32.map Yf),.i .i64 q33],.pr [.s q34,.i .i64 q35,.sl .ro 2 (q36.map (Xl .ro)),.sl .ro 1 (q37.map YL),.i .i64 q38,.i .i64 q39,.i .i64 q40,.i .i64 q41,.i .i64 q42,.b q43,.b q44,.sl .ro 1 (q45.map Yf),.i .i64 q46]]=some (.b (eqv q21 q34),[.u,.u]):=Xd (0) rfl rfl (λcx h=>by
 simp only[go_sem,reduceIte,↓reduceIte,reduceCtorEq,nA,nS,nM,nB,nE,nL,nT,nN,iL,iT,iE,iA,iM,iS,iG,iB,iN,iZ,h,X8]) (rfl)
def Xag(now:Int)(e:XM):Bool:=decide (e.Meta.At<=now)&&decide ((e.Headers.length:Int)<=17)
def Xo9:SP Tryz.prog:=mkS tyA 146 Tryz.f146 [] {md:=[.ro 1,.ro 1],rets:=some ([3],[])} Tryz.func146 (by kernel_rfl)
@[go_sem] def XGd:Xo9.g=146/\Xo9.fs=⟨[.ro 1,.ro 1],Xo9.F,false⟩:=⟨nr rfl,nr rfl⟩
@[go_sem] def XGe(q21:ByteArray)(q22:Int)(q23:List XL)(q24:List UInt8)(q25 q26 q27 q28 q29:Int)(q30 q31:Bool)(q32:List ByteArray)(q33 q47 q48 q49 q50 q51 q52 q53 q54:Int)(q55:List ByteArray)(q56 q57 q58 q59 q60 q61 q62 q63 vNow q64 q65 q66:Int)(q67 q68:List XM)(q69:List Origin)(q70:List Yk):Xo9.F [.agg [.s q21,.i .i64 q22,.sl .ro 2 (q23.map (Xl .ro)),.sl .ro 1 (q24.map YL),.i .i64 q25,.i .i64 q26,.i .i64 q27,.i .i64 q28,.i .i64 q29,.b q30,.b q31,.sl .ro 1 (q32.map Yf),.i .i64 q33],.pr [.i .i64 q47,.i .i64 q48,.i .i64 q49,.i .i64 q50,.i .i64 q51,.i .i64 q52,.i .i64 q53,.i .i64 q54,.sl .ro 1 (q55.map Yf),.i .i64 q56,.i .i64 q57,.i .i64 q58,.i .i64 q59,.i .i64 q60,.i .i64 q61,.i .i64 q62,.i .i64 q63,.i .i64 vNow,.i .i64 q64,.i .i64 q65,.i .i64 q66,.sl .ro 13 (q67.map (Xa .ro)),.sl .ro 13 (q68.map (Xa .ro)),.sl .ro 7 (q69.map (Xv .ro)),.sl .ro 11 (q70.map (Xx .ro))]]=some (.b (!Xag vNow (XM.mk q21 q22 q23 q24 (Meta.mk q25 q26 q27 q28 q29 q30 q31) q32 q33)),[.u,.u]):=Xd (0) rfl rfl (λcx h=>by
 have hu:Xag vNow (XM.mk q21 q22 q23 q24 (Meta.mk q25 q26 q27 q28 q29 q30 q31) q32 q33)=(decide (q25<=vNow)&&decide ((q23.length:Int)<=17)):=rfl
 by_cases c1:vNow<q25
 ·have c1':¬(q25<=vNow):=by omega
  simp only[go_sem,reduceIte,↓reduceIte,reduceCtorEq,nA,nS,nM,nB,nE,nL,nT,nN,iL,iT,iE,iA,iM,iS,iG,iB,iN,iZ,h,c1,c1',hu]
 have c1':q25<=vNow:=by omega
 by_cases c2:17<(q23.length:Int)
 ·have c2':¬((q23.length:Int)<=17):=by omega
  simp only[go_sem,reduceIte,↓reduceIte,reduceCtorEq,nA,nS,nM,nB,nE,nL,nT,nN,iL,iT,iE,iA,iM,iS,iG,iB,iN,iZ,h,c1,c1',c2,c2',hu]
 ·have c2':(q23.length:Int)<=17:=by omega
  simp only[go_sem,reduceIte,↓reduceIte,reduceCtorEq,nA,nS,nM,nB,nE,nL,nT,nN,iL,iT,iE,iA,iM,iS,iG,iB,iN,iZ,h,c1,c1',c2,c2',hu]) (rfl)
def Xn8:SP Tryz.prog:=mkS tyA 197 Tryz.f197 [Xo8,Xo9] {md:=[.ro 1,.ro 1],rg:=[(0,[0,1],[]),(1,[0,1,7,8],[]),(2,[0,1,7,8,9],[]),(3,[0,1,5,7,8],[]),(4,[0,1,5,7,8,16],[]),(5,[4],[]),(6,[0,1,7,8],[]),(7,[4],[])],lv:=[(0,[0,1,7,8],[])],out:=[(0,[],[])],rets:=some ([4],[])} Tryz.func197 (by kernel_rfl)
@[go_sem] def XGf:Xn8.g=197/\Xn8.fs=⟨[.ro 1,.ro 1],Xn8.F,false⟩:=⟨nr rfl,nr rfl⟩
@[go_sem] def XqK(xs:List XM)(q34:ByteArray)(q35:Int)(q36:List XL)(q37:List UInt8)(q38 q39 q40 q41 q42:Int)(q43 q44:Bool)(q45:List ByteArray)(q46:Int)(hb:xs.length<=9223372036854775806):Xn8.F [.sl .ro 13 (xs.map (Xa .ro)),.fn 128 [.pr [.s q34,.i .i64 q35,.sl .ro 2 (q36.map (Xl .ro)),.sl .ro 1 (q37.map YL),.i .i64 q38,.i .i64 q39,.i .i64 q40,.i .i64 q41,.i .i64 q42,.b q43,.b q44,.sl .ro 1 (q45.map Yf),.i .i64 q46]]]=some (.i .i64 (Xh4 (λx=>eqv x.Key q34) xs 0),[.u,.u]):=Xd (xs.length+1) rfl rfl (λcx h=>by
 have hx:=hb
 have hb0:=Xn Tryz.f197 0 _ _ rfl rfl
 obtain⟨r,hr,hq⟩:=Yj (cx:=cx) (blk:=0) (body:=Yl Tryz.f197 0) xs (λk (s:Nat)=>⟨E [(0,.sl .ro 13 (xs.map (Xa .ro))),(1,.fn 128 [.pr [.s q34,.i .i64 q35,.sl .ro 2 (q36.map (Xl .ro)),.sl .ro 1 (q37.map YL),.i .i64 q38,.i .i64 q39,.i .i64 q40,.i .i64 q41,.i .i64 q42,.b q43,.b q44,.sl .ro 1 (q45.map Yf),.i .i64 q46]]),(7,.i .i64 xs.length),(8,.i .i64 k)],B []⟩) (λs=>⟨E [],B []⟩) (λx s=>eqv x.Key q34) (λx s=>s+1) (λx s=>(.ret,⟨E [(4,.i .i64 s)],B []⟩)) (λk s=>k=s)
   (λs hI G=>by simp only[go_sem,reduceIte,↓reduceIte,reduceCtorEq,nA,nS,nM,nB,nE,nL,nT,nN,iL,iT,iE,iA,iM,iS,iG,iB,iN,iZ,h,Int.lt_irrefl,hb0,hI]) (λk hk s hI=>by
    have h1:((k:Int)<(xs.length:Int)):=Int.ofNat_lt.2 hk
    obtain rfl:=hI
    exact⟨_,_,_,λG=>by simp only[go_sem,reduceIte,↓reduceIte,reduceCtorEq,nA,nS,nM,nB,nE,nL,nT,nN,iL,iT,iE,iA,iM,iS,iG,iB,iN,iZ,h,XP (Xa .ro) xs _ hk,decide_eq_true_eq,h1,Xp _ _ hk,Xe (show k<9223372036854775807 by omega),hb0]<;>with_reducible rfl,by first | exact Iff.rfl | simp,λhc=>⟨rfl,by simp only[go_sem,reduceIte,↓reduceIte,reduceCtorEq,nA,nS,nM,nB,nE,nL,nT,nN,iL,iT,iE,iA,iM,iS,iG,iB,iN,iZ,h]⟩⟩) 0 rfl (xs.length+1) (Nat.le_refl _)
 rw[hb0] at hr
 rcases hq with⟨s',e1,_,e3⟩ | ⟨x,s',e1,e3⟩
 ·simp only[go_sem,reduceIte,↓reduceIte,reduceCtorEq,nA,nS,nM,nB,nE,nL,nT,nN,iL,iT,iE,iA,iM,iS,iG,iB,iN,iZ,h,hr,e3,Xcr e1]
 ·simp only[go_sem,reduceIte,↓reduceIte,reduceCtorEq,nA,nS,nM,nB,nE,nL,nT,nN,iL,iT,iE,iA,iM,iS,iG,iB,iN,iZ,h,hr,e3,Xbp e1]) (rfl)
@[go_sem] def XqL(xs:List XM)(q47 q48 q49 q50 q51 q52 q53 q54:Int)(q55:List ByteArray)(q56 q57 q58 q59 q60 q61 q62 q63 vNow q64 q65 q66:Int)(q67 q68:List XM)(q69:List Origin)(q70:List Yk)(hb:xs.length<=9223372036854775806):Xn8.F [.sl .ro 13 (xs.map (Xa .ro)),.fn 146 [.pr [.i .i64 q47,.i .i64 q48,.i .i64 q49,.i .i64 q50,.i .i64 q51,.i .i64 q52,.i .i64 q53,.i .i64 q54,.sl .ro 1 (q55.map Yf),.i .i64 q56,.i .i64 q57,.i .i64 q58,.i .i64 q59,.i .i64 q60,.i .i64 q61,.i .i64 q62,.i .i64 q63,.i .i64 vNow,.i .i64 q64,.i .i64 q65,.i .i64 q66,.sl .ro 13 (q67.map (Xa .ro)),.sl .ro 13 (q68.map (Xa .ro)),.sl .ro 7 (q69.map (Xv .ro)),.sl .ro 11 (q70.map (Xx .ro))]]]=some (.i .i64 (Xh4 (λx=>!Xag vNow x) xs 0),[.u,.u]):=Xd (xs.length+1) rfl rfl (λcx h=>by
 have hx:=hb
 have hb0:=Xn Tryz.f197 0 _ _ rfl rfl
 obtain⟨r,hr,hq⟩:=Yj (cx:=cx) (blk:=0) (body:=Yl Tryz.f197 0) xs (λk (s:Nat)=>⟨E [(0,.sl .ro 13 (xs.map (Xa .ro))),(1,.fn 146 [.pr [.i .i64 q47,.i .i64 q48,.i .i64 q49,.i .i64 q50,.i .i64 q51,.i .i64 q52,.i .i64 q53,.i .i64 q54,.sl .ro 1 (q55.map Yf),.i .i64 q56,.i .i64 q57,.i .i64 q58,.i .i64 q59,.i .i64 q60,.i .i64 q61,.i .i64 q62,.i .i64 q63,.i .i64 vNow,.i .i64 q64,.i .i64 q65,.i .i64 q66,.sl .ro 13 (q67.map (Xa .ro)),.sl .ro 13 (q68.map (Xa .ro)),.sl .ro 7 (q69.map (Xv .ro)),.sl .ro 11 (q70.map (Xx .ro))]]),(7,.i .i64 xs.length),(8,.i .i64 k)],B []⟩) (λs=>⟨E [],B []⟩) (λx s=>!Xag vNow x) (λx s=>s+1) (λx s=>(.ret,⟨E [(4,.i .i64 s)],B []⟩)) (λk s=>k=s)
   (λs hI G=>by simp only[go_sem,reduceIte,↓reduceIte,reduceCtorEq,nA,nS,nM,nB,nE,nL,nT,nN,iL,iT,iE,iA,iM,iS,iG,iB,iN,iZ,h,Int.lt_irrefl,hb0,hI]) (λk hk s hI=>by
    have h1:((k:Int)<(xs.length:Int)):=Int.ofNat_lt.2 hk
    obtain rfl:=hI
    exact⟨_,_,_,λG=>by simp only[go_sem,reduceIte,↓reduceIte,reduceCtorEq,nA,nS,nM,nB,nE,nL,nT,nN,iL,iT,iE,iA,iM,iS,iG,iB,iN,iZ,h,XP (Xa .ro) xs _ hk,decide_eq_true_eq,h1,Xp _ _ hk,Xe (show k<9223372036854775807 by omega),hb0]<;>with_reducible rfl,by first | exact Iff.rfl | simp,λhc=>⟨rfl,by simp only[go_sem,reduceIte,↓reduceIte,reduceCtorEq,nA,nS,nM,nB,nE,nL,nT,nN,iL,iT,iE,iA,iM,iS,iG,iB,iN,iZ,h]⟩⟩) 0 rfl (xs.length+1) (Nat.le_refl _)
 rw[hb0] at hr
 rcases hq with⟨s',e1,_,e3⟩ | ⟨x,s',e1,e3⟩
 ·simp only[go_sem,reduceIte,↓reduceIte,reduceCtorEq,nA,nS,nM,nB,nE,nL,nT,nN,iL,iT,iE,iA,iM,iS,iG,iB,iN,iZ,h,hr,e3,Xcr e1]
 ·simp only[go_sem,reduceIte,↓reduceIte,reduceCtorEq,nA,nS,nM,nB,nE,nL,nT,nN,iL,iT,iE,iA,iM,iS,iG,iB,iN,iZ,h,hr,e3,Xbp e1]) (rfl)
def Xn9:SP Tryz.prog:=mkS tyA 127 Tryz.f127 [Xn8] {md:=[.ro 1,.ro 1],rets:=some ([4],[])} Tryz.func127 (by kernel_rfl)
@[go_sem] def XGg:Xn9.g=127/\Xn9.fs=⟨[.ro 1,.ro 1],Xn9.F,false⟩:=⟨nr rfl,nr rfl⟩
@[go_sem] def XqM(xs:List XM)(q34:ByteArray)(q35:Int)(q36:List XL)(q37:List UInt8)(q38 q39 q40 q41 q42:Int)(q43 q44:Bool)(q45:List ByteArray)(q46:Int)(hb:xs.length<=9223372036854775806):Xn9.F [.sl .ro 13 (xs.map (Xa .ro)),.fn 128 [.pr [.s q34,.i .i64 q35,.sl .ro 2 (q36.map (Xl .ro)),.sl .ro 1 (q37.map YL),.i .i64 q38,.i .i64 q39,.i .i64 q40,.i .i64 q41,.i .i64 q42,.b q43,.b q44,.sl .ro 1 (q45.map Yf),.i .i64 q46]]]=some (.b (xs.any (λx=>eqv x.Key q34)),[.u,.u]):=Xd (0) rfl rfl (λcx h=>by
 simp only[go_sem,reduceIte,↓reduceIte,reduceCtorEq,nA,nS,nM,nB,nE,nL,nT,nN,iL,iT,iE,iA,iM,iS,iG,iB,iN,iZ,h,hb,Xbq]) (rfl)
@[go_sem] def XqN(xs:List XM)(q47 q48 q49 q50 q51 q52 q53 q54:Int)(q55:List ByteArray)(q56 q57 q58 q59 q60 q61 q62 q63 vNow q64 q65 q66:Int)(q67 q68:List XM)(q69:List Origin)(q70:List Yk)(hb:xs.length<=9223372036854775806):Xn9.F [.sl .ro 13 (xs.map (Xa .ro)),.fn 146 [.pr [.i .i64 q47,.i .i64 q48,.i .i64 q49,.i .i64 q50,.i .i64 q51,.i .i64 q52,.i .i64 q53,.i .i64 q54,.sl .ro 1 (q55.map Yf),.i .i64 q56,.i .i64 q57,.i .i64 q58,.i .i64 q59,.i .i64 q60,.i .i64 q61,.i .i64 q62,.i .i64 q63,.i .i64 vNow,.i .i64 q64,.i .i64 q65,.i .i64 q66,.sl .ro 13 (q67.map (Xa .ro)),.sl .ro 13 (q68.map (Xa .ro)),.sl .ro 7 (q69.map (Xv .ro)),.sl .ro 11 (q70.map (Xx .ro))]]]=some (.b (xs.any (λx=>!Xag vNow x)),[.u,.u]):=Xd (0) rfl rfl (λcx h=>by
 simp only[go_sem,reduceIte,↓reduceIte,reduceCtorEq,nA,nS,nM,nB,nE,nL,nT,nN,iL,iT,iE,iA,iM,iS,iG,iB,iN,iZ,h,hb,Xbq]) (rfl)
def Xpa:SP Tryz.prog:=⟨246,⟨[.ro 1],XnI,false⟩,XnK Tryz.func246 (by kernel_rfl) rfl Go.Proofs.Tryz.ht_k⟩
@[go_sem] def XGh:Xpa.g=246/\Xpa.fs=⟨[.ro 1],Xpa.F,false⟩:=⟨nr rfl,nr rfl⟩
@[go_sem] def XGi(hs:List XL)(h0:smL Yv hs):Xpa.F [.sl .ro 2 (hs.map (Xl .ro))]=some (.s (UE hs),[.u]):=Xlr (λx:XL=>x.Name) (λx=>x.Value) hs (Xie h0)
def Xpb:SP Tryz.prog:=mkS tyA 198 Tryz.f198 [Xpa] {md:=[.ro 1],rets:=some ([2],[]),plan:=[(1,(.take 0 (.take 1 (.take 2 (.take 3 (.take 4 (.take 8 (.take 9 (.take 10 (.one 5 (.take 6 (.take 7 (.take 11 (.take 12 (.one 13 .done)))))))))))))))]} Tryz.func198 (by kernel_rfl)
@[go_sem] def XGj:Xpb.g=198/\Xpb.fs=⟨[.ro 1],Xpb.F,false⟩:=⟨nr rfl,nr rfl⟩
@[go_sem] def XGk(q8:ByteArray)(q9:Int)(q10:List XL)(q11:List UInt8)(q12 q13 q14 q15 q16:Int)(q17 q18:Bool)(q19:List ByteArray)(q20:Int)(h0:(smL Yv (XM.mk q8 q9 q10 q11 (Meta.mk q12 q13 q14 q15 q16 q17 q18) q19 q20).Headers/\(XM.mk q8 q9 q10 q11 (Meta.mk q12 q13 q14 q15 q16 q17 q18) q19 q20).Key.size<=1048576/\(XM.mk q8 q9 q10 q11 (Meta.mk q12 q13 q14 q15 q16 q17 q18) q19 q20).Body.length<=1048576)):Xpb.F [.agg [.s q8,.i .i64 q9,.sl .ro 2 (q10.map (Xl .ro)),.sl .ro 1 (q11.map YL),.i .i64 q12,.i .i64 q13,.i .i64 q14,.i .i64 q15,.i .i64 q16,.b q17,.b q18,.sl .ro 1 (q19.map Yf),.i .i64 q20]]=some (.i .i64 (Qx (XM.mk q8 q9 q10 q11 (Meta.mk q12 q13 q14 q15 q16 q17 q18) q19 q20)),[.u]):=Xd (0) rfl rfl (λcx h=>by
 obtain⟨g1,g2,g3⟩:=h0
 simp only at g1 g2 g3
 have hp:=XbB g1
 unfold XbA at hp
 have w1:(IntKind.i64).wrap ((q8.size:Int)+((UE q10).size:Int))=(q8.size:Int)+((UE q10).size:Int):=Xc (by omega) (by omega)
 have w2:(IntKind.i64).wrap ((q8.size:Int)+((UE q10).size:Int)+(q11.length:Int))=(q8.size:Int)+((UE q10).size:Int)+(q11.length:Int):=Xc (by omega) (by omega)
 have w3:(IntKind.i64).wrap (50+((q8.size:Int)+((UE q10).size:Int)+(q11.length:Int)))=50+((q8.size:Int)+((UE q10).size:Int)+(q11.length:Int)):=Xc (by omega) (by omega)
 simp only[go_sem,reduceIte,↓reduceIte,reduceCtorEq,nA,nS,nM,nB,nE,nL,nT,nN,iL,iT,iE,iA,iM,iS,iG,iB,iN,iZ,h,g1,w1,w2,w3,Qx]) (rfl)
def Xma:SP Tryz.prog:=mkS tyA 130 Tryz.f130 [Xpb] {md:=[.ro 1],rg:=[(0,[0],[]),(1,[0,3],[]),(2,[0,3,6,7,8],[]),(3,[0,3,6,7,8,9],[]),(4,[0,3,5,6,7,8],[5]),(5,[0,3,6,7,8],[]),(6,[0,3,6,7,8],[]),(7,[2],[])],lv:=[(0,[0,3,6,7,8],[])],out:=[(0,[3],[])],rets:=some ([2],[])} Tryz.func130 (by kernel_rfl)
@[go_sem] def XGl:Xma.g=130/\Xma.fs=⟨[.ro 1],Xma.F,false⟩:=⟨nr rfl,nr rfl⟩
@[go_sem] def XsR(xs:List XM)(h0:(xs.length<=2097152/\Xfr Y0 xs)):Xma.F [.sl .ro 13 (xs.map (Xa .ro))]=some (.i .i64 (ZK xs),[.u]):=Xd (xs.length+1) rfl rfl (λcx h=>by
 have hx:xs.length<=9223372036854775806:=by have:=h0.1; omega
 have hb0:=Xn Tryz.f130 0 _ _ rfl rfl
 obtain⟨hI,hr⟩:=XY (cx:=cx) (blk:=0) (body:=Yl Tryz.f130 0) xs (λk (s:Int)=>⟨E [(0,.sl .ro 13 (xs.map (Xa .ro))),(3,.i .i64 s),(6,.sl .ro 13 (xs.map (Xa .ro))),(7,.i .i64 xs.length),(8,.i .i64 k)],B []⟩) (λs=>⟨E [(3,.i .i64 s)],B []⟩) (λx s=>s+Qx x) (λk s=>0<=s/\s<=(k:Int)*2199030595634)
   (λs hI G=>by simp only[go_sem,reduceIte,↓reduceIte,reduceCtorEq,nA,nS,nM,nB,nE,nL,nT,nN,iL,iT,iE,iA,iM,iS,iG,iB,iN,iZ,h,Int.lt_irrefl,hb0,hx]) (λk hk s hI=>by
    have h1:((k:Int)<(xs.length:Int)):=Int.ofNat_lt.2 hk
    obtain⟨i1,i2⟩:=hI
    have hm:=h0.2 _ (List.getElem_mem hk)
    have hc:=Xd5 hm
    have hJ:0<=s+Qx xs[k]/\s+Qx xs[k]<=((k+1:Nat):Int)*2199030595634:=by
     rw[Int.natCast_add,Int.add_mul]; constructor<;>omega
    have hb1:(k:Int)*2199030595634<=2097152*2199030595634:=Int.mul_le_mul_of_nonneg_right (by omega) (by decide)
    have hw:(IntKind.i64).wrap (s+Qx xs[k])=s+Qx xs[k]:=Xc (by omega) (by omega)
    have hm1:=hm.2.2.1
    have hm2:xs[k].Key.size<=1048576:=hm.1
    have hm3:=hm.2.2.2.1.1
    exact⟨hJ,_,λG=>by simp only[go_sem,reduceIte,↓reduceIte,reduceCtorEq,nA,nS,nM,nB,nE,nL,nT,nN,iL,iT,iE,iA,iM,iS,iG,iB,iN,iZ,h,hw,hm1,hm2,hm3,XP (Xa .ro) xs k hk,h1,Xp _ _ hk,Xe (show k<9223372036854775807 by omega),hb0]<;>with_reducible rfl,by simp only[go_sem,reduceIte,↓reduceIte,reduceCtorEq,nA,nS,nM,nB,nE,nL,nT,nN,iL,iT,iE,iA,iM,iS,iG,iB,iN,iZ,h]⟩) 0 (by simp) (xs.length+1) (Nat.le_refl _)
 rw[hb0] at hr
 have hcs:ZK xs=xs.foldl (λs x=>s+Qx x) 0:=rfl
 rw[<-hcs] at hr
 simp only[go_sem,reduceIte,↓reduceIte,reduceCtorEq,nA,nS,nM,nB,nE,nL,nT,nN,iL,iT,iE,iA,iM,iS,iG,iB,iN,iZ,h,hr]) (rfl)
@[go_sem] def Xsr:Xma.F [.sl .ro 13 []]=some (.i .i64 0,[.u]):=XsR [] ⟨Nat.zero_le _,λx hx=>by cases hx⟩
end
end Go.Vm.A
