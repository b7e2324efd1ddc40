/- Functions of the program, walked by the evaluator. -/
import Derived.Test.YtbgfaonlbpkfhaaGreatDoorWb
import Derived.Test.YtbgfaonlbpkfhaaGreatDoorWa
import Derived.Test.YtbgfaonlbpkfhaaGreatDoorFb
import Derived.Test.YtbgfaonlbpkfhaaGreatDoorFc
import Derived.Test.YtbgfaonlbpkfhaaGreatDoorFe
import Derived.Test.YtbgfaonlbpkfhaaGreatDoorFf
import Derived.Test.YtbgfaonlbpkfhaaGreatDoorFg
set_option linter.unusedVariables false
set_option linter.unusedSimpArgs false
set_option autoImplicit false
set_option maxRecDepth 100000
set_option maxHeartbeats 4000000
set_option linter.defProp false
namespace Go.Vm.A
open Go.Proofs
open Nat renaming reduceAdd -> nA, reduceSub -> nS, reduceMul -> nM, reduceBEq -> nB, reduceEqDiff -> nE, reduceLeDiff -> nL, reduceLT -> nT, reduceBneDiff -> nN
open Int renaming reduceLE -> iL, reduceLT -> iT, reduceEq -> iE, reduceAdd -> iA, reduceMul -> iM, reduceSub -> iS, reduceNeg -> iG, reduceBEq -> iB, reduceBNe -> iN, reduceToNat -> iZ
noncomputable section
def XsO:SP Tryz.prog:=mkS tyA 138 Tryz.f138 [s60,s93,XoX,Xq9,XsN,Xrf] {md:=[.ro 1],rg:=[(0,[1],[1]),(1,[1,3],[1]),(2,[2],[]),(3,[1,20],[1]),(4,[2],[]),(5,[1,25],[1]),(6,[2],[]),(7,[1,29],[1]),(8,[2],[]),(9,[34],[]),(10,[2],[]),(11,[2],[])],rets:=some ([2],[])} Tryz.func138 (by kernel_rfl)
@[go_sem] def XLR:XsO.g=138/\XsO.fs=⟨[.ro 1],XsO.F,false⟩:=⟨nr rfl,nr rfl⟩
@[go_sem] def XLS(j0 j1 j2:Int)(j3:List Z2)(h0:(Breaker.mk j0 j1 j2 j3).Marks.length<=1048576):XsO.F [.agg [.i .i64 j0,.i .i64 j1,.i .i64 j2,.sl .ro 2 (j3.map (XL .ro))]]=some (.i .i64 (XG (Breaker.mk j0 j1 j2 j3)),[.u]):=Xb (0) rfl rfl (λcx h=>by
 have hb:j3.length<=9223372036854775806:=by have:=h0; simp only at this; omega
 by_cases c0:(within j0 0 2&&XC j1&&within j2 0 5)=false
 ·simp only[go_sem,reduceIte,↓reduceIte,nA,nB,nE,nL,h,hb,XG,c0]
  all_goals (cases hw1:within j0 0 2<;>cases hw2:XC j1<;>cases hw3:within j2 0 5<;>simp_all)
 simp only[Bool.not_eq_false,Bool.and_eq_true] at c0
 obtain⟨⟨d1,d2⟩,d3⟩:=c0
 by_cases c1:60<(j3.length:Int)
 ·simp only[go_sem,reduceIte,↓reduceIte,nA,nB,nE,nL,h,XG,d1,d2,d3,c1]
 cases c2:XoO j3
 case true =>
  have c2':(j3.any λx=>!XC x.At)=true:=c2
  simp only[go_sem,reduceIte,↓reduceIte,nA,nB,nE,nL,h,hb,XG,d1,d2,d3,c1,c2,c2']
 have c2':(j3.any λx=>!XC x.At)=false:=c2
 have c4:j3.length<=1000:=by omega
 cases c5:QK j3
 case true=>simp only[go_sem,reduceIte,↓reduceIte,nA,nB,nE,nL,h,hb,XG,d1,d2,d3,c1,c2,c2',c4,c5]
 simp only[go_sem,reduceIte,↓reduceIte,nA,nB,nE,nL,h,hb,XG,d1,d2,d3,c1,c2,c2',c4,c5]
 all_goals (cases e1:j0 !=0<;>cases e2:j0 !=2<;>cases e3:j2 !=0<;>cases e4:decide (0<(j3.length:Int))<;>simp_all)) (rfl)
def XsP:SP Tryz.prog:=mkS tyA 137 Tryz.f137 [XsO] {md:=[.ro 1],rets:=some ([1],[])} Tryz.func137 (by kernel_rfl)
@[go_sem] def XLT:XsP.g=137/\XsP.fs=⟨[.ro 1],XsP.F,false⟩:=⟨nr rfl,nr rfl⟩
@[go_sem] def XLU(j4:ByteArray)(j5:Int)(j6:List ZM)(j7 j8 j9:Int)(j10:List Z2)(h0:j10.length<=1048576):XsP.F [.pr [.s j4,.i .i64 j5,.sl .ro 2 (j6.map (XF .ro)),.i .i64 j7,.i .i64 j8,.i .i64 j9,.sl .ro 2 (j10.map (XL .ro))]]=some (.i .i64 (XG (Breaker.mk j7 j8 j9 j10)),[.u]):=Xb (0) rfl rfl (λcx h=>by
 simp only[go_sem,reduceIte,↓reduceIte,nA,nB,h,h0]) (rfl)
def XkN:SP Tryz.prog:=mkS tyA 57 Tryz.f57 [Xof,XsM,XsP] {md:=[.ro 1],rg:=[(0,[0],[]),(1,[0,6,7,8],[]),(2,[0,6,7,8,9],[]),(3,[0,4,6,7,8],[]),(4,[0,5,6,7,8],[]),(5,[0,5,6,7,8,15],[]),(6,[2],[]),(7,[0,6,7,8],[]),(8,[2],[])],lv:=[(0,[0,6,7,8],[])],out:=[(0,[],[])],rets:=some ([2],[])} Tryz.func57 (by kernel_rfl)
@[go_sem] def Xw1:XkN.g=57/\XkN.fs=⟨[.ro 1],XkN.F,false⟩:=⟨nr rfl,nr rfl⟩
@[go_sem] def Xwt(j4:ByteArray)(j5:Int)(j6:List ZM)(j7 j8 j9:Int)(j10:List Z2)(j11 j12 j13 j14 j15 j16 j17 j18:Int)(j19:List ByteArray)(j20 j21 j22 j23 j24 j25 j26 j27 j28 j29 j30 j31:Int)(j32 j33:List XK)(j34:List Origin)(j35:List Xl)(q1 q2:Bool)(x1 x2:Int)(h0:j10.length<=1048576):XkN.F [.fs [.fn 124 [.pr [.b q1],.pr [.i .i64 x1]],.fn 135 [.pr [.s j4,.i .i64 j5,.sl .ro 2 (j6.map (XF .ro)),.i .i64 j7,.i .i64 j8,.i .i64 j9,.sl .ro 2 (j10.map (XL .ro))],.pr [.i .i64 j11,.i .i64 j12,.i .i64 j13,.i .i64 j14,.i .i64 j15,.i .i64 j16,.i .i64 j17,.i .i64 j18,.sl .ro 1 (j19.map Ye),.i .i64 j20,.i .i64 j21,.i .i64 j22,.i .i64 j23,.i .i64 j24,.i .i64 j25,.i .i64 j26,.i .i64 j27,.i .i64 j28,.i .i64 j29,.i .i64 j30,.i .i64 j31,.sl .ro 13 (j32.map (Xa .ro)),.sl .ro 13 (j33.map (Xa .ro)),.sl .ro 7 (j34.map (Xe .ro)),.sl .ro 11 (j35.map (Xc .ro))]],.fn 137 [.pr [.s j4,.i .i64 j5,.sl .ro 2 (j6.map (XF .ro)),.i .i64 j7,.i .i64 j8,.i .i64 j9,.sl .ro 2 (j10.map (XL .ro))]],.fn 124 [.pr [.b q2],.pr [.i .i64 x2]]]]=some (.i .i64 (Zr [(if q1=true then x1 else 0),Yf (Bulk.mk j5 j6) (Lanes.mk j20 j21 j22),XG (Breaker.mk j7 j8 j9 j10),(if q2=true then x2 else 0)]),[.u]):=Xb (5) rfl rfl (λcx h=>by
 have hM:=h0
 by_cases z0:(if q1=true then x1 else 0)=0
 rotate_left
 ·have y0:((if q1=true then x1 else 0) !=0)=true:=by simpa using z0
  simp only[go_sem,reduceIte,↓reduceIte,nA,nB,nE,iT,h,y0,Xm,Qw]
 have y0:((if q1=true then x1 else 0) !=0)=false:=by simpa using z0
 by_cases z1:Yf (Bulk.mk j5 j6) (Lanes.mk j20 j21 j22)=0
 rotate_left
 ·have y1:(Yf (Bulk.mk j5 j6) (Lanes.mk j20 j21 j22) !=0)=true:=by simpa using z1
  simp only[go_sem,reduceIte,↓reduceIte,nA,nB,nE,iT,iA,h,y0,y1,Xm,Q0,Uz,Qw]
 have y1:(Yf (Bulk.mk j5 j6) (Lanes.mk j20 j21 j22) !=0)=false:=by simpa using z1
 by_cases z2:XG (Breaker.mk j7 j8 j9 j10)=0
 rotate_left
 ·have y2:(XG (Breaker.mk j7 j8 j9 j10) !=0)=true:=by simpa using z2
  simp only[go_sem,reduceIte,↓reduceIte,nA,nB,nE,iT,iA,h,hM,y0,y1,y2,Xm,Q0,U9,Xav,Uz,Qw]
 have y2:(XG (Breaker.mk j7 j8 j9 j10) !=0)=false:=by simpa using z2
 by_cases z3:(if q2=true then x2 else 0)=0
 rotate_left
 ·have y3:((if q2=true then x2 else 0) !=0)=true:=by simpa using z3
  simp only[go_sem,reduceIte,↓reduceIte,nA,nB,nE,iT,iA,h,hM,y0,y1,y2,y3,Xm,Q0,U9,XbH,Xci,Xav,Uz,Qw]
 have y3:((if q2=true then x2 else 0) !=0)=false:=by simpa using z3
 simp only[go_sem,reduceIte,↓reduceIte,nA,nB,nE,iT,iA,h,hM,y0,y1,y2,y3,Xm,UY,Q0,U9,XbH,XdE,Xgp,Xci,Xav,Uz,Qw]) (rfl)
def s64:SP Tryz.prog:=mkS tyA 64 Tryz.f64 [XkN,s59,XoX,Xrb,XoY] {md:=[.ro 1,.ro 1],rg:=[(0,[2,3],[2,3]),(1,[2,3,5],[2,3]),(2,[4],[])],rets:=some ([4],[]),plan:=[(2,(.take 0 (.take 1 (.take 13 (.take 14 (.take 15 (.one 2 (.take 3 (.take 4 (.take 5 (.take 6 (.take 8 (.take 9 (.one 7 (.take 10 (.take 11 (.one 12 (.one 16 (.one 17 (.one 18 (.one 19 .done)))))))))))))))))))))],fz:=[2,3]} Tryz.func64 (by kernel_rfl)
@[go_sem] def d64:s64.g=64/\s64.fs=⟨[.ro 1,.ro 1],s64.F,false⟩:=⟨nr rfl,nr rfl⟩
@[go_sem] def e64(j11 j12 j13 j14 j15 j16 j17 j18:Int)(j19:List ByteArray)(j20 j21 j22 j23 j24 j25 j26 j27 j28 j29 j30 j31:Int)(j32 j33:List XK)(j34:List Origin)(j35:List Xl)(j4:ByteArray)(j5:Int)(j6:List ZM)(j7 j8 j9:Int)(j10:List Z2)(h0:j10.length<=1048576):s64.F [.agg [.i .i64 j11,.i .i64 j12,.i .i64 j13,.i .i64 j14,.i .i64 j15,.i .i64 j16,.i .i64 j17,.i .i64 j18,.sl .ro 1 (j19.map Ye),.i .i64 j20,.i .i64 j21,.i .i64 j22,.i .i64 j23,.i .i64 j24,.i .i64 j25,.i .i64 j26,.i .i64 j27,.i .i64 j28,.i .i64 j29,.i .i64 j30,.i .i64 j31,.sl .ro 13 (j32.map (Xa .ro)),.sl .ro 13 (j33.map (Xa .ro)),.sl .ro 7 (j34.map (Xe .ro)),.sl .ro 11 (j35.map (Xc .ro))],.agg [.s j4,.i .i64 j5,.sl .ro 2 (j6.map (XF .ro)),.i .i64 j7,.i .i64 j8,.i .i64 j9,.sl .ro 2 (j10.map (XL .ro))]]=some (.i .i64 (XE (Shield.mk (Config.mk j11 j12 j13 j14 j15 j16 j17 j18 j19 (Lanes.mk j20 j21 j22) (Rules.mk j23 j24 j25 j26 j27)) j28 j29 (Store.mk j30 j31 j32 j33) j34 j35) (Origin.mk j4 (Bulk.mk j5 j6) (Breaker.mk j7 j8 j9 j10))),[.u,.u]):=Xb (0) rfl rfl (λcx h=>by
 have hM:=h0
 have hx:j10.length<=9223372036854775806:=by omega
 have hu:XE (Shield.mk (Config.mk j11 j12 j13 j14 j15 j16 j17 j18 j19 (Lanes.mk j20 j21 j22) (Rules.mk j23 j24 j25 j26 j27)) j28 j29 (Store.mk j30 j31 j32 j33) j34 j35) (Origin.mk j4 (Bulk.mk j5 j6) (Breaker.mk j7 j8 j9 j10))=Zr [if UT (Origin.mk j4 (Bulk.mk j5 j6) (Breaker.mk j7 j8 j9 j10))=true then 5 else 0,Yf (Bulk.mk j5 j6) (Lanes.mk j20 j21 j22),XG (Breaker.mk j7 j8 j9 j10),if Xju j28 (Breaker.mk j7 j8 j9 j10)=true then 3 else 0]:=rfl
 have ht:UT (Origin.mk j4 (Bulk.mk j5 j6) (Breaker.mk j7 j8 j9 j10))=(!QI j4||!eqv (QH j4) j4):=rfl
 have hl:Xju j28 (Breaker.mk j7 j8 j9 j10)=(decide (j28<j8)||j10.any λx=>decide (j28<x.At)):=rfl
 obtain⟨B1,hB1⟩:∃q,Yf (Bulk.mk j5 j6) (Lanes.mk j20 j21 j22)=q:=⟨_,rfl⟩
 obtain⟨B2,hB2⟩:∃q,XG (Breaker.mk j7 j8 j9 j10)=q:=⟨_,rfl⟩
 rw[hB1,hB2] at hu
 by_cases c1:j28<j8
 ·cases a1:QI j4
  ·simp only[go_sem,reduceIte,↓reduceIte,nA,nB,nE,nL,h,hM,c1,a1,hB1,hB2,ht,hl,hu]
  have hs:j4.size<=9223372036854775806:=Xcc a1
  cases a2:eqv (QH j4) j4<;>simp only[go_sem,reduceIte,↓reduceIte,nA,nB,nE,nL,h,hM,c1,a1,hs,a2,XH,hB1,hB2,ht,hl,hu]
 cases c2:(j10.any λx=>decide (j28<x.At))
 all_goals (cases a1:QI j4)
 all_goals first
  | (simp only[go_sem,reduceIte,↓reduceIte,nA,nB,nE,nL,h,hM,hx,c1,c2,a1,hB1,hB2,ht,hl,hu]; done)
  | (have hs:j4.size<=9223372036854775806:=Xcc a1
     cases a2:eqv (QH j4) j4<;>simp only[go_sem,reduceIte,↓reduceIte,nA,nB,nE,nL,h,hM,hx,c1,c2,a1,hs,a2,XH,hB1,hB2,ht,hl,hu])) (rfl)
def XsQ:SP Tryz.prog:=mkS tyA 140 Tryz.f140 [] {md:=[.ro 1,.ro 1],rets:=some ([3],[])} Tryz.func140 (by kernel_rfl)
@[go_sem] def XLV:XsQ.g=140/\XsQ.fs=⟨[.ro 1,.ro 1],XsQ.F,false⟩:=⟨nr rfl,nr rfl⟩
@[go_sem] def XLW(j4:ByteArray)(j5:Int)(j6:List ZM)(j7 j8 j9:Int)(j10:List Z2)(host:ByteArray):XsQ.F [.agg [.s j4,.i .i64 j5,.sl .ro 2 (j6.map (XF .ro)),.i .i64 j7,.i .i64 j8,.i .i64 j9,.sl .ro 2 (j10.map (XL .ro))],.pr [.s host]]=some (.b (eqv (Origin.mk j4 (Bulk.mk j5 j6) (Breaker.mk j7 j8 j9 j10)).Host host),[.u,.u]):=Xb (0) rfl rfl (λcx h=>by
 simp only[go_sem,reduceIte,↓reduceIte,nA,nB,nL,h,XH]) (rfl)
def XsR:SP Tryz.prog:=mkS tyA 139 Tryz.f139 [XsQ] {md:=[.ro 1,.ro 1],rg:=[(0,[0,1],[]),(1,[0,1,7,8],[]),(2,[0,1,7,8,9],[]),(3,[0,1,5,7,8],[]),(4,[0,1,5,7,8,16],[]),(5,[4],[]),(6,[0,1,7,8],[]),(7,[4],[])],lv:=[(0,[0,1,7,8],[])],out:=[(0,[],[])],rets:=some ([4],[])} Tryz.func139 (by kernel_rfl)
@[go_sem] def XLX:XsR.g=139/\XsR.fs=⟨[.ro 1,.ro 1],XsR.F,false⟩:=⟨nr rfl,nr rfl⟩
@[go_sem] def XuG(xs:List Origin)(host:ByteArray)(hb:xs.length<=9223372036854775806):XsR.F [.sl .ro 7 (xs.map (Xe .ro)),.fn 140 [.pr [.s host]]]=some (.i .i64 (U6 (λx=>eqv x.Host host) xs 0),[.u,.u]):=Xb (xs.length+1) rfl rfl (λcx h=>by
 have hx:=hb
 have hb0:=Xg Tryz.f139 0 _ _ rfl rfl
 obtain⟨r,hr,hq⟩:=Xq (cx:=cx) (blk:=0) (body:=XN Tryz.f139 0) xs (λk (s:Nat)=>⟨E [(0,.sl .ro 7 (xs.map (Xe .ro))),(1,.fn 140 [.pr [.s host]]),(7,.i .i64 xs.length),(8,.i .i64 k)],B []⟩) (λs=>⟨E [],B []⟩) (λx s=>eqv x.Host host) (λx s=>s+1) (λx s=>(.ret,⟨E [(4,.i .i64 s)],B []⟩)) (λk s=>k=s)
   (λs hI G=>by simp only[go_sem,reduceIte,↓reduceIte,nB,nE,h,Int.lt_irrefl,hb0,hI]) (λk hk s hI=>by
    have h1:((k:Int)<(xs.length:Int)):=Int.ofNat_lt.2 hk
    obtain rfl:=hI
    exact⟨_,_,_,λG=>by simp only[go_sem,reduceIte,↓reduceIte,nA,nB,nE,h,Xi (Xe .ro) xs _ hk,h1,Xh _ _ hk,Xd (show k<9223372036854775807 by omega),hb0]<;>with_reducible rfl,by first | exact Iff.rfl | simp,λhc=>⟨rfl,by simp only[go_sem,reduceIte,↓reduceIte,nB,h]⟩⟩) 0 rfl (xs.length+1) (Nat.le_refl _)
 rw[hb0] at hr
 rcases hq with⟨s',e1,_,e3⟩ | ⟨x,s',e1,e3⟩
 ·simp only[go_sem,reduceIte,↓reduceIte,nB,nE,iG,h,hr,e3,ZJ e1]
 ·simp only[go_sem,reduceIte,↓reduceIte,nB,h,hr,e3,Zc e1]) (rfl)
def s65:SP Tryz.prog:=mkS tyA 65 Tryz.f65 [XsR] {md:=[.ro 1,.ro 1],rets:=some ([4],[]),fz:=[3]} Tryz.func65 (by kernel_rfl)
@[go_sem] def d65:s65.g=65/\s65.fs=⟨[.ro 1,.ro 1],s65.F,false⟩:=⟨nr rfl,nr rfl⟩
@[go_sem] def e65(j11 j12 j13 j14 j15 j16 j17 j18:Int)(j19:List ByteArray)(j20 j21 j22 j23 j24 j25 j26 j27 j28 j29 j30 j31:Int)(j32 j33:List XK)(j34:List Origin)(j35:List Xl)(host:ByteArray)(h0:(Shield.mk (Config.mk j11 j12 j13 j14 j15 j16 j17 j18 j19 (Lanes.mk j20 j21 j22) (Rules.mk j23 j24 j25 j26 j27)) j28 j29 (Store.mk j30 j31 j32 j33) j34 j35).Origins.length<=9223372036854775806):s65.F [.agg [.i .i64 j11,.i .i64 j12,.i .i64 j13,.i .i64 j14,.i .i64 j15,.i .i64 j16,.i .i64 j17,.i .i64 j18,.sl .ro 1 (j19.map Ye),.i .i64 j20,.i .i64 j21,.i .i64 j22,.i .i64 j23,.i .i64 j24,.i .i64 j25,.i .i64 j26,.i .i64 j27,.i .i64 j28,.i .i64 j29,.i .i64 j30,.i .i64 j31,.sl .ro 13 (j32.map (Xa .ro)),.sl .ro 13 (j33.map (Xa .ro)),.sl .ro 7 (j34.map (Xe .ro)),.sl .ro 11 (j35.map (Xc .ro))],.s host]=some (.i .i64 (X8 (Shield.mk (Config.mk j11 j12 j13 j14 j15 j16 j17 j18 j19 (Lanes.mk j20 j21 j22) (Rules.mk j23 j24 j25 j26 j27)) j28 j29 (Store.mk j30 j31 j32 j33) j34 j35).Origins host),[.u,.u]):=Xb (0) rfl rfl (λcx h=>by
 simp only[go_sem,reduceIte,↓reduceIte,nA,nB,nL,h,h0,X8]) (rfl)
def s63:SP Tryz.prog:=mkS tyA 63 Tryz.f63 [s64,s65] {md:=[.ro 1],rg:=[(0,[0],[]),(1,[0,8,9,10],[]),(2,[0,8,9,10,11],[]),(3,[0,3,8,9,10],[3]),(4,[0,4,8,9,10],[]),(5,[0,4,8,9,10,18],[]),(6,[1],[]),(7,[0,8,9,10],[]),(8,[0,22,23,24],[]),(9,[0,22,23,24,25],[]),(10,[0,5,6,22,23,24],[6]),(11,[0,22,23,24,34],[]),(12,[1],[]),(13,[0,22,23,24],[]),(14,[1],[])],lv:=[(0,[0,8,9,10],[]),(2,[0,22,23,24],[])],out:=[(0,[0],[]),(2,[],[])],rets:=some ([1],[])} Tryz.func63 (by kernel_rfl)
@[go_sem] def d63:s63.g=63/\s63.fs=⟨[.ro 1],s63.F,false⟩:=⟨nr rfl,nr rfl⟩
@[go_sem] def e63(j11 j12 j13 j14 j15 j16 j17 j18:Int)(j19:List ByteArray)(j20 j21 j22 j23 j24 j25 j26 j27 j28 j29 j30 j31:Int)(j32 j33:List XK)(j34:List Origin)(j35:List Xl)(h0:YS (Shield.mk (Config.mk j11 j12 j13 j14 j15 j16 j17 j18 j19 (Lanes.mk j20 j21 j22) (Rules.mk j23 j24 j25 j26 j27)) j28 j29 (Store.mk j30 j31 j32 j33) j34 j35)):s63.F [.pr [.i .i64 j11,.i .i64 j12,.i .i64 j13,.i .i64 j14,.i .i64 j15,.i .i64 j16,.i .i64 j17,.i .i64 j18,.sl .ro 1 (j19.map Ye),.i .i64 j20,.i .i64 j21,.i .i64 j22,.i .i64 j23,.i .i64 j24,.i .i64 j25,.i .i64 j26,.i .i64 j27,.i .i64 j28,.i .i64 j29,.i .i64 j30,.i .i64 j31,.sl .ro 13 (j32.map (Xa .ro)),.sl .ro 13 (j33.map (Xa .ro)),.sl .ro 7 (j34.map (Xe .ro)),.sl .ro 11 (j35.map (Xc .ro))]]=some (.i .i64 (YD (Shield.mk (Config.mk j11 j12 j13 j14 j15 j16 j17 j18 j19 (Lanes.mk j20 j21 j22) (Rules.mk j23 j24 j25 j26 j27)) j28 j29 (Store.mk j30 j31 j32 j33) j34 j35)),[.u]):=Xb (j34.length+1) rfl rfl (λcx h=>by
 have hO:=h0.2.2.2.2.1
 simp only at hO
 have hx:j34.length<=9223372036854775806:=by have:=hO.1; omega
 have hu:YD (Shield.mk (Config.mk j11 j12 j13 j14 j15 j16 j17 j18 j19 (Lanes.mk j20 j21 j22) (Rules.mk j23 j24 j25 j26 j27)) j28 j29 (Store.mk j30 j31 j32 j33) j34 j35)=(if(Zr (j34.map (XE (Shield.mk (Config.mk j11 j12 j13 j14 j15 j16 j17 j18 j19 (Lanes.mk j20 j21 j22) (Rules.mk j23 j24 j25 j26 j27)) j28 j29 (Store.mk j30 j31 j32 j33) j34 j35))) !=0)=true then Zr (j34.map (XE (Shield.mk (Config.mk j11 j12 j13 j14 j15 j16 j17 j18 j19 (Lanes.mk j20 j21 j22) (Rules.mk j23 j24 j25 j26 j27)) j28 j29 (Store.mk j30 j31 j32 j33) j34 j35))) else if dup XaR [] j34=true then 6 else 0):=rfl
 have hb0:=Xg Tryz.f63 0 _ _ rfl rfl
 obtain⟨z0,hz0,hqz0⟩:=Xq (cx:=cx) (blk:=0) (body:=XN Tryz.f63 0) j34 (λk (s:Unit)=>⟨E [(0,.pr [.i .i64 j11,.i .i64 j12,.i .i64 j13,.i .i64 j14,.i .i64 j15,.i .i64 j16,.i .i64 j17,.i .i64 j18,.sl .ro 1 (j19.map Ye),.i .i64 j20,.i .i64 j21,.i .i64 j22,.i .i64 j23,.i .i64 j24,.i .i64 j25,.i .i64 j26,.i .i64 j27,.i .i64 j28,.i .i64 j29,.i .i64 j30,.i .i64 j31,.sl .ro 13 (j32.map (Xa .ro)),.sl .ro 13 (j33.map (Xa .ro)),.sl .ro 7 (j34.map (Xe .ro)),.sl .ro 11 (j35.map (Xc .ro))]),(8,.sl .ro 7 (j34.map (Xe .ro))),(9,.i .i64 j34.length),(10,.i .i64 k)],B []⟩) (λs=>⟨E [(0,.pr [.i .i64 j11,.i .i64 j12,.i .i64 j13,.i .i64 j14,.i .i64 j15,.i .i64 j16,.i .i64 j17,.i .i64 j18,.sl .ro 1 (j19.map Ye),.i .i64 j20,.i .i64 j21,.i .i64 j22,.i .i64 j23,.i .i64 j24,.i .i64 j25,.i .i64 j26,.i .i64 j27,.i .i64 j28,.i .i64 j29,.i .i64 j30,.i .i64 j31,.sl .ro 13 (j32.map (Xa .ro)),.sl .ro 13 (j33.map (Xa .ro)),.sl .ro 7 (j34.map (Xe .ro)),.sl .ro 11 (j35.map (Xc .ro))])],B []⟩) (λx s=>XE (Shield.mk (Config.mk j11 j12 j13 j14 j15 j16 j17 j18 j19 (Lanes.mk j20 j21 j22) (Rules.mk j23 j24 j25 j26 j27)) j28 j29 (Store.mk j30 j31 j32 j33) j34 j35) x !=0) (λx s=>()) (λx s=>(.ret,⟨E [(1,.i .i64 (XE (Shield.mk (Config.mk j11 j12 j13 j14 j15 j16 j17 j18 j19 (Lanes.mk j20 j21 j22) (Rules.mk j23 j24 j25 j26 j27)) j28 j29 (Store.mk j30 j31 j32 j33) j34 j35) x))],B []⟩)) (λk s=>True)
   (λs hI G=>by simp only[go_sem,reduceIte,↓reduceIte,nB,nE,h,Int.lt_irrefl,hb0]) (λk hk s hI=>by
    have h1:((k:Int)<(j34.length:Int)):=Int.ofNat_lt.2 hk
    have hm:j34[k].Breaker.Marks.length<=1048576:=(hO.2 _ (List.getElem_mem hk)).2.2.2.2.2.1
    exact⟨_,_,_,λG=>by simp only[go_sem,reduceIte,↓reduceIte,nA,nB,nE,h,Xi (Xe .ro) j34 k hk,hm,h1,Xh _ _ hk,Xd (show k<9223372036854775807 by omega),hb0]<;>with_reducible rfl,by first | exact Iff.rfl | simp,λhc=>⟨trivial,by simp only[go_sem,reduceIte,↓reduceIte,nB,h]⟩⟩) () trivial (j34.length+1) (Nat.le_refl _)
 rw[hb0] at hz0
 rcases hqz0 with⟨s0,e1,_,e3⟩ | ⟨x,s0,e1,e3⟩
 rotate_left
 ·have e2:=Z9 e1
  have e4:(XE (Shield.mk (Config.mk j11 j12 j13 j14 j15 j16 j17 j18 j19 (Lanes.mk j20 j21 j22) (Rules.mk j23 j24 j25 j26 j27)) j28 j29 (Store.mk j30 j31 j32 j33) j34 j35) x !=0)=true:=XaQ e1
  simp only[go_sem,reduceIte,↓reduceIte,nA,nB,nL,h,hz0,e3,e2,e4,hu]
 have e2:=Z8 e1
 have hb1:=Xg Tryz.f63 1 _ _ rfl rfl
 obtain⟨z1,hz1,hqz1⟩:=Xq (cx:=cx) (blk:=2) (body:=XN Tryz.f63 1) j34 (λk (s:List Origin)=>⟨E [(0,.pr [.i .i64 j11,.i .i64 j12,.i .i64 j13,.i .i64 j14,.i .i64 j15,.i .i64 j16,.i .i64 j17,.i .i64 j18,.sl .ro 1 (j19.map Ye),.i .i64 j20,.i .i64 j21,.i .i64 j22,.i .i64 j23,.i .i64 j24,.i .i64 j25,.i .i64 j26,.i .i64 j27,.i .i64 j28,.i .i64 j29,.i .i64 j30,.i .i64 j31,.sl .ro 13 (j32.map (Xa .ro)),.sl .ro 13 (j33.map (Xa .ro)),.sl .ro 7 (j34.map (Xe .ro)),.sl .ro 11 (j35.map (Xc .ro))]),(22,.sl .ro 7 (j34.map (Xe .ro))),(23,.i .i64 j34.length),(24,.i .i64 k)],B []⟩) (λs=>⟨E [],B []⟩) (λx s=>s.any λy=>XaR y x) (λx s=>s++[x]) (λx s=>(.ret,⟨E [(1,.i .i64 6)],B []⟩)) (λk s=>s=j34.take k)
   (λs hI G=>by simp only[go_sem,reduceIte,↓reduceIte,nB,nE,h,Int.lt_irrefl,hb1]) (λk hk s hI=>by
    have h1:((k:Int)<(j34.length:Int)):=Int.ofNat_lt.2 hk
    have hit:=Xc0 (λx:Origin=>eqv x.Host j34[k].Host) j34 k hk (QS _)
    have hwu:X8 j34 j34[k].Host=U6 (λx:Origin=>eqv x.Host j34[k].Host) j34 0:=rfl
    have c3:((j34.take k).any λy=>XaR y j34[k])=(j34.take k).any λx=>eqv x.Host j34[k].Host:=rfl
    subst hI
    exact⟨_,_,_,λG=>by simp only[go_sem,reduceIte,↓reduceIte,nA,nB,nE,nL,h,Xi (Xe .ro) j34 k hk,hx,hwu,hit,h1,Xh _ _ hk,Xd (show k<9223372036854775807 by omega),hb1]<;>with_reducible rfl,by rw[c3],λhc=>⟨(ZN j34 k hk).symm,by simp only[go_sem,reduceIte,↓reduceIte,nB,h]⟩⟩) [] rfl (j34.length+1) (Nat.le_refl _)
 rw[hb1] at hz1
 rcases hqz1 with⟨s1,k1,_,k3⟩ | ⟨x,s1,k1,k3⟩
 ·have k2:=XaO k1
  simp only[go_sem,reduceIte,↓reduceIte,nA,nB,nE,nL,h,hz0,e3,e2,hz1,k3,k2,hu]
 ·have k2:=XaP k1
  simp only[go_sem,reduceIte,↓reduceIte,nA,nB,nE,nL,h,hz0,e3,e2,hz1,k3,k2,hu]) (rfl)
def XsS:SP Tryz.prog:=mkS tyA 253 Tryz.f253 [] {md:=[.ro 1,.ro 1],rets:=some ([3],[])} Tryz.func253 (by kernel_rfl)
@[go_sem] def XLY:XsS.g=253/\XsS.fs=⟨[.ro 1,.ro 1],XsS.F,false⟩:=⟨nr rfl,nr rfl⟩
@[go_sem] def XLZ(j36:Int)(j37:Bool)(j38:Int)(j39:Bool)(req:Int):XsS.F [.agg [.i .i64 j36,.b j37,.i .i64 j38,.b j39],.pr [.i .i64 req]]=some (.b ((X2.mk j36 j37 j38 j39).Req==req),[.u,.u]):=Xb (0) rfl rfl (λcx h=>by
 simp only[go_sem,reduceIte,↓reduceIte,nA,nB,nL,h]) (rfl)
def XsT:SP Tryz.prog:=mkS tyA 210 Tryz.f210 [s60] {md:=[.ro 1],rets:=some ([2],[])} Tryz.func210 (by kernel_rfl)
@[go_sem] def XL0:XsT.g=210/\XsT.fs=⟨[.ro 1],XsT.F,false⟩:=⟨nr rfl,nr rfl⟩
@[go_sem] def XL1(j36:Int)(j37:Bool)(j38:Int)(j39:Bool):XsT.F [.agg [.i .i64 j36,.b j37,.i .i64 j38,.b j39]]=some (.b (XaC (X2.mk j36 j37 j38 j39)),[.u]):=Xb (0) rfl rfl (λcx h=>by
 simp only[go_sem,reduceIte,↓reduceIte,nA,nB,nL,h]
 simp only[XaC]
 cases XC j36<;>cases XC j38<;>rfl) (rfl)
def Xrg:SP Tryz.prog:=mkS tyA 209 Tryz.f209 [XsT] {md:=[.ro 1],rets:=some ([2],[])} Tryz.func209 (by kernel_rfl)
@[go_sem] def XL2:Xrg.g=209/\Xrg.fs=⟨[.ro 1],Xrg.F,false⟩:=⟨nr rfl,nr rfl⟩
@[go_sem] def XL3(j36:Int)(j37:Bool)(j38:Int)(j39:Bool):Xrg.F [.agg [.i .i64 j36,.b j37,.i .i64 j38,.b j39]]=some (.b (!XaC (X2.mk j36 j37 j38 j39)),[.u]):=Xb (0) rfl rfl (λcx h=>by
 simp only[go_sem,reduceIte,↓reduceIte,nA,nB,h]) (rfl)
def Xrh:SP Tryz.prog:=mkS tyA 252 Tryz.f252 [Xrg,XsS] {md:=[.ro 1,.ro 1],rg:=[(0,[0,1],[]),(1,[0,1,7,8],[]),(2,[0,1,7,8,9],[]),(3,[0,1,5,7,8],[]),(4,[0,1,5,7,8,16],[]),(5,[4],[]),(6,[0,1,7,8],[]),(7,[4],[])],lv:=[(0,[0,1,7,8],[])],out:=[(0,[],[])],rets:=some ([4],[])} Tryz.func252 (by kernel_rfl)
@[go_sem] def XL4:Xrh.g=252/\Xrh.fs=⟨[.ro 1,.ro 1],Xrh.F,false⟩:=⟨nr rfl,nr rfl⟩
@[go_sem] def XuH(xs:List X2)(req:Int)(hb:xs.length<=9223372036854775806):Xrh.F [.sl .ro 4 (xs.map (Xk .ro)),.fn 253 [.pr [.i .i64 req]]]=some (.i .i64 (U6 (λx=>x.Req==req) xs 0),[.u,.u]):=Xb (xs.length+1) rfl rfl (λcx h=>by
 have hx:=hb
 have hb0:=Xg Tryz.f252 0 _ _ rfl rfl
 obtain⟨r,hr,hq⟩:=Xq (cx:=cx) (blk:=0) (body:=XN Tryz.f252 0) xs (λk (s:Nat)=>⟨E [(0,.sl .ro 4 (xs.map (Xk .ro))),(1,.fn 253 [.pr [.i .i64 req]]),(7,.i .i64 xs.length),(8,.i .i64 k)],B []⟩) (λs=>⟨E [],B []⟩) (λx s=>x.Req==req) (λx s=>s+1) (λx s=>(.ret,⟨E [(4,.i .i64 s)],B []⟩)) (λk s=>k=s)
   (λs hI G=>by simp only[go_sem,reduceIte,↓reduceIte,nB,nE,h,Int.lt_irrefl,hb0,hI]) (λk hk s hI=>by
    have h1:((k:Int)<(xs.length:Int)):=Int.ofNat_lt.2 hk
    obtain rfl:=hI
    exact⟨_,_,_,λG=>by simp only[go_sem,reduceIte,↓reduceIte,nA,nB,nE,h,Xi (Xk .ro) xs _ hk,h1,Xh _ _ hk,Xd (show k<9223372036854775807 by omega),hb0]<;>with_reducible rfl,by first | exact Iff.rfl | simp,λhc=>⟨rfl,by simp only[go_sem,reduceIte,↓reduceIte,nB,h]⟩⟩) 0 rfl (xs.length+1) (Nat.le_refl _)
 rw[hb0] at hr
 rcases hq with⟨s',e1,_,e3⟩ | ⟨x,s',e1,e3⟩
 ·simp only[go_sem,reduceIte,↓reduceIte,nB,nE,iG,h,hr,e3,ZJ e1]
 ·simp only[go_sem,reduceIte,↓reduceIte,nB,h,hr,e3,Zc e1]) (rfl)
@[go_sem] def XuI(xs:List X2)(hb:xs.length<=9223372036854775806):Xrh.F [.sl .ro 4 (xs.map (Xk .ro)),.fn 209 []]=some (.i .i64 (U6 (λx=>!XaC x) xs 0),[.u,.u]):=Xb (xs.length+1) rfl rfl (λcx h=>by
 have hx:=hb
 have hb0:=Xg Tryz.f252 0 _ _ rfl rfl
 obtain⟨r,hr,hq⟩:=Xq (cx:=cx) (blk:=0) (body:=XN Tryz.f252 0) xs (λk (s:Nat)=>⟨E [(0,.sl .ro 4 (xs.map (Xk .ro))),(1,.fn 209 []),(7,.i .i64 xs.length),(8,.i .i64 k)],B []⟩) (λs=>⟨E [],B []⟩) (λx s=>!XaC x) (λx s=>s+1) (λx s=>(.ret,⟨E [(4,.i .i64 s)],B []⟩)) (λk s=>k=s)
   (λs hI G=>by simp only[go_sem,reduceIte,↓reduceIte,nB,nE,h,Int.lt_irrefl,hb0,hI]) (λk hk s hI=>by
    have h1:((k:Int)<(xs.length:Int)):=Int.ofNat_lt.2 hk
    obtain rfl:=hI
    exact⟨_,_,_,λG=>by simp only[go_sem,reduceIte,↓reduceIte,nA,nB,nE,h,Xi (Xk .ro) xs _ hk,h1,Xh _ _ hk,Xd (show k<9223372036854775807 by omega),hb0]<;>with_reducible rfl,by first | exact Iff.rfl | simp,λhc=>⟨rfl,by simp only[go_sem,reduceIte,↓reduceIte,nB,h]⟩⟩) 0 rfl (xs.length+1) (Nat.le_refl _)
 rw[hb0] at hr
 rcases hq with⟨s',e1,_,e3⟩ | ⟨x,s',e1,e3⟩
 ·simp only[go_sem,reduceIte,↓reduceIte,nB,nE,iG,h,hr,e3,ZJ e1]
 ·simp only[go_sem,reduceIte,↓reduceIte,nB,h,hr,e3,Zc e1]) (rfl)
def Xo0:SP Tryz.prog:=mkS tyA 208 Tryz.f208 [Xrh] {md:=[.ro 1,.ro 1],rets:=some ([4],[])} Tryz.func208 (by kernel_rfl)
@[go_sem] def XL5:Xo0.g=208/\Xo0.fs=⟨[.ro 1,.ro 1],Xo0.F,false⟩:=⟨nr rfl,nr rfl⟩
@[go_sem] def XuJ(xs:List X2)(req:Int)(hb:xs.length<=9223372036854775806):Xo0.F [.sl .ro 4 (xs.map (Xk .ro)),.fn 253 [.pr [.i .i64 req]]]=some (.b (xs.any (λx=>x.Req==req)),[.u,.u]):=Xb (0) rfl rfl (λcx h=>by
 simp only[go_sem,reduceIte,↓reduceIte,nA,nB,h,hb,QR]) (rfl)
@[go_sem] def XuK(xs:List X2)(hb:xs.length<=9223372036854775806):Xo0.F [.sl .ro 4 (xs.map (Xk .ro)),.fn 209 []]=some (.b (xs.any (λx=>!XaC x)),[.u,.u]):=Xb (0) rfl rfl (λcx h=>by
 simp only[go_sem,reduceIte,↓reduceIte,nA,nB,h,hb,QR]) (rfl)
def Xri:SP Tryz.prog:=mkS tyA 213 Tryz.f213 [Xo0] {md:=[.ro 1,.ro 1],rets:=some ([4],[]),fz:=[3]} Tryz.func213 (by kernel_rfl)
@[go_sem] def XL6:Xri.g=213/\Xri.fs=⟨[.ro 1,.ro 1],Xri.F,false⟩:=⟨nr rfl,nr rfl⟩
@[go_sem] def Xw2(fId:Int)(j40:ByteArray)(j41 j42:Bool)(j43:Int)(j44:Bool)(j45 j46 j47:ByteArray)(fGetHeaders:List Xx)(j48:List X2)(req:Int)(h0:(Xl.mk fId j40 j41 j42 j43 j44 (XQ.mk j45 j46 j47 fGetHeaders) j48).Waiters.length<=9223372036854775806):Xri.F [.agg [.i .i64 fId,.s j40,.b j41,.b j42,.i .i64 j43,.b j44,.s j45,.s j46,.s j47,.sl .ro 2 (fGetHeaders.map (Xj .ro)),.sl .ro 4 (j48.map (Xk .ro))],.i .i64 req]=some (.b ((Xl.mk fId j40 j41 j42 j43 j44 (XQ.mk j45 j46 j47 fGetHeaders) j48).Waiters.any λx=>x.Req==req),[.u,.u]):=Xb (0) rfl rfl (λcx h=>by
 simp only[go_sem,reduceIte,↓reduceIte,nA,nB,h,h0]) (rfl)
@[go_sem] def Xwu(fId:Int)(j40:ByteArray)(j41 j42:Bool)(j43:Int)(j44:Bool)(j45 j46 j47:ByteArray)(j48:List X2)(req:Int)(h0:j48.length<=9223372036854775806):Xri.F [.agg [.i .i64 fId,.s j40,.b j41,.b j42,.i .i64 j43,.b j44,.s j45,.s j46,.s j47,.sl .ro 2 [],.sl .ro 4 (j48.map (Xk .ro))],.i .i64 req]=some (.b (j48.any λx=>x.Req==req),[.u,.u]):=Xw2 fId j40 j41 j42 j43 j44 j45 j46 j47 [] j48 req h0
def Xrj:SP Tryz.prog:=mkS tyA 143 Tryz.f143 [Xri] {md:=[.ro 1],rg:=[(0,[0],[]),(1,[0,5,6,7],[]),(2,[0,5,6,7,8],[]),(3,[0,3,4,5,6,7],[4]),(4,[0,5,6,7,18],[]),(5,[2],[]),(6,[0,5,6,7],[]),(7,[2],[])],lv:=[(0,[0,5,6,7],[])],out:=[(0,[],[])],rets:=some ([2],[]),plan:=[(4,(.take 0 (.take 1 (.take 2 (.take 3 (.take 4 (.take 5 (.one 6 .done))))))))]} Tryz.func143 (by kernel_rfl)
@[go_sem] def XL7:Xrj.g=143/\Xrj.fs=⟨[.ro 1],Xrj.F,false⟩:=⟨nr rfl,nr rfl⟩
@[go_sem] def XL8(ws:List X2)(h0:ws.length<=9223372036854775806):Xrj.F [.sl .ro 4 (ws.map (Xk .ro))]=some (.b (tw [] ws),[.u]):=Xb (ws.length+1) rfl rfl (λcx h=>by
 have hx:=h0
 have hb0:=Xg Tryz.f143 0 _ _ rfl rfl
 obtain⟨r,hr,hq⟩:=Xq (cx:=cx) (blk:=0) (body:=XN Tryz.f143 0) ws (λk (s:List X2)=>⟨E [(0,.sl .ro 4 (ws.map (Xk .ro))),(5,.sl .ro 4 (ws.map (Xk .ro))),(6,.i .i64 ws.length),(7,.i .i64 k)],B []⟩) (λs=>⟨E [],B []⟩) (λx s=>s.any λy=>y.Req==x.Req) (λx s=>s++[x]) (λx s=>(.ret,⟨E [(2,.b true)],B []⟩)) (λk s=>s=ws.take k)
   (λs hI G=>by simp only[go_sem,reduceIte,↓reduceIte,nB,nE,h,Int.lt_irrefl,hb0]) (λk hk s hI=>by
    have h1:((k:Int)<(ws.length:Int)):=Int.ofNat_lt.2 hk
    have t3:ws.length<=9223372036854775806:=hx
    have t4:(ws.map (Xk .ro)).take k=(ws.take k).map (Xk .ro):=by rw[List.map_take]
    have t5:(ws.take k).length<=9223372036854775806:=by rw[List.length_take]; omega
    have c1:(0:Int)<=(k:Int):=by omega
    have c2:(k:Int)<=(ws.length:Int):=by omega
    subst hI
    exact⟨_,_,_,λG=>by simp only[go_sem,reduceIte,↓reduceIte,nA,nB,nE,nL,h,t4,t5,c1,c2,Xi (Xk .ro) ws _ hk,Int.toNat_natCast,List.drop_zero,Nat.sub_zero,h1,Xh _ _ hk,Xd (show k<9223372036854775807 by omega),hb0]<;>with_reducible rfl,Iff.rfl,λhc=>⟨(ZN ws k hk).symm,by simp only[go_sem,reduceIte,↓reduceIte,nB,h]⟩⟩) [] rfl (ws.length+1) (Nat.le_refl _)
 rw[hb0] at hr
 rcases hq with⟨s',e1,_,e3⟩ | ⟨x,s',e1,e3⟩
 ·simp only[go_sem,reduceIte,↓reduceIte,nB,nE,h,hr,e3,Xkz e1]
 ·simp only[go_sem,reduceIte,↓reduceIte,nB,h,hr,e3,XkA e1]) (rfl)
def XsU:SP Tryz.prog:=mkS tyA 249 Tryz.f249 [] {md:=[.ro 1],rets:=some ([2],[])} Tryz.func249 (by kernel_rfl)
@[go_sem] def XL9:XsU.g=249/\XsU.fs=⟨[.ro 1],XsU.F,false⟩:=⟨nr rfl,nr rfl⟩
@[go_sem] def XMa(t:ByteArray):XsU.F [.s t]=some (.b (Qq t),[.u]):=Xb (0) rfl rfl (λcx h=>by
 have hu:Qq t=(eqv t ⟨#[71,69,84]⟩||eqv t ⟨#[72,69,65,68]⟩):=rfl
 cases h1:eqv t ⟨#[71,69,84]⟩<;>cases h2:eqv t ⟨#[72,69,65,68]⟩<;>simp only[go_sem,reduceIte,↓reduceIte,nB,h,XH,h1,h2,hu]) (rfl)
def XsV:SP Tryz.prog:=mkS tyA 250 Tryz.f250 [Xkm,Xq3] {md:=[.ro 1],rets:=some ([2],[])} Tryz.func250 (by kernel_rfl)
@[go_sem] def XMb:XsV.g=250/\XsV.fs=⟨[.ro 1],XsV.F,false⟩:=⟨nr rfl,nr rfl⟩
@[go_sem] def XMc(t:ByteArray):XsV.F [.s t]=some (.b (Xbl t),[.u]):=Xb (0) rfl rfl (λcx h=>by
 have hu:Xbl t=(XdR Xb1 1 100 t&&(((t.data[0]?.getD 0).toNat:Int)==47)):=rfl
 cases h1:XdR Xb1 1 100 t
 ·simp only[go_sem,reduceIte,↓reduceIte,nA,nB,iL,h,h1,hu]
 have hi:Qj t.size 0=some 0:=Xh t.size 0 (Xmu h1)
 cases h2:(((t.data[0]?.getD 0).toNat:Int)==47)<;>simp only[go_sem,reduceIte,↓reduceIte,nA,nB,iL,h,h1,h2,hi,hu]) (rfl)
def XsW:SP Tryz.prog:=mkS tyA 276 Tryz.f276 [XoY] {md:=[.ro 1,.ro 1],rets:=some ([4],[])} Tryz.func276 (by kernel_rfl)
@[go_sem] def XMd:XsW.g=276/\XsW.fs=⟨[.ro 1,.ro 1],XsW.F,false⟩:=⟨nr rfl,nr rfl⟩
@[go_sem] def XMe(a b:ByteArray)(h0:(a.size<=9223372036854775806/\b.size<=9223372036854775806)):XsW.F [.s a,.s b]=some (.b (eqv (QH a) (QH b)),[.u,.u]):=Xb (0) rfl rfl (λcx h=>by
 simp only[go_sem,reduceIte,↓reduceIte,nB,h,h0.1,h0.2,XH]) (rfl)
def XsX{α β:Type}(p:α->Bool)(f:α->β):∀(xs:List α) (acc:List β),xs.foldl (λs x=>if p x=true then s++[f x] else s) acc=acc++(xs.filter p).map f
 | [],acc=>by simp
 | x :: xs,acc=>by
  rw[List.foldl_cons,XsX p f xs,List.filter_cons]
  cases p x<;>simp
def XsY:SP Tryz.prog:=mkS tyA 251 Tryz.f251 [XsW] {md:=[.ro 1,.ro 1],rg:=[(0,[0,1],[]),(1,[0,1,5],[]),(2,[0,1,5,9,10,11],[]),(3,[0,1,5,9,10,11,12],[]),(4,[0,1,5,7,9,10,11],[7]),(5,[0,1,5,7,9,10,11,18],[7]),(6,[0,1,5,9,10,11],[]),(7,[0,1,5,9,10,11],[]),(8,[4],[])],lv:=[(0,[0,1,5,9,10,11],[])],out:=[(0,[5],[])],rets:=some ([4],[])} Tryz.func251 (by kernel_rfl)
@[go_sem] def XMf:XsY.g=251/\XsY.fs=⟨[.ro 1,.ro 1],XsY.F,false⟩:=⟨nr rfl,nr rfl⟩
@[go_sem] def XMg(hs:List Xx)(name:ByteArray)(h0:(hs.length<=20/\smL X6 hs/\okN name=true)):XsY.F [.sl .ro 2 (hs.map (Xj .ro)),.s name]=some (.sl .mut 1 ((XgJ hs name).map Ye),[.u,.u]):=Xb (hs.length+1) rfl rfl (λcx h=>by
 have hl:=h0.1
 have hx:hs.length<=9223372036854775806:=by omega
 have hb0:=Xg Tryz.f251 0 _ _ rfl rfl
 obtain⟨hI,hr⟩:=X0 (cx:=cx) (blk:=0) (body:=XN Tryz.f251 0) hs (λk (s:List ByteArray)=>⟨E [(0,.sl .ro 2 (hs.map (Xj .ro))),(1,.s name),(5,.sl .mut 1 (s.map Ye)),(9,.sl .ro 2 (hs.map (Xj .ro))),(10,.i .i64 hs.length),(11,.i .i64 k)],B []⟩) (λs=>⟨E [(5,.sl .mut 1 (s.map Ye))],B []⟩) (λx s=>(if eqv (QH x.Name) (QH name)=true then s++[x.Value] else s)) (λk s=>s.length<=k)
   (λs hI G=>by simp only[go_sem,reduceIte,↓reduceIte,nB,nE,h,Int.lt_irrefl,hb0]) (λk hk s hI=>by
    have h1:((k:Int)<(hs.length:Int)):=Int.ofNat_lt.2 hk
    have t3:(s.length+1)*16<=140737488355328:=by omega
    have t4:s.map Ye++[[.s hs[k].Value]]=(s++[hs[k].Value]).map Ye:=by simp[Ye]
    obtain⟨u1,u2⟩:=h0.2.1.2 _ (List.getElem_mem hk)
    have n1:hs[k].Name.size<=9223372036854775806/\name.size<=9223372036854775806:=⟨by have:hs[k].Name.size<=1048576:=u1; omega,of_decide_eq_true h0.2.2⟩
    cases d1:eqv (QH hs[k].Name) (QH name)
    all_goals exact⟨by split<;>(try simp only[List.length_append,List.length_cons,List.length_nil])<;>omega,_,λG=>by simp only[go_sem,reduceIte,↓reduceIte,nA,nM,nB,nE,nL,nT,h,t3,t4,Xi (Xj .ro) hs k hk,n1,d1,h1,Xh _ _ hk,Xd (show k<9223372036854775807 by omega),hb0]<;>with_reducible rfl,by simp only[go_sem,reduceIte,↓reduceIte,nB,h]⟩) [] (by simp) (hs.length+1) (Nat.le_refl _)
 rw[hb0] at hr
 have hff:=XsX (λx:Xx=>eqv (QH x.Name) (QH name)) (λx=>x.Value) hs []
 simp only[List.nil_append] at hff
 rw[hff] at hr
 simp only[go_sem,reduceIte,↓reduceIte,nA,nM,nB,nE,nT,h,hr,XgJ]) (by simp only[go_sem,YE,XI])
def XsZ:SP Tryz.prog:=mkS tyA 207 Tryz.f207 [Xrb,Xq5,XsU,XsV,XsY] {md:=[.ro 1],rg:=[(0,[1],[1]),(1,[1,19],[1]),(2,[2],[]),(3,[1,3],[1]),(4,[1,3,24],[1]),(5,[2],[]),(6,[1,26],[1]),(7,[2],[]),(8,[32],[]),(9,[2],[]),(10,[2],[])],rets:=some ([2],[])} Tryz.func207 (by kernel_rfl)
@[go_sem] def XMh:XsZ.g=207/\XsZ.fs=⟨[.ro 1],XsZ.F,false⟩:=⟨nr rfl,nr rfl⟩
@[go_sem] def XMi(j49 j50 j51:ByteArray)(j52:List Xx)(h0:smL X6 (XQ.mk j49 j50 j51 j52).Headers):XsZ.F [.agg [.s j49,.s j50,.s j51,.sl .ro 2 (j52.map (Xj .ro))]]=some (.i .i64 (XA (XQ.mk j49 j50 j51 j52)),[.u]):=Xb (0) rfl rfl (λcx h=>by
 have key:∀m:Bool,Qq j49=m->(Qq j49&&QI j50&&Xbl j51)=(m&&QI j50&&Xbl j51):=λm h=>by rw[h]
 have hn1:okN ⟨#[72,111,115,116]⟩=true:=by decide
 have hn2:okN ⟨#[104,111,115,116]⟩=true:=by decide
 cases m0:Qq j49
 ·simp only[go_sem,reduceIte,↓reduceIte,nA,nB,nE,nL,h,m0,XA]
 cases h2:QI j50
 ·simp only[go_sem,reduceIte,↓reduceIte,nA,nB,nE,nL,h,h2,m0,XA]
 cases h3:Xbl j51
 ·simp only[go_sem,reduceIte,↓reduceIte,nA,nB,nE,nL,h,h2,h3,m0,XA]
 by_cases z:Xn j52=0
 rotate_left
 ·have z':(Xn j52 !=0)=true:=by simpa using z
  simp only[go_sem,reduceIte,↓reduceIte,nA,nB,nE,nL,h,h2,h3,z',m0,XA]
 have z':(Xn j52 !=0)=false:=by simpa using z
 have h4:j52.length<=20/\smL X6 j52/\okN ⟨#[72,111,115,116]⟩=true:=⟨Zt z,h0,hn1⟩
 have h5:j52.length<=20/\smL X6 j52/\okN ⟨#[104,111,115,116]⟩=true:=⟨Zt z,h0,hn2⟩
 have h6:=XcX j52 ⟨#[72,111,115,116]⟩
 have h7:=Xd8 j52
 cases h8:XhW j52 ⟨#[72,111,115,116]⟩
 ·by_cases h9:20<=(j52.length:Int)
  ·have h10:((j52.length:Int)==20)=true:=by have:=h4.1; simp; omega
   simp only[go_sem,reduceIte,↓reduceIte,nA,nB,nE,nL,h,h2,h3,z,h4,h6,h8,h9,h10,m0,XA]
  ·have h10:((j52.length:Int)==20)=false:=by have:=h4.1; simp; omega
   simp only[go_sem,reduceIte,↓reduceIte,nA,nB,nE,nL,h,h2,h3,z,h4,h6,h8,h9,h10,m0,XA]
 ·simp only[go_sem,reduceIte,↓reduceIte,nA,nB,nE,nL,h,h2,h3,z,h4,h6,h8,m0,XA]) (rfl)
def Xs0:SP Tryz.prog:=mkS tyA 141 Tryz.f141 [s60,Xrj,XqY,XsZ,Xo0,Xrg] {md:=[.ro 1],rg:=[(0,[1],[1]),(1,[1,4],[1]),(2,[2],[]),(3,[1,15],[1]),(4,[2],[]),(5,[1,3],[1]),(6,[1,3,24],[1]),(7,[2],[]),(8,[1,26],[1]),(9,[2],[]),(10,[1,35],[1]),(11,[2],[]),(12,[1,40],[1]),(13,[2],[]),(14,[44],[]),(15,[2],[]),(16,[2],[])],rets:=some ([2],[])} Tryz.func141 (by kernel_rfl)
@[go_sem] def XMj:Xs0.g=141/\Xs0.fs=⟨[.ro 1],Xs0.F,false⟩:=⟨nr rfl,nr rfl⟩
@[go_sem] def XMk(fId:Int)(j40:ByteArray)(j41 j42:Bool)(j43:Int)(j44:Bool)(j45 j46 j47:ByteArray)(fGetHeaders:List Xx)(j48:List X2)(h0:smL X6 (Xl.mk fId j40 j41 j42 j43 j44 (XQ.mk j45 j46 j47 fGetHeaders) j48).Get.Headers):Xs0.F [.agg [.i .i64 fId,.s j40,.b j41,.b j42,.i .i64 j43,.b j44,.s j45,.s j46,.s j47,.sl .ro 2 (fGetHeaders.map (Xj .ro)),.sl .ro 4 (j48.map (Xk .ro))]]=some (.i .i64 (XD (Xl.mk fId j40 j41 j42 j43 j44 (XQ.mk j45 j46 j47 fGetHeaders) j48)),[.u]):=Xb (0) rfl rfl (λcx h=>by
 have hH:smL X6 fGetHeaders:=h0
 cases t1:XC fId
 ·simp only[go_sem,reduceIte,↓reduceIte,nA,nB,nE,nL,h,t1,XD]
 cases t2:XC j43
 ·simp only[go_sem,reduceIte,↓reduceIte,nA,nB,nE,nL,h,t1,t2,XD]
 cases hk:Xcq j40
 ·simp only[go_sem,reduceIte,↓reduceIte,nA,nB,nE,nL,h,t1,t2,hk,XD]
 by_cases z:XA (XQ.mk j45 j46 j47 fGetHeaders)=0
 rotate_left
 ·have z':(XA (XQ.mk j45 j46 j47 fGetHeaders) !=0)=true:=by simpa using z
  simp only[go_sem,reduceIte,↓reduceIte,nA,nB,nE,nL,h,t1,t2,hk,hH,z',XD]
 rcases(show(j42=true/\True)\/(j42=false/\(j43 !=0)=false)\/(j42=false/\(j43 !=0)=true) from by cases j42<;>cases (j43 !=0)<;>simp) with⟨o1,o2⟩ | ⟨o1,o2⟩ | ⟨o1,o2⟩
 rotate_left
 rotate_left
 ·simp only[go_sem,reduceIte,↓reduceIte,nA,nB,nE,nL,h,t1,t2,hk,hH,z,o1,o2,XD]
 all_goals
  by_cases w1:10<(j48.length:Int)
  ·simp only[go_sem,reduceIte,↓reduceIte,nA,nB,nE,nL,h,t1,t2,hk,hH,z,o1,o2,w1,XD]
  have hx:j48.length<=9223372036854775806:=by omega
  cases w2:(j48.any λx=>!XaC x)
  ·cases w3:tw [] j48<;>simp only[go_sem,reduceIte,↓reduceIte,nA,nB,nE,nL,h,t1,t2,hk,hH,z,o1,o2,w1,w2,w3,hx,XD]
  ·simp only[go_sem,reduceIte,↓reduceIte,nA,nB,nE,nL,h,t1,t2,hk,hH,z,o1,o2,w1,w2,hx,XD]) (rfl)
def Xs1:SP Tryz.prog:=mkS tyA 212 Tryz.f212 [] {md:=[.ro 1,.ro 1],rets:=some ([3],[])} Tryz.func212 (by kernel_rfl)
@[go_sem] def XMl:Xs1.g=212/\Xs1.fs=⟨[.ro 1,.ro 1],Xs1.F,false⟩:=⟨nr rfl,nr rfl⟩
@[go_sem] def XMm(xId:Int)(j53:ByteArray)(j54 j55:Bool)(j56:Int)(j57:Bool)(j58 j59 j60:ByteArray)(j61:List Xx)(j62:List X2)(key:ByteArray):Xs1.F [.agg [.i .i64 xId,.s j53,.b j54,.b j55,.i .i64 j56,.b j57,.s j58,.s j59,.s j60,.sl .ro 2 (j61.map (Xj .ro)),.sl .ro 4 (j62.map (Xk .ro))],.pr [.s key]]=some (.b (eqv (Xl.mk xId j53 j54 j55 j56 j57 (XQ.mk j58 j59 j60 j61) j62).Key key),[.u,.u]):=Xb (0) rfl rfl (λcx h=>by
 simp only[go_sem,reduceIte,↓reduceIte,nA,nB,nL,h,XH]) (rfl)
def Xs2:SP Tryz.prog:=mkS tyA 211 Tryz.f211 [Xs1] {md:=[.ro 1,.ro 1],rg:=[(0,[0,1],[]),(1,[0,1,7,8],[]),(2,[0,1,7,8,9],[]),(3,[0,1,5,7,8],[]),(4,[0,1,5,7,8,16],[]),(5,[4],[]),(6,[0,1,7,8],[]),(7,[4],[])],lv:=[(0,[0,1,7,8],[])],out:=[(0,[],[])],rets:=some ([4],[])} Tryz.func211 (by kernel_rfl)
@[go_sem] def XMn:Xs2.g=211/\Xs2.fs=⟨[.ro 1,.ro 1],Xs2.F,false⟩:=⟨nr rfl,nr rfl⟩
@[go_sem] def XuL(xs:List Xl)(key:ByteArray)(hb:xs.length<=9223372036854775806):Xs2.F [.sl .ro 11 (xs.map (Xc .ro)),.fn 212 [.pr [.s key]]]=some (.i .i64 (U6 (λx=>eqv x.Key key) xs 0),[.u,.u]):=Xb (xs.length+1) rfl rfl (λcx h=>by
 have hx:=hb
 have hb0:=Xg Tryz.f211 0 _ _ rfl rfl
 obtain⟨r,hr,hq⟩:=Xq (cx:=cx) (blk:=0) (body:=XN Tryz.f211 0) xs (λk (s:Nat)=>⟨E [(0,.sl .ro 11 (xs.map (Xc .ro))),(1,.fn 212 [.pr [.s key]]),(7,.i .i64 xs.length),(8,.i .i64 k)],B []⟩) (λs=>⟨E [],B []⟩) (λx s=>eqv x.Key key) (λx s=>s+1) (λx s=>(.ret,⟨E [(4,.i .i64 s)],B []⟩)) (λk s=>k=s)
   (λs hI G=>by simp only[go_sem,reduceIte,↓reduceIte,nB,nE,h,Int.lt_irrefl,hb0,hI]) (λk hk s hI=>by
    have h1:((k:Int)<(xs.length:Int)):=Int.ofNat_lt.2 hk
    obtain rfl:=hI
    exact⟨_,_,_,λG=>by simp only[go_sem,reduceIte,↓reduceIte,nA,nB,nE,h,Xi (Xc .ro) xs _ hk,h1,Xh _ _ hk,Xd (show k<9223372036854775807 by omega),hb0]<;>with_reducible rfl,by first | exact Iff.rfl | simp,λhc=>⟨rfl,by simp only[go_sem,reduceIte,↓reduceIte,nB,h]⟩⟩) 0 rfl (xs.length+1) (Nat.le_refl _)
 rw[hb0] at hr
 rcases hq with⟨s',e1,_,e3⟩ | ⟨x,s',e1,e3⟩
 ·simp only[go_sem,reduceIte,↓reduceIte,nB,nE,iG,h,hr,e3,ZJ e1]
 ·simp only[go_sem,reduceIte,↓reduceIte,nB,h,hr,e3,Zc e1]) (rfl)
end
end Go.Vm.A
