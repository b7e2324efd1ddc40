/- Functions of the program, walked by the evaluator. -/
import Derived.Test.YtbgfaonlbpkfhaaGreatDoorWb
import Derived.Test.YtbgfaonlbpkfhaaGreatDoorWa
import Derived.Test.YtbgfaonlbpkfhaaGreatDoorFa
import Derived.Test.YtbgfaonlbpkfhaaGreatDoorFk
import Derived.Test.YtbgfaonlbpkfhaaGreatDoorFe
import Derived.Test.YtbgfaonlbpkfhaaGreatDoorFj
import Derived.Test.YtbgfaonlbpkfhaaGreatDoorIa
set_option linter.unusedVariables false
set_option linter.unusedSimpArgs false
set_option autoImplicit false
set_option maxRecDepth 100000
set_option maxHeartbeats 4000000
set_option linter.defProp false
namespace Go.Vm.A
open Go.Proofs
open Nat renaming reduceAdd -> nA, reduceSub -> nS, reduceMul -> nM, reduceBEq -> nB, reduceEqDiff -> nE, reduceLeDiff -> nL, reduceLT -> nT, reduceBneDiff -> nN
open Int renaming reduceLE -> iL, reduceLT -> iT, reduceEq -> iE, reduceAdd -> iA, reduceMul -> iM, reduceSub -> iS, reduceNeg -> iG, reduceBEq -> iB, reduceBNe -> iN, reduceToNat -> iZ
noncomputable section
def Xtq:SP Tryz.prog:=mkS tyA 159 Tryz.f159 [] {md:=[.mv,.ro 1],rg:=[(0,[0,1],[]),(1,[0,1,5],[]),(2,[0,1,5,9],[]),(3,[0,1,5],[]),(4,[0,1,5],[]),(5,[0,1,5],[]),(6,[0,1,5],[]),(7,[0,1,5],[]),(8,[0,1,5],[]),(9,[0,1,5],[]),(10,[0,1,5],[]),(11,[0,1,5],[]),(12,[0,4],[])],lv:=[(0,[0,1,5],[])],out:=[(0,[0,1],[])],rets:=some ([0,4],[])} Tryz.func159 (by kernel_rfl)
@[go_sem] def XNm:Xtq.g=159/\Xtq.fs=⟨[.mv,.ro 1],Xtq.F,false⟩:=⟨nr rfl,nr rfl⟩
@[go_sem] def XNn(xs:List X2)(k:Int)(h1:0<=k)(h0:(mkL Yg xs k).2<=9223372036854775807):Xtq.F [.sl .mut 4 (xs.map (Xk .mut)),.i .i64 k]=some (.i .i64 (mkL Yg xs k).2,[.sl .mut 4 ((mkL Yg xs k).1.map (Xk .mut)),.u]):=Xb (xs.length+1) rfl rfl (λcx h=>by
 have hb:=Xg Tryz.f159 0 _ _ rfl rfl
 have hx:=Uy Um xs k
 have hr:=(X0 (cx:=cx) (blk:=0) (body:=XN Tryz.f159 0) xs (λi (s:Int)=>⟨E [(0,.sl .mut 4 ((UL Yg xs k i).map (Xk .mut))),(1,.i .i64 s),(5,.i .i64 i)],B []⟩) (λ_=>⟨E [(0,.sl .mut 4 ((mkL Yg xs k).1.map (Xk .mut))),(1,.i .i64 (mkL Yg xs k).2)],B []⟩) (λx s=>(Yg x s).2) (λi s=>s=Xd5 Yg xs k i)
  (λs hI G=>by simp only[go_sem,reduceIte,↓reduceIte,nB,nE,h,Int.lt_irrefl,hb,UN,UM,YW,hI,QT]) (λi hk s hI=>by
   have h2:((i:Int)<(xs.length:Int)):=Int.ofNat_lt.2 hk
   have g1:=U7 Um xs k i
   have g2:=U8 Um xs k i hk
   rw[<-hI] at g1 g2
   have h3:=UO (f:=Yg) (Xk .mut) xs k i hk
   rw[<-hI] at h3
   simp only[Yg,Xk] at h3 g2
   have v0:(IntKind.i64).wrap (s)=s:=Xo (by omega) (by omega)
   have v1:(IntKind.i64).wrap (s+1)=s+1:=Xo (by omega) (by omega)
   have v2:(IntKind.i64).wrap (s+1+1)=s+1+1:=Xo (by omega) (by omega)
   have v3:(IntKind.i64).wrap (s+1+1+1)=s+1+1+1:=Xo (by omega) (by omega)
   have v4:(IntKind.i64).wrap (s+1+1+1+1)=s+1+1+1+1:=Xo (by omega) (by omega)
   have hL:i<((UL Yg xs k i).map (Xk .mut)).length:=by rw[List.length_map,Y2]; exact hk
   have hg:=λy=>Xbb ((UL Yg xs k i).map (Xk .mut)) i y hL
   have hG:=λy=>UP ((UL Yg xs k i).map (Xk .mut)) i y hL
   refine⟨by rw[ZQ xs k i hk,<-hI],_,λG=>by simp only[go_sem,reduceIte,↓reduceIte,nA,nB,nE,nL,iE,h,h3,hg,hG,Y2 (f:=Yg) xs k i,Ua (f:=Yg) (Xk .mut) xs k i hk,QW (f:=Yg) (Xk .mut) xs k i hk,QV (f:=Yg) (Xk .mut) xs k i,v1,v2,v3,v4,h2,Xh _ _ hk,Xd (show i<9223372036854775807 by omega),hb]<;>with_reducible rfl,by simp only[go_sem,reduceIte,↓reduceIte,nB,h,Yg]⟩) k rfl (xs.length+1) (Nat.le_refl _)).2
 rw[hb] at hr
 simp only[go_sem,reduceIte,↓reduceIte,nB,nE,h,hr,QU]) (by simp only[go_sem,YE,XI])
def s82:SP Tryz.prog:=mkS tyA 82 Tryz.f82 [XmA,Xrn,Xtq] {md:=[.mv,.ro 1],rg:=[(0,[0,1],[]),(1,[0,1,5],[]),(2,[0,1,5,9],[]),(3,[0,1,5],[]),(4,[0,1,5],[]),(5,[0,1,5],[]),(6,[0,1,5],[]),(7,[0,1,5],[]),(8,[0,1,5],[]),(9,[0,1,5],[]),(10,[0,1,5],[]),(11,[0,1,5],[]),(12,[0,1,5],[]),(13,[0,1,5],[]),(14,[0,1,5],[]),(15,[0,1,5],[]),(16,[0,1,5],[]),(17,[0,1,5],[]),(18,[0,1,5],[]),(19,[0,1,5],[]),(20,[0,1,5],[]),(21,[0,1,5],[]),(22,[0,1,5],[]),(23,[0,1,5],[]),(24,[0,4],[])],lv:=[(0,[0,1,5],[])],out:=[(0,[0,1],[])],rets:=some ([0,4],[])} Tryz.func82 (by kernel_rfl)
@[go_sem] def d82:s82.g=82/\s82.fs=⟨[.mv,.ro 1],s82.F,false⟩:=⟨nr rfl,nr rfl⟩
@[go_sem] def e82(xs:List Xl)(k:Int)(h1:0<=k)(h0:(mkL Yb xs k).2<=9223372036854775807):s82.F [.sl .mut 11 (xs.map (Xc .mut)),.i .i64 k]=some (.i .i64 (mkL Yb xs k).2,[.sl .mut 11 ((mkL Yb xs k).1.map (Xc .mut)),.u]):=Xb (xs.length+1) rfl rfl (λcx h=>by
 have hb:=Xg Tryz.f82 0 _ _ rfl rfl
 have hx:=Uy Un xs k
 have hr:=(X0 (cx:=cx) (blk:=0) (body:=XN Tryz.f82 0) xs (λi (s:Int)=>⟨E [(0,.sl .mut 11 ((UL Yb xs k i).map (Xc .mut))),(1,.i .i64 s),(5,.i .i64 i)],B []⟩) (λ_=>⟨E [(0,.sl .mut 11 ((mkL Yb xs k).1.map (Xc .mut))),(1,.i .i64 (mkL Yb xs k).2)],B []⟩) (λx s=>(Yb x s).2) (λi s=>s=Xd5 Yb xs k i)
  (λs hI G=>by simp only[go_sem,reduceIte,↓reduceIte,nB,nE,h,Int.lt_irrefl,hb,UN,UM,YW,hI,QT]) (λi hk s hI=>by
   have h2:((i:Int)<(xs.length:Int)):=Int.ofNat_lt.2 hk
   have g1:=U7 Un xs k i
   have g2:=U8 Un xs k i hk
   rw[<-hI] at g1 g2
   obtain⟨q0,hq0⟩:∃q,(mkL X3 xs[i].Get.Headers (s+1+1+1+1+1+1+1+1+1)).2=q:=⟨_,rfl⟩
   have b0:=Y0 Z7 xs[i].Get.Headers (s+1+1+1+1+1+1+1+1+1)
   rw[hq0] at b0
   obtain⟨q1,hq1⟩:∃q,(mkL Yg xs[i].Waiters (q0)).2=q:=⟨_,rfl⟩
   have b1:=Y0 Um xs[i].Waiters (q0)
   rw[hq1] at b1
   have h3:=UO (f:=Yb) (Xc .mut) xs k i hk
   rw[<-hI] at h3
   simp only[Yb,Xc,hq0,hq1] at h3 g2
   have v0:(IntKind.i64).wrap (s)=s:=Xo (by omega) (by omega)
   have v1:(IntKind.i64).wrap (s+1)=s+1:=Xo (by omega) (by omega)
   have t2:s+1+1<=9223372036854775807:=by omega
   have v2:(IntKind.i64).wrap (s+1+1)=s+1+1:=Xo (by omega) (by omega)
   have v3:(IntKind.i64).wrap (s+1+1+1)=s+1+1+1:=Xo (by omega) (by omega)
   have v4:(IntKind.i64).wrap (s+1+1+1+1)=s+1+1+1+1:=Xo (by omega) (by omega)
   have v5:(IntKind.i64).wrap (s+1+1+1+1+1)=s+1+1+1+1+1:=Xo (by omega) (by omega)
   have v6:(IntKind.i64).wrap (s+1+1+1+1+1+1)=s+1+1+1+1+1+1:=Xo (by omega) (by omega)
   have t7:s+1+1+1+1+1+1+1<=9223372036854775807:=by omega
   have v7:(IntKind.i64).wrap (s+1+1+1+1+1+1+1)=s+1+1+1+1+1+1+1:=Xo (by omega) (by omega)
   have t8:s+1+1+1+1+1+1+1+1<=9223372036854775807:=by omega
   have v8:(IntKind.i64).wrap (s+1+1+1+1+1+1+1+1)=s+1+1+1+1+1+1+1+1:=Xo (by omega) (by omega)
   have t9:s+1+1+1+1+1+1+1+1+1<=9223372036854775807:=by omega
   have v9:(IntKind.i64).wrap (s+1+1+1+1+1+1+1+1+1)=s+1+1+1+1+1+1+1+1+1:=Xo (by omega) (by omega)
   have p0:0<=s+1+1+1+1+1+1+1+1+1:=by omega
   have c0:q0<=9223372036854775807:=by omega
   have d0:¬(q0<0):=by omega
   have v10:(IntKind.i64).wrap (q0)=q0:=Xo (by omega) (by omega)
   have p1:0<=q0:=by omega
   have c1:q1<=9223372036854775807:=by omega
   have d1:¬(q1<0):=by omega
   have v11:(IntKind.i64).wrap (q1)=q1:=Xo (by omega) (by omega)
   have hL:i<((UL Yb xs k i).map (Xc .mut)).length:=by rw[List.length_map,Y2]; exact hk
   have hg:=λy=>Xbb ((UL Yb xs k i).map (Xc .mut)) i y hL
   have hG:=λy=>UP ((UL Yb xs k i).map (Xc .mut)) i y hL
   refine⟨by rw[ZQ xs k i hk,<-hI],_,λG=>by simp only[go_sem,reduceIte,↓reduceIte,nA,nB,nE,nL,nT,iE,h,h3,hg,hG,Y2 (f:=Yb) xs k i,Ua (f:=Yb) (Xc .mut) xs k i hk,QW (f:=Yb) (Xc .mut) xs k i hk,QV (f:=Yb) (Xc .mut) xs k i,hq0,hq1,v1,t2,v2,v3,v4,v5,v6,t7,v7,t8,v8,t9,v9,p0,c0,p1,c1,h2,Xh _ _ hk,Xd (show i<9223372036854775807 by omega),hb]<;>with_reducible rfl,by simp only[go_sem,reduceIte,↓reduceIte,nB,h,Yb,hq0,hq1]⟩) k rfl (xs.length+1) (Nat.le_refl _)).2
 rw[hb] at hr
 simp only[go_sem,reduceIte,↓reduceIte,nB,nE,h,hr,QU]) (by simp only[go_sem,YE,XI])
def s30:SP Tryz.prog:=mkS tyA 30 Tryz.f30 [s14,s80,s81,s82] {md:=[.mv,.ro 1],rg:=[(0,[0,1,2],[2]),(1,[0,1,2],[2]),(2,[0,1,2],[2]),(3,[0,1,2],[2]),(4,[0,1],[]),(5,[0,4],[])],rets:=some ([0,4],[]),al:=[2]} Tryz.func30 (by kernel_rfl)
@[go_sem] def d30:s30.g=30/\s30.fs=⟨[.mv,.ro 1],s30.F,false⟩:=⟨nr rfl,nr rfl⟩
@[go_sem] def e30(w0 w1 w2 w3 w4 w5 w6 w7:Int)(w8:List ByteArray)(w9 w10 w11 w12 w13 w14 w15 w16 w17 w18 w19 w20:Int)(w21 w22:List XK)(w23:List Origin)(w24:List Xl)(k:Int)(h1:0<=k)(h0:(Qp (Shield.mk (Config.mk w0 w1 w2 w3 w4 w5 w6 w7 w8 (Lanes.mk w9 w10 w11) (Rules.mk w12 w13 w14 w15 w16)) w17 w18 (Store.mk w19 w20 w21 w22) w23 w24) k).2<=9223372036854775807):s30.F [.agg [.i .i64 w0,.i .i64 w1,.i .i64 w2,.i .i64 w3,.i .i64 w4,.i .i64 w5,.i .i64 w6,.i .i64 w7,.sl .mut 1 (w8.map Ye),.i .i64 w9,.i .i64 w10,.i .i64 w11,.i .i64 w12,.i .i64 w13,.i .i64 w14,.i .i64 w15,.i .i64 w16,.i .i64 w17,.i .i64 w18,.i .i64 w19,.i .i64 w20,.sl .mut 13 (w21.map (Xa .mut)),.sl .mut 13 (w22.map (Xa .mut)),.sl .mut 7 (w23.map (Xe .mut)),.sl .mut 11 (w24.map (Xc .mut))],.i .i64 k]=some (.i .i64 (Qp (Shield.mk (Config.mk w0 w1 w2 w3 w4 w5 w6 w7 w8 (Lanes.mk w9 w10 w11) (Rules.mk w12 w13 w14 w15 w16)) w17 w18 (Store.mk w19 w20 w21 w22) w23 w24) k).2,[.agg (Q6 .mut (Qp (Shield.mk (Config.mk w0 w1 w2 w3 w4 w5 w6 w7 w8 (Lanes.mk w9 w10 w11) (Rules.mk w12 w13 w14 w15 w16)) w17 w18 (Store.mk w19 w20 w21 w22) w23 w24) k).1),.u]):=Xb (0) rfl rfl (λcx h=>by
 obtain⟨q0,hq0⟩:∃q,(Zy (Config.mk w0 w1 w2 w3 w4 w5 w6 w7 w8 (Lanes.mk w9 w10 w11) (Rules.mk w12 w13 w14 w15 w16)) k).2=q:=⟨_,rfl⟩
 have b0:=XdL (Config.mk w0 w1 w2 w3 w4 w5 w6 w7 w8 (Lanes.mk w9 w10 w11) (Rules.mk w12 w13 w14 w15 w16)) k
 rw[hq0] at b0
 have p0:0<=k:=by omega
 obtain⟨q1,hq1⟩:∃q,(Qf (Store.mk w19 w20 w21 w22) q0).2=q:=⟨_,rfl⟩
 have b1:=Xe1 (Store.mk w19 w20 w21 w22) q0
 rw[hq1] at b1
 have p1:0<=q0:=by omega
 obtain⟨q2,hq2⟩:∃q,(mkL Ya w23 q1).2=q:=⟨_,rfl⟩
 have b2:=Y0 Ul w23 q1
 rw[hq2] at b2
 have p2:0<=q1:=by omega
 obtain⟨q3,hq3⟩:∃q,(mkL Yb w24 q2).2=q:=⟨_,rfl⟩
 have b3:=Y0 Un w24 q2
 rw[hq3] at b3
 have p3:0<=q2:=by omega
 simp only[Uo,hq0,hq1,hq2,hq3] at h0
 have c0:q0<=9223372036854775807:=by omega
 have d0:¬(q0<0):=by omega
 have c1:q1<=9223372036854775807:=by omega
 have d1:¬(q1<0):=by omega
 have c2:q2<=9223372036854775807:=by omega
 have d2:¬(q2<0):=by omega
 have c3:q3<=9223372036854775807:=by omega
 have d3:¬(q3<0):=by omega
 simp only[go_sem,reduceIte,↓reduceIte,nA,nB,nE,nL,nT,h,p0,p1,p2,p3,c0,c1,c2,c3,hq0,hq1,hq2,hq3,Uo]
 simp only[QE,Q7]) (by simp only[go_sem,Uo,YE,XI,XM])
def Xtr:SP Tryz.prog:=mkS tyA 160 Tryz.f160 [Xro] {md:=[.mv,.ro 1],rg:=[(0,[0,1,2],[2]),(1,[0,1],[]),(2,[0,4],[])],rets:=some ([0,4],[]),al:=[2]} Tryz.func160 (by kernel_rfl)
@[go_sem] def XNo:Xtr.g=160/\Xtr.fs=⟨[.mv,.ro 1],Xtr.F,false⟩:=⟨nr rfl,nr rfl⟩
@[go_sem] def XNp(w25:Int)(w26:List ZM)(k:Int)(h1:0<=k)(h0:(Qi (Bulk.mk w25 w26) k).2<=9223372036854775807):Xtr.F [.agg [.i .i64 w25,.sl .mut 2 (w26.map (XF .mut))],.i .i64 k]=some (.i .i64 (Qi (Bulk.mk w25 w26) k).2,[.agg (XeW .mut (Qi (Bulk.mk w25 w26) k).1),.u]):=Xb (0) rfl rfl (λcx h=>by
 obtain⟨q0,hq0⟩:∃q,(mkL X1 w26 k).2=q:=⟨_,rfl⟩
 have b0:=Y0 Zz w26 k
 rw[hq0] at b0
 have p0:0<=k:=by omega
 simp only[Y7,hq0] at h0
 have c0:q0<=9223372036854775807:=by omega
 have d0:¬(q0<0):=by omega
 simp only[go_sem,reduceIte,↓reduceIte,nA,nB,nE,nT,h,p0,c0,hq0,Y7]) (by simp only[go_sem,Y7,YE,XI,XM])
def Xts:SP Tryz.prog:=mkS tyA 161 Tryz.f161 [Xrp] {md:=[.mv,.ro 1],rg:=[(0,[0,1,2],[2]),(1,[0,1],[]),(2,[0,4],[])],rets:=some ([0,4],[]),al:=[2]} Tryz.func161 (by kernel_rfl)
@[go_sem] def XNq:Xts.g=161/\Xts.fs=⟨[.mv,.ro 1],Xts.F,false⟩:=⟨nr rfl,nr rfl⟩
@[go_sem] def XNr(w27 w28 w29:Int)(w30:List Z2)(k:Int)(h1:0<=k)(h0:(YL (Breaker.mk w27 w28 w29 w30) k).2<=9223372036854775807):Xts.F [.agg [.i .i64 w27,.i .i64 w28,.i .i64 w29,.sl .mut 2 (w30.map (XL .mut))],.i .i64 k]=some (.i .i64 (YL (Breaker.mk w27 w28 w29 w30) k).2,[.agg (Uc .mut (YL (Breaker.mk w27 w28 w29 w30) k).1),.u]):=Xb (0) rfl rfl (λcx h=>by
 obtain⟨q0,hq0⟩:∃q,(mkL X4 w30 k).2=q:=⟨_,rfl⟩
 have b0:=Y0 ZA w30 k
 rw[hq0] at b0
 have p0:0<=k:=by omega
 simp only[Yu,hq0] at h0
 have c0:q0<=9223372036854775807:=by omega
 have d0:¬(q0<0):=by omega
 simp only[go_sem,reduceIte,↓reduceIte,nA,nB,nE,nT,h,p0,c0,hq0,Yu]) (by simp only[go_sem,Yu,YE,XI,XM])
def s83:SP Tryz.prog:=mkS tyA 83 Tryz.f83 [Xtr,Xts] {md:=[.mv,.ro 1],rg:=[(0,[0,1,2],[2]),(1,[0,1,2],[2]),(2,[0,1],[]),(3,[0,4],[])],rets:=some ([0,4],[]),al:=[2]} Tryz.func83 (by kernel_rfl)
@[go_sem] def d83:s83.g=83/\s83.fs=⟨[.mv,.ro 1],s83.F,false⟩:=⟨nr rfl,nr rfl⟩
@[go_sem] def e83(w31:ByteArray)(w32:Int)(w33:List ZM)(w34 w35 w36:Int)(w37:List Z2)(k:Int)(h1:0<=k)(h0:(Y1 (Origin.mk w31 (Bulk.mk w32 w33) (Breaker.mk w34 w35 w36 w37)) k).2<=9223372036854775807):s83.F [.agg [.s w31,.i .i64 w32,.sl .mut 2 (w33.map (XF .mut)),.i .i64 w34,.i .i64 w35,.i .i64 w36,.sl .mut 2 (w37.map (XL .mut))],.i .i64 k]=some (.i .i64 (Y1 (Origin.mk w31 (Bulk.mk w32 w33) (Breaker.mk w34 w35 w36 w37)) k).2,[.agg (Xe .mut (Y1 (Origin.mk w31 (Bulk.mk w32 w33) (Breaker.mk w34 w35 w36 w37)) k).1),.u]):=Xb (0) rfl rfl (λcx h=>by
 obtain⟨q0,hq0⟩:∃q,(Qi (Bulk.mk w32 w33) k).2=q:=⟨_,rfl⟩
 have b0:=Xdo (Bulk.mk w32 w33) k
 rw[hq0] at b0
 have p0:0<=k:=by omega
 obtain⟨q1,hq1⟩:∃q,(YL (Breaker.mk w34 w35 w36 w37) q0).2=q:=⟨_,rfl⟩
 have b1:=Xbk (Breaker.mk w34 w35 w36 w37) q0
 rw[hq1] at b1
 have p1:0<=q0:=by omega
 simp only[Y5,hq0,hq1] at h0
 have c0:q0<=9223372036854775807:=by omega
 have d0:¬(q0<0):=by omega
 have c1:q1<=9223372036854775807:=by omega
 have d1:¬(q1<0):=by omega
 simp only[go_sem,reduceIte,↓reduceIte,nA,nB,nE,nL,nT,h,p0,p1,c0,c1,hq0,hq1,Y5]
 simp only[Y7,Yu]) (by simp only[go_sem,Y5,YE,XI,XM])
def s31:SP Tryz.prog:=mkS tyA 31 Tryz.f31 [s83] {md:=[.mv,.ro 1],rg:=[(0,[0,1,2],[2]),(1,[0,1],[]),(2,[0,4],[])],rets:=some ([0,4],[]),al:=[2]} Tryz.func31 (by kernel_rfl)
@[go_sem] def d31:s31.g=31/\s31.fs=⟨[.mv,.ro 1],s31.F,false⟩:=⟨nr rfl,nr rfl⟩
@[go_sem] def e31(w38:Int)(w39:ByteArray)(w40:Int)(w41:List ZM)(w42 w43 w44:Int)(w45:List Z2)(k:Int)(h1:0<=k)(h0:(Yl (XB.mk w38 (Origin.mk w39 (Bulk.mk w40 w41) (Breaker.mk w42 w43 w44 w45))) k).2<=9223372036854775807):s31.F [.agg [.i .i64 w38,.s w39,.i .i64 w40,.sl .mut 2 (w41.map (XF .mut)),.i .i64 w42,.i .i64 w43,.i .i64 w44,.sl .mut 2 (w45.map (XL .mut))],.i .i64 k]=some (.i .i64 (Yl (XB.mk w38 (Origin.mk w39 (Bulk.mk w40 w41) (Breaker.mk w42 w43 w44 w45))) k).2,[.agg (Y3 .mut (Yl (XB.mk w38 (Origin.mk w39 (Bulk.mk w40 w41) (Breaker.mk w42 w43 w44 w45))) k).1),.u]):=Xb (0) rfl rfl (λcx h=>by
 obtain⟨q0,hq0⟩:∃q,(Y1 (Origin.mk w39 (Bulk.mk w40 w41) (Breaker.mk w42 w43 w44 w45)) k).2=q:=⟨_,rfl⟩
 have b0:=XbO (Origin.mk w39 (Bulk.mk w40 w41) (Breaker.mk w42 w43 w44 w45)) k
 rw[hq0] at b0
 have p0:0<=k:=by omega
 simp only[YJ,hq0] at h0
 have c0:q0<=9223372036854775807:=by omega
 have d0:¬(q0<0):=by omega
 simp only[go_sem,reduceIte,↓reduceIte,nA,nB,nE,nL,nT,h,p0,c0,hq0,YJ]
 simp only[Y5,Y7,Yu]) (by simp only[go_sem,YJ,YE,XI,XM])
def Xtt:SP Tryz.prog:=mkS tyA 173 Tryz.f173 [] {md:=[.ro 1,.ro 1],rg:=[(0,[0,1],[]),(1,[0,1,5],[]),(2,[0,1,5,9],[]),(3,[0,1,5],[]),(4,[0,1,5,18],[]),(5,[4],[]),(6,[0,1,5],[]),(7,[0,1,5,27],[]),(8,[4],[]),(9,[0,1,5],[]),(10,[4],[])],lv:=[(0,[0,1,5],[])],out:=[(0,[1],[])],rets:=some ([4],[])} Tryz.func173 (by kernel_rfl)
@[go_sem] def XNs:Xtt.g=173/\Xtt.fs=⟨[.ro 1,.ro 1],Xtt.F,false⟩:=⟨nr rfl,nr rfl⟩
@[go_sem] def XNt(xs:List ZM)(k:Int)(h1:0<=k)(h0:(mkL X1 xs k).2<=9223372036854775807):Xtt.F [.sl .ro 2 ((mkL X1 xs k).1.map (XF .ro)),.i .i64 k]=some (.i .i64 (mkL X1 xs k).2,[.u,.u]):=Xb (xs.length+1) rfl rfl (λcx h=>by
 have hb:=Xg Tryz.f173 0 _ _ rfl rfl
 have hx:=Uy Zz xs k
 have hr:=(X0 (cx:=cx) (blk:=0) (body:=XN Tryz.f173 0) xs (λi (s:Int)=>⟨E [(0,.sl .ro 2 ((mkL X1 xs k).1.map (XF .ro))),(1,.i .i64 s),(5,.i .i64 i)],B []⟩) (λ_=>⟨E [(1,.i .i64 (mkL X1 xs k).2)],B []⟩) (λx s=>(X1 x s).2) (λi s=>s=Xd5 X1 xs k i)
  (λs hI G=>by simp only[go_sem,reduceIte,↓reduceIte,nB,nE,iG,h,Int.lt_irrefl,hb,YW,hI,QT]) (λi hk s hI=>by
   have h2:((i:Int)<(xs.length:Int)):=Int.ofNat_lt.2 hk
   have g1:=U7 Zz xs k i
   have g2:=U8 Zz xs k i hk
   rw[<-hI] at g1 g2
   have h3:=XoA (f:=X1) (XF .ro) xs k i hk
   rw[<-hI] at h3
   simp only[X1,XF] at h3 g2
   have v0:(IntKind.i64).wrap (s)=s:=Xo (by omega) (by omega)
   have v1:(IntKind.i64).wrap (s+1)=s+1:=Xo (by omega) (by omega)
   have v2:(IntKind.i64).wrap (s+1+1)=s+1+1:=Xo (by omega) (by omega)
   refine⟨by rw[ZQ xs k i hk,<-hI],_,λG=>by simp only[go_sem,reduceIte,↓reduceIte,nA,nB,nE,nL,iG,h,h3,YW,v1,v2,h2,Xh _ _ hk,Xd (show i<9223372036854775807 by omega),hb]<;>with_reducible rfl,by simp only[go_sem,reduceIte,↓reduceIte,nB,h,X1]⟩) k rfl (xs.length+1) (Nat.le_refl _)).2
 rw[hb] at hr
 simp only[go_sem,reduceIte,↓reduceIte,nB,nE,iG,h,hr]) (rfl)
def Xtu:SP Tryz.prog:=mkS tyA 162 Tryz.f162 [Xtt] {md:=[.ro 1,.ro 1],rg:=[(0,[1,2],[2]),(1,[1],[]),(2,[1,10],[]),(3,[4],[]),(4,[4],[])],rets:=some ([4],[])} Tryz.func162 (by kernel_rfl)
@[go_sem] def XNu:Xtu.g=162/\Xtu.fs=⟨[.ro 1,.ro 1],Xtu.F,false⟩:=⟨nr rfl,nr rfl⟩
@[go_sem] def XNv(w25:Int)(w26:List ZM)(k:Int)(h1:0<=k)(h0:(Qi (Bulk.mk w25 w26) k).2<=9223372036854775807):Xtu.F [.agg [.i .i64 w25,.sl .ro 2 ((mkL X1 w26 k).1.map (XF .ro))],.i .i64 k]=some (.i .i64 (Qi (Bulk.mk w25 w26) k).2,[.u,.u]):=Xb (0) rfl rfl (λcx h=>by
 obtain⟨q0,hq0⟩:∃q,(mkL X1 w26 k).2=q:=⟨_,rfl⟩
 have b0:=Y0 Zz w26 k
 rw[hq0] at b0
 have p0:0<=k:=by omega
 simp only[Y7,hq0] at h0
 have c0:q0<=9223372036854775807:=by omega
 have d0:¬(q0<0):=by omega
 simp only[go_sem,reduceIte,↓reduceIte,nA,nB,nE,h,p0,c0,d0,hq0,Y7]) (rfl)
def Xtv:SP Tryz.prog:=mkS tyA 174 Tryz.f174 [] {md:=[.ro 1,.ro 1],rg:=[(0,[0,1],[]),(1,[0,1,5],[]),(2,[0,1,5,9],[]),(3,[0,1,5],[]),(4,[0,1,5,18],[]),(5,[4],[]),(6,[0,1,5],[]),(7,[0,1,5,29],[]),(8,[4],[]),(9,[0,1,5],[]),(10,[4],[])],lv:=[(0,[0,1,5],[])],out:=[(0,[1],[])],rets:=some ([4],[])} Tryz.func174 (by kernel_rfl)
@[go_sem] def XNw:Xtv.g=174/\Xtv.fs=⟨[.ro 1,.ro 1],Xtv.F,false⟩:=⟨nr rfl,nr rfl⟩
@[go_sem] def XNx(xs:List Z2)(k:Int)(h1:0<=k)(h0:(mkL X4 xs k).2<=9223372036854775807):Xtv.F [.sl .ro 2 ((mkL X4 xs k).1.map (XL .ro)),.i .i64 k]=some (.i .i64 (mkL X4 xs k).2,[.u,.u]):=Xb (xs.length+1) rfl rfl (λcx h=>by
 have hb:=Xg Tryz.f174 0 _ _ rfl rfl
 have hx:=Uy ZA xs k
 have hr:=(X0 (cx:=cx) (blk:=0) (body:=XN Tryz.f174 0) xs (λi (s:Int)=>⟨E [(0,.sl .ro 2 ((mkL X4 xs k).1.map (XL .ro))),(1,.i .i64 s),(5,.i .i64 i)],B []⟩) (λ_=>⟨E [(1,.i .i64 (mkL X4 xs k).2)],B []⟩) (λx s=>(X4 x s).2) (λi s=>s=Xd5 X4 xs k i)
  (λs hI G=>by simp only[go_sem,reduceIte,↓reduceIte,nB,nE,iG,h,Int.lt_irrefl,hb,YW,hI,QT]) (λi hk s hI=>by
   have h2:((i:Int)<(xs.length:Int)):=Int.ofNat_lt.2 hk
   have g1:=U7 ZA xs k i
   have g2:=U8 ZA xs k i hk
   rw[<-hI] at g1 g2
   have h3:=XoA (f:=X4) (XL .ro) xs k i hk
   rw[<-hI] at h3
   simp only[X4,XL] at h3 g2
   have v0:(IntKind.i64).wrap (s)=s:=Xo (by omega) (by omega)
   have v1:(IntKind.i64).wrap (s+1)=s+1:=Xo (by omega) (by omega)
   have v2:(IntKind.i64).wrap (s+1+1)=s+1+1:=Xo (by omega) (by omega)
   refine⟨by rw[ZQ xs k i hk,<-hI],_,λG=>by simp only[go_sem,reduceIte,↓reduceIte,nA,nB,nE,nL,iE,iG,h,h3,YW,v1,v2,h2,Xh _ _ hk,Xd (show i<9223372036854775807 by omega),hb]<;>with_reducible rfl,by simp only[go_sem,reduceIte,↓reduceIte,nB,h,X4]⟩) k rfl (xs.length+1) (Nat.le_refl _)).2
 rw[hb] at hr
 simp only[go_sem,reduceIte,↓reduceIte,nB,nE,iG,h,hr]) (rfl)
def Xtw:SP Tryz.prog:=mkS tyA 163 Tryz.f163 [Xtv] {md:=[.ro 1,.ro 1],rg:=[(0,[1,2],[2]),(1,[1],[]),(2,[1,10],[]),(3,[4],[]),(4,[4],[])],rets:=some ([4],[])} Tryz.func163 (by kernel_rfl)
@[go_sem] def XNy:Xtw.g=163/\Xtw.fs=⟨[.ro 1,.ro 1],Xtw.F,false⟩:=⟨nr rfl,nr rfl⟩
@[go_sem] def XNz(w27 w28 w29:Int)(w30:List Z2)(k:Int)(h1:0<=k)(h0:(YL (Breaker.mk w27 w28 w29 w30) k).2<=9223372036854775807):Xtw.F [.agg [.i .i64 w27,.i .i64 w28,.i .i64 w29,.sl .ro 2 ((mkL X4 w30 k).1.map (XL .ro))],.i .i64 k]=some (.i .i64 (YL (Breaker.mk w27 w28 w29 w30) k).2,[.u,.u]):=Xb (0) rfl rfl (λcx h=>by
 obtain⟨q0,hq0⟩:∃q,(mkL X4 w30 k).2=q:=⟨_,rfl⟩
 have b0:=Y0 ZA w30 k
 rw[hq0] at b0
 have p0:0<=k:=by omega
 simp only[Yu,hq0] at h0
 have c0:q0<=9223372036854775807:=by omega
 have d0:¬(q0<0):=by omega
 simp only[go_sem,reduceIte,↓reduceIte,nA,nB,nE,h,p0,c0,d0,hq0,Yu]) (rfl)
def s84:SP Tryz.prog:=mkS tyA 84 Tryz.f84 [Xtu,Xtw] {md:=[.ro 1,.ro 1],rg:=[(0,[1,2],[2]),(1,[1,2],[2]),(2,[1,2,10],[2]),(3,[4],[]),(4,[1],[]),(5,[1,16],[]),(6,[4],[]),(7,[4],[])],rets:=some ([4],[])} Tryz.func84 (by kernel_rfl)
@[go_sem] def d84:s84.g=84/\s84.fs=⟨[.ro 1,.ro 1],s84.F,false⟩:=⟨nr rfl,nr rfl⟩
@[go_sem] def e84(w31:ByteArray)(w32:Int)(w33:List ZM)(w34 w35 w36:Int)(w37:List Z2)(k:Int)(h1:0<=k)(h0:(Y1 (Origin.mk w31 (Bulk.mk w32 w33) (Breaker.mk w34 w35 w36 w37)) k).2<=9223372036854775807):s84.F [.agg [.s w31,.i .i64 w32,.sl .ro 2 ((mkL X1 w33 k).1.map (XF .ro)),.i .i64 w34,.i .i64 w35,.i .i64 w36,.sl .ro 2 ((mkL X4 w37 (mkL X1 w33 k).2).1.map (XL .ro))],.i .i64 k]=some (.i .i64 (Y1 (Origin.mk w31 (Bulk.mk w32 w33) (Breaker.mk w34 w35 w36 w37)) k).2,[.u,.u]):=Xb (0) rfl rfl (λcx h=>by
 obtain⟨q0,hq0⟩:∃q,(Qi (Bulk.mk w32 w33) k).2=q:=⟨_,rfl⟩
 have b0:=Xdo (Bulk.mk w32 w33) k
 rw[hq0] at b0
 have p0:0<=k:=by omega
 obtain⟨q1,hq1⟩:∃q,(YL (Breaker.mk w34 w35 w36 w37) q0).2=q:=⟨_,rfl⟩
 have b1:=Xbk (Breaker.mk w34 w35 w36 w37) q0
 rw[hq1] at b1
 have p1:0<=q0:=by omega
 simp only[Y5,hq0,hq1] at h0
 have c0:q0<=9223372036854775807:=by omega
 have d0:¬(q0<0):=by omega
 have c1:q1<=9223372036854775807:=by omega
 have d1:¬(q1<0):=by omega
 simp only[Y7] at hq0
 simp only[Yu] at hq1
 simp only[go_sem,reduceIte,↓reduceIte,nA,nB,nE,nL,h,p0,p1,c0,d0,c1,d1,hq0,hq1,Y7,Yu,Y5]) (rfl)
def s32:SP Tryz.prog:=mkS tyA 32 Tryz.f32 [s84] {md:=[.ro 1,.ro 1],rg:=[(0,[1,2],[2]),(1,[1],[]),(2,[1,10],[]),(3,[4],[]),(4,[4],[])],rets:=some ([4],[])} Tryz.func32 (by kernel_rfl)
@[go_sem] def d32:s32.g=32/\s32.fs=⟨[.ro 1,.ro 1],s32.F,false⟩:=⟨nr rfl,nr rfl⟩
@[go_sem] def e32(w38:Int)(w39:ByteArray)(w40:Int)(w41:List ZM)(w42 w43 w44:Int)(w45:List Z2)(k:Int)(h1:0<=k)(h0:(Yl (XB.mk w38 (Origin.mk w39 (Bulk.mk w40 w41) (Breaker.mk w42 w43 w44 w45))) k).2<=9223372036854775807):s32.F [.agg [.i .i64 w38,.s w39,.i .i64 w40,.sl .ro 2 ((mkL X1 w41 k).1.map (XF .ro)),.i .i64 w42,.i .i64 w43,.i .i64 w44,.sl .ro 2 ((mkL X4 w45 (mkL X1 w41 k).2).1.map (XL .ro))],.i .i64 k]=some (.i .i64 (Yl (XB.mk w38 (Origin.mk w39 (Bulk.mk w40 w41) (Breaker.mk w42 w43 w44 w45))) k).2,[.u,.u]):=Xb (0) rfl rfl (λcx h=>by
 obtain⟨q0,hq0⟩:∃q,(Y1 (Origin.mk w39 (Bulk.mk w40 w41) (Breaker.mk w42 w43 w44 w45)) k).2=q:=⟨_,rfl⟩
 have b0:=XbO (Origin.mk w39 (Bulk.mk w40 w41) (Breaker.mk w42 w43 w44 w45)) k
 rw[hq0] at b0
 have p0:0<=k:=by omega
 simp only[YJ,hq0] at h0
 have c0:q0<=9223372036854775807:=by omega
 have d0:¬(q0<0):=by omega
 simp only[Y5,Y7,Yu] at hq0
 simp only[go_sem,reduceIte,↓reduceIte,nA,nB,nE,h,p0,c0,d0,hq0,Y5,Y7,Yu,YJ]) (rfl)
def s7:SP Tryz.prog:=mkS tyA 7 Tryz.f7 [s17,s19,s21,s27,s28,s29,s30,s31,s32] {md:=[.ro 1,.ro 1],rg:=[(0,[1,2],[2]),(1,[1,2,15],[2]),(2,[4],[]),(3,[1,2,5],[2]),(4,[1,2,5],[2]),(5,[1,2,20],[2]),(6,[4],[]),(7,[1,2,6],[2,6]),(8,[1,2,6,7],[2,6,7]),(9,[1,2,6,7,8],[2,6,7,8]),(10,[1,2,6,7,8,33],[2,6,7,8]),(11,[4],[]),(12,[1,2,6,7,8,38],[2,6,7,8]),(13,[4],[]),(14,[1,2,6,7,8,9],[2,6,7,8]),(15,[1,2,6,8,9],[2,6,8]),(16,[1,2,6,8,49],[2,6,8]),(17,[4],[]),(18,[1,2,6,8,10],[2,6,8]),(19,[1,2,6,8,10],[2,6,8]),(20,[1,2,6,8,10,11],[2,6,8]),(21,[1,2,6,8,10,11],[2,6,8]),(22,[1,2,6,8,10,11,57],[2,6,8]),(23,[4],[]),(24,[1,2,6,8,10,60],[2,6,8]),(25,[4],[]),(26,[6,8,10,12],[6,8,12]),(27,[8,10,68],[8]),(28,[4],[]),(29,[8,10,11],[8]),(30,[10,11],[]),(31,[10,11,73],[]),(32,[4],[]),(33,[76],[]),(34,[4],[]),(35,[4],[])],rets:=some ([4],[]),plan:=[(12,(.take 0 (.take 1 (.one 2 (.one 3 (.take 4 .done))))))]} Tryz.func7 (by kernel_rfl)
@[go_sem] def d7:s7.g=7/\s7.fs=⟨[.ro 1,.ro 1],s7.F,false⟩:=⟨nr rfl,nr rfl⟩
def e7(w46 w47 w48 w49 w50 w51 w52 w53:Int)(w54:List ByteArray)(w55 w56 w57 w58 w59 w60 w61 w62 w63 w64 w65 w66:Int)(w67 w68:List XK)(w69:List Origin)(w70:List Xl)(host:ByteArray)(h0:Xbj (Shield.mk (Config.mk w46 w47 w48 w49 w50 w51 w52 w53 w54 (Lanes.mk w55 w56 w57) (Rules.mk w58 w59 w60 w61 w62)) w63 w64 (Store.mk w65 w66 w67 w68) w69 w70)/\Xb3 host):s7.F [.agg [.i .i64 w46,.i .i64 w47,.i .i64 w48,.i .i64 w49,.i .i64 w50,.i .i64 w51,.i .i64 w52,.i .i64 w53,.sl .ro 1 (w54.map Ye),.i .i64 w55,.i .i64 w56,.i .i64 w57,.i .i64 w58,.i .i64 w59,.i .i64 w60,.i .i64 w61,.i .i64 w62,.i .i64 w63,.i .i64 w64,.i .i64 w65,.i .i64 w66,.sl .ro 13 (w67.map (Xa .ro)),.sl .ro 13 (w68.map (Xa .ro)),.sl .ro 7 (w69.map (Xe .ro)),.sl .ro 11 (w70.map (Xc .ro))],.s host]=some (.b true,[.u,.u]):=Xb (0) rfl rfl (λcx h=>by
 by_cases hc1:(1048576:Int)<host.size
 ·simp only[go_sem,reduceIte,↓reduceIte,nA,nB,nE,h,hc1]
 have hs1:host.size<=1048576:=by omega
 have h0_0:=h0.1
 by_cases hc0:Qu (Shield.mk (Config.mk w46 w47 w48 w49 w50 w51 w52 w53 w54 (Lanes.mk w55 w56 w57) (Rules.mk w58 w59 w60 w61 w62)) w63 w64 (Store.mk w65 w66 w67 w68) w69 w70) 1048576<0
 ·simp only[go_sem,reduceIte,↓reduceIte,nA,nB,nE,h,hc0,h0_0,hc1]
 obtain⟨hs0,hl0⟩:=US _ _ h0_0 (by decide) (by decide) (show 0<=Qu (Shield.mk (Config.mk w46 w47 w48 w49 w50 w51 w52 w53 w54 (Lanes.mk w55 w56 w57) (Rules.mk w58 w59 w60 w61 w62)) w63 w64 (Store.mk w65 w66 w67 w68) w69 w70) 1048576 by omega)
 obtain⟨R,hR⟩:∃R,QL (Shield.mk (Config.mk w46 w47 w48 w49 w50 w51 w52 w53 w54 (Lanes.mk w55 w56 w57) (Rules.mk w58 w59 w60 w61 w62)) w63 w64 (Store.mk w65 w66 w67 w68) w69 w70) host=R:=⟨_,rfl⟩
 have hsm:=XhZ hs0 host
 rw[hR] at hsm
 have f0:=XhS (Shield.mk (Config.mk w46 w47 w48 w49 w50 w51 w52 w53 w54 (Lanes.mk w55 w56 w57) (Rules.mk w58 w59 w60 w61 w62)) w63 w64 (Store.mk w65 w66 w67 w68) w69 w70) 1 hs0
 have g0:=XhR (Shield.mk (Config.mk w46 w47 w48 w49 w50 w51 w52 w53 w54 (Lanes.mk w55 w56 w57) (Rules.mk w58 w59 w60 w61 w62)) w63 w64 (Store.mk w65 w66 w67 w68) w69 w70) 1
 have f0':(Qp (Shield.mk (Config.mk w46 w47 w48 w49 w50 w51 w52 w53 w54 (Lanes.mk w55 w56 w57) (Rules.mk w58 w59 w60 w61 w62)) w63 w64 (Store.mk w65 w66 w67 w68) w69 w70) 1).2<=9223372036854775807:=by omega
 have g0':¬((Qp (Shield.mk (Config.mk w46 w47 w48 w49 w50 w51 w52 w53 w54 (Lanes.mk w55 w56 w57) (Rules.mk w58 w59 w60 w61 w62)) w63 w64 (Store.mk w65 w66 w67 w68) w69 w70) 1).2<0):=by omega
 have f1:=XcU R 1 hsm
 have g1:=XcT R 1
 have f1':(Yl R 1).2<=9223372036854775807:=by omega
 have g1':¬((Yl R 1).2<0):=by omega
 simp only[Yu,Y7,QE,YJ,Y5,Uo,Q7] at f0' g0' f1' g1'
 simp only[go_sem,reduceIte,↓reduceIte,nA,nB,nE,nL,nT,iL,h,hc1,hc0,hs0,h0_0,hR,hsm,f0',g0',f1',g1',QS,Yu,Y7,QE,YJ,Y5,Uo,Q7]) (rfl)
end
end Go.Vm.A
