/- Functions of the program, walked by the evaluator. -/
import Derived.Test.YtbgfaonlbpkfhaaGreatDoorWb
import Derived.Test.YtbgfaonlbpkfhaaGreatDoorWa
set_option linter.unusedVariables false
set_option linter.unusedSimpArgs false
set_option autoImplicit false
set_option maxRecDepth 100000
set_option maxHeartbeats 4000000
set_option linter.defProp false
namespace Go.Vm.A
open Go.Proofs
open Nat renaming reduceAdd -> nA, reduceSub -> nS, reduceMul -> nM, reduceBEq -> nB, reduceEqDiff -> nE, reduceLeDiff -> nL, reduceLT -> nT, reduceBneDiff -> nN
open Int renaming reduceLE -> iL, reduceLT -> iT, reduceEq -> iE, reduceAdd -> iA, reduceMul -> iM, reduceSub -> iS, reduceNeg -> iG, reduceBEq -> iB, reduceBNe -> iN, reduceToNat -> iZ
noncomputable section
def s33:SP Tryz.prog:=mkS tyA 33 Tryz.f33 [] {md:=[.ro 1,.ro 1],rg:=[(0,[0,1],[]),(1,[0,1],[]),(2,[0,1,11],[]),(3,[4],[]),(4,[0,1,5],[]),(5,[0,1,5,15],[]),(6,[0,1,5],[]),(7,[0,1,5],[]),(8,[0,1,5,26],[]),(9,[4],[]),(10,[4],[])],lv:=[(0,[0,1,5],[])],out:=[(0,[1],[])],rets:=some ([4],[])} Tryz.func33 (by kernel_rfl)
@[go_sem] def d33:s33.g=33/\s33.fs=⟨[.ro 1,.ro 1],s33.F,false⟩:=⟨nr rfl,nr rfl⟩
@[go_sem] def e33(xs:List ByteArray)(l:Int)(h0:okL Xb3 xs):s33.F [.sl .ro 1 (xs.map Ye),.i .i64 l]=some (.i .i64 (szL XeS xs l),[.u,.u]):=Xb (xs.length+1) rfl rfl (λcx h=>by
 have hb:=Xg Tryz.f33 0 _ _ rfl rfl
 have hx:=h0.1
 obtain⟨r,hr,hq⟩:=YH (cx:=cx) (blk:=0) (body:=XN Tryz.f33 0) xs (λk l=>⟨E [(0,.sl .ro 1 (xs.map Ye)),(1,.i .i64 l),(5,.i .i64 k)],B []⟩) (λl=>⟨E [(1,.i .i64 l)],B []⟩) (λx l=>decide (XeS x l<0)) (λx l=>XeS x l) (λ_ _=>(.ret,⟨E [(4,.i .i64 (-1))],B []⟩)) (λ_ _=>True)
  (λl _ G=>by simp only[go_sem,reduceIte,↓reduceIte,nB,nE,iG,h,Int.lt_irrefl,hb]) (λk hk l _=>by
   have h1:((k:Int)<(xs.length:Int)):=Int.ofNat_lt.2 hk
   have h2:=h0.2 _ (List.getElem_mem hk)
   by_cases hc:(IntKind.i64).wrap (l-(xs[k].size:Int))<0
   ·have hs:XeS xs[k] l =-1:=by simp only[XeS,szs]; rw[if_pos hc]
    exact .inl ⟨by rw[hs]; rfl,λG=>by simp only[go_sem,reduceIte,↓reduceIte,nB,nE,iG,h,hc,Xi Ye xs k hk,h1,Xh _ _ hk,hb]⟩
   ·have hs:XeS xs[k] l=(IntKind.i64).wrap (l-(xs[k].size:Int)):=by simp only[XeS,szs]; rw[if_neg hc]
    exact .inr ⟨decide_eq_false (by rw[hs]; exact hc),trivial,_,λG=>by simp only[go_sem,reduceIte,↓reduceIte,nB,nE,iG,h,hc,Xi Ye xs k hk,h1,Xh _ _ hk,Xd (show k<9223372036854775807 by omega),hb]<;>with_reducible rfl,by simp only[go_sem,reduceIte,↓reduceIte,nB,h,hs]⟩) ((IntKind.i64).wrap (l-(xs.length:Int))) trivial (xs.length+1) (Nat.le_refl _)
 rw[hb] at hr
 unfold szL szs
 by_cases hc:(IntKind.i64).wrap (l-(xs.length:Int))<0
 ·simp only[go_sem,reduceIte,↓reduceIte,nB,nE,iG,h,hc]
 ·rcases hq with⟨s',e1,e2,e3⟩ | ⟨x,s',e1,e3⟩
  ·simp only[go_sem,reduceIte,↓reduceIte,nB,nE,iG,h,hc,hr,e3,Xdk e1,Option.getD_some]
  ·simp only[go_sem,reduceIte,↓reduceIte,nB,nE,iG,h,hc,hr,e3,Xdl e1,Option.getD_none]) (rfl)
def s8:SP Tryz.prog:=mkS tyA 8 Tryz.f8 [s33] {md:=[.ro 1,.ro 1],rg:=[(0,[1,2],[2]),(1,[1],[]),(2,[1,10],[]),(3,[4],[]),(4,[4],[])],rets:=some ([4],[])} Tryz.func8 (by kernel_rfl)
@[go_sem] def d8:s8.g=8/\s8.fs=⟨[.ro 1,.ro 1],s8.F,false⟩:=⟨nr rfl,nr rfl⟩
@[go_sem] def e8(z0 z1 z2 z3 z4 z5 z6 z7:Int)(z9:List ByteArray)(z10 z11 z12 z13 z14 z15 z16 z17 l:Int)(h0:Xgt (Config.mk z0 z1 z2 z3 z4 z5 z6 z7 z9 (Lanes.mk z10 z11 z12) (Rules.mk z13 z14 z15 z16 z17))):s8.F [.agg [.i .i64 z0,.i .i64 z1,.i .i64 z2,.i .i64 z3,.i .i64 z4,.i .i64 z5,.i .i64 z6,.i .i64 z7,.sl .ro 1 (z9.map Ye),.i .i64 z10,.i .i64 z11,.i .i64 z12,.i .i64 z13,.i .i64 z14,.i .i64 z15,.i .i64 z16,.i .i64 z17],.i .i64 l]=some (.i .i64 (XcO (Config.mk z0 z1 z2 z3 z4 z5 z6 z7 z9 (Lanes.mk z10 z11 z12) (Rules.mk z13 z14 z15 z16 z17)) l),[.u,.u]):=Xb (0) rfl rfl (λcx h=>by
 obtain⟨q0,q1,q2,q3,q4,q5,q6,q7,q8,q9,q10⟩:=h0
 simp only[go_sem,reduceIte,↓reduceIte,nA,nB,nE,nL,iG,h,q8]
 simp only[XcO,szn,XiJ]) (rfl)
def XrL:SP Tryz.prog:=mkS tyA 262 Tryz.f262 [] {md:=[.ro 1,.ro 1],rg:=[(0,[1,2],[2]),(1,[1,2],[2]),(2,[1,2,11],[2]),(3,[4],[]),(4,[1],[]),(5,[1,18],[]),(6,[4],[]),(7,[4],[])],rets:=some ([4],[])} Tryz.func262 (by kernel_rfl)
@[go_sem] def XIG:XrL.g=262/\XrL.fs=⟨[.ro 1,.ro 1],XrL.F,false⟩:=⟨nr rfl,nr rfl⟩
@[go_sem] def XIH(z8 z18:ByteArray)(l:Int)(h0:Xal (Xx.mk z8 z18)):XrL.F [.agg [.s z8,.s z18],.i .i64 l]=some (.i .i64 (Ub (Xx.mk z8 z18) l),[.u,.u]):=Xb (0) rfl rfl (λcx h=>by
 obtain⟨q0,q1⟩:=h0
 simp only[go_sem,reduceIte,↓reduceIte,nA,nB,nE,nL,iG,h]
 simp only[Ub,szs,XiJ]) (rfl)
def XqL:SP Tryz.prog:=mkS tyA 230 Tryz.f230 [XrL] {md:=[.ro 1,.ro 1],rg:=[(0,[0,1],[]),(1,[0,1],[]),(2,[0,1,11],[]),(3,[4],[]),(4,[0,1,5],[]),(5,[0,1,5,15],[]),(6,[0,1,5],[]),(7,[0,1,5],[]),(8,[0,1,5,25],[]),(9,[4],[]),(10,[4],[])],lv:=[(0,[0,1,5],[])],out:=[(0,[1],[])],rets:=some ([4],[])} Tryz.func230 (by kernel_rfl)
@[go_sem] def XII:XqL.g=230/\XqL.fs=⟨[.ro 1,.ro 1],XqL.F,false⟩:=⟨nr rfl,nr rfl⟩
@[go_sem] def XIJ(xs:List Xx)(l:Int)(h0:okL Xal xs):XqL.F [.sl .ro 2 (xs.map (Xj .ro)),.i .i64 l]=some (.i .i64 (szL Ub xs l),[.u,.u]):=Xb (xs.length+1) rfl rfl (λcx h=>by
 have hb:=Xg Tryz.f230 0 _ _ rfl rfl
 have hx:=h0.1
 obtain⟨r,hr,hq⟩:=YH (cx:=cx) (blk:=0) (body:=XN Tryz.f230 0) xs (λk l=>⟨E [(0,.sl .ro 2 (xs.map (Xj .ro))),(1,.i .i64 l),(5,.i .i64 k)],B []⟩) (λl=>⟨E [(1,.i .i64 l)],B []⟩) (λx l=>decide (Ub x l<0)) (λx l=>Ub x l) (λ_ _=>(.ret,⟨E [(4,.i .i64 (-1))],B []⟩)) (λ_ _=>True)
  (λl _ G=>by simp only[go_sem,reduceIte,↓reduceIte,nB,nE,iG,h,Int.lt_irrefl,hb]) (λk hk l _=>by
   have h1:((k:Int)<(xs.length:Int)):=Int.ofNat_lt.2 hk
   have h2:=h0.2 _ (List.getElem_mem hk)
   by_cases hc:Ub xs[k] l<0
   ·exact .inl ⟨decide_eq_true hc,λG=>by simp only[go_sem,reduceIte,↓reduceIte,nA,nB,nE,iG,h,h2,hc,Xi (Xj .ro) xs k hk,h1,Xh _ _ hk,hb]⟩
   ·exact .inr ⟨decide_eq_false hc,trivial,_,λG=>by simp only[go_sem,reduceIte,↓reduceIte,nA,nB,nE,iG,h,h2,hc,Xi (Xj .ro) xs k hk,h1,Xh _ _ hk,Xd (show k<9223372036854775807 by omega),hb]<;>with_reducible rfl,by simp only[go_sem,reduceIte,↓reduceIte,nB,h]⟩) ((IntKind.i64).wrap (l-(xs.length:Int))) trivial (xs.length+1) (Nat.le_refl _)
 rw[hb] at hr
 unfold szL szs
 by_cases hc:(IntKind.i64).wrap (l-(xs.length:Int))<0
 ·simp only[go_sem,reduceIte,↓reduceIte,nB,nE,iG,h,hc]
 ·rcases hq with⟨s',e1,e2,e3⟩ | ⟨x,s',e1,e3⟩
  ·simp only[go_sem,reduceIte,↓reduceIte,nB,nE,iG,h,hc,hr,e3,Xdk e1,Option.getD_some]
  ·simp only[go_sem,reduceIte,↓reduceIte,nB,nE,iG,h,hc,hr,e3,Xdl e1,Option.getD_none]) (rfl)
def XrM:SP Tryz.prog:=mkS tyA 231 Tryz.f231 [] {md:=[.ro 1,.ro 1],rg:=[(0,[0,1],[]),(1,[1],[]),(2,[1,10],[]),(3,[4],[]),(4,[4],[])],rets:=some ([4],[])} Tryz.func231 (by kernel_rfl)
@[go_sem] def XIK:XrM.g=231/\XrM.fs=⟨[.ro 1,.ro 1],XrM.F,false⟩:=⟨nr rfl,nr rfl⟩
@[go_sem] def XIL(xs:List UInt8)(l:Int):XrM.F [.sl .ro 1 (xs.map Yq),.i .i64 l]=some (.i .i64 (XeR xs l),[.u,.u]):=Xb (0) rfl rfl (λcx h=>by
 simp only[go_sem,reduceIte,↓reduceIte,nB,nE,iG,h]
 simp only[XeR,szs,XiJ]) (rfl)
def XrN:SP Tryz.prog:=mkS tyA 177 Tryz.f177 [s33,XqL,XrM] {md:=[.ro 1,.ro 1],rg:=[(0,[1,2],[2]),(1,[1,2],[2]),(2,[1,2,11],[2]),(3,[4],[]),(4,[1,2],[2]),(5,[1,2,17],[2]),(6,[4],[]),(7,[1,2],[2]),(8,[1,2,23],[2]),(9,[4],[]),(10,[1],[]),(11,[1,29],[]),(12,[4],[]),(13,[4],[])],rets:=some ([4],[])} Tryz.func177 (by kernel_rfl)
@[go_sem] def XIM:XrN.g=177/\XrN.fs=⟨[.ro 1,.ro 1],XrN.F,false⟩:=⟨nr rfl,nr rfl⟩
@[go_sem] def XIN(z19:ByteArray)(z20:Int)(z21:List Xx)(z22:List UInt8)(z23 z24 z25 z26 z27:Int)(z28 z29:Bool)(z30:List ByteArray)(z31 l:Int)(h0:XbK (XK.mk z19 z20 z21 z22 (Meta.mk z23 z24 z25 z26 z27 z28 z29) z30 z31)):XrN.F [.agg [.s z19,.i .i64 z20,.sl .ro 2 (z21.map (Xj .ro)),.sl .ro 1 (z22.map Yq),.i .i64 z23,.i .i64 z24,.i .i64 z25,.i .i64 z26,.i .i64 z27,.b z28,.b z29,.sl .ro 1 (z30.map Ye),.i .i64 z31],.i .i64 l]=some (.i .i64 (Xay (XK.mk z19 z20 z21 z22 (Meta.mk z23 z24 z25 z26 z27 z28 z29) z30 z31) l),[.u,.u]):=Xb (0) rfl rfl (λcx h=>by
 obtain⟨q0,q1,q2,q3,q4,q5,q6⟩:=h0
 simp only[go_sem,reduceIte,↓reduceIte,nA,nB,nE,nL,iG,h,q2,q5]
 simp only[Xay,szs,szn,XiJ]) (rfl)
def XrO:SP Tryz.prog:=mkS tyA 108 Tryz.f108 [XrN] {md:=[.ro 1,.ro 1],rg:=[(0,[0,1],[]),(1,[0,1],[]),(2,[0,1,11],[]),(3,[4],[]),(4,[0,1,5],[]),(5,[0,1,5,15],[]),(6,[0,1,5],[]),(7,[0,1,5],[]),(8,[0,1,5,25],[]),(9,[4],[]),(10,[4],[])],lv:=[(0,[0,1,5],[])],out:=[(0,[1],[])],rets:=some ([4],[])} Tryz.func108 (by kernel_rfl)
@[go_sem] def XIO:XrO.g=108/\XrO.fs=⟨[.ro 1,.ro 1],XrO.F,false⟩:=⟨nr rfl,nr rfl⟩
@[go_sem] def XIP(xs:List XK)(l:Int)(h0:okL XbK xs):XrO.F [.sl .ro 13 (xs.map (Xa .ro)),.i .i64 l]=some (.i .i64 (szL Xay xs l),[.u,.u]):=Xb (xs.length+1) rfl rfl (λcx h=>by
 have hb:=Xg Tryz.f108 0 _ _ rfl rfl
 have hx:=h0.1
 obtain⟨r,hr,hq⟩:=YH (cx:=cx) (blk:=0) (body:=XN Tryz.f108 0) xs (λk l=>⟨E [(0,.sl .ro 13 (xs.map (Xa .ro))),(1,.i .i64 l),(5,.i .i64 k)],B []⟩) (λl=>⟨E [(1,.i .i64 l)],B []⟩) (λx l=>decide (Xay x l<0)) (λx l=>Xay x l) (λ_ _=>(.ret,⟨E [(4,.i .i64 (-1))],B []⟩)) (λ_ _=>True)
  (λl _ G=>by simp only[go_sem,reduceIte,↓reduceIte,nB,nE,iG,h,Int.lt_irrefl,hb]) (λk hk l _=>by
   have h1:((k:Int)<(xs.length:Int)):=Int.ofNat_lt.2 hk
   have h2:=h0.2 _ (List.getElem_mem hk)
   by_cases hc:Xay xs[k] l<0
   ·exact .inl ⟨decide_eq_true hc,λG=>by simp only[go_sem,reduceIte,↓reduceIte,nA,nB,nE,iG,h,h2,hc,Xi (Xa .ro) xs k hk,h1,Xh _ _ hk,hb]⟩
   ·exact .inr ⟨decide_eq_false hc,trivial,_,λG=>by simp only[go_sem,reduceIte,↓reduceIte,nA,nB,nE,iG,h,h2,hc,Xi (Xa .ro) xs k hk,h1,Xh _ _ hk,Xd (show k<9223372036854775807 by omega),hb]<;>with_reducible rfl,by simp only[go_sem,reduceIte,↓reduceIte,nB,h]⟩) ((IntKind.i64).wrap (l-(xs.length:Int))) trivial (xs.length+1) (Nat.le_refl _)
 rw[hb] at hr
 unfold szL szs
 by_cases hc:(IntKind.i64).wrap (l-(xs.length:Int))<0
 ·simp only[go_sem,reduceIte,↓reduceIte,nB,nE,iG,h,hc]
 ·rcases hq with⟨s',e1,e2,e3⟩ | ⟨x,s',e1,e3⟩
  ·simp only[go_sem,reduceIte,↓reduceIte,nB,nE,iG,h,hc,hr,e3,Xdk e1,Option.getD_some]
  ·simp only[go_sem,reduceIte,↓reduceIte,nB,nE,iG,h,hc,hr,e3,Xdl e1,Option.getD_none]) (rfl)
def s46:SP Tryz.prog:=mkS tyA 46 Tryz.f46 [XrO] {md:=[.ro 1,.ro 1],rg:=[(0,[1,2],[2]),(1,[1,2],[2]),(2,[1,2,10],[2]),(3,[4],[]),(4,[1],[]),(5,[1,16],[]),(6,[4],[]),(7,[4],[])],rets:=some ([4],[])} Tryz.func46 (by kernel_rfl)
@[go_sem] def d46:s46.g=46/\s46.fs=⟨[.ro 1,.ro 1],s46.F,false⟩:=⟨nr rfl,nr rfl⟩
@[go_sem] def e46(z0 z1:Int)(z32 z33:List XK)(l:Int)(h0:XiM (Store.mk z0 z1 z32 z33)):s46.F [.agg [.i .i64 z0,.i .i64 z1,.sl .ro 13 (z32.map (Xa .ro)),.sl .ro 13 (z33.map (Xa .ro))],.i .i64 l]=some (.i .i64 (XeV (Store.mk z0 z1 z32 z33) l),[.u,.u]):=Xb (0) rfl rfl (λcx h=>by
 obtain⟨q0,q1,q2,q3⟩:=h0
 simp only[go_sem,reduceIte,↓reduceIte,nA,nB,nE,nL,iG,h,q2,q3]
 simp only[XeV,szn,XiJ]) (rfl)
def XrP:SP Tryz.prog:=mkS tyA 232 Tryz.f232 [] {md:=[.ro 1,.ro 1],rg:=[(0,[0,1],[]),(1,[1],[]),(2,[1,10],[]),(3,[4],[]),(4,[4],[])],rets:=some ([4],[])} Tryz.func232 (by kernel_rfl)
@[go_sem] def XIQ:XrP.g=232/\XrP.fs=⟨[.ro 1,.ro 1],XrP.F,false⟩:=⟨nr rfl,nr rfl⟩
@[go_sem] def XIR(xs:List ZM)(l:Int):XrP.F [.sl .ro 2 (xs.map (XF .ro)),.i .i64 l]=some (.i .i64 (szF xs.length l),[.u,.u]):=Xb (0) rfl rfl (λcx h=>by
 simp only[go_sem,reduceIte,↓reduceIte,nB,nE,iG,h]
 simp only[szF,szs,XiJ]) (rfl)
def XrQ:SP Tryz.prog:=mkS tyA 178 Tryz.f178 [XrP] {md:=[.ro 1,.ro 1],rg:=[(0,[1,2],[2]),(1,[1],[]),(2,[1,10],[]),(3,[4],[]),(4,[4],[])],rets:=some ([4],[])} Tryz.func178 (by kernel_rfl)
@[go_sem] def XIS:XrQ.g=178/\XrQ.fs=⟨[.ro 1,.ro 1],XrQ.F,false⟩:=⟨nr rfl,nr rfl⟩
@[go_sem] def XIT(z34:Int)(z35:List ZM)(l:Int)(h0:Xmd (Bulk.mk z34 z35)):XrQ.F [.agg [.i .i64 z34,.sl .ro 2 (z35.map (XF .ro))],.i .i64 l]=some (.i .i64 (XhK (Bulk.mk z34 z35) l),[.u,.u]):=Xb (0) rfl rfl (λcx h=>by
 obtain⟨q0,q1⟩:=h0
 simp only[go_sem,reduceIte,↓reduceIte,nA,nB,nE,iG,h]
 simp only[XhK,szn,XiJ]) (rfl)
def XrR:SP Tryz.prog:=mkS tyA 233 Tryz.f233 [] {md:=[.ro 1,.ro 1],rg:=[(0,[0,1],[]),(1,[1],[]),(2,[1,10],[]),(3,[4],[]),(4,[4],[])],rets:=some ([4],[])} Tryz.func233 (by kernel_rfl)
@[go_sem] def XIU:XrR.g=233/\XrR.fs=⟨[.ro 1,.ro 1],XrR.F,false⟩:=⟨nr rfl,nr rfl⟩
@[go_sem] def XIV(xs:List Z2)(l:Int):XrR.F [.sl .ro 2 (xs.map (XL .ro)),.i .i64 l]=some (.i .i64 (szF xs.length l),[.u,.u]):=Xb (0) rfl rfl (λcx h=>by
 simp only[go_sem,reduceIte,↓reduceIte,nB,nE,iG,h]
 simp only[szF,szs,XiJ]) (rfl)
def XrS:SP Tryz.prog:=mkS tyA 179 Tryz.f179 [XrR] {md:=[.ro 1,.ro 1],rg:=[(0,[1,2],[2]),(1,[1],[]),(2,[1,10],[]),(3,[4],[]),(4,[4],[])],rets:=some ([4],[])} Tryz.func179 (by kernel_rfl)
@[go_sem] def XIW:XrS.g=179/\XrS.fs=⟨[.ro 1,.ro 1],XrS.F,false⟩:=⟨nr rfl,nr rfl⟩
@[go_sem] def XIX(z36 z37 z38:Int)(z39:List Z2)(l:Int)(h0:XeX (Breaker.mk z36 z37 z38 z39)):XrS.F [.agg [.i .i64 z36,.i .i64 z37,.i .i64 z38,.sl .ro 2 (z39.map (XL .ro))],.i .i64 l]=some (.i .i64 (XbM (Breaker.mk z36 z37 z38 z39) l),[.u,.u]):=Xb (0) rfl rfl (λcx h=>by
 obtain⟨q0,q1,q2,q3⟩:=h0
 simp only[go_sem,reduceIte,↓reduceIte,nA,nB,nE,iG,h]
 simp only[XbM,szn,XiJ]) (rfl)
def XrT:SP Tryz.prog:=mkS tyA 109 Tryz.f109 [XrQ,XrS] {md:=[.ro 1,.ro 1],rg:=[(0,[1,2],[2]),(1,[1,2],[2]),(2,[1,2,11],[2]),(3,[4],[]),(4,[1,2],[2]),(5,[1,2,17],[2]),(6,[4],[]),(7,[1],[]),(8,[1,23],[]),(9,[4],[]),(10,[4],[])],rets:=some ([4],[])} Tryz.func109 (by kernel_rfl)
@[go_sem] def XIY:XrT.g=109/\XrT.fs=⟨[.ro 1,.ro 1],XrT.F,false⟩:=⟨nr rfl,nr rfl⟩
@[go_sem] def XIZ(z40:ByteArray)(z41:Int)(z42:List ZM)(z43 z44 z45:Int)(z46:List Z2)(l:Int)(h0:XbZ (Origin.mk z40 (Bulk.mk z41 z42) (Breaker.mk z43 z44 z45 z46))):XrT.F [.agg [.s z40,.i .i64 z41,.sl .ro 2 (z42.map (XF .ro)),.i .i64 z43,.i .i64 z44,.i .i64 z45,.sl .ro 2 (z46.map (XL .ro))],.i .i64 l]=some (.i .i64 (UQ (Origin.mk z40 (Bulk.mk z41 z42) (Breaker.mk z43 z44 z45 z46)) l),[.u,.u]):=Xb (0) rfl rfl (λcx h=>by
 obtain⟨q0,q1,q2⟩:=h0
 simp only[go_sem,reduceIte,↓reduceIte,nA,nB,nE,nL,iG,h,q1,q2]
 simp only[UQ,szs,szn,XiJ]) (rfl)
def s47:SP Tryz.prog:=mkS tyA 47 Tryz.f47 [XrT] {md:=[.ro 1,.ro 1],rg:=[(0,[0,1],[]),(1,[0,1],[]),(2,[0,1,11],[]),(3,[4],[]),(4,[0,1,5],[]),(5,[0,1,5,15],[]),(6,[0,1,5],[]),(7,[0,1,5],[]),(8,[0,1,5,25],[]),(9,[4],[]),(10,[4],[])],lv:=[(0,[0,1,5],[])],out:=[(0,[1],[])],rets:=some ([4],[])} Tryz.func47 (by kernel_rfl)
@[go_sem] def d47:s47.g=47/\s47.fs=⟨[.ro 1,.ro 1],s47.F,false⟩:=⟨nr rfl,nr rfl⟩
@[go_sem] def e47(xs:List Origin)(l:Int)(h0:okL XbZ xs):s47.F [.sl .ro 7 (xs.map (Xe .ro)),.i .i64 l]=some (.i .i64 (szL UQ xs l),[.u,.u]):=Xb (xs.length+1) rfl rfl (λcx h=>by
 have hb:=Xg Tryz.f47 0 _ _ rfl rfl
 have hx:=h0.1
 obtain⟨r,hr,hq⟩:=YH (cx:=cx) (blk:=0) (body:=XN Tryz.f47 0) xs (λk l=>⟨E [(0,.sl .ro 7 (xs.map (Xe .ro))),(1,.i .i64 l),(5,.i .i64 k)],B []⟩) (λl=>⟨E [(1,.i .i64 l)],B []⟩) (λx l=>decide (UQ x l<0)) (λx l=>UQ x l) (λ_ _=>(.ret,⟨E [(4,.i .i64 (-1))],B []⟩)) (λ_ _=>True)
  (λl _ G=>by simp only[go_sem,reduceIte,↓reduceIte,nB,nE,iG,h,Int.lt_irrefl,hb]) (λk hk l _=>by
   have h1:((k:Int)<(xs.length:Int)):=Int.ofNat_lt.2 hk
   have h2:=h0.2 _ (List.getElem_mem hk)
   by_cases hc:UQ xs[k] l<0
   ·exact .inl ⟨decide_eq_true hc,λG=>by simp only[go_sem,reduceIte,↓reduceIte,nA,nB,nE,iG,h,h2,hc,Xi (Xe .ro) xs k hk,h1,Xh _ _ hk,hb]⟩
   ·exact .inr ⟨decide_eq_false hc,trivial,_,λG=>by simp only[go_sem,reduceIte,↓reduceIte,nA,nB,nE,iG,h,h2,hc,Xi (Xe .ro) xs k hk,h1,Xh _ _ hk,Xd (show k<9223372036854775807 by omega),hb]<;>with_reducible rfl,by simp only[go_sem,reduceIte,↓reduceIte,nB,h]⟩) ((IntKind.i64).wrap (l-(xs.length:Int))) trivial (xs.length+1) (Nat.le_refl _)
 rw[hb] at hr
 unfold szL szs
 by_cases hc:(IntKind.i64).wrap (l-(xs.length:Int))<0
 ·simp only[go_sem,reduceIte,↓reduceIte,nB,nE,iG,h,hc]
 ·rcases hq with⟨s',e1,e2,e3⟩ | ⟨x,s',e1,e3⟩
  ·simp only[go_sem,reduceIte,↓reduceIte,nB,nE,iG,h,hc,hr,e3,Xdk e1,Option.getD_some]
  ·simp only[go_sem,reduceIte,↓reduceIte,nB,nE,iG,h,hc,hr,e3,Xdl e1,Option.getD_none]) (rfl)
def XrU:SP Tryz.prog:=mkS tyA 180 Tryz.f180 [XqL] {md:=[.ro 1,.ro 1],rg:=[(0,[1,2],[2]),(1,[1,2],[2]),(2,[1,2,11],[2]),(3,[4],[]),(4,[1,2],[2]),(5,[1,2,18],[2]),(6,[4],[]),(7,[1,2],[2]),(8,[1,2,25],[2]),(9,[4],[]),(10,[1],[]),(11,[1,31],[]),(12,[4],[]),(13,[4],[])],rets:=some ([4],[])} Tryz.func180 (by kernel_rfl)
@[go_sem] def XI0:XrU.g=180/\XrU.fs=⟨[.ro 1,.ro 1],XrU.F,false⟩:=⟨nr rfl,nr rfl⟩
@[go_sem] def XI1(z47 z40 z48:ByteArray)(z21:List Xx)(l:Int)(h0:XeY (XQ.mk z47 z40 z48 z21)):XrU.F [.agg [.s z47,.s z40,.s z48,.sl .ro 2 (z21.map (Xj .ro))],.i .i64 l]=some (.i .i64 (XbN (XQ.mk z47 z40 z48 z21) l),[.u,.u]):=Xb (0) rfl rfl (λcx h=>by
 obtain⟨q0,q1,q2,q3⟩:=h0
 simp only[go_sem,reduceIte,↓reduceIte,nA,nB,nE,nL,iG,h,q3]
 simp only[XbN,szs,szn,XiJ]) (rfl)
def XrV:SP Tryz.prog:=mkS tyA 181 Tryz.f181 [] {md:=[.ro 1,.ro 1],rg:=[(0,[0,1],[]),(1,[1],[]),(2,[1,10],[]),(3,[4],[]),(4,[4],[])],rets:=some ([4],[])} Tryz.func181 (by kernel_rfl)
@[go_sem] def XI2:XrV.g=181/\XrV.fs=⟨[.ro 1,.ro 1],XrV.F,false⟩:=⟨nr rfl,nr rfl⟩
@[go_sem] def XI3(xs:List X2)(l:Int):XrV.F [.sl .ro 4 (xs.map (Xk .ro)),.i .i64 l]=some (.i .i64 (szF xs.length l),[.u,.u]):=Xb (0) rfl rfl (λcx h=>by
 simp only[go_sem,reduceIte,↓reduceIte,nB,nE,iG,h]
 simp only[szF,szs,XiJ]) (rfl)
def XrW:SP Tryz.prog:=mkS tyA 110 Tryz.f110 [XrU,XrV] {md:=[.ro 1,.ro 1],rg:=[(0,[1,2],[2]),(1,[1,2],[2]),(2,[1,2,11],[2]),(3,[4],[]),(4,[1,2],[2]),(5,[1,2,17],[2]),(6,[4],[]),(7,[1],[]),(8,[1,23],[]),(9,[4],[]),(10,[4],[])],rets:=some ([4],[])} Tryz.func110 (by kernel_rfl)
@[go_sem] def XI4:XrW.g=110/\XrW.fs=⟨[.ro 1,.ro 1],XrW.F,false⟩:=⟨nr rfl,nr rfl⟩
@[go_sem] def XI5(xId:Int)(z19:ByteArray)(z49 z38:Bool)(z50:Int)(z51:Bool)(z52 z53 z54:ByteArray)(z55:List Xx)(z56:List X2)(l:Int)(h0:Xb0 (Xl.mk xId z19 z49 z38 z50 z51 (XQ.mk z52 z53 z54 z55) z56)):XrW.F [.agg [.i .i64 xId,.s z19,.b z49,.b z38,.i .i64 z50,.b z51,.s z52,.s z53,.s z54,.sl .ro 2 (z55.map (Xj .ro)),.sl .ro 4 (z56.map (Xk .ro))],.i .i64 l]=some (.i .i64 (UR (Xl.mk xId z19 z49 z38 z50 z51 (XQ.mk z52 z53 z54 z55) z56) l),[.u,.u]):=Xb (0) rfl rfl (λcx h=>by
 obtain⟨q0,q1,q2,q3,q4,q5,q6,q7⟩:=h0
 simp only[go_sem,reduceIte,↓reduceIte,nA,nB,nE,nL,iG,h,q6]
 simp only[UR,szs,szn,XiJ]) (rfl)
def s48:SP Tryz.prog:=mkS tyA 48 Tryz.f48 [XrW] {md:=[.ro 1,.ro 1],rg:=[(0,[0,1],[]),(1,[0,1],[]),(2,[0,1,11],[]),(3,[4],[]),(4,[0,1,5],[]),(5,[0,1,5,15],[]),(6,[0,1,5],[]),(7,[0,1,5],[]),(8,[0,1,5,25],[]),(9,[4],[]),(10,[4],[])],lv:=[(0,[0,1,5],[])],out:=[(0,[1],[])],rets:=some ([4],[])} Tryz.func48 (by kernel_rfl)
@[go_sem] def d48:s48.g=48/\s48.fs=⟨[.ro 1,.ro 1],s48.F,false⟩:=⟨nr rfl,nr rfl⟩
@[go_sem] def e48(xs:List Xl)(l:Int)(h0:okL Xb0 xs):s48.F [.sl .ro 11 (xs.map (Xc .ro)),.i .i64 l]=some (.i .i64 (szL UR xs l),[.u,.u]):=Xb (xs.length+1) rfl rfl (λcx h=>by
 have hb:=Xg Tryz.f48 0 _ _ rfl rfl
 have hx:=h0.1
 obtain⟨r,hr,hq⟩:=YH (cx:=cx) (blk:=0) (body:=XN Tryz.f48 0) xs (λk l=>⟨E [(0,.sl .ro 11 (xs.map (Xc .ro))),(1,.i .i64 l),(5,.i .i64 k)],B []⟩) (λl=>⟨E [(1,.i .i64 l)],B []⟩) (λx l=>decide (UR x l<0)) (λx l=>UR x l) (λ_ _=>(.ret,⟨E [(4,.i .i64 (-1))],B []⟩)) (λ_ _=>True)
  (λl _ G=>by simp only[go_sem,reduceIte,↓reduceIte,nB,nE,iG,h,Int.lt_irrefl,hb]) (λk hk l _=>by
   have h1:((k:Int)<(xs.length:Int)):=Int.ofNat_lt.2 hk
   have h2:=h0.2 _ (List.getElem_mem hk)
   by_cases hc:UR xs[k] l<0
   ·exact .inl ⟨decide_eq_true hc,λG=>by simp only[go_sem,reduceIte,↓reduceIte,nA,nB,nE,iG,h,h2,hc,Xi (Xc .ro) xs k hk,h1,Xh _ _ hk,hb]⟩
   ·exact .inr ⟨decide_eq_false hc,trivial,_,λG=>by simp only[go_sem,reduceIte,↓reduceIte,nA,nB,nE,iG,h,h2,hc,Xi (Xc .ro) xs k hk,h1,Xh _ _ hk,Xd (show k<9223372036854775807 by omega),hb]<;>with_reducible rfl,by simp only[go_sem,reduceIte,↓reduceIte,nB,h]⟩) ((IntKind.i64).wrap (l-(xs.length:Int))) trivial (xs.length+1) (Nat.le_refl _)
 rw[hb] at hr
 unfold szL szs
 by_cases hc:(IntKind.i64).wrap (l-(xs.length:Int))<0
 ·simp only[go_sem,reduceIte,↓reduceIte,nB,nE,iG,h,hc]
 ·rcases hq with⟨s',e1,e2,e3⟩ | ⟨x,s',e1,e3⟩
  ·simp only[go_sem,reduceIte,↓reduceIte,nB,nE,iG,h,hc,hr,e3,Xdk e1,Option.getD_some]
  ·simp only[go_sem,reduceIte,↓reduceIte,nB,nE,iG,h,hc,hr,e3,Xdl e1,Option.getD_none]) (rfl)
def s17:SP Tryz.prog:=mkS tyA 17 Tryz.f17 [s8,s46,s47,s48] {md:=[.ro 1,.ro 1],rg:=[(0,[1,2],[2]),(1,[1,2],[2]),(2,[1,2,10],[2]),(3,[4],[]),(4,[1,2],[2]),(5,[1,2,16],[2]),(6,[4],[]),(7,[1,2],[2]),(8,[1,2,22],[2]),(9,[4],[]),(10,[1],[]),(11,[1,28],[]),(12,[4],[]),(13,[4],[])],rets:=some ([4],[])} Tryz.func17 (by kernel_rfl)
@[go_sem] def d17:s17.g=17/\s17.fs=⟨[.ro 1,.ro 1],s17.F,false⟩:=⟨nr rfl,nr rfl⟩
@[go_sem] def e17(z57 z58 z59 z60 z61 z62 z63 z64:Int)(z65:List ByteArray)(z66 z67 z68 z69 z70 z71 z72 z73 z74 z75 z76 z77:Int)(z78 z79:List XK)(z80:List Origin)(z81:List Xl)(l:Int)(h0:Xbj (Shield.mk (Config.mk z57 z58 z59 z60 z61 z62 z63 z64 z65 (Lanes.mk z66 z67 z68) (Rules.mk z69 z70 z71 z72 z73)) z74 z75 (Store.mk z76 z77 z78 z79) z80 z81)):s17.F [.agg [.i .i64 z57,.i .i64 z58,.i .i64 z59,.i .i64 z60,.i .i64 z61,.i .i64 z62,.i .i64 z63,.i .i64 z64,.sl .ro 1 (z65.map Ye),.i .i64 z66,.i .i64 z67,.i .i64 z68,.i .i64 z69,.i .i64 z70,.i .i64 z71,.i .i64 z72,.i .i64 z73,.i .i64 z74,.i .i64 z75,.i .i64 z76,.i .i64 z77,.sl .ro 13 (z78.map (Xa .ro)),.sl .ro 13 (z79.map (Xa .ro)),.sl .ro 7 (z80.map (Xe .ro)),.sl .ro 11 (z81.map (Xc .ro))],.i .i64 l]=some (.i .i64 (Qu (Shield.mk (Config.mk z57 z58 z59 z60 z61 z62 z63 z64 z65 (Lanes.mk z66 z67 z68) (Rules.mk z69 z70 z71 z72 z73)) z74 z75 (Store.mk z76 z77 z78 z79) z80 z81) l),[.u,.u]):=Xb (0) rfl rfl (λcx h=>by
 obtain⟨q0,q1,q2,q3,q4,q5⟩:=h0
 simp only[go_sem,reduceIte,↓reduceIte,nA,nB,nE,nL,iG,h,q0,q3,q4,q5]
 simp only[Qu,szn,XiJ]) (rfl)
def within(a b c:Int):Bool:=decide (b<=a)&&decide (a<=c)
def XdP{a b c:Int}:within a b c=true↔b<=a/\a<=c:=by simp[within]
def s86:SP Tryz.prog:=mkS tyA 86 Tryz.f86 [] {md:=[.ro 1,.ro 1,.ro 1],rets:=some ([6],[])} Tryz.func86 (by kernel_rfl)
@[go_sem] def d86:s86.g=86/\s86.fs=⟨[.ro 1,.ro 1,.ro 1],s86.F,false⟩:=⟨nr rfl,nr rfl⟩
@[go_sem] def e86(a b c:Int):s86.F [.i .i64 a,.i .i64 b,.i .i64 c]=some (.b (within a b c),[.u,.u,.u]):=Xb (0) rfl rfl (λcx h=>by
 simp only[go_sem,reduceIte,↓reduceIte,nA,nB,h,within]
 by_cases h:b<=a<;>simp[h]) (rfl)
def XC(a:Int):Bool:=within a 0 1000000000000000
def XfS{a:Int}:XC a=true↔0<=a/\a<=1000000000000000:=XdP
def s49:SP Tryz.prog:=mkS tyA 49 Tryz.f49 [s86] {md:=[.ro 1],rets:=some ([2],[])} Tryz.func49 (by kernel_rfl)
@[go_sem] def d49:s49.g=49/\s49.fs=⟨[.ro 1],s49.F,false⟩:=⟨nr rfl,nr rfl⟩
@[go_sem] def e49(a:Int):s49.F [.i .i64 a]=some (.b (XC a),[.u]):=Xb (0) rfl rfl (λcx h=>by
 simp only[go_sem,reduceIte,↓reduceIte,nA,nB,h,XC]) (rfl)
def XqM(xs:List XK):(xs.map (Xa .ro)).all (·.all plain)=true:=by simp[Xa,plain]
def Xod:SP Tryz.prog:=mkS tyA 111 Tryz.f111 [] {md:=[.ro 1],wk:=true,rg:=[(0,[0],[]),(1,[2],[])],rets:=some ([2],[]),plan:=[(1,(.take 1 (.take 2 (.take 3 (.take 4 (.take 6 (.alt 0 (.alt 5 (.one 7 (.take 8 (.one 9 (.one 10 (.one 11 .done))))) (.one 7 (.take 8 (.alt 5 (.one 9 (.one 10 (.one 11 .done))) (.one 9 (.one 5 (.one 10 (.one 11 .done)))))))) (.one 7 (.take 8 (.alt 0 (.alt 5 (.one 9 (.one 10 (.one 11 .done))) (.one 9 (.one 5 (.one 10 (.one 11 .done))))) (.one 9 (.one 0 (.one 5 (.one 10 (.one 11 .done)))))))))))))))]} Tryz.func111 (by kernel_rfl)
@[go_sem] def XI6:Xod.g=111/\Xod.fs=⟨[.ro 1],Xod.F,true⟩:=⟨nr rfl,nr rfl⟩
@[go_sem] def XwM(z0 z1:Int)(z32 z33:List XK)(h0:((Store.mk z0 z1 z32 z33).Trial.length<=1048576/\(Store.mk z0 z1 z32 z33).Kept.length<=1048576)):Xod.F [.pr [.i .i64 z0,.i .i64 z1,.sl .ro 13 (z32.map (Xa .ro)),.sl .ro 13 (z33.map (Xa .ro))]]=some (.sl .mut 13 (((Store.mk z0 z1 z32 z33).Trial++(Store.mk z0 z1 z32 z33).Kept).map (Xa .ro)),[.u]):=Xb (0) rfl rfl (λcx h=>by
 obtain⟨g1,g2⟩:=h0
 simp only at g1 g2
 have p1:=XqM z32
 have p2:=XqM z33
 have t1:z32.length*152<=140737488355328:=by omega
 have t2:(z32.length+z33.length)*152<=140737488355328:=by omega
 have t3:z32.map (Xa .ro)++z33.map (Xa .ro)=(z32++z33).map (Xa .ro):=List.map_append.symm
 simp only[go_sem,reduceIte,↓reduceIte,nA,nM,nB,nL,h,p1,p2,t1,t2,t3]) (rfl)
@[go_sem] def Xwm(b g:Int):Xod.F [.pr [.i .i64 b,.i .i64 g,.sl .ro 13 [],.sl .ro 13 []]]=some (.sl .mut 13 [],[.u]):=XwM b g [] [] ⟨Nat.zero_le _,Nat.zero_le _⟩
def XdQ{c v:UInt8}(h:c≠v):((c.toNat:Int)==(v.toNat:Int))=false:=by
 simp only[beq_eq_false_iff_ne,ne_eq,Int.ofNat_inj]
 exact λe=>h (UInt8.toNat_inj.1 e)
def Q1(c:UInt8):Bool:=(decide (97<=(c.toNat:Int))&&decide ((c.toNat:Int)<=122))||(decide (65<=(c.toNat:Int))&&decide ((c.toNat:Int)<=90))
def UB(c:UInt8):Bool:=decide (48<=(c.toNat:Int))&&decide ((c.toNat:Int)<=57)
def Xmq(l:List UInt8)(c:UInt8):0<=Lib.indexByte l c↔c∈l:=by
 induction l with
 | nil=>simp[Lib.indexByte]
 | cons b l ih =>
  have:=Lib.indexByte_ge l c
  unfold Lib.indexByte
  by_cases hb:b=c
  ·simp[hb]
  ·by_cases hx:Lib.indexByte l c =-1
   ·have hn:¬c∈l:=λh=>by have:=ih.2 h; omega
    simp[hx,hn,hb,Ne.symm hb]
   ·have h2:0<=Lib.indexByte l c:=by omega
    simp[hb,hx,ih.1 h2]; omega
def ixB(s:ByteArray)(c:UInt8):Int:=Lib.indexByte s.data.toList c
def Xkp(l:List UInt8)(c:UInt8):decide (0<=ixB ⟨l.toArray⟩ c)=l.contains c:=by
 rw[Bool.eq_iff_iff,decide_eq_true_eq,List.contains_iff_mem]
 exact Xmq l c
def XrX(c:UInt8):((c.toNat:Int)).toNat.toUInt8=c:=by simp
def XqN:SP Tryz.prog:=mkS tyA 185 Tryz.f185 [] {md:=[.ro 1],rets:=some ([2],[])} Tryz.func185 (by kernel_rfl)
@[go_sem] def XI7:XqN.g=185/\XqN.fs=⟨[.ro 1],XqN.F,false⟩:=⟨nr rfl,nr rfl⟩
@[go_sem] def XI8(c:UInt8):XqN.F [.i .u8 c.toNat]=some (.b (Q1 c),[.u]):=Xb (0) rfl rfl (λcx h=>by
 by_cases h1:97<=(c.toNat:Int)<;>by_cases h2:(c.toNat:Int)<=122<;>by_cases h3:65<=(c.toNat:Int)<;>by_cases h4:(c.toNat:Int)<=90<;>simp only[go_sem,reduceIte,↓reduceIte,nB,h,h1,h2,h3,h4,Q1]) (rfl)
def XqO:SP Tryz.prog:=mkS tyA 186 Tryz.f186 [] {md:=[.ro 1],rets:=some ([2],[])} Tryz.func186 (by kernel_rfl)
@[go_sem] def XI9:XqO.g=186/\XqO.fs=⟨[.ro 1],XqO.F,false⟩:=⟨nr rfl,nr rfl⟩
@[go_sem] def XJa(c:UInt8):XqO.F [.i .u8 c.toNat]=some (.b (UB c),[.u]):=Xb (0) rfl rfl (λcx h=>by
 by_cases h1:48<=(c.toNat:Int)<;>by_cases h2:(c.toNat:Int)<=57<;>simp only[go_sem,reduceIte,↓reduceIte,nB,h,h1,h2,UB]) (rfl)
def Xjs:List UInt8:=[33,35,36,37,38,39,42,43,45,46,94,95,124,126]
def XaL(c:UInt8):Bool:=Q1 c||UB c||Xjs.contains c
def Xkq{c:UInt8}(h:c∈Xjs):XaL c=true:=by
 have:Xjs.contains c=true:=List.contains_iff_mem.2 h
 simp[XaL,this,-List.contains_eq_mem]
def Xkr{c:UInt8}(h:¬c∈Xjs):XaL c=(Q1 c||UB c):=by
 have:Xjs.contains c=false:=by rw[Bool.eq_false_iff]; exact λe=>h (List.contains_iff_mem.1 e)
 simp[XaL,this,-List.contains_eq_mem]
def XoK(c:UInt8):decide (0<=ixB ⟨#[33,35,36,37,38,39,42,43,45,46,94,95,124,126]⟩ c)=Xjs.contains c:=Xkp Xjs c
@[go_sem] def Xul(c:UInt8):decide (ixB ⟨#[33,35,36,37,38,39,42,43,45,46,94,95,124,126]⟩ c>=0)=Xjs.contains c:=Xkp Xjs c
def XqP:SP Tryz.prog:=mkS tyA 224 Tryz.f224 [XqN,XqO] {md:=[.ro 1],rg:=[(0,[0],[]),(1,[0,3],[]),(2,[0,3,4],[]),(3,[0,3,4],[]),(4,[0,3,4],[]),(5,[0,3,4],[]),(6,[0,3,4],[]),(7,[0,3,4],[]),(8,[0,3,4],[]),(9,[0,3,4],[]),(10,[0,3,4],[]),(11,[0,3,4],[]),(12,[0,3,4],[]),(13,[0,3,4],[]),(14,[0,3,4],[]),(15,[0,4],[]),(16,[2],[]),(17,[2],[])],rets:=some ([2],[])} Tryz.func224 (by kernel_rfl)
@[go_sem] def XJb:XqP.g=224/\XqP.fs=⟨[.ro 1],XqP.F,false⟩:=⟨nr rfl,nr rfl⟩
@[go_sem] def XJc(c:UInt8):XqP.F [.i .u8 c.toNat]=some (.b (XaL c),[.u]):=Xb (0) rfl rfl (λcx h=>by
 by_cases m:c∈Xjs
 ·have hw:=Xkq m
  simp only[Xjs,List.mem_cons,List.not_mem_nil,or_false] at m
  have u33:(((33:UInt8).toNat:Nat):Int)=33:=rfl
  have u35:(((35:UInt8).toNat:Nat):Int)=35:=rfl
  have u36:(((36:UInt8).toNat:Nat):Int)=36:=rfl
  have u37:(((37:UInt8).toNat:Nat):Int)=37:=rfl
  have u38:(((38:UInt8).toNat:Nat):Int)=38:=rfl
  have u39:(((39:UInt8).toNat:Nat):Int)=39:=rfl
  have u42:(((42:UInt8).toNat:Nat):Int)=42:=rfl
  have u43:(((43:UInt8).toNat:Nat):Int)=43:=rfl
  have u45:(((45:UInt8).toNat:Nat):Int)=45:=rfl
  have u46:(((46:UInt8).toNat:Nat):Int)=46:=rfl
  have u94:(((94:UInt8).toNat:Nat):Int)=94:=rfl
  have u95:(((95:UInt8).toNat:Nat):Int)=95:=rfl
  have u124:(((124:UInt8).toNat:Nat):Int)=124:=rfl
  have u126:(((126:UInt8).toNat:Nat):Int)=126:=rfl
  rcases m with rfl | rfl | rfl | rfl | rfl | rfl | rfl | rfl | rfl | rfl | rfl | rfl | rfl | rfl<;>simp only[go_sem,reduceIte,↓reduceIte,nB,nE,iB,h,hw,u33,u35,u36,u37,u38,u39,u42,u43,u45,u46,u94,u95,u124,u126]
 ·have hw:=Xkr m
  have q33:((c.toNat:Int)==33)=false:=XdQ (v:=33) (λe=>m (by subst e; decide))
  have q35:((c.toNat:Int)==35)=false:=XdQ (v:=35) (λe=>m (by subst e; decide))
  have q36:((c.toNat:Int)==36)=false:=XdQ (v:=36) (λe=>m (by subst e; decide))
  have q37:((c.toNat:Int)==37)=false:=XdQ (v:=37) (λe=>m (by subst e; decide))
  have q38:((c.toNat:Int)==38)=false:=XdQ (v:=38) (λe=>m (by subst e; decide))
  have q39:((c.toNat:Int)==39)=false:=XdQ (v:=39) (λe=>m (by subst e; decide))
  have q42:((c.toNat:Int)==42)=false:=XdQ (v:=42) (λe=>m (by subst e; decide))
  have q43:((c.toNat:Int)==43)=false:=XdQ (v:=43) (λe=>m (by subst e; decide))
  have q45:((c.toNat:Int)==45)=false:=XdQ (v:=45) (λe=>m (by subst e; decide))
  have q46:((c.toNat:Int)==46)=false:=XdQ (v:=46) (λe=>m (by subst e; decide))
  have q94:((c.toNat:Int)==94)=false:=XdQ (v:=94) (λe=>m (by subst e; decide))
  have q95:((c.toNat:Int)==95)=false:=XdQ (v:=95) (λe=>m (by subst e; decide))
  have q124:((c.toNat:Int)==124)=false:=XdQ (v:=124) (λe=>m (by subst e; decide))
  have q126:((c.toNat:Int)==126)=false:=XdQ (v:=126) (λe=>m (by subst e; decide))
  cases h1:Q1 c<;>cases h2:UB c<;>simp only[go_sem,reduceIte,↓reduceIte,nB,nE,h,hw,h1,h2,q33,q35,q36,q37,q38,q39,q42,q43,q45,q46,q94,q95,q124,q126]) (rfl)
def XdR(p:UInt8->Bool)(lo hi:Int)(t:ByteArray):Bool:=decide (lo<=(t.size:Int))&&decide ((t.size:Int)<=hi)&&t.data.toList.all p
def Qy{p:UInt8->Bool}{lo hi:Int}{t:ByteArray}(h:(t.size:Int)<lo):XdR p lo hi t=false:=by
 have:¬lo<=(t.size:Int):=by omega
 simp[XdR,this]
def Ue{p:UInt8->Bool}{lo hi:Int}{t:ByteArray}(h:hi<(t.size:Int)):XdR p lo hi t=false:=by
 have:¬(t.size:Int)<=hi:=by omega
 simp[XdR,this]
def UF{p:UInt8->Bool}{lo hi:Int}{t:ByteArray}(h:¬(t.size:Int)<lo)(h':¬hi<(t.size:Int)):XdR p lo hi t=t.data.toList.all p:=by
 have h1:lo<=(t.size:Int):=by omega
 have h2:(t.size:Int)<=hi:=by omega
 simp[XdR,h1,h2]
def ZV{α:Type}{p:α->Bool}:∀{xs:List α} {u u':Unit},Xac (λx _=>!p x) (λ_ _=>()) xs u=.inl u'->xs.all p=true
 | [],_,_,_=>rfl
 | x :: xs,u,u',h=>by
  rw[Yp] at h
  split at h
  ·cases h
  ·rename_i hc
   simp only[List.all_cons,ZV h,Bool.and_true]
   simpa using hc
def Zk{α:Type}{p:α->Bool}:∀{xs:List α} {u:Unit} {q:α×Unit},Xac (λx _=>!p x) (λ_ _=>()) xs u=.inr q->xs.all p=false
 | [],_,_,h=>by cases h
 | x :: xs,u,q,h=>by
  rw[Yp] at h
  split at h
  ·rename_i hc
   have:p x=false:=by simpa using hc
   simp[this]
  ·simp only[List.all_cons,Zk h,Bool.and_false]
def Xcn(t:ByteArray)(k:Nat)(h:k<t.data.toList.length):t.data[k]?.getD 0=t.data.toList[k]:=by
 have h':k<t.data.size:=by simpa using h
 rw[Array.getElem?_eq_getElem h']
 simp
def Xr(t:ByteArray):t.size=t.data.toList.length:=by
 show t.data.size=_
 simp
def Xad(t:ByteArray):Bool:=XdR XaL 1 64 t
def XqQ:SP Tryz.prog:=mkS tyA 164 Tryz.f164 [XqP] {md:=[.ro 1],rg:=[(0,[0],[]),(1,[0,11],[]),(2,[2],[]),(3,[0,3],[]),(4,[0,3,15],[]),(5,[0,3],[]),(6,[0,3,22],[]),(7,[2],[]),(8,[2],[])],lv:=[(0,[0,3],[])],out:=[(0,[],[])],rets:=some ([2],[])} Tryz.func164 (by kernel_rfl)
@[go_sem] def XJd:XqQ.g=164/\XqQ.fs=⟨[.ro 1],XqQ.F,false⟩:=⟨nr rfl,nr rfl⟩
@[go_sem] def XJe(t:ByteArray):XqQ.F [.s t]=some (.b (Xad t),[.u]):=Xb (t.data.toList.length+1) rfl rfl (λcx h=>by
 have hu:Xad t=XdR XaL 1 64 t:=rfl
 by_cases h1:(t.size:Int)<1
 ·simp only[go_sem,reduceIte,↓reduceIte,nB,nE,h,h1,hu,Qy h1]
 by_cases h2:64<(t.size:Int)
 ·simp only[go_sem,reduceIte,↓reduceIte,nB,nE,h,h1,h2,hu,Ue h2]
 have hx:t.data.toList.length<=9223372036854775806:=by rw[<-Xr]; omega
 have ha:=UF (p:=XaL) h1 h2
 rw[Xr t] at h1 h2
 ·have hb0:=Xg Tryz.f164 0 _ _ rfl rfl
  obtain⟨r,hr,hq⟩:=Xq (cx:=cx) (blk:=0) (body:=XN Tryz.f164 0) t.data.toList (λk (s:Unit)=>⟨E [(0,.s t),(3,.i .i64 k)],B []⟩) (λs=>⟨E [],B []⟩) (λx s=>!XaL x) (λx s=>()) (λx s=>(.ret,⟨E [(2,.b false)],B []⟩)) (λk s=>True)
    (λs hI G=>by simp only[go_sem,reduceIte,↓reduceIte,nB,nE,h,Int.lt_irrefl,hb0,Xr t]) (λk hk s hI=>by
     have h1:((k:Int)<(t.data.toList.length:Int)):=Int.ofNat_lt.2 hk
     have hz:=Xcn t k hk
     exact⟨_,_,_,λG=>by simp only[go_sem,reduceIte,↓reduceIte,nB,nE,h,hz,Xr t,h1,Xh _ _ hk,Xd (show k<9223372036854775807 by omega),hb0]<;>with_reducible rfl,Iff.rfl,λhc=>⟨trivial,by simp only[go_sem,reduceIte,↓reduceIte,nB,h]⟩⟩) () trivial (t.data.toList.length+1) (Nat.le_refl _)
  rw[hb0] at hr
  rcases hq with⟨s',e1,_,e3⟩ | ⟨x,s',e1,e3⟩
  ·simp only[go_sem,reduceIte,↓reduceIte,nB,nE,h,h1,h2,Xr t,hr,e3,hu,ha,ZV e1]
  ·simp only[go_sem,reduceIte,↓reduceIte,nB,nE,h,h1,h2,Xr t,hr,e3,hu,ha,Zk e1]) (rfl)
def Xb4(c:UInt8):Bool:=((c.toNat:Int)==9)||(decide (32<=(c.toNat:Int))&&decide ((c.toNat:Int)<=126))
def XrY:SP Tryz.prog:=mkS tyA 279 Tryz.f279 [] {md:=[.ro 1],rets:=some ([2],[])} Tryz.func279 (by kernel_rfl)
@[go_sem] def XJf:XrY.g=279/\XrY.fs=⟨[.ro 1],XrY.F,false⟩:=⟨nr rfl,nr rfl⟩
@[go_sem] def XJg(c:UInt8):XrY.F [.i .u8 c.toNat]=some (.b (Xb4 c),[.u]):=Xb (0) rfl rfl (λcx h=>by
 cases h1:((c.toNat:Int)==9)<;>by_cases h2:32<=(c.toNat:Int)<;>by_cases h3:(c.toNat:Int)<=126<;>simp only[go_sem,reduceIte,↓reduceIte,nB,h,h1,h2,h3,Xb4]) (rfl)
def Xoe(t:ByteArray):Bool:=t.data.toList.all Xb4
def XoL(t:ByteArray):XdR Xb4 0 (t.size:Int) t=Xoe t:=UF (by omega) (by omega)
def XrZ:SP Tryz.prog:=mkS tyA 263 Tryz.f263 [XrY] {md:=[.ro 1],rg:=[(0,[0],[]),(1,[0,3],[]),(2,[0,3,7],[]),(3,[0,3],[]),(4,[0,3,14],[]),(5,[2],[]),(6,[2],[])],lv:=[(0,[0,3],[])],out:=[(0,[],[])],rets:=some ([2],[])} Tryz.func263 (by kernel_rfl)
@[go_sem] def XJh:XrZ.g=263/\XrZ.fs=⟨[.ro 1],XrZ.F,false⟩:=⟨nr rfl,nr rfl⟩
@[go_sem] def XJi(t:ByteArray)(h0:(t.size:Int)<=1000000):XrZ.F [.s t]=some (.b (Xoe t),[.u]):=Xb (t.data.toList.length+1) rfl rfl (λcx h=>by
 have hx:t.data.toList.length<=9223372036854775806:=by rw[<-Xr]; omega
 have hb0:=Xg Tryz.f263 0 _ _ rfl rfl
 obtain⟨r,hr,hq⟩:=Xq (cx:=cx) (blk:=0) (body:=XN Tryz.f263 0) t.data.toList (λk (s:Unit)=>⟨E [(0,.s t),(3,.i .i64 k)],B []⟩) (λs=>⟨E [],B []⟩) (λx s=>!Xb4 x) (λx s=>()) (λx s=>(.ret,⟨E [(2,.b false)],B []⟩)) (λk s=>True)
   (λs hI G=>by simp only[go_sem,reduceIte,↓reduceIte,nB,nE,h,Int.lt_irrefl,hb0,Xr t]) (λk hk s hI=>by
    have h1:((k:Int)<(t.data.toList.length:Int)):=Int.ofNat_lt.2 hk
    have hz:=Xcn t k hk
    exact⟨_,_,_,λG=>by simp only[go_sem,reduceIte,↓reduceIte,nB,nE,h,hz,Xr t,h1,Xh _ _ hk,Xd (show k<9223372036854775807 by omega),hb0]<;>with_reducible rfl,Iff.rfl,λhc=>⟨trivial,by simp only[go_sem,reduceIte,↓reduceIte,nB,h]⟩⟩) () trivial (t.data.toList.length+1) (Nat.le_refl _)
 rw[hb0] at hr
 rcases hq with⟨s',e1,_,e3⟩ | ⟨x,s',e1,e3⟩
 ·simp only[go_sem,reduceIte,↓reduceIte,nB,nE,h,hr,e3,Xoe,ZV e1]
 ·simp only[go_sem,reduceIte,↓reduceIte,nB,h,hr,e3,Xoe,Zk e1]) (rfl)
def XhU(t:ByteArray):ByteArray:=⟨(Lib.trimS t.data.toList [32,9]).toArray⟩
def Xco(c:UInt8):Bool:=((c.toNat:Int)==32)||((c.toNat:Int)==9)
def bl(t:ByteArray)(j:Nat):Bool:=Xco (t.data[j]?.getD 0)
def Xmr(c:UInt8):[32,9].contains c=Xco c:=by
 have h32:(c==32)=((c.toNat:Int)==32):=by
  rw[Bool.eq_iff_iff,beq_iff_eq,beq_iff_eq]
  constructor
  ·rintro rfl; rfl
  ·intro h; exact UInt8.toNat_inj.1 (by have:(32:UInt8).toNat=32:=rfl; omega)
 have h9:(c==9)=((c.toNat:Int)==9):=by
  rw[Bool.eq_iff_iff,beq_iff_eq,beq_iff_eq]
  constructor
  ·rintro rfl; rfl
  ·intro h; exact UInt8.toNat_inj.1 (by have:(9:UInt8).toNat=9:=rfl; omega)
 simp only[List.contains_cons,List.contains_nil,Bool.or_false,h32,h9,Xco]
def XgF{t:ByteArray}{j:Nat}{b:UInt8}(h:t.data.toList[j]?=some b):bl t j=[32,9].contains b:=by
 rw[Xmr]
 unfold bl
 rw[Array.getElem?_toList] at h
 rw[h]; rfl
def Xms(t:ByteArray)(f e:Nat)(hf:f<=e)(he:e<=t.size)(h1:∀j,j<f->bl t j=true)(h2:f<t.size->bl t f=false)(h3:∀j,e<=j->j<t.size->bl t j=true)(h4:f<e->bl t (e-1)=false):XhU t=t.extract f e:=by
 have hn:t.size=t.data.toList.length:=Xr t
 have hext:t.extract f e=⟨((t.data.toList.take e).drop f).toArray⟩:=by
  have:(t.extract f e).data=t.data.extract f e:=by simp
  cases hx:t.extract f e with
  | mk d =>
   rw[hx] at this
   congr 1
   simp only at this
   rw[this]
   apply Array.ext'
   rw[Array.toList_extract,List.extract_eq_take_drop,List.drop_take]
 rw[hext]
 unfold XhU Lib.trimS
 congr 2
 by_cases hall:f<e
 ·rw[Lib.trimRightS_take t.data.toList [32,9] e (by omega) (λj b hj hb=>?_) (λb hk hb=>?_)]
  ·refine Lib.trimLeftS_drop _ _ f (by simp; omega) (λj b hj hb=>?_) (λb hb=>?_)
   ·rw[List.getElem?_take] at hb
    split at hb
    ·rw[<-XgF hb]; exact h1 j hj
    ·cases hb
   ·rw[List.getElem?_take,if_pos hall] at hb
    rw[<-XgF hb]; exact h2 (by omega)
  ·rw[<-XgF hb]; exact h3 j hj (by have:=(List.getElem?_eq_some_iff.1 hb).1; omega)
  ·rw[<-XgF hb]; exact h4 hall
 ·obtain rfl:f=e:=by omega
  have hfn:f=t.size:=by
   rcases Nat.lt_or_ge f t.size with h | h
   ·have:=h2 h; rw[h3 f (Nat.le_refl _) h] at this; cases this
   ·omega
  have hr:Lib.trimRightS t.data.toList [32,9]=t.data.toList.take 0:=Lib.trimRightS_take _ _ 0 (by omega) (λj b _ hb=>by
   rw[<-XgF hb]; exact h1 j (by have:=(List.getElem?_eq_some_iff.1 hb).1; omega)) (λb hk _=>by omega)
  rw[hr]
  have:(t.data.toList.take f).drop f=[]:=by
   apply List.drop_eq_nil_of_le
   simp
   omega
  rw[this]
  rfl
def Xr0:SP Tryz.prog:=mkS tyA 280 Tryz.f280 [] {md:=[.ro 1],rets:=some ([2],[])} Tryz.func280 (by kernel_rfl)
@[go_sem] def XJj:Xr0.g=280/\Xr0.fs=⟨[.ro 1],Xr0.F,false⟩:=⟨nr rfl,nr rfl⟩
@[go_sem] def XJk(c:UInt8):Xr0.F [.i .u8 c.toNat]=some (.b (Xco c),[.u]):=Xb (0) rfl rfl (λcx h=>by
 cases h1:((c.toNat:Int)==32)<;>cases h2:((c.toNat:Int)==9)<;>simp only[go_sem,reduceIte,↓reduceIte,nB,h,h1,h2,Xco]) (rfl)
def Xr1:SP Tryz.prog:=mkS tyA 264 Tryz.f264 [Xr0] {md:=[.ro 1],rg:=[(0,[0],[]),(1,[0,3],[]),(2,[0,3,4],[]),(3,[0,3,4,15],[]),(4,[0,3,4],[]),(5,[0,3,4,27],[]),(6,[0,3,4],[]),(7,[2],[])],lv:=[(0,[0,3,4],[]),(2,[0,3,4],[])],out:=[(0,[0,3,4],[]),(2,[0,3,4],[])],rets:=some ([2],[])} Tryz.func264 (by kernel_rfl)
@[go_sem] def XJl:Xr1.g=264/\Xr1.fs=⟨[.ro 1],Xr1.F,false⟩:=⟨nr rfl,nr rfl⟩
@[go_sem] def XJm(t:ByteArray)(h0:t.size<=9223372036854775806):Xr1.F [.s t]=some (.s (XhU t),[.u]):=Xb (t.size+1) rfl rfl (λcx h=>by
 have hb:=Xg Tryz.f264 0 _ _ rfl rfl
 have hb1:=Xg Tryz.f264 1 _ _ rfl rfl
 have lp:=Xgl (cx:=cx) (blk:=0) (body:=XN Tryz.f264 0) (λ(k:Nat)=>⟨E [(0,.s t),(3,.i .i64 k),(4,.i .i64 t.size)],B []⟩) (λk=>k<=t.size) (λk=>t.size-k)
  (λk r=>∃f:Nat,k<=f/\f<=t.size/\(∀j,k<=j->j<f->bl t j=true)/\(f<t.size->bl t f=false)/\r=some (.ex 0,⟨E [(0,.s t),(3,.i .i64 f),(4,.i .i64 t.size)],B []⟩)) (λk hk=>by
  by_cases h1:(k:Int)<(t.size:Int)
  ·have i1:=Xh t.size k (by omega)
   have w1:=Xd (show k<9223372036854775807 by omega)
   cases h2:bl t k
   ·have h3:Xco (t.data[k]?.getD 0)=false:=h2
    exact .inl λG=>⟨k,Nat.le_refl _,hk,λj a b=>by omega,λ_=>h2,by simp only[go_sem,reduceIte,↓reduceIte,nB,nE,h,hb,h1,h3,i1]⟩
   ·have h3:Xco (t.data[k]?.getD 0)=true:=h2
    refine .inr ⟨_,k+1,?_,by omega,by omega,λr ⟨f,a,b,c,d,e⟩=>⟨f,by omega,b,λj x y=>?_,d,e⟩,λG=>by simp only[go_sem,reduceIte,↓reduceIte,nB,nE,h,hb,h1,h3,i1,w1]; rfl⟩
    ·simp only[go_sem,reduceIte,↓reduceIte,nB,h]
    ·rcases Nat.eq_or_lt_of_le x with rfl | x
     ·exact h2
     ·exact c j x y
  ·exact .inl λG=>⟨k,Nat.le_refl _,hk,λj a b=>by omega,λx=>by omega,by simp only[go_sem,reduceIte,↓reduceIte,nB,nE,h,hb,h1]⟩)
 rw[hb] at lp
 obtain⟨f,_,f2,f3,f4,l1⟩:=lp (t.size+1) 0 (Nat.zero_le _) (by omega) ⟨E [(0,.s t),(3,.i .i64 0),(4,.i .i64 t.size)],B []⟩ (by simp only[go_sem,reduceIte,↓reduceIte,nB,h])
 have lp2:=Xgl (cx:=cx) (blk:=2) (body:=XN Tryz.f264 1) (λ(k:Nat)=>⟨E [(0,.s t),(3,.i .i64 f),(4,.i .i64 k)],B []⟩) (λk=>f<=k/\k<=t.size) (λk=>k)
  (λk r=>∃e:Nat,f<=e/\e<=k/\(∀j,e<=j->j<k->bl t j=true)/\(f<e->bl t (e-1)=false)/\r=some (.ex 2,⟨E [(0,.s t),(3,.i .i64 f),(4,.i .i64 e)],B []⟩)) (λk hk=>by
  by_cases h1:(f:Int)<(k:Int)
  ·obtain⟨m,rfl⟩:∃m,k=m+1:=⟨k-1,by omega⟩
   have i1:=Xh t.size m (by omega)
   have w1:(IntKind.i64).wrap (((m+1:Nat):Int)-1)=(m:Int):=by rw[Xo (by omega) (by omega)]; omega
   cases h2:bl t m
   ·have h3:Xco (t.data[m]?.getD 0)=false:=h2
    exact .inl λG=>⟨m+1,hk.1,Nat.le_refl _,λj a b=>by omega,λ_=>by simpa using h2,by simp only[go_sem,reduceIte,↓reduceIte,nB,nE,h,hb1,h1,h3,i1,w1]⟩
   ·have h3:Xco (t.data[m]?.getD 0)=true:=h2
    refine .inr ⟨_,m,?_,⟨by omega,by omega⟩,by omega,λr ⟨e,a,b,c,d,g⟩=>⟨e,a,by omega,λj x y=>?_,d,g⟩,λG=>by simp only[go_sem,reduceIte,↓reduceIte,nB,nE,h,hb1,h1,h3,i1,w1]; rfl⟩
    ·simp only[go_sem,reduceIte,↓reduceIte,nB,h]
    ·rcases Nat.lt_or_ge j m with y' | y'
     ·exact c j x y'
     ·obtain rfl:j=m:=by omega
      exact h2
  ·exact .inl λG=>⟨k,hk.1,Nat.le_refl _,λj a b=>by omega,λx=>by omega,by simp only[go_sem,reduceIte,↓reduceIte,nB,nE,h,hb1,h1]⟩)
 rw[hb1] at lp2
 obtain⟨e,e1,e2,e3,e4,l2⟩:=lp2 (t.size+1) t.size ⟨f2,Nat.le_refl _⟩ (by omega) ⟨E [(0,.s t),(3,.i .i64 f),(4,.i .i64 t.size)],B []⟩ (by simp only[go_sem,reduceIte,↓reduceIte,nB,h])
 have hc:=Xms t f e e1 e2 (λj hj=>f3 j (Nat.zero_le _) hj) f4 e3 e4
 have c1:(0:Int)<=(e:Int):=by omega
 have c2:(e:Int)<=(t.size:Int):=by omega
 have c3:(0:Int)<=(f:Int):=by omega
 have c4:(f:Int)<=(e:Int):=by omega
 simp only[go_sem,reduceIte,↓reduceIte,nB,nE,h,l1,l2,c1,c2,c3,c4,Int.toNat_natCast,hc]) (rfl)
def YN(h:Xx):Int:=if Xad h.Name=false then 5 else if 200<(h.Value.size:Int) then 2 else if(Xoe h.Value&&eqv (XhU h.Value) h.Value)=true then 0 else 5
def Xn(hs:List Xx):Int:=if 20<(hs.length:Int) then 2 else Zr (hs.map YN)
def Z8{α:Type}{f:α->Int}:∀{xs:List α} {u u':Unit},Xac (λx _=>f x !=0) (λ_ _=>()) xs u=.inl u'->Zr (xs.map f)=0
 | [],_,_,_=>rfl
 | x :: xs,u,u',h=>by
  rw[Yp] at h
  split at h
  ·cases h
  ·rename_i hc; rw[List.map_cons,Xm,if_neg hc]; exact Z8 h
def Z9{α:Type}{f:α->Int}:∀{xs:List α} {u:Unit} {q:α×Unit},Xac (λx _=>f x !=0) (λ_ _=>()) xs u=.inr q->Zr (xs.map f)=f q.1
 | [],_,_,h=>by cases h
 | x :: xs,u,q,h=>by
  rw[Yp] at h
  split at h
  ·rename_i hc; injection h with h; subst h; rw[List.map_cons,Xm,if_pos hc]
  ·rename_i hc; rw[List.map_cons,Xm,if_neg hc]; exact Z9 h
end
end Go.Vm.A
