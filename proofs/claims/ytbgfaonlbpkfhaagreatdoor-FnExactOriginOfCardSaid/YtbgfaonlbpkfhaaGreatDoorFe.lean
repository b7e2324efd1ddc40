/- Functions of the program, walked by the evaluator. -/
import Derived.Test.YtbgfaonlbpkfhaaGreatDoorWb
import Derived.Test.YtbgfaonlbpkfhaaGreatDoorWa
import Derived.Test.YtbgfaonlbpkfhaaGreatDoorFa
import Derived.Test.YtbgfaonlbpkfhaaGreatDoorFb
import Derived.Test.YtbgfaonlbpkfhaaGreatDoorFc
import Derived.Test.YtbgfaonlbpkfhaaGreatDoorFd
set_option linter.unusedVariables false
set_option linter.unusedSimpArgs false
set_option autoImplicit false
set_option maxRecDepth 100000
set_option maxHeartbeats 4000000
set_option linter.defProp false
namespace Go.Vm.A
open Go.Proofs
open Nat renaming reduceAdd -> nA, reduceSub -> nS, reduceMul -> nM, reduceBEq -> nB, reduceEqDiff -> nE, reduceLeDiff -> nL, reduceLT -> nT, reduceBneDiff -> nN
open Int renaming reduceLE -> iL, reduceLT -> iT, reduceEq -> iE, reduceAdd -> iA, reduceMul -> iM, reduceSub -> iS, reduceNeg -> iG, reduceBEq -> iB, reduceBNe -> iN, reduceToNat -> iZ
noncomputable section
def XT(v:Shield):Int:=Zr [XJ v.Config,if(!(XC v.Now&&XC v.Next))=true then 3 else 0,XW v.Store,
 if(v.Store.Budget !=v.Config.Budget||v.Store.Guard !=v.Config.Guard)=true then 1 else 0,if decide (6<(v.Origins.length:Int))=true then 2 else 0,YD v,XV v.Flights,if(!UZ v)=true then 8 else 0]
def s18:SP Tryz.prog:=mkS tyA 18 Tryz.f18 [s34,s49,s50,s51,s52,s53] {md:=[.ro 1],rg:=[(0,[1],[1]),(1,[1,3],[1]),(2,[1,3,11],[1]),(3,[2],[]),(4,[1,22],[1]),(5,[2],[]),(6,[1,4],[1]),(7,[1,4,27],[1]),(8,[2],[]),(9,[1,44],[1]),(10,[2],[]),(11,[1,5],[1]),(12,[1,5,47],[1]),(13,[2],[]),(14,[1,6],[1]),(15,[1,6,53],[1]),(16,[2],[]),(17,[56],[]),(18,[2],[]),(19,[2],[])],rets:=some ([2],[]),fz:=[1]} Tryz.func18 (by kernel_rfl)
@[go_sem] def d18:s18.g=18/\s18.fs=⟨[.ro 1],s18.F,false⟩:=⟨nr rfl,nr rfl⟩
@[go_sem] def e18(w0 w1 w2 w3 w4 w5 w6 w7:Int)(w8:List ByteArray)(w9 w10 w11 w12 w13 w14 w15 w16 w17 w18 w19 w20:Int)(w21 w22:List XK)(w23:List Origin)(w24:List Xl)(h0:YS (Shield.mk (Config.mk w0 w1 w2 w3 w4 w5 w6 w7 w8 (Lanes.mk w9 w10 w11) (Rules.mk w12 w13 w14 w15 w16)) w17 w18 (Store.mk w19 w20 w21 w22) w23 w24)):s18.F [.agg [.i .i64 w0,.i .i64 w1,.i .i64 w2,.i .i64 w3,.i .i64 w4,.i .i64 w5,.i .i64 w6,.i .i64 w7,.sl .ro 1 (w8.map Ye),.i .i64 w9,.i .i64 w10,.i .i64 w11,.i .i64 w12,.i .i64 w13,.i .i64 w14,.i .i64 w15,.i .i64 w16,.i .i64 w17,.i .i64 w18,.i .i64 w19,.i .i64 w20,.sl .ro 13 (w21.map (Xa .ro)),.sl .ro 13 (w22.map (Xa .ro)),.sl .ro 7 (w23.map (Xe .ro)),.sl .ro 11 (w24.map (Xc .ro))]]=some (.i .i64 (XT (Shield.mk (Config.mk w0 w1 w2 w3 w4 w5 w6 w7 w8 (Lanes.mk w9 w10 w11) (Rules.mk w12 w13 w14 w15 w16)) w17 w18 (Store.mk w19 w20 w21 w22) w23 w24)),[.u]):=Xb (0) rfl rfl (λcx h=>by
 have hM:=h0
 have hS:=h0.2.2.2.1
 have hF:=h0.2.2.2.2.2
 simp only at hS hF
 have hu:XT (Shield.mk (Config.mk w0 w1 w2 w3 w4 w5 w6 w7 w8 (Lanes.mk w9 w10 w11) (Rules.mk w12 w13 w14 w15 w16)) w17 w18 (Store.mk w19 w20 w21 w22) w23 w24)=Zr [XJ (Config.mk w0 w1 w2 w3 w4 w5 w6 w7 w8 (Lanes.mk w9 w10 w11) (Rules.mk w12 w13 w14 w15 w16)),if(!(XC w17&&XC w18))=true then 3 else 0,XW (Store.mk w19 w20 w21 w22),if(w19 !=w0||w20 !=w1)=true then 1 else 0,if decide (6<(w23.length:Int))=true then 2 else 0,YD (Shield.mk (Config.mk w0 w1 w2 w3 w4 w5 w6 w7 w8 (Lanes.mk w9 w10 w11) (Rules.mk w12 w13 w14 w15 w16)) w17 w18 (Store.mk w19 w20 w21 w22) w23 w24),XV w24,if(!UZ (Shield.mk (Config.mk w0 w1 w2 w3 w4 w5 w6 w7 w8 (Lanes.mk w9 w10 w11) (Rules.mk w12 w13 w14 w15 w16)) w17 w18 (Store.mk w19 w20 w21 w22) w23 w24))=true then 8 else 0]:=rfl
 generalize hB1:XJ (Config.mk w0 w1 w2 w3 w4 w5 w6 w7 w8 (Lanes.mk w9 w10 w11) (Rules.mk w12 w13 w14 w15 w16))=B1 at hu
 generalize hB2:XW (Store.mk w19 w20 w21 w22)=B2 at hu
 generalize hB3:YD (Shield.mk (Config.mk w0 w1 w2 w3 w4 w5 w6 w7 w8 (Lanes.mk w9 w10 w11) (Rules.mk w12 w13 w14 w15 w16)) w17 w18 (Store.mk w19 w20 w21 w22) w23 w24)=B3 at hu
 generalize hB4:XV w24=B4 at hu
 by_cases zB1:B1=0
 rotate_left
 ·have yB1:(B1 !=0)=true:=by simpa using zB1
  simp only[go_sem,reduceIte,↓reduceIte,nA,nB,nE,nL,h,hu,hB1,Xm,yB1]
 subst zB1
 rcases Bool.eq_false_or_eq_true (XC w17) with a1 | a1
 rotate_left
 ·simp only[go_sem,reduceIte,↓reduceIte,nA,nB,nE,nL,iN,h,hu,hB1,Xm,a1]
 rcases Bool.eq_false_or_eq_true (XC w18) with a2 | a2
 rotate_left
 ·simp only[go_sem,reduceIte,↓reduceIte,nA,nB,nE,nL,iN,h,hu,hB1,Xm,a1,a2]
 by_cases zB2:B2=0
 rotate_left
 ·have yB2:(B2 !=0)=true:=by simpa using zB2
  simp only[go_sem,reduceIte,↓reduceIte,nA,nB,nE,nL,h,hS,hu,hB1,hB2,Xm,a1,a2,yB2]
 subst zB2
 rcases Bool.eq_false_or_eq_true (w19 !=w0) with a3 | a3
 ·simp only[go_sem,reduceIte,↓reduceIte,nA,nB,nE,nL,iN,h,hS,hu,hB1,hB2,Xm,a1,a2,a3]
 rcases Bool.eq_false_or_eq_true (w20 !=w1) with a4 | a4
 ·simp only[go_sem,reduceIte,↓reduceIte,nA,nB,nE,nL,iN,h,hS,hu,hB1,hB2,Xm,a1,a2,a3,a4]
 by_cases h6:(6:Int)<(w23.length:Int)
 ·simp only[go_sem,reduceIte,↓reduceIte,nA,nB,nE,nL,iN,h,hM,hS,hu,hB1,hB2,Xm,a1,a2,a3,a4,h6]
 by_cases zB3:B3=0
 rotate_left
 ·have yB3:(B3 !=0)=true:=by simpa using zB3
  simp only[go_sem,reduceIte,↓reduceIte,nA,nB,nE,nL,h,hM,hS,hu,hB1,hB2,hB3,Xm,a1,a2,a3,a4,h6,yB3]
 subst zB3
 by_cases zB4:B4=0
 rotate_left
 ·have yB4:(B4 !=0)=true:=by simpa using zB4
  simp only[go_sem,reduceIte,↓reduceIte,nA,nB,nE,nL,h,hM,hS,hF,hu,hB1,hB2,hB3,hB4,Xm,a1,a2,a3,a4,h6,yB4]
 subst zB4
 rcases Bool.eq_false_or_eq_true (UZ (Shield.mk (Config.mk w0 w1 w2 w3 w4 w5 w6 w7 w8 (Lanes.mk w9 w10 w11) (Rules.mk w12 w13 w14 w15 w16)) w17 w18 (Store.mk w19 w20 w21 w22) w23 w24)) with a5 | a5
 ·simp only[go_sem,reduceIte,↓reduceIte,nA,nB,nE,nL,h,hM,hS,hF,hu,hB1,hB2,hB3,hB4,Xm,UY,a1,a2,a3,a4,h6,a5]
 ·simp only[go_sem,reduceIte,↓reduceIte,nA,nB,nE,nL,iN,h,hM,hS,hF,hu,hB1,hB2,hB3,hB4,Xm,a1,a2,a3,a4,h6,a5]) (rfl)
def s36:SP Tryz.prog:=mkS tyA 36 Tryz.f36 [] {md:=[.ro 1],rg:=[(0,[0],[]),(1,[0,3],[]),(2,[0,3,4],[]),(3,[0,3,4,11],[]),(4,[0,3,4],[]),(5,[0,3,4],[]),(6,[2],[])],lv:=[(0,[0,3,4],[])],out:=[(0,[3],[])],rets:=some ([2],[])} Tryz.func36 (by kernel_rfl)
@[go_sem] def d36:s36.g=36/\s36.fs=⟨[.ro 1],s36.F,false⟩:=⟨nr rfl,nr rfl⟩
@[go_sem] def e36(xs:List ByteArray)(h0:smL Xdj xs):s36.F [.sl .ro 1 (xs.map Ye)]=some (.sl .mut 1 (xs.map Ye),[.u]):=Xb (xs.length+1) rfl rfl (λcx h=>by
 have hb:=Xg Tryz.f36 0 _ _ rfl rfl
 have hx:=h0.1
 have c1:((xs.length:Int)*(16:Nat)<=140737488355328):=by omega
 have c2:0<=(xs.length:Int):=by omega
 have hr:=(X0 (cx:=cx) (blk:=0) (body:=XN Tryz.f36 0) xs (λk (_:Unit)=>⟨E [(0,.sl .ro 1 (xs.map Ye)),(3,.sl .mut 1 (YI Ye [.s ⟨#[]⟩] xs k)),(4,.i .i64 k)],B []⟩) (λ_=>⟨E [(3,.sl .mut 1 (xs.map Ye))],B []⟩) (λ_ _=>()) (λ_ _=>True)
  (λl _ G=>by simp only[go_sem,reduceIte,↓reduceIte,nB,nE,h,Int.lt_irrefl,hb,Qb]) (λk hk l _=>by
   have h1:((k:Int)<(xs.length:Int)):=Int.ofNat_lt.2 hk
   have h2:=h0.2 _ (List.getElem_mem hk)
   have h3:(YI Ye [.s ⟨#[]⟩] xs k).set k [.s xs[k]]=YI Ye [.s ⟨#[]⟩] xs (k+1):=Qd Ye [.s ⟨#[]⟩] xs k hk
   exact⟨trivial,_,λG=>by simp only[go_sem,reduceIte,↓reduceIte,nB,nE,h,h3,Xi Ye xs k hk,ZS Ye [.s ⟨#[]⟩] xs k hk,ZL Ye [.s ⟨#[]⟩] xs k hk,Qc Ye [.s ⟨#[]⟩] xs k (Nat.le_of_lt hk),h1,Xh _ _ hk,Xd (show k<9223372036854775807 by omega),hb]<;>with_reducible rfl,by simp only[go_sem,reduceIte,↓reduceIte,nB,h]⟩) () trivial (xs.length+1) (Nat.le_refl _)).2
 rw[hb] at hr
 simp only[go_sem,reduceIte,↓reduceIte,nB,nE,nT,h,c1,c2,Int.toNat_natCast,ZK Ye [.s ⟨#[]⟩],hr]) (by simp only[go_sem,YE,XI])
def s37:SP Tryz.prog:=mkS tyA 37 Tryz.f37 [] {md:=[.ro 1],rg:=[(0,[1,2],[1,2,3]),(1,[1,2,3],[1,2,3]),(2,[1,2,3],[1,2,3]),(3,[1,2,3],[1,2,3]),(4,[2,3],[2,3]),(5,[2],[2,3])],rets:=some ([2],[2,3])} Tryz.func37 (by kernel_rfl)
@[go_sem] def d37:s37.g=37/\s37.fs=⟨[.ro 1],s37.F,false⟩:=⟨nr rfl,nr rfl⟩
@[go_sem] def e37(w25 w26 w27:Int)(h0:Xgr (Lanes.mk w25 w26 w27)):s37.F [.agg [.i .i64 w25,.i .i64 w26,.i .i64 w27]]=some (.agg (XeT .mut (Lanes.mk w25 w26 w27)),[.u]):=Xb (0) rfl rfl (λcx h=>by
 obtain⟨q0,q1,q2⟩:=h0
 simp only[go_sem,reduceIte,↓reduceIte,nA,nB,nE,nL,h]) (by simp only[go_sem,YE,XI,XM])
def s38:SP Tryz.prog:=mkS tyA 38 Tryz.f38 [] {md:=[.ro 1],rg:=[(0,[1,2],[1,2,3]),(1,[1,2,3],[1,2,3]),(2,[1,2,3],[1,2,3]),(3,[1,2,3],[1,2,3]),(4,[1,2,3],[1,2,3]),(5,[1,2,3],[1,2,3]),(6,[2,3],[2,3]),(7,[2],[2,3])],rets:=some ([2],[2,3])} Tryz.func38 (by kernel_rfl)
@[go_sem] def d38:s38.g=38/\s38.fs=⟨[.ro 1],s38.F,false⟩:=⟨nr rfl,nr rfl⟩
@[go_sem] def e38(w28 w29 w30 w31 w32:Int)(h0:Xgs (Rules.mk w28 w29 w30 w31 w32)):s38.F [.agg [.i .i64 w28,.i .i64 w29,.i .i64 w30,.i .i64 w31,.i .i64 w32]]=some (.agg (XeU .mut (Rules.mk w28 w29 w30 w31 w32)),[.u]):=Xb (0) rfl rfl (λcx h=>by
 obtain⟨q0,q1,q2,q3,q4⟩:=h0
 simp only[go_sem,reduceIte,↓reduceIte,nA,nB,nE,nL,h]) (by simp only[go_sem,YE,XI,XM])
def s10:SP Tryz.prog:=mkS tyA 10 Tryz.f10 [s36,s37,s38] {md:=[.ro 1],rg:=[(0,[1,2],[1,2,3]),(1,[1,2,3],[1,2,3]),(2,[1,2,3],[1,2,3]),(3,[1,2,3],[1,2,3]),(4,[1,2,3],[1,2,3]),(5,[1,2,3],[1,2,3]),(6,[1,2,3],[1,2,3]),(7,[1,2,3],[1,2,3]),(8,[1,2,3],[1,2,3]),(9,[1,2,3],[1,2,3]),(10,[1,2,3],[1,2,3]),(11,[1,2,3],[1,2,3]),(12,[2,3],[2,3]),(13,[2],[2,3])],rets:=some ([2],[2,3])} Tryz.func10 (by kernel_rfl)
@[go_sem] def d10:s10.g=10/\s10.fs=⟨[.ro 1],s10.F,false⟩:=⟨nr rfl,nr rfl⟩
@[go_sem] def e10(w33 w34 w35 w36 w37 w38 w39 w40:Int)(w42:List ByteArray)(w43 w44 w45 w46 w47 w48 w49 w50:Int)(h0:XcN (Config.mk w33 w34 w35 w36 w37 w38 w39 w40 w42 (Lanes.mk w43 w44 w45) (Rules.mk w46 w47 w48 w49 w50))):s10.F [.agg [.i .i64 w33,.i .i64 w34,.i .i64 w35,.i .i64 w36,.i .i64 w37,.i .i64 w38,.i .i64 w39,.i .i64 w40,.sl .ro 1 (w42.map Ye),.i .i64 w43,.i .i64 w44,.i .i64 w45,.i .i64 w46,.i .i64 w47,.i .i64 w48,.i .i64 w49,.i .i64 w50]]=some (.agg (XbI .mut (Config.mk w33 w34 w35 w36 w37 w38 w39 w40 w42 (Lanes.mk w43 w44 w45) (Rules.mk w46 w47 w48 w49 w50))),[.u]):=Xb (0) rfl rfl (λcx h=>by
 obtain⟨q0,q1,q2,q3,q4,q5,q6,q7,q8,q9,q10⟩:=h0
 simp only[go_sem,reduceIte,↓reduceIte,nA,nB,nE,nL,nT,h,q8,q9,q10]) (by simp only[go_sem,YE,XI,XM])
def Xsf:SP Tryz.prog:=mkS tyA 267 Tryz.f267 [] {md:=[.ro 1],rg:=[(0,[1,2],[1,2,3]),(1,[1,2,3],[1,2,3]),(2,[1,2,3],[1,2,3]),(3,[2,3],[2,3]),(4,[2],[2,3])],rets:=some ([2],[2,3])} Tryz.func267 (by kernel_rfl)
@[go_sem] def XJY:Xsf.g=267/\Xsf.fs=⟨[.ro 1],Xsf.F,false⟩:=⟨nr rfl,nr rfl⟩
@[go_sem] def XJZ(w41 w51:ByteArray)(h0:X6 (Xx.mk w41 w51)):Xsf.F [.agg [.s w41,.s w51]]=some (.agg (Xj .mut (Xx.mk w41 w51)),[.u]):=Xb (0) rfl rfl (λcx h=>by
 obtain⟨q0,q1⟩:=h0
 simp only[go_sem,reduceIte,↓reduceIte,nA,nB,nE,nL,h]) (by simp only[go_sem,YE,XI,XM])
def XqW:SP Tryz.prog:=mkS tyA 238 Tryz.f238 [Xsf] {md:=[.ro 1],rg:=[(0,[0],[]),(1,[0,3],[]),(2,[0,3,4],[]),(3,[0,3,4,11],[]),(4,[0,3,4],[]),(5,[0,3,4],[]),(6,[2],[])],lv:=[(0,[0,3,4],[])],out:=[(0,[3],[])],rets:=some ([2],[])} Tryz.func238 (by kernel_rfl)
@[go_sem] def XJ0:XqW.g=238/\XqW.fs=⟨[.ro 1],XqW.F,false⟩:=⟨nr rfl,nr rfl⟩
@[go_sem] def XJ1(xs:List Xx)(h0:smL X6 xs):XqW.F [.sl .ro 2 (xs.map (Xj .ro))]=some (.sl .mut 2 (xs.map (Xj .mut)),[.u]):=Xb (xs.length+1) rfl rfl (λcx h=>by
 have hb:=Xg Tryz.f238 0 _ _ rfl rfl
 have hx:=h0.1
 have c1:((xs.length:Int)*(32:Nat)<=140737488355328):=by omega
 have c2:0<=(xs.length:Int):=by omega
 have hr:=(X0 (cx:=cx) (blk:=0) (body:=XN Tryz.f238 0) xs (λk (_:Unit)=>⟨E [(0,.sl .ro 2 (xs.map (Xj .ro))),(3,.sl .mut 2 (YI (Xj .mut) [.s ⟨#[]⟩,.s ⟨#[]⟩] xs k)),(4,.i .i64 k)],B []⟩) (λ_=>⟨E [(3,.sl .mut 2 (xs.map (Xj .mut)))],B []⟩) (λ_ _=>()) (λ_ _=>True)
  (λl _ G=>by simp only[go_sem,reduceIte,↓reduceIte,nB,nE,h,Int.lt_irrefl,hb,Qb]) (λk hk l _=>by
   have h1:((k:Int)<(xs.length:Int)):=Int.ofNat_lt.2 hk
   have h2:=h0.2 _ (List.getElem_mem hk)
   have h3:(YI (Xj .mut) [.s ⟨#[]⟩,.s ⟨#[]⟩] xs k).set k [.s xs[k].Name,.s xs[k].Value]=YI (Xj .mut) [.s ⟨#[]⟩,.s ⟨#[]⟩] xs (k+1):=Qd (Xj .mut) [.s ⟨#[]⟩,.s ⟨#[]⟩] xs k hk
   exact⟨trivial,_,λG=>by simp only[go_sem,reduceIte,↓reduceIte,nA,nB,nE,h,h2,h3,Xi (Xj .ro) xs k hk,ZS (Xj .mut) [.s ⟨#[]⟩,.s ⟨#[]⟩] xs k hk,ZL (Xj .mut) [.s ⟨#[]⟩,.s ⟨#[]⟩] xs k hk,Qc (Xj .mut) [.s ⟨#[]⟩,.s ⟨#[]⟩] xs k (Nat.le_of_lt hk),h1,Xh _ _ hk,Xd (show k<9223372036854775807 by omega),hb]<;>with_reducible rfl,by simp only[go_sem,reduceIte,↓reduceIte,nB,h]⟩) () trivial (xs.length+1) (Nat.le_refl _)).2
 rw[hb] at hr
 simp only[go_sem,reduceIte,↓reduceIte,nA,nB,nE,nT,h,c1,c2,Int.toNat_natCast,ZK (Xj .mut) [.s ⟨#[]⟩,.s ⟨#[]⟩],hr]) (by simp only[go_sem,YE,XI])
def Xsg:SP Tryz.prog:=mkS tyA 239 Tryz.f239 [] {md:=[.ro 1],rg:=[(0,[0],[]),(1,[0,3],[]),(2,[0,3,4],[]),(3,[0,3,4,11],[]),(4,[0,3,4],[]),(5,[0,3,4],[]),(6,[2],[])],lv:=[(0,[0,3,4],[])],out:=[(0,[3],[])],rets:=some ([2],[])} Tryz.func239 (by kernel_rfl)
@[go_sem] def XJ2:Xsg.g=239/\Xsg.fs=⟨[.ro 1],Xsg.F,false⟩:=⟨nr rfl,nr rfl⟩
@[go_sem] def XJ3(xs:List UInt8)(h0:smL Xjm xs):Xsg.F [.sl .ro 1 (xs.map Yq)]=some (.sl .mut 1 (xs.map Yq),[.u]):=Xb (xs.length+1) rfl rfl (λcx h=>by
 have hb:=Xg Tryz.f239 0 _ _ rfl rfl
 have hx:=h0.1
 have c1:((xs.length:Int)*1<=140737488355328):=by omega
 have c2:0<=(xs.length:Int):=by omega
 have hr:=(X0 (cx:=cx) (blk:=0) (body:=XN Tryz.f239 0) xs (λk (_:Unit)=>⟨E [(0,.sl .ro 1 (xs.map Yq)),(3,.sl .mut 1 (YI Yq [.i .u8 0] xs k)),(4,.i .i64 k)],B []⟩) (λ_=>⟨E [(3,.sl .mut 1 (xs.map Yq))],B []⟩) (λ_ _=>()) (λ_ _=>True)
  (λl _ G=>by simp only[go_sem,reduceIte,↓reduceIte,nB,nE,h,Int.lt_irrefl,hb,Qb]) (λk hk l _=>by
   have h1:((k:Int)<(xs.length:Int)):=Int.ofNat_lt.2 hk
   have h2:=h0.2 _ (List.getElem_mem hk)
   have h3:(YI Yq [.i .u8 0] xs k).set k [.i .u8 xs[k].toNat]=YI Yq [.i .u8 0] xs (k+1):=Qd Yq [.i .u8 0] xs k hk
   exact⟨trivial,_,λG=>by simp only[go_sem,reduceIte,↓reduceIte,nB,nE,h,h3,Xi Yq xs k hk,ZS Yq [.i .u8 0] xs k hk,ZL Yq [.i .u8 0] xs k hk,Qc Yq [.i .u8 0] xs k (Nat.le_of_lt hk),h1,Xh _ _ hk,Xd (show k<9223372036854775807 by omega),hb]<;>with_reducible rfl,by simp only[go_sem,reduceIte,↓reduceIte,nB,h]⟩) () trivial (xs.length+1) (Nat.le_refl _)).2
 rw[hb] at hr
 simp only[go_sem,reduceIte,↓reduceIte,nB,nE,nT,h,c1,c2,Int.toNat_natCast,ZK Yq [.i .u8 0],hr]) (by simp only[go_sem,YE,XI])
def Xsh:SP Tryz.prog:=mkS tyA 240 Tryz.f240 [] {md:=[.ro 1],rg:=[(0,[1,2],[1,2,3]),(1,[1,2,3],[1,2,3]),(2,[1,2,3],[1,2,3]),(3,[1,2,3],[1,2,3]),(4,[1,2,3],[1,2,3]),(5,[1,2,3],[1,2,3]),(6,[1,2,3],[1,2,3]),(7,[1,2,3],[1,2,3]),(8,[2,3],[2,3]),(9,[2],[2,3])],rets:=some ([2],[2,3])} Tryz.func240 (by kernel_rfl)
@[go_sem] def XJ4:Xsh.g=240/\Xsh.fs=⟨[.ro 1],Xsh.F,false⟩:=⟨nr rfl,nr rfl⟩
@[go_sem] def XJ5(xAt w52 w53 w54 w55:Int)(w56 w57:Bool)(h0:Xjn (Meta.mk xAt w52 w53 w54 w55 w56 w57)):Xsh.F [.agg [.i .i64 xAt,.i .i64 w52,.i .i64 w53,.i .i64 w54,.i .i64 w55,.b w56,.b w57]]=some (.agg (XiK .mut (Meta.mk xAt w52 w53 w54 w55 w56 w57)),[.u]):=Xb (0) rfl rfl (λcx h=>by
 obtain⟨q0,q1,q2,q3,q4,q5,q6⟩:=h0
 simp only[go_sem,reduceIte,↓reduceIte,nA,nB,nE,nL,h]) (by simp only[go_sem,YE,XI,XM])
def Xsi:SP Tryz.prog:=mkS tyA 188 Tryz.f188 [s36,XqW,Xsg,Xsh] {md:=[.ro 1],rg:=[(0,[1,2],[1,2,3]),(1,[1,2,3],[1,2,3]),(2,[1,2,3],[1,2,3]),(3,[1,2,3],[1,2,3]),(4,[1,2,3],[1,2,3]),(5,[1,2,3],[1,2,3]),(6,[1,2,3],[1,2,3]),(7,[1,2,3],[1,2,3]),(8,[2,3],[2,3]),(9,[2],[2,3])],rets:=some ([2],[2,3])} Tryz.func188 (by kernel_rfl)
@[go_sem] def XJ6:Xsi.g=188/\Xsi.fs=⟨[.ro 1],Xsi.F,false⟩:=⟨nr rfl,nr rfl⟩
@[go_sem] def XJ7(w58:ByteArray)(w59:Int)(w61:List Xx)(w62:List UInt8)(w63 w64 w65 w66 w67:Int)(w68 w69:Bool)(w70:List ByteArray)(w71:Int)(h0:Zo (XK.mk w58 w59 w61 w62 (Meta.mk w63 w64 w65 w66 w67 w68 w69) w70 w71)):Xsi.F [.agg [.s w58,.i .i64 w59,.sl .ro 2 (w61.map (Xj .ro)),.sl .ro 1 (w62.map Yq),.i .i64 w63,.i .i64 w64,.i .i64 w65,.i .i64 w66,.i .i64 w67,.b w68,.b w69,.sl .ro 1 (w70.map Ye),.i .i64 w71]]=some (.agg (Xa .mut (XK.mk w58 w59 w61 w62 (Meta.mk w63 w64 w65 w66 w67 w68 w69) w70 w71)),[.u]):=Xb (0) rfl rfl (λcx h=>by
 obtain⟨q0,q1,q2,q3,q4,q5,q6⟩:=h0
 simp only[go_sem,reduceIte,↓reduceIte,nA,nB,nE,nL,nT,h,q2,q3,q4,q5]) (by simp only[go_sem,YE,XI,XM])
def Xsj:SP Tryz.prog:=mkS tyA 121 Tryz.f121 [Xsi] {md:=[.ro 1],rg:=[(0,[0],[]),(1,[0,3],[]),(2,[0,3,4],[]),(3,[0,3,4,11],[]),(4,[0,3,4],[]),(5,[0,3,4],[]),(6,[2],[])],lv:=[(0,[0,3,4],[])],out:=[(0,[3],[])],rets:=some ([2],[])} Tryz.func121 (by kernel_rfl)
@[go_sem] def XJ8:Xsj.g=121/\Xsj.fs=⟨[.ro 1],Xsj.F,false⟩:=⟨nr rfl,nr rfl⟩
@[go_sem] def XJ9(xs:List XK)(h0:smL Zo xs):Xsj.F [.sl .ro 13 (xs.map (Xa .ro))]=some (.sl .mut 13 (xs.map (Xa .mut)),[.u]):=Xb (xs.length+1) rfl rfl (λcx h=>by
 have hb:=Xg Tryz.f121 0 _ _ rfl rfl
 have hx:=h0.1
 have c1:((xs.length:Int)*(152:Nat)<=140737488355328):=by omega
 have c2:0<=(xs.length:Int):=by omega
 have hr:=(X0 (cx:=cx) (blk:=0) (body:=XN Tryz.f121 0) xs (λk (_:Unit)=>⟨E [(0,.sl .ro 13 (xs.map (Xa .ro))),(3,.sl .mut 13 (YI (Xa .mut) [.s ⟨#[]⟩,.i .i64 0,.sl .mut 2 [],.sl .mut 1 [],.i .i64 0,.i .i64 0,.i .i64 0,.i .i64 0,.i .i64 0,.b false,.b false,.sl .mut 1 [],.i .i64 0] xs k)),(4,.i .i64 k)],B []⟩) (λ_=>⟨E [(3,.sl .mut 13 (xs.map (Xa .mut)))],B []⟩) (λ_ _=>()) (λ_ _=>True)
  (λl _ G=>by simp only[go_sem,reduceIte,↓reduceIte,nB,nE,h,Int.lt_irrefl,hb,Qb]) (λk hk l _=>by
   have h1:((k:Int)<(xs.length:Int)):=Int.ofNat_lt.2 hk
   have h2:=h0.2 _ (List.getElem_mem hk)
   have h3:(YI (Xa .mut) [.s ⟨#[]⟩,.i .i64 0,.sl .mut 2 [],.sl .mut 1 [],.i .i64 0,.i .i64 0,.i .i64 0,.i .i64 0,.i .i64 0,.b false,.b false,.sl .mut 1 [],.i .i64 0] xs k).set k [.s xs[k].Key,.i .i64 xs[k].Status,.sl .mut 2 (xs[k].Headers.map (Xj .mut)),.sl .mut 1 (xs[k].Body.map Yq),.i .i64 xs[k].Meta.At,.i .i64 xs[k].Meta.Age,.i .i64 xs[k].Meta.Life,.i .i64 xs[k].Meta.Swr,.i .i64 xs[k].Meta.Sie,.b xs[k].Meta.Soft,.b xs[k].Meta.NoCache,.sl .mut 1 (xs[k].Tags.map Ye),.i .i64 xs[k].Pins]=YI (Xa .mut) [.s ⟨#[]⟩,.i .i64 0,.sl .mut 2 [],.sl .mut 1 [],.i .i64 0,.i .i64 0,.i .i64 0,.i .i64 0,.i .i64 0,.b false,.b false,.sl .mut 1 [],.i .i64 0] xs (k+1):=Qd (Xa .mut) [.s ⟨#[]⟩,.i .i64 0,.sl .mut 2 [],.sl .mut 1 [],.i .i64 0,.i .i64 0,.i .i64 0,.i .i64 0,.i .i64 0,.b false,.b false,.sl .mut 1 [],.i .i64 0] xs k hk
   exact⟨trivial,_,λG=>by simp only[go_sem,reduceIte,↓reduceIte,nA,nB,nE,nT,h,h2,h3,Xi (Xa .ro) xs k hk,ZS (Xa .mut) [.s ⟨#[]⟩,.i .i64 0,.sl .mut 2 [],.sl .mut 1 [],.i .i64 0,.i .i64 0,.i .i64 0,.i .i64 0,.i .i64 0,.b false,.b false,.sl .mut 1 [],.i .i64 0] xs k hk,ZL (Xa .mut) [.s ⟨#[]⟩,.i .i64 0,.sl .mut 2 [],.sl .mut 1 [],.i .i64 0,.i .i64 0,.i .i64 0,.i .i64 0,.i .i64 0,.b false,.b false,.sl .mut 1 [],.i .i64 0] xs k hk,Qc (Xa .mut) [.s ⟨#[]⟩,.i .i64 0,.sl .mut 2 [],.sl .mut 1 [],.i .i64 0,.i .i64 0,.i .i64 0,.i .i64 0,.i .i64 0,.b false,.b false,.sl .mut 1 [],.i .i64 0] xs k (Nat.le_of_lt hk),h1,Xh _ _ hk,Xd (show k<9223372036854775807 by omega),hb]<;>with_reducible rfl,by simp only[go_sem,reduceIte,↓reduceIte,nB,h]⟩) () trivial (xs.length+1) (Nat.le_refl _)).2
 rw[hb] at hr
 simp only[go_sem,reduceIte,↓reduceIte,nA,nB,nE,nT,h,c1,c2,Int.toNat_natCast,ZK (Xa .mut) [.s ⟨#[]⟩,.i .i64 0,.sl .mut 2 [],.sl .mut 1 [],.i .i64 0,.i .i64 0,.i .i64 0,.i .i64 0,.i .i64 0,.b false,.b false,.sl .mut 1 [],.i .i64 0],hr]) (by simp only[go_sem,YE,XI])
def s54:SP Tryz.prog:=mkS tyA 54 Tryz.f54 [Xsj] {md:=[.ro 1],rg:=[(0,[1,2],[1,2,3]),(1,[1,2,3],[1,2,3]),(2,[1,2,3],[1,2,3]),(3,[1,2,3],[1,2,3]),(4,[1,2,3],[1,2,3]),(5,[2,3],[2,3]),(6,[2],[2,3])],rets:=some ([2],[2,3])} Tryz.func54 (by kernel_rfl)
@[go_sem] def d54:s54.g=54/\s54.fs=⟨[.ro 1],s54.F,false⟩:=⟨nr rfl,nr rfl⟩
@[go_sem] def e54(w33 w34:Int)(w72 w73:List XK)(h0:Xck (Store.mk w33 w34 w72 w73)):s54.F [.agg [.i .i64 w33,.i .i64 w34,.sl .ro 13 (w72.map (Xa .ro)),.sl .ro 13 (w73.map (Xa .ro))]]=some (.agg (XdI .mut (Store.mk w33 w34 w72 w73)),[.u]):=Xb (0) rfl rfl (λcx h=>by
 obtain⟨q0,q1,q2,q3⟩:=h0
 simp only[go_sem,reduceIte,↓reduceIte,nA,nB,nE,nL,nT,h,q2,q3]) (by simp only[go_sem,YE,XI,XM])
def Xsk:SP Tryz.prog:=mkS tyA 268 Tryz.f268 [] {md:=[.ro 1],rg:=[(0,[1,2],[1,2,3]),(1,[1,2,3],[1,2,3]),(2,[1,2,3],[1,2,3]),(3,[2,3],[2,3]),(4,[2],[2,3])],rets:=some ([2],[2,3])} Tryz.func268 (by kernel_rfl)
@[go_sem] def XKa:Xsk.g=268/\Xsk.fs=⟨[.ro 1],Xsk.F,false⟩:=⟨nr rfl,nr rfl⟩
@[go_sem] def XKb(xId w74:Int)(h0:Xab (ZM.mk xId w74)):Xsk.F [.agg [.i .i64 xId,.i .i64 w74]]=some (.agg (XF .mut (ZM.mk xId w74)),[.u]):=Xb (0) rfl rfl (λcx h=>by
 obtain⟨q0,q1⟩:=h0
 simp only[go_sem,reduceIte,↓reduceIte,nA,nB,nE,nL,h]) (by simp only[go_sem,YE,XI,XM])
def Xsl:SP Tryz.prog:=mkS tyA 241 Tryz.f241 [Xsk] {md:=[.ro 1],rg:=[(0,[0],[]),(1,[0,3],[]),(2,[0,3,4],[]),(3,[0,3,4,11],[]),(4,[0,3,4],[]),(5,[0,3,4],[]),(6,[2],[])],lv:=[(0,[0,3,4],[])],out:=[(0,[3],[])],rets:=some ([2],[])} Tryz.func241 (by kernel_rfl)
@[go_sem] def XKc:Xsl.g=241/\Xsl.fs=⟨[.ro 1],Xsl.F,false⟩:=⟨nr rfl,nr rfl⟩
@[go_sem] def XKd(xs:List ZM)(h0:smL Xab xs):Xsl.F [.sl .ro 2 (xs.map (XF .ro))]=some (.sl .mut 2 (xs.map (XF .mut)),[.u]):=Xb (xs.length+1) rfl rfl (λcx h=>by
 have hb:=Xg Tryz.f241 0 _ _ rfl rfl
 have hx:=h0.1
 have c1:((xs.length:Int)*(16:Nat)<=140737488355328):=by omega
 have c2:0<=(xs.length:Int):=by omega
 have hr:=(X0 (cx:=cx) (blk:=0) (body:=XN Tryz.f241 0) xs (λk (_:Unit)=>⟨E [(0,.sl .ro 2 (xs.map (XF .ro))),(3,.sl .mut 2 (YI (XF .mut) [.i .i64 0,.i .i64 0] xs k)),(4,.i .i64 k)],B []⟩) (λ_=>⟨E [(3,.sl .mut 2 (xs.map (XF .mut)))],B []⟩) (λ_ _=>()) (λ_ _=>True)
  (λl _ G=>by simp only[go_sem,reduceIte,↓reduceIte,nB,nE,h,Int.lt_irrefl,hb,Qb]) (λk hk l _=>by
   have h1:((k:Int)<(xs.length:Int)):=Int.ofNat_lt.2 hk
   have h2:=h0.2 _ (List.getElem_mem hk)
   have h3:(YI (XF .mut) [.i .i64 0,.i .i64 0] xs k).set k [.i .i64 xs[k].Id,.i .i64 xs[k].Due]=YI (XF .mut) [.i .i64 0,.i .i64 0] xs (k+1):=Qd (XF .mut) [.i .i64 0,.i .i64 0] xs k hk
   exact⟨trivial,_,λG=>by simp only[go_sem,reduceIte,↓reduceIte,nA,nB,nE,h,h2,h3,Xi (XF .ro) xs k hk,ZS (XF .mut) [.i .i64 0,.i .i64 0] xs k hk,ZL (XF .mut) [.i .i64 0,.i .i64 0] xs k hk,Qc (XF .mut) [.i .i64 0,.i .i64 0] xs k (Nat.le_of_lt hk),h1,Xh _ _ hk,Xd (show k<9223372036854775807 by omega),hb]<;>with_reducible rfl,by simp only[go_sem,reduceIte,↓reduceIte,nB,h]⟩) () trivial (xs.length+1) (Nat.le_refl _)).2
 rw[hb] at hr
 simp only[go_sem,reduceIte,↓reduceIte,nA,nB,nE,nT,h,c1,c2,Int.toNat_natCast,ZK (XF .mut) [.i .i64 0,.i .i64 0],hr]) (by simp only[go_sem,YE,XI])
def Xsm:SP Tryz.prog:=mkS tyA 189 Tryz.f189 [Xsl] {md:=[.ro 1],rg:=[(0,[1,2],[1,2,3]),(1,[1,2,3],[1,2,3]),(2,[1,2,3],[1,2,3]),(3,[2,3],[2,3]),(4,[2],[2,3])],rets:=some ([2],[2,3])} Tryz.func189 (by kernel_rfl)
@[go_sem] def XKe:Xsm.g=189/\Xsm.fs=⟨[.ro 1],Xsm.F,false⟩:=⟨nr rfl,nr rfl⟩
@[go_sem] def XKf(w75:Int)(w76:List ZM)(h0:XhJ (Bulk.mk w75 w76)):Xsm.F [.agg [.i .i64 w75,.sl .ro 2 (w76.map (XF .ro))]]=some (.agg (XeW .mut (Bulk.mk w75 w76)),[.u]):=Xb (0) rfl rfl (λcx h=>by
 obtain⟨q0,q1⟩:=h0
 simp only[go_sem,reduceIte,↓reduceIte,nA,nB,nE,nL,nT,h,q1]) (by simp only[go_sem,YE,XI,XM])
def Xsn:SP Tryz.prog:=mkS tyA 269 Tryz.f269 [] {md:=[.ro 1],rg:=[(0,[1,2],[1,2,3]),(1,[1,2,3],[1,2,3]),(2,[1,2,3],[1,2,3]),(3,[2,3],[2,3]),(4,[2],[2,3])],rets:=some ([2],[2,3])} Tryz.func269 (by kernel_rfl)
@[go_sem] def XKg:Xsn.g=269/\Xsn.fs=⟨[.ro 1],Xsn.F,false⟩:=⟨nr rfl,nr rfl⟩
@[go_sem] def XKh(xAt:Int)(w77:Bool)(h0:Xan (Z2.mk xAt w77)):Xsn.F [.agg [.i .i64 xAt,.b w77]]=some (.agg (XL .mut (Z2.mk xAt w77)),[.u]):=Xb (0) rfl rfl (λcx h=>by
 obtain⟨q0,q1⟩:=h0
 simp only[go_sem,reduceIte,↓reduceIte,nA,nB,nE,nL,h]) (by simp only[go_sem,YE,XI,XM])
def Xso:SP Tryz.prog:=mkS tyA 242 Tryz.f242 [Xsn] {md:=[.ro 1],rg:=[(0,[0],[]),(1,[0,3],[]),(2,[0,3,4],[]),(3,[0,3,4,11],[]),(4,[0,3,4],[]),(5,[0,3,4],[]),(6,[2],[])],lv:=[(0,[0,3,4],[])],out:=[(0,[3],[])],rets:=some ([2],[])} Tryz.func242 (by kernel_rfl)
@[go_sem] def XKi:Xso.g=242/\Xso.fs=⟨[.ro 1],Xso.F,false⟩:=⟨nr rfl,nr rfl⟩
@[go_sem] def XKj(xs:List Z2)(h0:smL Xan xs):Xso.F [.sl .ro 2 (xs.map (XL .ro))]=some (.sl .mut 2 (xs.map (XL .mut)),[.u]):=Xb (xs.length+1) rfl rfl (λcx h=>by
 have hb:=Xg Tryz.f242 0 _ _ rfl rfl
 have hx:=h0.1
 have c1:((xs.length:Int)*(16:Nat)<=140737488355328):=by omega
 have c2:0<=(xs.length:Int):=by omega
 have hr:=(X0 (cx:=cx) (blk:=0) (body:=XN Tryz.f242 0) xs (λk (_:Unit)=>⟨E [(0,.sl .ro 2 (xs.map (XL .ro))),(3,.sl .mut 2 (YI (XL .mut) [.i .i64 0,.b false] xs k)),(4,.i .i64 k)],B []⟩) (λ_=>⟨E [(3,.sl .mut 2 (xs.map (XL .mut)))],B []⟩) (λ_ _=>()) (λ_ _=>True)
  (λl _ G=>by simp only[go_sem,reduceIte,↓reduceIte,nB,nE,h,Int.lt_irrefl,hb,Qb]) (λk hk l _=>by
   have h1:((k:Int)<(xs.length:Int)):=Int.ofNat_lt.2 hk
   have h2:=h0.2 _ (List.getElem_mem hk)
   have h3:(YI (XL .mut) [.i .i64 0,.b false] xs k).set k [.i .i64 xs[k].At,.b xs[k].Good]=YI (XL .mut) [.i .i64 0,.b false] xs (k+1):=Qd (XL .mut) [.i .i64 0,.b false] xs k hk
   exact⟨trivial,_,λG=>by simp only[go_sem,reduceIte,↓reduceIte,nA,nB,nE,h,h2,h3,Xi (XL .ro) xs k hk,ZS (XL .mut) [.i .i64 0,.b false] xs k hk,ZL (XL .mut) [.i .i64 0,.b false] xs k hk,Qc (XL .mut) [.i .i64 0,.b false] xs k (Nat.le_of_lt hk),h1,Xh _ _ hk,Xd (show k<9223372036854775807 by omega),hb]<;>with_reducible rfl,by simp only[go_sem,reduceIte,↓reduceIte,nB,h]⟩) () trivial (xs.length+1) (Nat.le_refl _)).2
 rw[hb] at hr
 simp only[go_sem,reduceIte,↓reduceIte,nA,nB,nE,nT,h,c1,c2,Int.toNat_natCast,ZK (XL .mut) [.i .i64 0,.b false],hr]) (by simp only[go_sem,YE,XI])
def Xsp:SP Tryz.prog:=mkS tyA 190 Tryz.f190 [Xso] {md:=[.ro 1],rg:=[(0,[1,2],[1,2,3]),(1,[1,2,3],[1,2,3]),(2,[1,2,3],[1,2,3]),(3,[1,2,3],[1,2,3]),(4,[1,2,3],[1,2,3]),(5,[2,3],[2,3]),(6,[2],[2,3])],rets:=some ([2],[2,3])} Tryz.func190 (by kernel_rfl)
@[go_sem] def XKk:Xsp.g=190/\Xsp.fs=⟨[.ro 1],Xsp.F,false⟩:=⟨nr rfl,nr rfl⟩
@[go_sem] def XKl(w78 w79 w80:Int)(w81:List Z2)(h0:XbL (Breaker.mk w78 w79 w80 w81)):Xsp.F [.agg [.i .i64 w78,.i .i64 w79,.i .i64 w80,.sl .ro 2 (w81.map (XL .ro))]]=some (.agg (Uc .mut (Breaker.mk w78 w79 w80 w81)),[.u]):=Xb (0) rfl rfl (λcx h=>by
 obtain⟨q0,q1,q2,q3⟩:=h0
 simp only[go_sem,reduceIte,↓reduceIte,nA,nB,nE,nL,nT,h,q3]) (by simp only[go_sem,YE,XI,XM])
def Xsq:SP Tryz.prog:=mkS tyA 122 Tryz.f122 [Xsm,Xsp] {md:=[.ro 1],rg:=[(0,[1,2],[1,2,3]),(1,[1,2,3],[1,2,3]),(2,[1,2,3],[1,2,3]),(3,[1,2,3],[1,2,3]),(4,[2,3],[2,3]),(5,[2],[2,3])],rets:=some ([2],[2,3])} Tryz.func122 (by kernel_rfl)
@[go_sem] def XKm:Xsq.g=122/\Xsq.fs=⟨[.ro 1],Xsq.F,false⟩:=⟨nr rfl,nr rfl⟩
@[go_sem] def XKn(w82:ByteArray)(w83:Int)(w84:List ZM)(w85 w86 w87:Int)(w88:List Z2)(h0:Ud (Origin.mk w82 (Bulk.mk w83 w84) (Breaker.mk w85 w86 w87 w88))):Xsq.F [.agg [.s w82,.i .i64 w83,.sl .ro 2 (w84.map (XF .ro)),.i .i64 w85,.i .i64 w86,.i .i64 w87,.sl .ro 2 (w88.map (XL .ro))]]=some (.agg (Xe .mut (Origin.mk w82 (Bulk.mk w83 w84) (Breaker.mk w85 w86 w87 w88))),[.u]):=Xb (0) rfl rfl (λcx h=>by
 obtain⟨q0,q1,q2⟩:=h0
 simp only[go_sem,reduceIte,↓reduceIte,nA,nB,nE,nL,nT,h,q1,q2]) (by simp only[go_sem,YE,XI,XM])
def s55:SP Tryz.prog:=mkS tyA 55 Tryz.f55 [Xsq] {md:=[.ro 1],rg:=[(0,[0],[]),(1,[0,3],[]),(2,[0,3,4],[]),(3,[0,3,4,11],[]),(4,[0,3,4],[]),(5,[0,3,4],[]),(6,[2],[])],lv:=[(0,[0,3,4],[])],out:=[(0,[3],[])],rets:=some ([2],[])} Tryz.func55 (by kernel_rfl)
@[go_sem] def d55:s55.g=55/\s55.fs=⟨[.ro 1],s55.F,false⟩:=⟨nr rfl,nr rfl⟩
@[go_sem] def e55(xs:List Origin)(h0:smL Ud xs):s55.F [.sl .ro 7 (xs.map (Xe .ro))]=some (.sl .mut 7 (xs.map (Xe .mut)),[.u]):=Xb (xs.length+1) rfl rfl (λcx h=>by
 have hb:=Xg Tryz.f55 0 _ _ rfl rfl
 have hx:=h0.1
 have c1:((xs.length:Int)*(96:Nat)<=140737488355328):=by omega
 have c2:0<=(xs.length:Int):=by omega
 have hr:=(X0 (cx:=cx) (blk:=0) (body:=XN Tryz.f55 0) xs (λk (_:Unit)=>⟨E [(0,.sl .ro 7 (xs.map (Xe .ro))),(3,.sl .mut 7 (YI (Xe .mut) [.s ⟨#[]⟩,.i .i64 0,.sl .mut 2 [],.i .i64 0,.i .i64 0,.i .i64 0,.sl .mut 2 []] xs k)),(4,.i .i64 k)],B []⟩) (λ_=>⟨E [(3,.sl .mut 7 (xs.map (Xe .mut)))],B []⟩) (λ_ _=>()) (λ_ _=>True)
  (λl _ G=>by simp only[go_sem,reduceIte,↓reduceIte,nB,nE,h,Int.lt_irrefl,hb,Qb]) (λk hk l _=>by
   have h1:((k:Int)<(xs.length:Int)):=Int.ofNat_lt.2 hk
   have h2:=h0.2 _ (List.getElem_mem hk)
   have h3:(YI (Xe .mut) [.s ⟨#[]⟩,.i .i64 0,.sl .mut 2 [],.i .i64 0,.i .i64 0,.i .i64 0,.sl .mut 2 []] xs k).set k [.s xs[k].Host,.i .i64 xs[k].Bulk.Busy,.sl .mut 2 (xs[k].Bulk.Queue.map (XF .mut)),.i .i64 xs[k].Breaker.State,.i .i64 xs[k].Breaker.Since,.i .i64 xs[k].Breaker.Out,.sl .mut 2 (xs[k].Breaker.Marks.map (XL .mut))]=YI (Xe .mut) [.s ⟨#[]⟩,.i .i64 0,.sl .mut 2 [],.i .i64 0,.i .i64 0,.i .i64 0,.sl .mut 2 []] xs (k+1):=Qd (Xe .mut) [.s ⟨#[]⟩,.i .i64 0,.sl .mut 2 [],.i .i64 0,.i .i64 0,.i .i64 0,.sl .mut 2 []] xs k hk
   exact⟨trivial,_,λG=>by simp only[go_sem,reduceIte,↓reduceIte,nA,nB,nE,nT,h,h2,h3,Xi (Xe .ro) xs k hk,ZS (Xe .mut) [.s ⟨#[]⟩,.i .i64 0,.sl .mut 2 [],.i .i64 0,.i .i64 0,.i .i64 0,.sl .mut 2 []] xs k hk,ZL (Xe .mut) [.s ⟨#[]⟩,.i .i64 0,.sl .mut 2 [],.i .i64 0,.i .i64 0,.i .i64 0,.sl .mut 2 []] xs k hk,Qc (Xe .mut) [.s ⟨#[]⟩,.i .i64 0,.sl .mut 2 [],.i .i64 0,.i .i64 0,.i .i64 0,.sl .mut 2 []] xs k (Nat.le_of_lt hk),h1,Xh _ _ hk,Xd (show k<9223372036854775807 by omega),hb]<;>with_reducible rfl,by simp only[go_sem,reduceIte,↓reduceIte,nB,h]⟩) () trivial (xs.length+1) (Nat.le_refl _)).2
 rw[hb] at hr
 simp only[go_sem,reduceIte,↓reduceIte,nA,nB,nE,nT,h,c1,c2,Int.toNat_natCast,ZK (Xe .mut) [.s ⟨#[]⟩,.i .i64 0,.sl .mut 2 [],.i .i64 0,.i .i64 0,.i .i64 0,.sl .mut 2 []],hr]) (by simp only[go_sem,YE,XI])
def Xsr:SP Tryz.prog:=mkS tyA 191 Tryz.f191 [XqW] {md:=[.ro 1],rg:=[(0,[1,2],[1,2,3]),(1,[1,2,3],[1,2,3]),(2,[1,2,3],[1,2,3]),(3,[1,2,3],[1,2,3]),(4,[1,2,3],[1,2,3]),(5,[2,3],[2,3]),(6,[2],[2,3])],rets:=some ([2],[2,3])} Tryz.func191 (by kernel_rfl)
@[go_sem] def XKo:Xsr.g=191/\Xsr.fs=⟨[.ro 1],Xsr.F,false⟩:=⟨nr rfl,nr rfl⟩
@[go_sem] def XKp(w89 w82 w90:ByteArray)(w61:List Xx)(h0:XcR (XQ.mk w89 w82 w90 w61)):Xsr.F [.agg [.s w89,.s w82,.s w90,.sl .ro 2 (w61.map (Xj .ro))]]=some (.agg (Xbh .mut (XQ.mk w89 w82 w90 w61)),[.u]):=Xb (0) rfl rfl (λcx h=>by
 obtain⟨q0,q1,q2,q3⟩:=h0
 simp only[go_sem,reduceIte,↓reduceIte,nA,nB,nE,nL,nT,h,q3]) (by simp only[go_sem,YE,XI,XM])
def Xss:SP Tryz.prog:=mkS tyA 243 Tryz.f243 [] {md:=[.ro 1],rg:=[(0,[1,2],[1,2,3]),(1,[1,2,3],[1,2,3]),(2,[1,2,3],[1,2,3]),(3,[1,2,3],[1,2,3]),(4,[1,2,3],[1,2,3]),(5,[2,3],[2,3]),(6,[2],[2,3])],rets:=some ([2],[2,3])} Tryz.func243 (by kernel_rfl)
@[go_sem] def XKq:Xss.g=243/\Xss.fs=⟨[.ro 1],Xss.F,false⟩:=⟨nr rfl,nr rfl⟩
@[go_sem] def XKr(w91:Int)(w60:Bool)(w74:Int)(w92:Bool)(h0:Xbi (X2.mk w91 w60 w74 w92)):Xss.F [.agg [.i .i64 w91,.b w60,.i .i64 w74,.b w92]]=some (.agg (Xk .mut (X2.mk w91 w60 w74 w92)),[.u]):=Xb (0) rfl rfl (λcx h=>by
 obtain⟨q0,q1,q2,q3⟩:=h0
 simp only[go_sem,reduceIte,↓reduceIte,nA,nB,nE,nL,h]) (by simp only[go_sem,YE,XI,XM])
def Xst:SP Tryz.prog:=mkS tyA 192 Tryz.f192 [Xss] {md:=[.ro 1],rg:=[(0,[0],[]),(1,[0,3],[]),(2,[0,3,4],[]),(3,[0,3,4,11],[]),(4,[0,3,4],[]),(5,[0,3,4],[]),(6,[2],[])],lv:=[(0,[0,3,4],[])],out:=[(0,[3],[])],rets:=some ([2],[])} Tryz.func192 (by kernel_rfl)
@[go_sem] def XKs:Xst.g=192/\Xst.fs=⟨[.ro 1],Xst.F,false⟩:=⟨nr rfl,nr rfl⟩
@[go_sem] def XKt(xs:List X2)(h0:smL Xbi xs):Xst.F [.sl .ro 4 (xs.map (Xk .ro))]=some (.sl .mut 4 (xs.map (Xk .mut)),[.u]):=Xb (xs.length+1) rfl rfl (λcx h=>by
 have hb:=Xg Tryz.f192 0 _ _ rfl rfl
 have hx:=h0.1
 have c1:((xs.length:Int)*(32:Nat)<=140737488355328):=by omega
 have c2:0<=(xs.length:Int):=by omega
 have hr:=(X0 (cx:=cx) (blk:=0) (body:=XN Tryz.f192 0) xs (λk (_:Unit)=>⟨E [(0,.sl .ro 4 (xs.map (Xk .ro))),(3,.sl .mut 4 (YI (Xk .mut) [.i .i64 0,.b false,.i .i64 0,.b false] xs k)),(4,.i .i64 k)],B []⟩) (λ_=>⟨E [(3,.sl .mut 4 (xs.map (Xk .mut)))],B []⟩) (λ_ _=>()) (λ_ _=>True)
  (λl _ G=>by simp only[go_sem,reduceIte,↓reduceIte,nB,nE,h,Int.lt_irrefl,hb,Qb]) (λk hk l _=>by
   have h1:((k:Int)<(xs.length:Int)):=Int.ofNat_lt.2 hk
   have h2:=h0.2 _ (List.getElem_mem hk)
   have h3:(YI (Xk .mut) [.i .i64 0,.b false,.i .i64 0,.b false] xs k).set k [.i .i64 xs[k].Req,.b xs[k].Head,.i .i64 xs[k].Due,.b xs[k].Late]=YI (Xk .mut) [.i .i64 0,.b false,.i .i64 0,.b false] xs (k+1):=Qd (Xk .mut) [.i .i64 0,.b false,.i .i64 0,.b false] xs k hk
   exact⟨trivial,_,λG=>by simp only[go_sem,reduceIte,↓reduceIte,nA,nB,nE,h,h2,h3,Xi (Xk .ro) xs k hk,ZS (Xk .mut) [.i .i64 0,.b false,.i .i64 0,.b false] xs k hk,ZL (Xk .mut) [.i .i64 0,.b false,.i .i64 0,.b false] xs k hk,Qc (Xk .mut) [.i .i64 0,.b false,.i .i64 0,.b false] xs k (Nat.le_of_lt hk),h1,Xh _ _ hk,Xd (show k<9223372036854775807 by omega),hb]<;>with_reducible rfl,by simp only[go_sem,reduceIte,↓reduceIte,nB,h]⟩) () trivial (xs.length+1) (Nat.le_refl _)).2
 rw[hb] at hr
 simp only[go_sem,reduceIte,↓reduceIte,nA,nB,nE,nT,h,c1,c2,Int.toNat_natCast,ZK (Xk .mut) [.i .i64 0,.b false,.i .i64 0,.b false],hr]) (by simp only[go_sem,YE,XI])
def Xsu:SP Tryz.prog:=mkS tyA 123 Tryz.f123 [Xsr,Xst] {md:=[.ro 1],rg:=[(0,[1,2],[1,2,3]),(1,[1,2,3],[1,2,3]),(2,[1,2,3],[1,2,3]),(3,[1,2,3],[1,2,3]),(4,[1,2,3],[1,2,3]),(5,[1,2,3],[1,2,3]),(6,[1,2,3],[1,2,3]),(7,[1,2,3],[1,2,3]),(8,[1,2,3],[1,2,3]),(9,[2,3],[2,3]),(10,[2],[2,3])],rets:=some ([2],[2,3])} Tryz.func123 (by kernel_rfl)
@[go_sem] def XKu:Xsu.g=123/\Xsu.fs=⟨[.ro 1],Xsu.F,false⟩:=⟨nr rfl,nr rfl⟩
@[go_sem] def XKv(xId:Int)(w58:ByteArray)(w93 w80:Bool)(w74:Int)(w94:Bool)(w95 w96 w97:ByteArray)(w98:List Xx)(w99:List X2)(h0:QX (Xl.mk xId w58 w93 w80 w74 w94 (XQ.mk w95 w96 w97 w98) w99)):Xsu.F [.agg [.i .i64 xId,.s w58,.b w93,.b w80,.i .i64 w74,.b w94,.s w95,.s w96,.s w97,.sl .ro 2 (w98.map (Xj .ro)),.sl .ro 4 (w99.map (Xk .ro))]]=some (.agg (Xc .mut (Xl.mk xId w58 w93 w80 w74 w94 (XQ.mk w95 w96 w97 w98) w99)),[.u]):=Xb (0) rfl rfl (λcx h=>by
 obtain⟨q0,q1,q2,q3,q4,q5,q6,q7⟩:=h0
 simp only[go_sem,reduceIte,↓reduceIte,nA,nB,nE,nL,nT,h,q6,q7]) (by simp only[go_sem,YE,XI,XM])
def s56:SP Tryz.prog:=mkS tyA 56 Tryz.f56 [Xsu] {md:=[.ro 1],rg:=[(0,[0],[]),(1,[0,3],[]),(2,[0,3,4],[]),(3,[0,3,4,11],[]),(4,[0,3,4],[]),(5,[0,3,4],[]),(6,[2],[])],lv:=[(0,[0,3,4],[])],out:=[(0,[3],[])],rets:=some ([2],[])} Tryz.func56 (by kernel_rfl)
@[go_sem] def d56:s56.g=56/\s56.fs=⟨[.ro 1],s56.F,false⟩:=⟨nr rfl,nr rfl⟩
@[go_sem] def e56(xs:List Xl)(h0:smL QX xs):s56.F [.sl .ro 11 (xs.map (Xc .ro))]=some (.sl .mut 11 (xs.map (Xc .mut)),[.u]):=Xb (xs.length+1) rfl rfl (λcx h=>by
 have hb:=Xg Tryz.f56 0 _ _ rfl rfl
 have hx:=h0.1
 have c1:((xs.length:Int)*(144:Nat)<=140737488355328):=by omega
 have c2:0<=(xs.length:Int):=by omega
 have hr:=(X0 (cx:=cx) (blk:=0) (body:=XN Tryz.f56 0) xs (λk (_:Unit)=>⟨E [(0,.sl .ro 11 (xs.map (Xc .ro))),(3,.sl .mut 11 (YI (Xc .mut) [.i .i64 0,.s ⟨#[]⟩,.b false,.b false,.i .i64 0,.b false,.s ⟨#[]⟩,.s ⟨#[]⟩,.s ⟨#[]⟩,.sl .mut 2 [],.sl .mut 4 []] xs k)),(4,.i .i64 k)],B []⟩) (λ_=>⟨E [(3,.sl .mut 11 (xs.map (Xc .mut)))],B []⟩) (λ_ _=>()) (λ_ _=>True)
  (λl _ G=>by simp only[go_sem,reduceIte,↓reduceIte,nB,nE,h,Int.lt_irrefl,hb,Qb]) (λk hk l _=>by
   have h1:((k:Int)<(xs.length:Int)):=Int.ofNat_lt.2 hk
   have h2:=h0.2 _ (List.getElem_mem hk)
   have h3:(YI (Xc .mut) [.i .i64 0,.s ⟨#[]⟩,.b false,.b false,.i .i64 0,.b false,.s ⟨#[]⟩,.s ⟨#[]⟩,.s ⟨#[]⟩,.sl .mut 2 [],.sl .mut 4 []] xs k).set k [.i .i64 xs[k].Id,.s xs[k].Key,.b xs[k].Back,.b xs[k].Out,.i .i64 xs[k].Due,.b xs[k].Doomed,.s xs[k].Get.Method,.s xs[k].Get.Host,.s xs[k].Get.Path,.sl .mut 2 (xs[k].Get.Headers.map (Xj .mut)),.sl .mut 4 (xs[k].Waiters.map (Xk .mut))]=YI (Xc .mut) [.i .i64 0,.s ⟨#[]⟩,.b false,.b false,.i .i64 0,.b false,.s ⟨#[]⟩,.s ⟨#[]⟩,.s ⟨#[]⟩,.sl .mut 2 [],.sl .mut 4 []] xs (k+1):=Qd (Xc .mut) [.i .i64 0,.s ⟨#[]⟩,.b false,.b false,.i .i64 0,.b false,.s ⟨#[]⟩,.s ⟨#[]⟩,.s ⟨#[]⟩,.sl .mut 2 [],.sl .mut 4 []] xs k hk
   exact⟨trivial,_,λG=>by simp only[go_sem,reduceIte,↓reduceIte,nA,nB,nE,nT,h,h2,h3,Xi (Xc .ro) xs k hk,ZS (Xc .mut) [.i .i64 0,.s ⟨#[]⟩,.b false,.b false,.i .i64 0,.b false,.s ⟨#[]⟩,.s ⟨#[]⟩,.s ⟨#[]⟩,.sl .mut 2 [],.sl .mut 4 []] xs k hk,ZL (Xc .mut) [.i .i64 0,.s ⟨#[]⟩,.b false,.b false,.i .i64 0,.b false,.s ⟨#[]⟩,.s ⟨#[]⟩,.s ⟨#[]⟩,.sl .mut 2 [],.sl .mut 4 []] xs k hk,Qc (Xc .mut) [.i .i64 0,.s ⟨#[]⟩,.b false,.b false,.i .i64 0,.b false,.s ⟨#[]⟩,.s ⟨#[]⟩,.s ⟨#[]⟩,.sl .mut 2 [],.sl .mut 4 []] xs k (Nat.le_of_lt hk),h1,Xh _ _ hk,Xd (show k<9223372036854775807 by omega),hb]<;>with_reducible rfl,by simp only[go_sem,reduceIte,↓reduceIte,nB,h]⟩) () trivial (xs.length+1) (Nat.le_refl _)).2
 rw[hb] at hr
 simp only[go_sem,reduceIte,↓reduceIte,nA,nB,nE,nT,h,c1,c2,Int.toNat_natCast,ZK (Xc .mut) [.i .i64 0,.s ⟨#[]⟩,.b false,.b false,.i .i64 0,.b false,.s ⟨#[]⟩,.s ⟨#[]⟩,.s ⟨#[]⟩,.sl .mut 2 [],.sl .mut 4 []],hr]) (by simp only[go_sem,YE,XI])
def s19:SP Tryz.prog:=mkS tyA 19 Tryz.f19 [s10,s54,s55,s56] {md:=[.ro 1],rg:=[(0,[1,2],[1,2,3]),(1,[1,2,3],[1,2,3]),(2,[1,2,3],[1,2,3]),(3,[1,2,3],[1,2,3]),(4,[1,2,3],[1,2,3]),(5,[1,2,3],[1,2,3]),(6,[1,2,3],[1,2,3]),(7,[2,3],[2,3]),(8,[2],[2,3])],rets:=some ([2],[2,3])} Tryz.func19 (by kernel_rfl)
@[go_sem] def d19:s19.g=19/\s19.fs=⟨[.ro 1],s19.F,false⟩:=⟨nr rfl,nr rfl⟩
@[go_sem] def e19(w100 w101 w102 w103 w104 w105 w106 w107:Int)(w108:List ByteArray)(w109 w110 w111 w112 w113 w114 w115 w116 w117 w118 w119 w120:Int)(w121 w122:List XK)(w123:List Origin)(w124:List Xl)(h0:YS (Shield.mk (Config.mk w100 w101 w102 w103 w104 w105 w106 w107 w108 (Lanes.mk w109 w110 w111) (Rules.mk w112 w113 w114 w115 w116)) w117 w118 (Store.mk w119 w120 w121 w122) w123 w124)):s19.F [.agg [.i .i64 w100,.i .i64 w101,.i .i64 w102,.i .i64 w103,.i .i64 w104,.i .i64 w105,.i .i64 w106,.i .i64 w107,.sl .ro 1 (w108.map Ye),.i .i64 w109,.i .i64 w110,.i .i64 w111,.i .i64 w112,.i .i64 w113,.i .i64 w114,.i .i64 w115,.i .i64 w116,.i .i64 w117,.i .i64 w118,.i .i64 w119,.i .i64 w120,.sl .ro 13 (w121.map (Xa .ro)),.sl .ro 13 (w122.map (Xa .ro)),.sl .ro 7 (w123.map (Xe .ro)),.sl .ro 11 (w124.map (Xc .ro))]]=some (.agg (Q6 .mut (Shield.mk (Config.mk w100 w101 w102 w103 w104 w105 w106 w107 w108 (Lanes.mk w109 w110 w111) (Rules.mk w112 w113 w114 w115 w116)) w117 w118 (Store.mk w119 w120 w121 w122) w123 w124)),[.u]):=Xb (0) rfl rfl (λcx h=>by
 obtain⟨q0,q1,q2,q3,q4,q5⟩:=h0
 simp only[go_sem,reduceIte,↓reduceIte,nA,nB,nE,nL,nT,h,q0,q3,q4,q5]) (by simp only[go_sem,YE,XI,XM])
def Xof:SP Tryz.prog:=mkS tyA 124 Tryz.f124 [] {md:=[.ro 1,.ro 1],rg:=[(0,[0,1],[]),(1,[1,3],[]),(2,[2],[]),(3,[2],[])],rets:=some ([2],[])} Tryz.func124 (by kernel_rfl)
@[go_sem] def XKw:Xof.g=124/\Xof.fs=⟨[.ro 1,.ro 1],Xof.F,false⟩:=⟨nr rfl,nr rfl⟩
@[go_sem] def XKx(x:Bool)(c:Int):Xof.F [.pr [.b x],.pr [.i .i64 c]]=some (.i .i64 (if x=true then c else 0),[.u,.u]):=Xb (0) rfl rfl (λcx h=>by
 simp only[go_sem,reduceIte,↓reduceIte,nB,nE,h,XiJ]) (rfl)
def s93:SP Tryz.prog:=mkS tyA 93 Tryz.f93 [] {md:=[.ro 1,.ro 1,.ro 1],rets:=some ([6],[])} Tryz.func93 (by kernel_rfl)
@[go_sem] def d93:s93.g=93/\s93.fs=⟨[.ro 1,.ro 1,.ro 1],s93.F,false⟩:=⟨nr rfl,nr rfl⟩
@[go_sem] def e93(a b c:Int):s93.F [.i .i64 a,.i .i64 b,.i .i64 c]=some (.b (within a b c),[.u,.u,.u]):=Xb (0) rfl rfl (λcx h=>by
 simp only[go_sem,reduceIte,↓reduceIte,nA,nB,h,within]
 by_cases h:b<=a<;>simp[h]) (rfl)
def XkM:Ux Tryz.prog 244 ⟨[.ro 1,.ro 1],XfN 13 152,false⟩:=by
 obtain⟨i0,zv,h1,h2,h3,h4,h5⟩:=Go.Proofs.Tryz.growInfo
 exact Xn4 Tryz.func244 (by kernel_rfl) rfl h2 h5 h3 Go.Proofs.Tryz.grow0 (λk w hk hb h6=>Go.Proofs.Tryz.growN i0 zv h1 h2 (by omega) k w hk (by rw[h3]; exact hb) h6)
def Xsv:SP Tryz.prog:=⟨244,⟨[.ro 1,.ro 1],XfN 13 152,false⟩,XkM⟩
@[go_sem] def XKy:Xsv.g=244/\Xsv.fs=⟨[.ro 1,.ro 1],Xsv.F,false⟩:=⟨nr rfl,nr rfl⟩
@[go_sem] def XKz(k:Int)(h0:0<=k)(h1:k<=2097152):Xsv.F [.nil,.i .i64 k]=some (.sl .mut 13 [],[.u,.u]):=by
 show XfN 13 152 [.nil,.i .i64 k]=_
 rw[Xl9]
 exact if_pos ⟨h0,by omega,by omega⟩
end
end Go.Vm.A
