/- Functions of the program, walked by the evaluator. -/
import Derived.Test.YtbgfaonlbpkfhaaGreatDoorWb
import Derived.Test.YtbgfaonlbpkfhaaGreatDoorWa
import Derived.Test.YtbgfaonlbpkfhaaGreatDoorFa
import Derived.Test.YtbgfaonlbpkfhaaGreatDoorFk
import Derived.Test.YtbgfaonlbpkfhaaGreatDoorFe
import Derived.Test.YtbgfaonlbpkfhaaGreatDoorFi
import Derived.Test.YtbgfaonlbpkfhaaGreatDoorFj
set_option linter.unusedVariables false
set_option linter.unusedSimpArgs false
set_option autoImplicit false
set_option maxRecDepth 100000
set_option maxHeartbeats 4000000
set_option linter.defProp false
namespace Go.Vm.A
open Go.Proofs
open Nat renaming reduceAdd -> nA, reduceSub -> nS, reduceMul -> nM, reduceBEq -> nB, reduceEqDiff -> nE, reduceLeDiff -> nL, reduceLT -> nT, reduceBneDiff -> nN
open Int renaming reduceLE -> iL, reduceLT -> iT, reduceEq -> iE, reduceAdd -> iA, reduceMul -> iM, reduceSub -> iS, reduceNeg -> iG, reduceBEq -> iB, reduceBNe -> iN, reduceToNat -> iZ
noncomputable section
def s24:SP Tryz.prog:=mkS tyA 24 Tryz.f24 [] {md:=[.ro 1,.ro 1],rg:=[(0,[2,3],[2,3]),(1,[2,3,9],[2,3]),(2,[4],[]),(3,[14],[]),(4,[4],[]),(5,[4],[])],rets:=some ([4],[])} Tryz.func24 (by kernel_rfl)
@[go_sem] def d24:s24.g=24/\s24.fs=⟨[.ro 1,.ro 1],s24.F,false⟩:=⟨nr rfl,nr rfl⟩
@[go_sem] def e24(z0 z1 z2 z3:Int)(h0:XeZ (YF.mk z0 z1)):s24.F [.agg [.i .i64 z0,.i .i64 z1],.agg [.i .i64 z2,.i .i64 z3]]=some (.b (eqv (YF.mk z0 z1) (YF.mk z2 z3)),[.u,.u]):=Xb (0) rfl rfl (λcx h=>by
 obtain⟨q0,q1⟩:=h0
 simp only[go_sem,reduceIte,↓reduceIte,nA,nB,nE,nL,h,Zd]
 simp only[YF.eqv (YF.mk z0 z1) (YF.mk z2 z3),XgE,Zf,Xbs,Bool.and_true]) (rfl)
def XdX(fs:List Xl):Int:=fs.foldl (λs f=>s+(f.Waiters.length:Int)) 0
def Uf(v:Shield):YF:=if(XT v !=0)=true then⟨XT v,0⟩ else⟨0,XdX v.Flights⟩
def XfZ(v:Shield)(host:ByteArray):YF:=if(XT v !=0)=true then⟨XT v,0⟩ else if X8 v.Origins host<0 then⟨0,0⟩ else⟨0,(X5 v.Origins v.Flights (X8 v.Origins host)).1⟩
def s25:SP Tryz.prog:=mkS tyA 25 Tryz.f25 [s18] {md:=[.ro 1],rg:=[(0,[1,2],[1,2]),(1,[1,2,3],[1,2]),(2,[1,2,3,9],[1,2]),(3,[2],[2]),(4,[1,2,4],[1,2]),(5,[1,2,4,5],[1,2]),(6,[1,2,4,5,16],[1,2]),(7,[1,2,4,5],[1,2]),(8,[1,2,4,5],[1,2]),(9,[2],[2])],lv:=[(0,[1,2,4,5],[1,2])],out:=[(0,[2,4],[2])],rets:=some ([2],[2]),fz:=[1]} Tryz.func25 (by kernel_rfl)
@[go_sem] def d25:s25.g=25/\s25.fs=⟨[.ro 1],s25.F,false⟩:=⟨nr rfl,nr rfl⟩
@[go_sem] def e25(z4 z5 z6 z7 z8 z9 z10 z11:Int)(z12:List ByteArray)(z13 z14 z15 z16 z17 z18 z19 z20 z21 z22 z23 z24:Int)(z25 z26:List XK)(z27:List Origin)(z28:List Xl)(h0:YS (Shield.mk (Config.mk z4 z5 z6 z7 z8 z9 z10 z11 z12 (Lanes.mk z13 z14 z15) (Rules.mk z16 z17 z18 z19 z20)) z21 z22 (Store.mk z23 z24 z25 z26) z27 z28)):s25.F [.agg [.i .i64 z4,.i .i64 z5,.i .i64 z6,.i .i64 z7,.i .i64 z8,.i .i64 z9,.i .i64 z10,.i .i64 z11,.sl .ro 1 (z12.map Ye),.i .i64 z13,.i .i64 z14,.i .i64 z15,.i .i64 z16,.i .i64 z17,.i .i64 z18,.i .i64 z19,.i .i64 z20,.i .i64 z21,.i .i64 z22,.i .i64 z23,.i .i64 z24,.sl .ro 13 (z25.map (Xa .ro)),.sl .ro 13 (z26.map (Xa .ro)),.sl .ro 7 (z27.map (Xe .ro)),.sl .ro 11 (z28.map (Xc .ro))]]=some (.agg (ZT .ro (Uf (Shield.mk (Config.mk z4 z5 z6 z7 z8 z9 z10 z11 z12 (Lanes.mk z13 z14 z15) (Rules.mk z16 z17 z18 z19 z20)) z21 z22 (Store.mk z23 z24 z25 z26) z27 z28))),[.u]):=Xb (z28.length+1) rfl rfl (λcx h=>by
 have h2:=h0.2.2.2.2.2
 simp only at h2
 have hx:=h2.1
 by_cases z:XT (Shield.mk (Config.mk z4 z5 z6 z7 z8 z9 z10 z11 z12 (Lanes.mk z13 z14 z15) (Rules.mk z16 z17 z18 z19 z20)) z21 z22 (Store.mk z23 z24 z25 z26) z27 z28)=0
 rotate_left
 ·have z':(XT (Shield.mk (Config.mk z4 z5 z6 z7 z8 z9 z10 z11 z12 (Lanes.mk z13 z14 z15) (Rules.mk z16 z17 z18 z19 z20)) z21 z22 (Store.mk z23 z24 z25 z26) z27 z28) !=0)=true:=by simpa using z
  simp only[go_sem,reduceIte,↓reduceIte,nA,nB,nE,h,h0,z',Uf]
 have hb0:=Xg Tryz.f25 0 _ _ rfl rfl
 obtain⟨hI,hr⟩:=X0 (cx:=cx) (blk:=0) (body:=XN Tryz.f25 0) z28 (λk (s:Int)=>⟨E [(1,.pr [.i .i64 z4,.i .i64 z5,.i .i64 z6,.i .i64 z7,.i .i64 z8,.i .i64 z9,.i .i64 z10,.i .i64 z11,.sl .ro 1 (z12.map Ye),.i .i64 z13,.i .i64 z14,.i .i64 z15,.i .i64 z16,.i .i64 z17,.i .i64 z18,.i .i64 z19,.i .i64 z20,.i .i64 z21,.i .i64 z22,.i .i64 z23,.i .i64 z24,.sl .ro 13 (z25.map (Xa .ro)),.sl .ro 13 (z26.map (Xa .ro)),.sl .ro 7 (z27.map (Xe .ro)),.sl .ro 11 (z28.map (Xc .ro))]),(2,.p ⟨false,2,[],0⟩),(4,.i .i64 s),(5,.i .i64 k)],B [(1,[]),(2,[.i .i64 0,.i .i64 0])]⟩) (λs=>⟨E [(2,.p ⟨false,2,[],0⟩),(4,.i .i64 s)],B [(2,[.i .i64 0,.i .i64 0])]⟩) (λx s=>s+(x.Waiters.length:Int)) (λk s=>(0<=s/\s<=(k:Int)*1048576))
   (λs hI G=>by simp only[go_sem,reduceIte,↓reduceIte,nB,nE,h,Int.lt_irrefl,hb0]) (λk hk s hI=>by
    have h1:((k:Int)<(z28.length:Int)):=Int.ofNat_lt.2 hk
    obtain⟨i1,i2⟩:=hI
    have hw:z28[k].Waiters.length<=1048576:=(h2.2 _ (List.getElem_mem hk)).2.2.2.2.2.2.2.1
    have hb1:(k:Int)*1048576<=1048576*1048576:=Int.mul_le_mul_of_nonneg_right (by omega) (by decide)
    have hJ:0<=s+(z28[k].Waiters.length:Int)/\s+(z28[k].Waiters.length:Int)<=((k+1:Nat):Int)*1048576:=by
     rw[Int.natCast_add,Int.add_mul]; constructor<;>omega
    have w1:(IntKind.i64).wrap (s+(z28[k].Waiters.length:Int))=s+(z28[k].Waiters.length:Int):=Xo (by omega) (by omega)
    exact⟨hJ,_,λG=>by simp only[go_sem,reduceIte,↓reduceIte,nB,nE,h,w1,Xi (Xc .ro) z28 k hk,h1,Xh _ _ hk,Xd (show k<9223372036854775807 by omega),hb0]<;>with_reducible rfl,by simp only[go_sem,reduceIte,↓reduceIte,nB,h]⟩) 0 (by simp) (z28.length+1) (Nat.le_refl _)
 rw[hb0] at hr
 simp only[go_sem,reduceIte,↓reduceIte,nA,nB,nE,h,h0,z,hr,Uf,XdX]) (rfl)
def s75:SP Tryz.prog:=mkS tyA 75 Tryz.f75 [] {md:=[.ro 1],rg:=[(0,[1],[1]),(1,[1,3],[1]),(2,[3,7,8,9],[1]),(3,[3,7,8,9,10],[1]),(4,[3,5,7,8,9],[1,5]),(5,[3,7,8,9],[1]),(6,[3,7,8,9],[1]),(7,[2],[])],lv:=[(0,[3,7,8,9],[1])],out:=[(0,[3],[])],rets:=some ([2],[])} Tryz.func75 (by kernel_rfl)
@[go_sem] def d75:s75.g=75/\s75.fs=⟨[.ro 1],s75.F,false⟩:=⟨nr rfl,nr rfl⟩
@[go_sem] def e75(z4 z5 z6 z7 z8 z9 z10 z11:Int)(z12:List ByteArray)(z13 z14 z15 z16 z17 z18 z19 z20 z21 z22 z23 z24:Int)(z25 z26:List XK)(z27:List Origin)(z28:List Xl)(h0:smL QX (Shield.mk (Config.mk z4 z5 z6 z7 z8 z9 z10 z11 z12 (Lanes.mk z13 z14 z15) (Rules.mk z16 z17 z18 z19 z20)) z21 z22 (Store.mk z23 z24 z25 z26) z27 z28).Flights):s75.F [.agg [.i .i64 z4,.i .i64 z5,.i .i64 z6,.i .i64 z7,.i .i64 z8,.i .i64 z9,.i .i64 z10,.i .i64 z11,.sl .ro 1 (z12.map Ye),.i .i64 z13,.i .i64 z14,.i .i64 z15,.i .i64 z16,.i .i64 z17,.i .i64 z18,.i .i64 z19,.i .i64 z20,.i .i64 z21,.i .i64 z22,.i .i64 z23,.i .i64 z24,.sl .ro 13 (z25.map (Xa .ro)),.sl .ro 13 (z26.map (Xa .ro)),.sl .ro 7 (z27.map (Xe .ro)),.sl .ro 11 (z28.map (Xc .ro))]]=some (.i .i64 (XdX (Shield.mk (Config.mk z4 z5 z6 z7 z8 z9 z10 z11 z12 (Lanes.mk z13 z14 z15) (Rules.mk z16 z17 z18 z19 z20)) z21 z22 (Store.mk z23 z24 z25 z26) z27 z28).Flights),[.u]):=Xb (z28.length+1) rfl rfl (λcx h=>by
 have hx:=h0.1
 simp only at hx h0
 have hb0:=Xg Tryz.f75 0 _ _ rfl rfl
 obtain⟨hI,hr⟩:=X0 (cx:=cx) (blk:=0) (body:=XN Tryz.f75 0) z28 (λk (s:Int)=>⟨E [(3,.i .i64 s),(7,.sl .ro 11 (z28.map (Xc .ro))),(8,.i .i64 z28.length),(9,.i .i64 k)],B [(1,[.i .i64 z4,.i .i64 z5,.i .i64 z6,.i .i64 z7,.i .i64 z8,.i .i64 z9,.i .i64 z10,.i .i64 z11,.sl .ro 1 (z12.map Ye),.i .i64 z13,.i .i64 z14,.i .i64 z15,.i .i64 z16,.i .i64 z17,.i .i64 z18,.i .i64 z19,.i .i64 z20,.i .i64 z21,.i .i64 z22,.i .i64 z23,.i .i64 z24,.sl .ro 13 (z25.map (Xa .ro)),.sl .ro 13 (z26.map (Xa .ro)),.sl .ro 7 (z27.map (Xe .ro)),.sl .ro 11 (z28.map (Xc .ro))])]⟩) (λs=>⟨E [(3,.i .i64 s)],B []⟩) (λx s=>s+(x.Waiters.length:Int)) (λk s=>(0<=s/\s<=(k:Int)*1048576))
   (λs hI G=>by simp only[go_sem,reduceIte,↓reduceIte,nB,nE,h,Int.lt_irrefl,hb0]) (λk hk s hI=>by
    have h1:((k:Int)<(z28.length:Int)):=Int.ofNat_lt.2 hk
    obtain⟨i1,i2⟩:=hI
    have hw:z28[k].Waiters.length<=1048576:=(h0.2 _ (List.getElem_mem hk)).2.2.2.2.2.2.2.1
    have hb1:(k:Int)*1048576<=1048576*1048576:=Int.mul_le_mul_of_nonneg_right (by omega) (by decide)
    have hJ:0<=s+(z28[k].Waiters.length:Int)/\s+(z28[k].Waiters.length:Int)<=((k+1:Nat):Int)*1048576:=by
     rw[Int.natCast_add,Int.add_mul]; constructor<;>omega
    have w1:(IntKind.i64).wrap (s+(z28[k].Waiters.length:Int))=s+(z28[k].Waiters.length:Int):=Xo (by omega) (by omega)
    exact⟨hJ,_,λG=>by simp only[go_sem,reduceIte,↓reduceIte,nA,nB,nE,h,w1,Xi (Xc .ro) z28 k hk,h1,Xh _ _ hk,Xd (show k<9223372036854775807 by omega),hb0]<;>with_reducible rfl,by simp only[go_sem,reduceIte,↓reduceIte,nB,h]⟩) 0 (by simp) (z28.length+1) (Nat.le_refl _)
 rw[hb0] at hr
 simp only[go_sem,reduceIte,↓reduceIte,nA,nB,nE,h,hr,XdX]) (rfl)
def s26:SP Tryz.prog:=mkS tyA 26 Tryz.f26 [s20,s75] {md:=[.ro 1],rg:=[(0,[1,2],[1,2]),(1,[1,2,3],[1,2]),(2,[1,2,3,7],[1,2]),(3,[2],[2]),(4,[2],[2])],rets:=some ([2],[2])} Tryz.func26 (by kernel_rfl)
@[go_sem] def d26:s26.g=26/\s26.fs=⟨[.ro 1],s26.F,false⟩:=⟨nr rfl,nr rfl⟩
@[go_sem] def e26(z4 z5 z6 z7 z8 z9 z10 z11:Int)(z12:List ByteArray)(z13 z14 z15 z16 z17 z18 z19 z20 z21 z22 z23 z24:Int)(z25 z26:List XK)(z27:List Origin)(z28:List Xl)(h0:YS (Shield.mk (Config.mk z4 z5 z6 z7 z8 z9 z10 z11 z12 (Lanes.mk z13 z14 z15) (Rules.mk z16 z17 z18 z19 z20)) z21 z22 (Store.mk z23 z24 z25 z26) z27 z28)):s26.F [.agg [.i .i64 z4,.i .i64 z5,.i .i64 z6,.i .i64 z7,.i .i64 z8,.i .i64 z9,.i .i64 z10,.i .i64 z11,.sl .ro 1 (z12.map Ye),.i .i64 z13,.i .i64 z14,.i .i64 z15,.i .i64 z16,.i .i64 z17,.i .i64 z18,.i .i64 z19,.i .i64 z20,.i .i64 z21,.i .i64 z22,.i .i64 z23,.i .i64 z24,.sl .ro 13 (z25.map (Xa .ro)),.sl .ro 13 (z26.map (Xa .ro)),.sl .ro 7 (z27.map (Xe .ro)),.sl .ro 11 (z28.map (Xc .ro))]]=some (.agg (ZT .ro (Uf (Shield.mk (Config.mk z4 z5 z6 z7 z8 z9 z10 z11 z12 (Lanes.mk z13 z14 z15) (Rules.mk z16 z17 z18 z19 z20)) z21 z22 (Store.mk z23 z24 z25 z26) z27 z28))),[.u]):=Xb (0) rfl rfl (λcx h=>by
 have h2:=h0.2.2.2.2.2
 simp only at h2
 have h3:z27.length<=9223372036854775806:=by have:=h0.2.2.2.2.1.1; simp only at this; omega
 by_cases z:XT (Shield.mk (Config.mk z4 z5 z6 z7 z8 z9 z10 z11 z12 (Lanes.mk z13 z14 z15) (Rules.mk z16 z17 z18 z19 z20)) z21 z22 (Store.mk z23 z24 z25 z26) z27 z28)=0
 rotate_left
 ·have z':(XT (Shield.mk (Config.mk z4 z5 z6 z7 z8 z9 z10 z11 z12 (Lanes.mk z13 z14 z15) (Rules.mk z16 z17 z18 z19 z20)) z21 z22 (Store.mk z23 z24 z25 z26) z27 z28) !=0)=true:=by simpa using z
  simp only[go_sem,reduceIte,↓reduceIte,nA,nB,nE,h,h0,z',Uf]
 simp only[go_sem,reduceIte,↓reduceIte,nA,nB,nE,h,h0,z,h2,Uf]) (rfl)
def s6:SP Tryz.prog:=mkS tyA 6 Tryz.f6 [s17,s19,s21,s24,s25,s26] {md:=[.ro 1],rg:=[(0,[1],[1]),(1,[1,3],[1]),(2,[1,3],[1]),(3,[1,11],[1]),(4,[2],[]),(5,[1,4],[1,4]),(6,[1,4,5],[1,4,5]),(7,[1,4,5,6],[1,4,5,6]),(8,[1,5,22],[1,5]),(9,[2],[]),(10,[27],[]),(11,[2],[]),(12,[2],[])],rets:=some ([2],[]),plan:=[(10,(.take 0 (.take 1 (.one 2 (.one 3 (.take 4 .done))))))]} Tryz.func6 (by kernel_rfl)
@[go_sem] def d6:s6.g=6/\s6.fs=⟨[.ro 1],s6.F,false⟩:=⟨nr rfl,nr rfl⟩
def e6(z29 z30 z31 z32 z33 z34 z35 z36:Int)(z37:List ByteArray)(z38 z39 z40 z41 z42 z43 z44 z45 z46 z47 z48 z49:Int)(z50 z51:List XK)(z52:List Origin)(z53:List Xl)(h0:Xbj (Shield.mk (Config.mk z29 z30 z31 z32 z33 z34 z35 z36 z37 (Lanes.mk z38 z39 z40) (Rules.mk z41 z42 z43 z44 z45)) z46 z47 (Store.mk z48 z49 z50 z51) z52 z53)):s6.F [.agg [.i .i64 z29,.i .i64 z30,.i .i64 z31,.i .i64 z32,.i .i64 z33,.i .i64 z34,.i .i64 z35,.i .i64 z36,.sl .ro 1 (z37.map Ye),.i .i64 z38,.i .i64 z39,.i .i64 z40,.i .i64 z41,.i .i64 z42,.i .i64 z43,.i .i64 z44,.i .i64 z45,.i .i64 z46,.i .i64 z47,.i .i64 z48,.i .i64 z49,.sl .ro 13 (z50.map (Xa .ro)),.sl .ro 13 (z51.map (Xa .ro)),.sl .ro 7 (z52.map (Xe .ro)),.sl .ro 11 (z53.map (Xc .ro))]]=some (.b true,[.u]):=Xb (0) rfl rfl (λcx h=>by
 have h0_0:=h0
 by_cases hc0:Qu (Shield.mk (Config.mk z29 z30 z31 z32 z33 z34 z35 z36 z37 (Lanes.mk z38 z39 z40) (Rules.mk z41 z42 z43 z44 z45)) z46 z47 (Store.mk z48 z49 z50 z51) z52 z53) 1048576<0
 ·simp only[go_sem,reduceIte,↓reduceIte,nA,nB,nE,h,hc0,h0_0]
 obtain⟨hs0,hl0⟩:=US _ _ h0_0 (by decide) (by decide) (show 0<=Qu (Shield.mk (Config.mk z29 z30 z31 z32 z33 z34 z35 z36 z37 (Lanes.mk z38 z39 z40) (Rules.mk z41 z42 z43 z44 z45)) z46 z47 (Store.mk z48 z49 z50 z51) z52 z53) 1048576 by omega)
 obtain⟨R,hR⟩:∃R,Uf (Shield.mk (Config.mk z29 z30 z31 z32 z33 z34 z35 z36 z37 (Lanes.mk z38 z39 z40) (Rules.mk z41 z42 z43 z44 z45)) z46 z47 (Store.mk z48 z49 z50 z51) z52 z53)=R:=⟨_,rfl⟩
 have hsm:=Xbp (Uf (Shield.mk (Config.mk z29 z30 z31 z32 z33 z34 z35 z36 z37 (Lanes.mk z38 z39 z40) (Rules.mk z41 z42 z43 z44 z45)) z46 z47 (Store.mk z48 z49 z50 z51) z52 z53))
 rw[hR] at hsm
 simp only[go_sem,reduceIte,↓reduceIte,nA,nB,nE,h,hc0,hs0,h0_0,hR,hsm,QS]) (rfl)
end
end Go.Vm.A
