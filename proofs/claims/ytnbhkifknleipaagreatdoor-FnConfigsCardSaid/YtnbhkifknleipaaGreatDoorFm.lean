/- Functions of the program, walked by the evaluator. -/
import Derived.Test.YtnbhkifknleipaaGreatDoorWb
import Derived.Test.YtnbhkifknleipaaGreatDoorWa
import Derived.Test.YtnbhkifknleipaaGreatDoorFe
import Derived.Test.YtnbhkifknleipaaGreatDoorFk
import Derived.Test.YtnbhkifknleipaaGreatDoorFl
set_option linter.unusedVariables false
set_option linter.unusedSimpArgs false
set_option autoImplicit false
set_option maxRecDepth 100000
set_option maxHeartbeats 4000000
namespace Go.Vm.A
open Go.Proofs
open Nat renaming reduceAdd → nA, reduceSub → nS, reduceMul → nM, reduceBEq → nB, reduceEqDiff → nE, reduceLeDiff → nL, reduceLT → nT, reduceBneDiff → nN
open Int renaming reduceLE → iL, reduceLT → iT, reduceEq → iE, reduceAdd → iA, reduceMul → iM, reduceSub → iS, reduceNeg → iG, reduceBEq → iB, reduceBNe → iN, reduceToNat → iZ
noncomputable section
def s244 : SP Tryz.prog:=mkS tyA 244 Tryz.f244 [] { md:=[.ro 1,.ro 1],rets:=some ([3],[]) } Tryz.func244 (by kernel_rfl)
@[go_sem] theorem d244 : s244.g = 244 ∧ s244.fs = ⟨[.ro 1,.ro 1],s244.F,false⟩:=⟨nr rfl,nr rfl⟩
@[go_sem] theorem e244 (q0 : ByteArray) (q1 : Int) (q2 : List Wait) (q3 q4 q5 : Int) (q6 : List Mark) (host : ByteArray) : s244.F [.agg [.s q0,.i .i64 q1,.sl .ro 2 (q2.map (rWait .ro)),.i .i64 q3,.i .i64 q4,.i .i64 q5,.sl .ro 2 (q6.map (rMark .ro))],.pr [.s host]] = some (.b (eqv (Origin.mk q0 (Bulk.mk q1 q2) (Breaker.mk q3 q4 q5 q6)).Host host),[.u,.u]):=mkS_eq (0) rfl rfl (fun cx h=>by
 simp only [go_sem,reduceIte,↓reduceIte,reduceCtorEq,nA,nS,nM,nB,nE,nL,nT,nN,iL,iT,iE,iA,iM,iS,iG,iB,iN,iZ,h,eqv_bytes]) (rfl)
def s243 : SP Tryz.prog:=mkS tyA 243 Tryz.f243 [s244] { md:=[.ro 1,.ro 1],rg:=[(0,[0,1],[]),(1,[0,1,7,8],[]),(2,[0,1,7,8,9],[]),(3,[0,1,5,7,8],[]),(4,[0,1,5,7,8,16],[]),(5,[4],[]),(6,[0,1,7,8],[]),(7,[4],[])],lv:=[(0,[0,1,7,8],[])],out:=[(0,[],[])],rets:=some ([4],[]) } Tryz.func243 (by kernel_rfl)
@[go_sem] theorem d243 : s243.g = 243 ∧ s243.fs = ⟨[.ro 1,.ro 1],s243.F,false⟩:=⟨nr rfl,nr rfl⟩
@[go_sem] theorem e243_244 (xs : List Origin) (host : ByteArray) (hb : xs.length ≤ 9223372036854775806) : s243.F [.sl .ro 7 (xs.map (rOrigin .ro)),.fn 244 [.pr [.s host]]] = some (.i .i64 (idxP (fun x=>eqv x.Host host) xs 0),[.u,.u]):=mkS_eq (xs.length + 1) rfl rfl (fun cx h=>by
 have hx:=hb
 have hb0:=loopN_eq Tryz.f243 0 _ _ rfl rfl
 obtain ⟨r,hr,hq⟩:=loop_srch (cx:=cx) (blk:=0) (body:=loopN Tryz.f243 0) xs (fun k (s : Nat)=>⟨E [(0,.sl .ro 7 (xs.map (rOrigin .ro))),(1,.fn 244 [.pr [.s host]]),(7,.i .i64 xs.length),(8,.i .i64 k)],B []⟩) (fun s=>⟨E [],B []⟩) (fun x s=>eqv x.Host host) (fun x s=>s + 1) (fun x s=>(.ret,⟨E [(4,.i .i64 s)],B []⟩)) (fun k s=>k = s)
   (fun s hI G=>by simp only [go_sem,reduceIte,↓reduceIte,reduceCtorEq,nA,nS,nM,nB,nE,nL,nT,nN,iL,iT,iE,iA,iM,iS,iG,iB,iN,iZ,h,Int.lt_irrefl,hb0,hI]) (fun k hk s hI=>by
    have h1 : ((k : Int) < (xs.length : Int)):=Int.ofNat_lt.2 hk
    obtain rfl:=hI
    exact ⟨_,_,_,fun G=>by simp only [go_sem,reduceIte,↓reduceIte,reduceCtorEq,nA,nS,nM,nB,nE,nL,nT,nN,iL,iT,iE,iA,iM,iS,iG,iB,iN,iZ,h,map_gd (rOrigin .ro) xs _ hk,decide_eq_true_eq,h1,idx_nt _ _ hk,wrap_nat1 (show k < 9223372036854775807 by omega),hb0] <;> with_reducible rfl,by first | exact Iff.rfl | simp,fun hc=>⟨rfl,by simp only [go_sem,reduceIte,↓reduceIte,reduceCtorEq,nA,nS,nM,nB,nE,nL,nT,nN,iL,iT,iE,iA,iM,iS,iG,iB,iN,iZ,h]⟩⟩) 0 rfl (xs.length + 1) (Nat.le_refl _)
 rw [hb0] at hr
 rcases hq with ⟨s',e1,_,e3⟩ | ⟨x,s',e1,e3⟩
 ·simp only [go_sem,reduceIte,↓reduceIte,reduceCtorEq,nA,nS,nM,nB,nE,nL,nT,nN,iL,iT,iE,iA,iM,iS,iG,iB,iN,iZ,h,hr,e3,runS_idx e1]
 ·simp only [go_sem,reduceIte,↓reduceIte,reduceCtorEq,nA,nS,nM,nB,nE,nL,nT,nN,iL,iT,iE,iA,iM,iS,iG,iB,iN,iZ,h,hr,e3,runS_idx' e1]) (rfl)
def s148 : SP Tryz.prog:=mkS tyA 148 Tryz.f148 [s243] { md:=[.ro 1,.ro 1],rets:=some ([4],[]),fz:=[3] } Tryz.func148 (by kernel_rfl)
@[go_sem] theorem d148 : s148.g = 148 ∧ s148.fs = ⟨[.ro 1,.ro 1],s148.F,false⟩:=⟨nr rfl,nr rfl⟩
@[go_sem] theorem e148 (q7 q8 q9 q10 q11 q12 q13 q14 : Int) (q15 : List ByteArray) (q16 q17 q18 q19 q20 q21 q22 q23 q24 q25 q26 q27 : Int) (q28 q29 : List Entry) (q30 : List Origin) (q31 : List Flight) (host : ByteArray) (h0 : (Shield.mk (Config.mk q7 q8 q9 q10 q11 q12 q13 q14 q15 (Lanes.mk q16 q17 q18) (Rules.mk q19 q20 q21 q22 q23)) q24 q25 (Store.mk q26 q27 q28 q29) q30 q31).Origins.length ≤ 9223372036854775806) : s148.F [.agg [.i .i64 q7,.i .i64 q8,.i .i64 q9,.i .i64 q10,.i .i64 q11,.i .i64 q12,.i .i64 q13,.i .i64 q14,.sl .ro 1 (q15.map rStr),.i .i64 q16,.i .i64 q17,.i .i64 q18,.i .i64 q19,.i .i64 q20,.i .i64 q21,.i .i64 q22,.i .i64 q23,.i .i64 q24,.i .i64 q25,.i .i64 q26,.i .i64 q27,.sl .ro 13 (q28.map (rEntry .ro)),.sl .ro 13 (q29.map (rEntry .ro)),.sl .ro 7 (q30.map (rOrigin .ro)),.sl .ro 11 (q31.map (rFlight .ro))],.s host] = some (.i .i64 (originAt (Shield.mk (Config.mk q7 q8 q9 q10 q11 q12 q13 q14 q15 (Lanes.mk q16 q17 q18) (Rules.mk q19 q20 q21 q22 q23)) q24 q25 (Store.mk q26 q27 q28 q29) q30 q31).Origins host),[.u,.u]):=mkS_eq (0) rfl rfl (fun cx h=>by
 simp only [go_sem,reduceIte,↓reduceIte,reduceCtorEq,nA,nS,nM,nB,nE,nL,nT,nN,iL,iT,iE,iA,iM,iS,iG,iB,iN,iZ,h,h0,originAt]) (rfl)
def s146 : SP Tryz.prog:=mkS tyA 146 Tryz.f146 [s147,s148] { md:=[.ro 1],rg:=[(0,[0],[]),(1,[0,8,9,10],[]),(2,[0,8,9,10,11],[]),(3,[0,3,8,9,10],[3]),(4,[0,4,8,9,10],[]),(5,[0,4,8,9,10,18],[]),(6,[1],[]),(7,[0,8,9,10],[]),(8,[0,22,23,24],[]),(9,[0,22,23,24,25],[]),(10,[0,5,6,22,23,24],[6]),(11,[0,22,23,24,34],[]),(12,[1],[]),(13,[0,22,23,24],[]),(14,[1],[])],lv:=[(0,[0,8,9,10],[]),(2,[0,22,23,24],[])],out:=[(0,[0],[]),(2,[],[])],rets:=some ([1],[]) } Tryz.func146 (by kernel_rfl)
@[go_sem] theorem d146 : s146.g = 146 ∧ s146.fs = ⟨[.ro 1],s146.F,false⟩:=⟨nr rfl,nr rfl⟩
@[go_sem] theorem e146 (q7 q8 q9 q10 q11 q12 q13 q14 : Int) (q15 : List ByteArray) (q16 q17 q18 q19 q20 q21 q22 q23 q24 q25 q26 q27 : Int) (q28 q29 : List Entry) (q30 : List Origin) (q31 : List Flight) (h0 : smShield (Shield.mk (Config.mk q7 q8 q9 q10 q11 q12 q13 q14 q15 (Lanes.mk q16 q17 q18) (Rules.mk q19 q20 q21 q22 q23)) q24 q25 (Store.mk q26 q27 q28 q29) q30 q31)) : s146.F [.pr [.i .i64 q7,.i .i64 q8,.i .i64 q9,.i .i64 q10,.i .i64 q11,.i .i64 q12,.i .i64 q13,.i .i64 q14,.sl .ro 1 (q15.map rStr),.i .i64 q16,.i .i64 q17,.i .i64 q18,.i .i64 q19,.i .i64 q20,.i .i64 q21,.i .i64 q22,.i .i64 q23,.i .i64 q24,.i .i64 q25,.i .i64 q26,.i .i64 q27,.sl .ro 13 (q28.map (rEntry .ro)),.sl .ro 13 (q29.map (rEntry .ro)),.sl .ro 7 (q30.map (rOrigin .ro)),.sl .ro 11 (q31.map (rFlight .ro))]] = some (.i .i64 (originsFault (Shield.mk (Config.mk q7 q8 q9 q10 q11 q12 q13 q14 q15 (Lanes.mk q16 q17 q18) (Rules.mk q19 q20 q21 q22 q23)) q24 q25 (Store.mk q26 q27 q28 q29) q30 q31)),[.u]):=mkS_eq (q30.length + 1) rfl rfl (fun cx h=>by
 have hO:=h0.2.2.2.2.1
 simp only at hO
 have hx : q30.length ≤ 9223372036854775806:=by have:=hO.1; omega
 have hu : originsFault (Shield.mk (Config.mk q7 q8 q9 q10 q11 q12 q13 q14 q15 (Lanes.mk q16 q17 q18) (Rules.mk q19 q20 q21 q22 q23)) q24 q25 (Store.mk q26 q27 q28 q29) q30 q31) = (if (firstI (q30.map (originFault (Shield.mk (Config.mk q7 q8 q9 q10 q11 q12 q13 q14 q15 (Lanes.mk q16 q17 q18) (Rules.mk q19 q20 q21 q22 q23)) q24 q25 (Store.mk q26 q27 q28 q29) q30 q31))) != 0) = true then firstI (q30.map (originFault (Shield.mk (Config.mk q7 q8 q9 q10 q11 q12 q13 q14 q15 (Lanes.mk q16 q17 q18) (Rules.mk q19 q20 q21 q22 q23)) q24 q25 (Store.mk q26 q27 q28 q29) q30 q31))) else if dup sameHost [] q30 = true then 6 else 0):=rfl
 have hb0:=loopN_eq Tryz.f146 0 _ _ rfl rfl
 obtain ⟨z0,hz0,hqz0⟩:=loop_srch (cx:=cx) (blk:=0) (body:=loopN Tryz.f146 0) q30 (fun k (s : Unit)=>⟨E [(0,.pr [.i .i64 q7,.i .i64 q8,.i .i64 q9,.i .i64 q10,.i .i64 q11,.i .i64 q12,.i .i64 q13,.i .i64 q14,.sl .ro 1 (q15.map rStr),.i .i64 q16,.i .i64 q17,.i .i64 q18,.i .i64 q19,.i .i64 q20,.i .i64 q21,.i .i64 q22,.i .i64 q23,.i .i64 q24,.i .i64 q25,.i .i64 q26,.i .i64 q27,.sl .ro 13 (q28.map (rEntry .ro)),.sl .ro 13 (q29.map (rEntry .ro)),.sl .ro 7 (q30.map (rOrigin .ro)),.sl .ro 11 (q31.map (rFlight .ro))]),(8,.sl .ro 7 (q30.map (rOrigin .ro))),(9,.i .i64 q30.length),(10,.i .i64 k)],B []⟩) (fun s=>⟨E [(0,.pr [.i .i64 q7,.i .i64 q8,.i .i64 q9,.i .i64 q10,.i .i64 q11,.i .i64 q12,.i .i64 q13,.i .i64 q14,.sl .ro 1 (q15.map rStr),.i .i64 q16,.i .i64 q17,.i .i64 q18,.i .i64 q19,.i .i64 q20,.i .i64 q21,.i .i64 q22,.i .i64 q23,.i .i64 q24,.i .i64 q25,.i .i64 q26,.i .i64 q27,.sl .ro 13 (q28.map (rEntry .ro)),.sl .ro 13 (q29.map (rEntry .ro)),.sl .ro 7 (q30.map (rOrigin .ro)),.sl .ro 11 (q31.map (rFlight .ro))])],B []⟩) (fun x s=>originFault (Shield.mk (Config.mk q7 q8 q9 q10 q11 q12 q13 q14 q15 (Lanes.mk q16 q17 q18) (Rules.mk q19 q20 q21 q22 q23)) q24 q25 (Store.mk q26 q27 q28 q29) q30 q31) x != 0) (fun x s=>()) (fun x s=>(.ret,⟨E [(1,.i .i64 (originFault (Shield.mk (Config.mk q7 q8 q9 q10 q11 q12 q13 q14 q15 (Lanes.mk q16 q17 q18) (Rules.mk q19 q20 q21 q22 q23)) q24 q25 (Store.mk q26 q27 q28 q29) q30 q31) x))],B []⟩)) (fun k s=>True)
   (fun s hI G=>by simp only [go_sem,reduceIte,↓reduceIte,reduceCtorEq,nA,nS,nM,nB,nE,nL,nT,nN,iL,iT,iE,iA,iM,iS,iG,iB,iN,iZ,h,Int.lt_irrefl,hb0,hx]) (fun k hk s hI=>by
    have h1 : ((k : Int) < (q30.length : Int)):=Int.ofNat_lt.2 hk
    have hm : q30[k].Breaker.Marks.length ≤ 1048576:=(hO.2 _ (List.getElem_mem hk)).2.2.2.2.2.1
    exact ⟨_,_,_,fun G=>by simp only [go_sem,reduceIte,↓reduceIte,reduceCtorEq,nA,nS,nM,nB,nE,nL,nT,nN,iL,iT,iE,iA,iM,iS,iG,iB,iN,iZ,h,map_gd (rOrigin .ro) q30 k hk,hm,h1,idx_nt _ _ hk,wrap_nat1 (show k < 9223372036854775807 by omega),hb0] <;> with_reducible rfl,by first | exact Iff.rfl | simp,fun hc=>⟨trivial,by simp only [go_sem,reduceIte,↓reduceIte,reduceCtorEq,nA,nS,nM,nB,nE,nL,nT,nN,iL,iT,iE,iA,iM,iS,iG,iB,iN,iZ,h]⟩⟩) () trivial (q30.length + 1) (Nat.le_refl _)
 rw [hb0] at hz0
 rcases hqz0 with ⟨s0,e1,_,e3⟩ | ⟨x,s0,e1,e3⟩
 rotate_left
 ·have e2:=firstI_inr e1
  have e4 : (originFault (Shield.mk (Config.mk q7 q8 q9 q10 q11 q12 q13 q14 q15 (Lanes.mk q16 q17 q18) (Rules.mk q19 q20 q21 q22 q23)) q24 q25 (Store.mk q26 q27 q28 q29) q30 q31) x != 0) = true:=runS_hit e1
  simp only [go_sem,reduceIte,↓reduceIte,reduceCtorEq,nA,nS,nM,nB,nE,nL,nT,nN,iL,iT,iE,iA,iM,iS,iG,iB,iN,iZ,h,hz0,e3,e2,e4,hu]
 have e2:=firstI_inl e1
 have hb1:=loopN_eq Tryz.f146 1 _ _ rfl rfl
 obtain ⟨z1,hz1,hqz1⟩:=loop_srch (cx:=cx) (blk:=2) (body:=loopN Tryz.f146 1) q30 (fun k (s : List Origin)=>⟨E [(0,.pr [.i .i64 q7,.i .i64 q8,.i .i64 q9,.i .i64 q10,.i .i64 q11,.i .i64 q12,.i .i64 q13,.i .i64 q14,.sl .ro 1 (q15.map rStr),.i .i64 q16,.i .i64 q17,.i .i64 q18,.i .i64 q19,.i .i64 q20,.i .i64 q21,.i .i64 q22,.i .i64 q23,.i .i64 q24,.i .i64 q25,.i .i64 q26,.i .i64 q27,.sl .ro 13 (q28.map (rEntry .ro)),.sl .ro 13 (q29.map (rEntry .ro)),.sl .ro 7 (q30.map (rOrigin .ro)),.sl .ro 11 (q31.map (rFlight .ro))]),(22,.sl .ro 7 (q30.map (rOrigin .ro))),(23,.i .i64 q30.length),(24,.i .i64 k)],B []⟩) (fun s=>⟨E [],B []⟩) (fun x s=>s.any fun y=>sameHost y x) (fun x s=>s ++ [x]) (fun x s=>(.ret,⟨E [(1,.i .i64 6)],B []⟩)) (fun k s=>s = q30.take k)
   (fun s hI G=>by simp only [go_sem,reduceIte,↓reduceIte,reduceCtorEq,nA,nS,nM,nB,nE,nL,nT,nN,iL,iT,iE,iA,iM,iS,iG,iB,iN,iZ,h,Int.lt_irrefl,hb1,hx]) (fun k hk s hI=>by
    have h1 : ((k : Int) < (q30.length : Int)):=Int.ofNat_lt.2 hk
    have hit:=idxP_take0 (fun x : Origin=>eqv x.Host q30[k].Host) q30 k hk (eqv_self _)
    have hwu : originAt q30 q30[k].Host = idxP (fun x : Origin=>eqv x.Host q30[k].Host) q30 0:=rfl
    have c3 : ((q30.take k).any fun y=>sameHost y q30[k]) = (q30.take k).any fun x=>eqv x.Host q30[k].Host:=rfl
    subst hI
    exact ⟨_,_,_,fun G=>by simp only [go_sem,reduceIte,↓reduceIte,reduceCtorEq,nA,nS,nM,nB,nE,nL,nT,nN,iL,iT,iE,iA,iM,iS,iG,iB,iN,iZ,h,map_gd (rOrigin .ro) q30 k hk,hx,hwu,hit,h1,idx_nt _ _ hk,wrap_nat1 (show k < 9223372036854775807 by omega),hb1] <;> with_reducible rfl,by rw [c3],fun hc=>⟨(take_snoc q30 k hk).symm,by simp only [go_sem,reduceIte,↓reduceIte,reduceCtorEq,nA,nS,nM,nB,nE,nL,nT,nN,iL,iT,iE,iA,iM,iS,iG,iB,iN,iZ,h]⟩⟩) [] rfl (q30.length + 1) (Nat.le_refl _)
 rw [hb1] at hz1
 rcases hqz1 with ⟨s1,k1,_,k3⟩ | ⟨x,s1,k1,k3⟩
 ·have k2:=dup_inl k1
  simp only [go_sem,reduceIte,↓reduceIte,reduceCtorEq,nA,nS,nM,nB,nE,nL,nT,nN,iL,iT,iE,iA,iM,iS,iG,iB,iN,iZ,h,hz0,e3,e2,hz1,k3,k2,hu]
 ·have k2:=dup_inr k1
  simp only [go_sem,reduceIte,↓reduceIte,reduceCtorEq,nA,nS,nM,nB,nE,nL,nT,nN,iL,iT,iE,iA,iM,iS,iG,iB,iN,iZ,h,hz0,e3,e2,hz1,k3,k2,hu]) (rfl)
def s182 : SP Tryz.prog:=mkS tyA 182 Tryz.f182 [] { md:=[.ro 1,.ro 1],rets:=some ([3],[]) } Tryz.func182 (by kernel_rfl)
@[go_sem] theorem d182 : s182.g = 182 ∧ s182.fs = ⟨[.ro 1,.ro 1],s182.F,false⟩:=⟨nr rfl,nr rfl⟩
@[go_sem] theorem e182 (xId : Int) (q32 : ByteArray) (q33 q34 : Bool) (q35 : Int) (q36 : Bool) (q37 q38 q39 : ByteArray) (q40 : List Header) (q41 : List Waiter) (key : ByteArray) : s182.F [.agg [.i .i64 xId,.s q32,.b q33,.b q34,.i .i64 q35,.b q36,.s q37,.s q38,.s q39,.sl .ro 2 (q40.map (rHeader .ro)),.sl .ro 4 (q41.map (rWaiter .ro))],.pr [.s key]] = some (.b (eqv (Flight.mk xId q32 q33 q34 q35 q36 (Request.mk q37 q38 q39 q40) q41).Key key),[.u,.u]):=mkS_eq (0) rfl rfl (fun cx h=>by
 simp only [go_sem,reduceIte,↓reduceIte,reduceCtorEq,nA,nS,nM,nB,nE,nL,nT,nN,iL,iT,iE,iA,iM,iS,iG,iB,iN,iZ,h,eqv_bytes]) (rfl)
def s183 : SP Tryz.prog:=mkS tyA 183 Tryz.f183 [] { md:=[.ro 1,.ro 1],rets:=some ([3],[]) } Tryz.func183 (by kernel_rfl)
@[go_sem] theorem d183 : s183.g = 183 ∧ s183.fs = ⟨[.ro 1,.ro 1],s183.F,false⟩:=⟨nr rfl,nr rfl⟩
@[go_sem] theorem e183 (xId : Int) (q32 : ByteArray) (q33 q34 : Bool) (q35 : Int) (q36 : Bool) (q37 q38 q39 : ByteArray) (q40 : List Header) (q41 : List Waiter) (id : Int) : s183.F [.agg [.i .i64 xId,.s q32,.b q33,.b q34,.i .i64 q35,.b q36,.s q37,.s q38,.s q39,.sl .ro 2 (q40.map (rHeader .ro)),.sl .ro 4 (q41.map (rWaiter .ro))],.pr [.i .i64 id]] = some (.b ((Flight.mk xId q32 q33 q34 q35 q36 (Request.mk q37 q38 q39 q40) q41).Id == id),[.u,.u]):=mkS_eq (0) rfl rfl (fun cx h=>by
 simp only [go_sem,reduceIte,↓reduceIte,reduceCtorEq,nA,nS,nM,nB,nE,nL,nT,nN,iL,iT,iE,iA,iM,iS,iG,iB,iN,iZ,h]) (rfl)
def s181 : SP Tryz.prog:=mkS tyA 181 Tryz.f181 [s182,s183] { md:=[.ro 1,.ro 1],rg:=[(0,[0,1],[]),(1,[0,1,7,8],[]),(2,[0,1,7,8,9],[]),(3,[0,1,5,7,8],[]),(4,[0,1,5,7,8,16],[]),(5,[4],[]),(6,[0,1,7,8],[]),(7,[4],[])],lv:=[(0,[0,1,7,8],[])],out:=[(0,[],[])],rets:=some ([4],[]) } Tryz.func181 (by kernel_rfl)
@[go_sem] theorem d181 : s181.g = 181 ∧ s181.fs = ⟨[.ro 1,.ro 1],s181.F,false⟩:=⟨nr rfl,nr rfl⟩
@[go_sem] theorem e181_182 (xs : List Flight) (key : ByteArray) (hb : xs.length ≤ 9223372036854775806) : s181.F [.sl .ro 11 (xs.map (rFlight .ro)),.fn 182 [.pr [.s key]]] = some (.i .i64 (idxP (fun x=>eqv x.Key key) xs 0),[.u,.u]):=mkS_eq (xs.length + 1) rfl rfl (fun cx h=>by
 have hx:=hb
 have hb0:=loopN_eq Tryz.f181 0 _ _ rfl rfl
 obtain ⟨r,hr,hq⟩:=loop_srch (cx:=cx) (blk:=0) (body:=loopN Tryz.f181 0) xs (fun k (s : Nat)=>⟨E [(0,.sl .ro 11 (xs.map (rFlight .ro))),(1,.fn 182 [.pr [.s key]]),(7,.i .i64 xs.length),(8,.i .i64 k)],B []⟩) (fun s=>⟨E [],B []⟩) (fun x s=>eqv x.Key key) (fun x s=>s + 1) (fun x s=>(.ret,⟨E [(4,.i .i64 s)],B []⟩)) (fun k s=>k = s)
   (fun s hI G=>by simp only [go_sem,reduceIte,↓reduceIte,reduceCtorEq,nA,nS,nM,nB,nE,nL,nT,nN,iL,iT,iE,iA,iM,iS,iG,iB,iN,iZ,h,Int.lt_irrefl,hb0,hI]) (fun k hk s hI=>by
    have h1 : ((k : Int) < (xs.length : Int)):=Int.ofNat_lt.2 hk
    obtain rfl:=hI
    exact ⟨_,_,_,fun G=>by simp only [go_sem,reduceIte,↓reduceIte,reduceCtorEq,nA,nS,nM,nB,nE,nL,nT,nN,iL,iT,iE,iA,iM,iS,iG,iB,iN,iZ,h,map_gd (rFlight .ro) xs _ hk,decide_eq_true_eq,h1,idx_nt _ _ hk,wrap_nat1 (show k < 9223372036854775807 by omega),hb0] <;> with_reducible rfl,by first | exact Iff.rfl | simp,fun hc=>⟨rfl,by simp only [go_sem,reduceIte,↓reduceIte,reduceCtorEq,nA,nS,nM,nB,nE,nL,nT,nN,iL,iT,iE,iA,iM,iS,iG,iB,iN,iZ,h]⟩⟩) 0 rfl (xs.length + 1) (Nat.le_refl _)
 rw [hb0] at hr
 rcases hq with ⟨s',e1,_,e3⟩ | ⟨x,s',e1,e3⟩
 ·simp only [go_sem,reduceIte,↓reduceIte,reduceCtorEq,nA,nS,nM,nB,nE,nL,nT,nN,iL,iT,iE,iA,iM,iS,iG,iB,iN,iZ,h,hr,e3,runS_idx e1]
 ·simp only [go_sem,reduceIte,↓reduceIte,reduceCtorEq,nA,nS,nM,nB,nE,nL,nT,nN,iL,iT,iE,iA,iM,iS,iG,iB,iN,iZ,h,hr,e3,runS_idx' e1]) (rfl)
@[go_sem] theorem e181_183 (xs : List Flight) (id : Int) (hb : xs.length ≤ 9223372036854775806) : s181.F [.sl .ro 11 (xs.map (rFlight .ro)),.fn 183 [.pr [.i .i64 id]]] = some (.i .i64 (idxP (fun x=>x.Id == id) xs 0),[.u,.u]):=mkS_eq (xs.length + 1) rfl rfl (fun cx h=>by
 have hx:=hb
 have hb0:=loopN_eq Tryz.f181 0 _ _ rfl rfl
 obtain ⟨r,hr,hq⟩:=loop_srch (cx:=cx) (blk:=0) (body:=loopN Tryz.f181 0) xs (fun k (s : Nat)=>⟨E [(0,.sl .ro 11 (xs.map (rFlight .ro))),(1,.fn 183 [.pr [.i .i64 id]]),(7,.i .i64 xs.length),(8,.i .i64 k)],B []⟩) (fun s=>⟨E [],B []⟩) (fun x s=>x.Id == id) (fun x s=>s + 1) (fun x s=>(.ret,⟨E [(4,.i .i64 s)],B []⟩)) (fun k s=>k = s)
   (fun s hI G=>by simp only [go_sem,reduceIte,↓reduceIte,reduceCtorEq,nA,nS,nM,nB,nE,nL,nT,nN,iL,iT,iE,iA,iM,iS,iG,iB,iN,iZ,h,Int.lt_irrefl,hb0,hI]) (fun k hk s hI=>by
    have h1 : ((k : Int) < (xs.length : Int)):=Int.ofNat_lt.2 hk
    obtain rfl:=hI
    exact ⟨_,_,_,fun G=>by simp only [go_sem,reduceIte,↓reduceIte,reduceCtorEq,nA,nS,nM,nB,nE,nL,nT,nN,iL,iT,iE,iA,iM,iS,iG,iB,iN,iZ,h,map_gd (rFlight .ro) xs _ hk,decide_eq_true_eq,h1,idx_nt _ _ hk,wrap_nat1 (show k < 9223372036854775807 by omega),hb0] <;> with_reducible rfl,by first | exact Iff.rfl | simp,fun hc=>⟨rfl,by simp only [go_sem,reduceIte,↓reduceIte,reduceCtorEq,nA,nS,nM,nB,nE,nL,nT,nN,iL,iT,iE,iA,iM,iS,iG,iB,iN,iZ,h]⟩⟩) 0 rfl (xs.length + 1) (Nat.le_refl _)
 rw [hb0] at hr
 rcases hq with ⟨s',e1,_,e3⟩ | ⟨x,s',e1,e3⟩
 ·simp only [go_sem,reduceIte,↓reduceIte,reduceCtorEq,nA,nS,nM,nB,nE,nL,nT,nN,iL,iT,iE,iA,iM,iS,iG,iB,iN,iZ,h,hr,e3,runS_idx e1]
 ·simp only [go_sem,reduceIte,↓reduceIte,reduceCtorEq,nA,nS,nM,nB,nE,nL,nT,nN,iL,iT,iE,iA,iM,iS,iG,iB,iN,iZ,h,hr,e3,runS_idx' e1]) (rfl)
def s73 : SP Tryz.prog:=mkS tyA 73 Tryz.f73 [s181] { md:=[.ro 1,.ro 1],rets:=some ([4],[]),fz:=[3] } Tryz.func73 (by kernel_rfl)
@[go_sem] theorem d73 : s73.g = 73 ∧ s73.fs = ⟨[.ro 1,.ro 1],s73.F,false⟩:=⟨nr rfl,nr rfl⟩
@[go_sem] theorem e73 (fs : List Flight) (key : ByteArray) (h0 : fs.length ≤ 9223372036854775806) : s73.F [.sl .ro 11 (fs.map (rFlight .ro)),.s key] = some (.i .i64 (idxP (fun x=>eqv x.Key key) fs 0),[.u,.u]):=mkS_eq (0) rfl rfl (fun cx h=>by
 simp only [go_sem,reduceIte,↓reduceIte,reduceCtorEq,nA,nS,nM,nB,nE,nL,nT,nN,iL,iT,iE,iA,iM,iS,iG,iB,iN,iZ,h,h0]) (rfl)
def s280 : SP Tryz.prog:=mkS tyA 280 Tryz.f280 [] { md:=[.ro 1,.ro 1],rets:=some ([3],[]) } Tryz.func280 (by kernel_rfl)
@[go_sem] theorem d280 : s280.g = 280 ∧ s280.fs = ⟨[.ro 1,.ro 1],s280.F,false⟩:=⟨nr rfl,nr rfl⟩
@[go_sem] theorem e280 (q42 : Int) (q43 : Bool) (q44 : Int) (q45 : Bool) (req : Int) : s280.F [.agg [.i .i64 q42,.b q43,.i .i64 q44,.b q45],.pr [.i .i64 req]] = some (.b ((Waiter.mk q42 q43 q44 q45).Req == req),[.u,.u]):=mkS_eq (0) rfl rfl (fun cx h=>by
 simp only [go_sem,reduceIte,↓reduceIte,reduceCtorEq,nA,nS,nM,nB,nE,nL,nT,nN,iL,iT,iE,iA,iM,iS,iG,iB,iN,iZ,h]) (rfl)
end
end Go.Vm.A
