/- Functions of the program, walked by the evaluator. -/
import Derived.Test.YtnbhkifknleipaaGreatDoorWb
import Derived.Test.YtnbhkifknleipaaGreatDoorWa
import Derived.Test.YtnbhkifknleipaaGreatDoorFd
import Derived.Test.YtnbhkifknleipaaGreatDoorFe
import Derived.Test.YtnbhkifknleipaaGreatDoorFf
import Derived.Test.YtnbhkifknleipaaGreatDoorFl
import Derived.Test.YtnbhkifknleipaaGreatDoorFm
import Derived.Test.YtnbhkifknleipaaGreatDoorFn
set_option linter.unusedVariables false
set_option linter.unusedSimpArgs false
set_option autoImplicit false
set_option maxRecDepth 100000
set_option maxHeartbeats 4000000
namespace Go.Vm.A
open Go.Proofs
open Nat renaming reduceAdd → nA, reduceSub → nS, reduceMul → nM, reduceBEq → nB, reduceEqDiff → nE, reduceLeDiff → nL, reduceLT → nT, reduceBneDiff → nN
open Int renaming reduceLE → iL, reduceLT → iT, reduceEq → iE, reduceAdd → iA, reduceMul → iM, reduceSub → iS, reduceNeg → iG, reduceBEq → iB, reduceBNe → iN, reduceToNat → iZ
noncomputable section
def s149 : SP Tryz.prog:=mkS tyA 149 Tryz.f149 [s16] { md:=[.ro 1],rets:=some ([1],[]) } Tryz.func149 (by kernel_rfl)
@[go_sem] theorem d149 : s149.g = 149 ∧ s149.fs = ⟨[.ro 1],s149.F,false⟩:=⟨nr rfl,nr rfl⟩
@[go_sem] theorem e149 (y0 y1 y2 y3 y4 y5 y6 y7 : Int) (y8 : List ByteArray) (y9 y10 y11 y12 y13 y14 y15 y16 y17 vNext y18 y19 : Int) (y20 y21 : List Entry) (y22 : List Origin) (y23 : List Flight) (h0 : smShield (Shield.mk (Config.mk y0 y1 y2 y3 y4 y5 y6 y7 y8 (Lanes.mk y9 y10 y11) (Rules.mk y12 y13 y14 y15 y16)) y17 vNext (Store.mk y18 y19 y20 y21) y22 y23)) : s149.F [.pr [.i .i64 y0,.i .i64 y1,.i .i64 y2,.i .i64 y3,.i .i64 y4,.i .i64 y5,.i .i64 y6,.i .i64 y7,.sl .ro 1 (y8.map rStr),.i .i64 y9,.i .i64 y10,.i .i64 y11,.i .i64 y12,.i .i64 y13,.i .i64 y14,.i .i64 y15,.i .i64 y16,.i .i64 y17,.i .i64 vNext,.i .i64 y18,.i .i64 y19,.sl .ro 13 (y20.map (rEntry .ro)),.sl .ro 13 (y21.map (rEntry .ro)),.sl .ro 7 (y22.map (rOrigin .ro)),.sl .ro 11 (y23.map (rFlight .ro))]] = some (.i .i64 (flightsFault y23),[.u]):=mkS_eq (0) rfl rfl (fun cx h=>by
 have h1:=h0.2.2.2.2.2
 simp only at h1
 simp only [go_sem,reduceIte,↓reduceIte,reduceCtorEq,nA,nS,nM,nB,nE,nL,nT,nN,iL,iT,iE,iA,iM,iS,iG,iB,iN,iZ,h,h1]) (rfl)
def s245 : SP Tryz.prog:=mkS tyA 245 Tryz.f245 [s148,s238] { md:=[.ro 1,.ro 1],rets:=some ([4],[]),plan:=[(1,(.take 0 (.take 1 (.take 2 (.one 3 (.one 4 (.one 5 .done)))))))] } Tryz.func245 (by kernel_rfl)
@[go_sem] theorem d245 : s245.g = 245 ∧ s245.fs = ⟨[.ro 1,.ro 1],s245.F,false⟩:=⟨nr rfl,nr rfl⟩
@[go_sem] theorem e245 (y0 y1 y2 y3 y4 y5 y6 y7 : Int) (y8 : List ByteArray) (y9 y10 y11 y12 y13 y14 y15 y16 y17 vNext y18 y19 : Int) (y20 y21 : List Entry) (y22 : List Origin) (y23 : List Flight) (y24 y25 y26 : ByteArray) (y27 : List Header) (h0 : ((Shield.mk (Config.mk y0 y1 y2 y3 y4 y5 y6 y7 y8 (Lanes.mk y9 y10 y11) (Rules.mk y12 y13 y14 y15 y16)) y17 vNext (Store.mk y18 y19 y20 y21) y22 y23).Origins.length ≤ 9223372036854775806 ∧ (Request.mk y24 y25 y26 y27).Host.size ≤ 9223372036854775806)) : s245.F [.agg [.i .i64 y0,.i .i64 y1,.i .i64 y2,.i .i64 y3,.i .i64 y4,.i .i64 y5,.i .i64 y6,.i .i64 y7,.sl .ro 1 (y8.map rStr),.i .i64 y9,.i .i64 y10,.i .i64 y11,.i .i64 y12,.i .i64 y13,.i .i64 y14,.i .i64 y15,.i .i64 y16,.i .i64 y17,.i .i64 vNext,.i .i64 y18,.i .i64 y19,.sl .ro 13 (y20.map (rEntry .ro)),.sl .ro 13 (y21.map (rEntry .ro)),.sl .ro 7 (y22.map (rOrigin .ro)),.sl .ro 11 (y23.map (rFlight .ro))],.agg [.s y24,.s y25,.s y26,.sl .ro 2 (y27.map (rHeader .ro))]] = some (.i .i64 (originAt (Shield.mk (Config.mk y0 y1 y2 y3 y4 y5 y6 y7 y8 (Lanes.mk y9 y10 y11) (Rules.mk y12 y13 y14 y15 y16)) y17 vNext (Store.mk y18 y19 y20 y21) y22 y23).Origins (lowS (Request.mk y24 y25 y26 y27).Host)),[.u,.u]):=mkS_eq (0) rfl rfl (fun cx h=>by
 simp only [go_sem,reduceIte,↓reduceIte,reduceCtorEq,nA,nS,nM,nB,nE,nL,nT,nN,iL,iT,iE,iA,iM,iS,iG,iB,iN,iZ,h,h0.1,h0.2]) (rfl)
def s154 : SP Tryz.prog:=mkS tyA 154 Tryz.f154 [s245] { md:=[.ro 1,.ro 1],rg:=[(0,[1,2],[2]),(1,[1,2,6,7],[2]),(2,[1,2,6,7,11,12,13],[2]),(3,[1,2,6,7,11,12,13,14],[2]),(4,[1,2,6,7,9,11,12,13],[2,9]),(5,[1,2,6,7,11,12,13],[2]),(6,[1,2,6,7,9,11,12,13,19],[2,9]),(7,[1,2,6,7,11,12,13,26],[2]),(8,[1,2,6,7,11,12,13],[2]),(9,[1,2,6,7,11,12,13],[2]),(10,[4,5],[])],lv:=[(0,[1,2,6,7,11,12,13],[2])],out:=[(0,[6,7],[])],rets:=some ([4,5],[]) } Tryz.func154 (by kernel_rfl)
@[go_sem] theorem d154 : s154.g = 154 ∧ s154.fs = ⟨[.ro 1,.ro 1],s154.F,false⟩:=⟨nr rfl,nr rfl⟩
@[go_sem] theorem e154 (y0 y1 y2 y3 y4 y5 y6 y7 : Int) (y8 : List ByteArray) (y9 y10 y11 y12 y13 y14 y15 y16 y17 vNext y18 y19 : Int) (y20 y21 : List Entry) (y22 : List Origin) (y23 : List Flight) (i : Int) (h0 : ((Shield.mk (Config.mk y0 y1 y2 y3 y4 y5 y6 y7 y8 (Lanes.mk y9 y10 y11) (Rules.mk y12 y13 y14 y15 y16)) y17 vNext (Store.mk y18 y19 y20 y21) y22 y23).Origins.length ≤ 9223372036854775806 ∧ smL smFlight (Shield.mk (Config.mk y0 y1 y2 y3 y4 y5 y6 y7 y8 (Lanes.mk y9 y10 y11) (Rules.mk y12 y13 y14 y15 y16)) y17 vNext (Store.mk y18 y19 y20 y21) y22 y23).Flights)) : s154.F [.agg [.i .i64 y0,.i .i64 y1,.i .i64 y2,.i .i64 y3,.i .i64 y4,.i .i64 y5,.i .i64 y6,.i .i64 y7,.sl .ro 1 (y8.map rStr),.i .i64 y9,.i .i64 y10,.i .i64 y11,.i .i64 y12,.i .i64 y13,.i .i64 y14,.i .i64 y15,.i .i64 y16,.i .i64 y17,.i .i64 vNext,.i .i64 y18,.i .i64 y19,.sl .ro 13 (y20.map (rEntry .ro)),.sl .ro 13 (y21.map (rEntry .ro)),.sl .ro 7 (y22.map (rOrigin .ro)),.sl .ro 11 (y23.map (rFlight .ro))],.i .i64 i] = some (.tup [.i .i64 (countsV (Shield.mk (Config.mk y0 y1 y2 y3 y4 y5 y6 y7 y8 (Lanes.mk y9 y10 y11) (Rules.mk y12 y13 y14 y15 y16)) y17 vNext (Store.mk y18 y19 y20 y21) y22 y23).Origins (Shield.mk (Config.mk y0 y1 y2 y3 y4 y5 y6 y7 y8 (Lanes.mk y9 y10 y11) (Rules.mk y12 y13 y14 y15 y16)) y17 vNext (Store.mk y18 y19 y20 y21) y22 y23).Flights i).1,.i .i64 (countsV (Shield.mk (Config.mk y0 y1 y2 y3 y4 y5 y6 y7 y8 (Lanes.mk y9 y10 y11) (Rules.mk y12 y13 y14 y15 y16)) y17 vNext (Store.mk y18 y19 y20 y21) y22 y23).Origins (Shield.mk (Config.mk y0 y1 y2 y3 y4 y5 y6 y7 y8 (Lanes.mk y9 y10 y11) (Rules.mk y12 y13 y14 y15 y16)) y17 vNext (Store.mk y18 y19 y20 y21) y22 y23).Flights i).2],[.u,.u]):=mkS_eq (y23.length + 1) rfl rfl (fun cx h=>by
 have hx:=h0.2.1
 simp only at hx
 have hb0:=loopN_eq Tryz.f154 0 _ _ rfl rfl
 obtain ⟨hI,hr⟩:=loop_fold (cx:=cx) (blk:=0) (body:=loopN Tryz.f154 0) y23 (fun k (s : Int × Int)=>⟨E [(1,.i .i64 i),(2,.p ⟨false,2,[],0⟩),(6,.i .i64 s.1),(7,.i .i64 s.2),(11,.sl .ro 11 (y23.map (rFlight .ro))),(12,.i .i64 y23.length),(13,.i .i64 k)],B [(2,[.i .i64 y0,.i .i64 y1,.i .i64 y2,.i .i64 y3,.i .i64 y4,.i .i64 y5,.i .i64 y6,.i .i64 y7,.sl .ro 1 (y8.map rStr),.i .i64 y9,.i .i64 y10,.i .i64 y11,.i .i64 y12,.i .i64 y13,.i .i64 y14,.i .i64 y15,.i .i64 y16,.i .i64 y17,.i .i64 vNext,.i .i64 y18,.i .i64 y19,.sl .ro 13 (y20.map (rEntry .ro)),.sl .ro 13 (y21.map (rEntry .ro)),.sl .ro 7 (y22.map (rOrigin .ro)),.sl .ro 11 (y23.map (rFlight .ro))])]⟩) (fun s=>⟨E [(6,.i .i64 s.1),(7,.i .i64 s.2)],B []⟩) (fun x s=>countStep y22 i s x) (fun k s=>((0 ≤ s.1 ∧ s.1 ≤ k) ∧ (0 ≤ s.2 ∧ s.2 ≤ k)))
   (fun s hI G=>by simp only [go_sem,reduceIte,↓reduceIte,reduceCtorEq,nA,nS,nM,nB,nE,nL,nT,nN,iL,iT,iE,iA,iM,iS,iG,iB,iN,iZ,h,Int.lt_irrefl,hb0,hx]) (fun k hk s hI=>by
    have h1 : ((k : Int) < (y23.length : Int)):=Int.ofNat_lt.2 hk
    obtain ⟨⟨i1,i2⟩,i3,i4⟩:=hI
    have hm:=h0.2.2 _ (List.getElem_mem hk)
    have hh : y23[k].Get.Host.size ≤ 9223372036854775806:=by have : y23[k].Get.Host.size ≤ 1048576:=hm.2.2.2.2.2.2.1.2.1; omega
    have hu : placeV y22 y23[k] = originAt y22 (lowS y23[k].Get.Host):=rfl
    have hJ : (0 ≤ (countStep y22 i s y23[k]).1 ∧ (countStep y22 i s y23[k]).1 ≤ ((k + 1 : Nat) : Int)) ∧ 0 ≤ (countStep y22 i s y23[k]).2 ∧ (countStep y22 i s y23[k]).2 ≤ ((k + 1 : Nat) : Int):=by
     unfold countStep; split <;> (try split) <;> (try simp only) <;> omega
    have w1 : (IntKind.i64).wrap (s.1 + 1) = s.1 + 1:=wrap_id (by omega) (by omega)
    have w2 : (IntKind.i64).wrap (s.2 + 1) = s.2 + 1:=wrap_id (by omega) (by omega)
    cases d1 : (originAt y22 (lowS y23[k].Get.Host) != i) <;> cases d2 : y23[k].Out
    all_goals exact ⟨hJ,_,fun G=>by simp only [go_sem,reduceIte,↓reduceIte,reduceCtorEq,nA,nS,nM,nB,nE,nL,nT,nN,iL,iT,iE,iA,iM,iS,iG,iB,iN,iZ,h,hh,h0.1,d1,d2,w1,w2,map_gd (rFlight .ro) y23 k hk,h1,idx_nt _ _ hk,wrap_nat1 (show k < 9223372036854775807 by omega),hb0] <;> with_reducible rfl,by simp only [go_sem,reduceIte,↓reduceIte,reduceCtorEq,nA,nS,nM,nB,nE,nL,nT,nN,iL,iT,iE,iA,iM,iS,iG,iB,iN,iZ,h,countStep,hu,d1,d2]⟩) (0,0) (by simp) (y23.length + 1) (Nat.le_refl _)
 rw [hb0] at hr
 simp only [go_sem,reduceIte,↓reduceIte,reduceCtorEq,nA,nS,nM,nB,nE,nL,nT,nN,iL,iT,iE,iA,iM,iS,iG,iB,iN,iZ,h,hr,countsV]) (rfl)
def s151 : SP Tryz.prog:=mkS tyA 151 Tryz.f151 [s154,s227,s228,s245,s246] { md:=[.ro 1],rg:=[(0,[1],[1]),(1,[1,11,12,13],[1]),(2,[1,11,12,13,14],[1]),(3,[1,4,11,12,13],[1,4]),(4,[1,4,5,11,12,13],[1,4]),(5,[1,11,12,13,46],[1]),(6,[2],[]),(7,[1,11,12,13],[1]),(8,[1,49,50,51],[1]),(9,[1,49,50,51,52],[1]),(10,[1,6,7,49,50,51],[1,7]),(11,[1,7,8,9,49,50,51],[1,7]),(12,[1,49,50,51,74],[1]),(13,[2],[]),(14,[1,49,50,51],[1]),(15,[2],[])],lv:=[(0,[1,11,12,13],[1]),(2,[1,49,50,51],[1])],out:=[(0,[1],[1]),(2,[1],[1])],rets:=some ([2],[]),al:=[56],plan:=[(5,(.take 0 (.take 1 (.take 2 (.take 3 (.take 4 (.take 5 (.take 6 (.take 7 (.take 8 (.take 9 (.take 10 (.take 11 (.take 12 (.take 13 (.take 14 (.take 15 (.take 16 (.take 17 (.take 18 (.take 19 (.take 20 (.take 21 (.one 22 (.take 23 (.take 24 (.take 25 .done)))))))))))))))))))))))))))],fz:=[1] } Tryz.func151 (by kernel_rfl)
@[go_sem] theorem d151 : s151.g = 151 ∧ s151.fs = ⟨[.ro 1],s151.F,false⟩:=⟨nr rfl,nr rfl⟩
@[go_sem] theorem e151 (y0 y1 y2 y3 y4 y5 y6 y7 : Int) (y8 : List ByteArray) (y9 y10 y11 y12 y13 y14 y15 y16 y17 vNext y18 y19 : Int) (y20 y21 : List Entry) (y22 : List Origin) (y23 : List Flight) (h0 : smShield (Shield.mk (Config.mk y0 y1 y2 y3 y4 y5 y6 y7 y8 (Lanes.mk y9 y10 y11) (Rules.mk y12 y13 y14 y15 y16)) y17 vNext (Store.mk y18 y19 y20 y21) y22 y23)) : s151.F [.agg [.i .i64 y0,.i .i64 y1,.i .i64 y2,.i .i64 y3,.i .i64 y4,.i .i64 y5,.i .i64 y6,.i .i64 y7,.sl .ro 1 (y8.map rStr),.i .i64 y9,.i .i64 y10,.i .i64 y11,.i .i64 y12,.i .i64 y13,.i .i64 y14,.i .i64 y15,.i .i64 y16,.i .i64 y17,.i .i64 vNext,.i .i64 y18,.i .i64 y19,.sl .ro 13 (y20.map (rEntry .ro)),.sl .ro 13 (y21.map (rEntry .ro)),.sl .ro 7 (y22.map (rOrigin .ro)),.sl .ro 11 (y23.map (rFlight .ro))]] = some (.b (fitsV (Shield.mk (Config.mk y0 y1 y2 y3 y4 y5 y6 y7 y8 (Lanes.mk y9 y10 y11) (Rules.mk y12 y13 y14 y15 y16)) y17 vNext (Store.mk y18 y19 y20 y21) y22 y23)),[.u]):=mkS_eq (max y23.length y22.length + 1) rfl rfl (fun cx h=>by
 obtain ⟨q0,q1,q2,q3,q4,q5⟩:=h0
 simp only at q3 q4 q5
 have hx0:=q5.1
 have hx1:=q4.1
 have hL : y22.length ≤ 9223372036854775806:=by omega
 have hle : y20.length ≤ 1048576 ∧ y21.length ≤ 1048576:=⟨q3.2.2.1.1,q3.2.2.2.1⟩
 have hal : (y20 ++ y21).length ≤ 9223372036854775806:=by rw [List.length_append]; omega
 have hb0:=loopN_eq Tryz.f151 0 _ _ rfl rfl
 obtain ⟨z0,hz0,hqz0⟩:=loop_srch (cx:=cx) (blk:=0) (body:=loopN Tryz.f151 0) y23 (fun k (s : Unit)=>⟨E [(1,.pr [.i .i64 y0,.i .i64 y1,.i .i64 y2,.i .i64 y3,.i .i64 y4,.i .i64 y5,.i .i64 y6,.i .i64 y7,.sl .ro 1 (y8.map rStr),.i .i64 y9,.i .i64 y10,.i .i64 y11,.i .i64 y12,.i .i64 y13,.i .i64 y14,.i .i64 y15,.i .i64 y16,.i .i64 y17,.i .i64 vNext,.i .i64 y18,.i .i64 y19,.sl .ro 13 (y20.map (rEntry .ro)),.sl .ro 13 (y21.map (rEntry .ro)),.sl .ro 7 (y22.map (rOrigin .ro)),.sl .ro 11 (y23.map (rFlight .ro))]),(11,.sl .ro 11 (y23.map (rFlight .ro))),(12,.i .i64 y23.length),(13,.i .i64 k)],B [(1,[])]⟩) (fun s=>⟨E [(1,.pr [.i .i64 y0,.i .i64 y1,.i .i64 y2,.i .i64 y3,.i .i64 y4,.i .i64 y5,.i .i64 y6,.i .i64 y7,.sl .ro 1 (y8.map rStr),.i .i64 y9,.i .i64 y10,.i .i64 y11,.i .i64 y12,.i .i64 y13,.i .i64 y14,.i .i64 y15,.i .i64 y16,.i .i64 y17,.i .i64 vNext,.i .i64 y18,.i .i64 y19,.sl .ro 13 (y20.map (rEntry .ro)),.sl .ro 13 (y21.map (rEntry .ro)),.sl .ro 7 (y22.map (rOrigin .ro)),.sl .ro 11 (y23.map (rFlight .ro))])],B [(1,[])]⟩) (fun x s=>!flightFits y22 vNext x) (fun x s=>()) (fun x s=>(.ret,⟨E [(2,.b false)],B []⟩)) (fun k s=>True)
   (fun s hI G=>by simp only [go_sem,reduceIte,↓reduceIte,reduceCtorEq,nA,nS,nM,nB,nE,nL,nT,nN,iL,iT,iE,iA,iM,iS,iG,iB,iN,iZ,h,Int.lt_irrefl,hb0,hx0]) (fun k hk s hI=>by
    have h1 : ((k : Int) < (y23.length : Int)):=Int.ofNat_lt.2 hk
    have hm:=q5.2 _ (List.getElem_mem hk)
    have hh : y23[k].Get.Host.size ≤ 9223372036854775806:=by have : y23[k].Get.Host.size ≤ 1048576:=hm.2.2.2.2.2.2.1.2.1; omega
    have hp : placeV y22 y23[k] = originAt y22 (lowS y23[k].Get.Host):=rfl
    have hf : flightFits y22 vNext y23[k] = (decide (y23[k].Id < vNext) && decide (0 ≤ placeV y22 y23[k]) && (y23[k].Out || decide (0 ≤ waitsB ((y22[(placeV y22 y23[k]).toNat]?.map (·.Bulk)).getD ⟨0,[]⟩) y23[k].Id))):=rfl
    rw [hp] at hf
    generalize hA : originAt y22 (lowS y23[k].Get.Host) = A at hf
    by_cases c1 : vNext ≤ y23[k].Id
    ·have hC : (!flightFits y22 vNext y23[k]) = true:=by
      have c1' : ¬ (y23[k].Id < vNext):=by omega
      rw [hf]; simp [c1']
     have e1:=hL
     have e2:=hL
     have e3:=hL
     have e4:=hL
     exact ⟨True,inferInstance,⟨E [],B []⟩,fun G=>by rw [if_pos trivial]; simp only [go_sem,reduceIte,↓reduceIte,reduceCtorEq,nA,nS,nM,nB,nE,nL,nT,nN,iL,iT,iE,iA,iM,iS,iG,iB,iN,iZ,h,map_gd (rFlight .ro) y23 k hk,hL,hh,c1,hA,h1,idx_nt _ _ hk,wrap_nat1 (show k < 9223372036854775807 by omega),hb0],⟨fun _=>hC,fun _=>trivial⟩,fun hc=>absurd (hC.symm.trans hc) (by decide)⟩
    have c1' : y23[k].Id < vNext:=by omega
    by_cases c2 : A < 0
    ·have hC : (!flightFits y22 vNext y23[k]) = true:=by
      have c2' : ¬ (0 ≤ A):=by omega
      rw [hf]; simp [c2']
     have e1:=hL
     have e2:=hL
     have e3:=hL
     have e4:=hL
     exact ⟨True,inferInstance,⟨E [],B []⟩,fun G=>by rw [if_pos trivial]; simp only [go_sem,reduceIte,↓reduceIte,reduceCtorEq,nA,nS,nM,nB,nE,nL,nT,nN,iL,iT,iE,iA,iM,iS,iG,iB,iN,iZ,h,map_gd (rFlight .ro) y23 k hk,hL,hh,c1,c2,hA,h1,idx_nt _ _ hk,wrap_nat1 (show k < 9223372036854775807 by omega),hb0],⟨fun _=>hC,fun _=>trivial⟩,fun hc=>absurd (hC.symm.trans hc) (by decide)⟩
    have c2' : 0 ≤ A:=by omega
    obtain ⟨j,hj1,hj2⟩:=idxP_in (fun x : Origin=>eqv x.Host (lowS y23[k].Get.Host)) y22 (by have : originAt y22 (lowS y23[k].Get.Host) = idxP (fun x : Origin=>eqv x.Host (lowS y23[k].Get.Host)) y22 0:=rfl; rw [← this,hA]; exact c2)
    have hAj : A = (j : Int):=by rw [← hA]; exact hj2
    rw [hAj] at hf hA
    have hg : ((y22[((j : Nat) : Int).toNat]?.map (·.Bulk)).getD ⟨0,[]⟩) = y22[j].Bulk:=by rw [Int.toNat_natCast,List.getElem?_eq_getElem hj1]; rfl
    rw [hg] at hf
    have hjn : ¬ ((j : Int) < 0):=by omega
    have hjz : (0 : Int) ≤ (j : Int):=by omega
    have hq : y22[j].Bulk.Queue.length ≤ 9223372036854775806:=by have : y22[j].Bulk.Queue.length ≤ 1048576:=(q4.2 _ (List.getElem_mem hj1)).2.1.2.1; omega
    have hwm : waitsB (Bulk.mk y22[j].Bulk.Busy y22[j].Bulk.Queue) y23[k].Id = waitsB y22[j].Bulk y23[k].Id:=rfl
    have e1:=idx_nt y22.length j hj1
    have e2:=map_gd (rOrigin .ro) y22 j hj1
    cases c3 : y23[k].Out
    ·by_cases c4 : waitsB y22[j].Bulk y23[k].Id < 0
     ·have hC : (!flightFits y22 vNext y23[k]) = true:=by
       have c4' : ¬ (0 ≤ waitsB y22[j].Bulk y23[k].Id):=by omega
       rw [hf]; simp [c3,c4']
      have e3:=hL
      have e4:=hL
      exact ⟨True,inferInstance,⟨E [],B []⟩,fun G=>by rw [if_pos trivial]; simp only [go_sem,reduceIte,↓reduceIte,reduceCtorEq,nA,nS,nM,nB,nE,nL,nT,nN,iL,iT,iE,iA,iM,iS,iG,iB,iN,iZ,h,map_gd (rFlight .ro) y23 k hk,hL,hh,c1,hjn,hA,e1,e2,c3,c4,hq,hwm,h1,idx_nt _ _ hk,wrap_nat1 (show k < 9223372036854775807 by omega),hb0],⟨fun _=>hC,fun _=>trivial⟩,fun hc=>absurd (hC.symm.trans hc) (by decide)⟩
     ·have hC : (!flightFits y22 vNext y23[k]) = false:=by
       have c4' : 0 ≤ waitsB y22[j].Bulk y23[k].Id:=by omega
       rw [hf]; simp [c1',c3,c4',hjz]
      have e3:=hL
      have e4:=hL
      exact ⟨False,inferInstance,_,fun G=>by rw [if_neg (fun h=>h)]; simp only [go_sem,reduceIte,↓reduceIte,reduceCtorEq,nA,nS,nM,nB,nE,nL,nT,nN,iL,iT,iE,iA,iM,iS,iG,iB,iN,iZ,h,map_gd (rFlight .ro) y23 k hk,hL,hh,c1,hjn,hA,e1,e2,c3,c4,hq,hwm,h1,idx_nt _ _ hk,wrap_nat1 (show k < 9223372036854775807 by omega),hb0] <;> with_reducible rfl,⟨fun h=>h.elim,fun h=>absurd (h.symm.trans hC) (by decide)⟩,fun hc=>⟨trivial,by simp only [go_sem,reduceIte,↓reduceIte,reduceCtorEq,nA,nS,nM,nB,nE,nL,nT,nN,iL,iT,iE,iA,iM,iS,iG,iB,iN,iZ,h]⟩⟩
    ·have hC : (!flightFits y22 vNext y23[k]) = false:=by rw [hf]; simp [c1',c3,hjz]
     have c4:=hL
     have hwm:=hL
     have e3:=hL
     have e4:=hL
     exact ⟨False,inferInstance,_,fun G=>by rw [if_neg (fun h=>h)]; simp only [go_sem,reduceIte,↓reduceIte,reduceCtorEq,nA,nS,nM,nB,nE,nL,nT,nN,iL,iT,iE,iA,iM,iS,iG,iB,iN,iZ,h,map_gd (rFlight .ro) y23 k hk,hL,hh,c1,hjn,hA,c3,h1,idx_nt _ _ hk,wrap_nat1 (show k < 9223372036854775807 by omega),hb0] <;> with_reducible rfl,⟨fun h=>h.elim,fun h=>absurd (h.symm.trans hC) (by decide)⟩,fun hc=>⟨trivial,by simp only [go_sem,reduceIte,↓reduceIte,reduceCtorEq,nA,nS,nM,nB,nE,nL,nT,nN,iL,iT,iE,iA,iM,iS,iG,iB,iN,iZ,h]⟩⟩) () trivial (max y23.length y22.length + 1) (by omega)
 rw [hb0] at hz0
 rcases hqz0 with ⟨s0,e1,_,e3⟩ | ⟨x,s0,e1,e3⟩
 rotate_left
 ·have e2:=runS_all' e1
  simp only [go_sem,reduceIte,↓reduceIte,reduceCtorEq,nA,nS,nM,nB,nE,nL,nT,nN,iL,iT,iE,iA,iM,iS,iG,iB,iN,iZ,h,hz0,e3,e2,fitsV]
 have e2:=runS_all e1
 have hb1:=loopN_eq Tryz.f151 1 _ _ rfl rfl
 obtain ⟨z1,hz1,hqz1⟩:=loop_srch (cx:=cx) (blk:=2) (body:=loopN Tryz.f151 1) y22 (fun k (s : Nat)=>⟨E [(1,.pr [.i .i64 y0,.i .i64 y1,.i .i64 y2,.i .i64 y3,.i .i64 y4,.i .i64 y5,.i .i64 y6,.i .i64 y7,.sl .ro 1 (y8.map rStr),.i .i64 y9,.i .i64 y10,.i .i64 y11,.i .i64 y12,.i .i64 y13,.i .i64 y14,.i .i64 y15,.i .i64 y16,.i .i64 y17,.i .i64 vNext,.i .i64 y18,.i .i64 y19,.sl .ro 13 (y20.map (rEntry .ro)),.sl .ro 13 (y21.map (rEntry .ro)),.sl .ro 7 (y22.map (rOrigin .ro)),.sl .ro 11 (y23.map (rFlight .ro))]),(49,.sl .ro 7 (y22.map (rOrigin .ro))),(50,.i .i64 y22.length),(51,.i .i64 k)],B [(1,[])]⟩) (fun s=>⟨E [(1,.pr [.i .i64 y0,.i .i64 y1,.i .i64 y2,.i .i64 y3,.i .i64 y4,.i .i64 y5,.i .i64 y6,.i .i64 y7,.sl .ro 1 (y8.map rStr),.i .i64 y9,.i .i64 y10,.i .i64 y11,.i .i64 y12,.i .i64 y13,.i .i64 y14,.i .i64 y15,.i .i64 y16,.i .i64 y17,.i .i64 vNext,.i .i64 y18,.i .i64 y19,.sl .ro 13 (y20.map (rEntry .ro)),.sl .ro 13 (y21.map (rEntry .ro)),.sl .ro 7 (y22.map (rOrigin .ro)),.sl .ro 11 (y23.map (rFlight .ro))])],B [(1,[])]⟩) (fun x s=>!originFits y22 y23 (s : Nat) x) (fun x s=>s + 1) (fun x s=>(.ret,⟨E [(2,.b false)],B []⟩)) (fun k s=>k = s)
   (fun s hI G=>by simp only [go_sem,reduceIte,↓reduceIte,reduceCtorEq,nA,nS,nM,nB,nE,nL,nT,nN,iL,iT,iE,iA,iM,iS,iG,iB,iN,iZ,h,Int.lt_irrefl,hb1,hx1]) (fun k hk s hI=>by
    have h1 : ((k : Int) < (y22.length : Int)):=Int.ofNat_lt.2 hk
    obtain rfl:=hI
    have hf : originFits y22 y23 (k : Int) y22[k] = (((countsV y22 y23 (k : Int)).1 == y22[k].Bulk.Busy) && ((countsV y22 y23 (k : Int)).2 == (y22[k].Bulk.Queue.length : Int))):=rfl
    cases d1 : ((countsV y22 y23 (k : Int)).1 == y22[k].Bulk.Busy)
    ·have hC : (!originFits y22 y23 (k : Int) y22[k]) = true:=by rw [hf,d1]; rfl
     have d2:=hL
     exact ⟨True,inferInstance,⟨E [],B []⟩,fun G=>by rw [if_pos trivial]; simp only [go_sem,reduceIte,↓reduceIte,reduceCtorEq,nA,nS,nM,nB,nE,nL,nT,nN,iL,iT,iE,iA,iM,iS,iG,iB,iN,iZ,h,map_gd (rOrigin .ro) y22 k hk,hL,q5,bne,d1,h1,idx_nt _ _ hk,wrap_nat1 (show k < 9223372036854775807 by omega),hb1],⟨fun _=>hC,fun _=>trivial⟩,fun hc=>absurd (hC.symm.trans hc) (by decide)⟩
    cases d2 : ((countsV y22 y23 (k : Int)).2 == (y22[k].Bulk.Queue.length : Int))
    ·have hC : (!originFits y22 y23 (k : Int) y22[k]) = true:=by rw [hf,d1,d2]; rfl
     exact ⟨True,inferInstance,⟨E [],B []⟩,fun G=>by rw [if_pos trivial]; simp only [go_sem,reduceIte,↓reduceIte,reduceCtorEq,nA,nS,nM,nB,nE,nL,nT,nN,iL,iT,iE,iA,iM,iS,iG,iB,iN,iZ,h,map_gd (rOrigin .ro) y22 k hk,hL,q5,bne,d1,d2,h1,idx_nt _ _ hk,wrap_nat1 (show k < 9223372036854775807 by omega),hb1],⟨fun _=>hC,fun _=>trivial⟩,fun hc=>absurd (hC.symm.trans hc) (by decide)⟩
    ·have hC : (!originFits y22 y23 (k : Int) y22[k]) = false:=by rw [hf,d1,d2]; rfl
     exact ⟨False,inferInstance,_,fun G=>by rw [if_neg (fun h=>h)]; simp only [go_sem,reduceIte,↓reduceIte,reduceCtorEq,nA,nS,nM,nB,nE,nL,nT,nN,iL,iT,iE,iA,iM,iS,iG,iB,iN,iZ,h,map_gd (rOrigin .ro) y22 k hk,hL,q5,bne,d1,d2,h1,idx_nt _ _ hk,wrap_nat1 (show k < 9223372036854775807 by omega),hb1] <;> with_reducible rfl,⟨fun h=>h.elim,fun h=>absurd (h.symm.trans hC) (by decide)⟩,fun hc=>⟨rfl,by simp only [go_sem,reduceIte,↓reduceIte,reduceCtorEq,nA,nS,nM,nB,nE,nL,nT,nN,iL,iT,iE,iA,iM,iS,iG,iB,iN,iZ,h]⟩⟩) 0 rfl (max y23.length y22.length + 1) (by omega)
 rw [hb1] at hz1
 rcases hqz1 with ⟨s1,k1,_,k3⟩ | ⟨x,s1,k1,k3⟩
 rotate_left
 ·have k2:=originsFit_inr k1
  simp only [go_sem,reduceIte,↓reduceIte,reduceCtorEq,nA,nS,nM,nB,nE,nL,nT,nN,iL,iT,iE,iA,iM,iS,iG,iB,iN,iZ,h,hz0,e3,e2,hz1,k3,k2,fitsV]
 have k2:=originsFit_inl k1
 have ha:=hal
 generalize hall : y20 ++ y21 = all at ha
 have tk : List.take all.length (List.map (rEntry .ro) all) = List.map (rEntry .ro) all:=List.take_of_length_le (by simp)
 cases b : (all.any fun x=>!entryFits y17 x) <;> simp only [go_sem,reduceIte,↓reduceIte,reduceCtorEq,nA,nS,nM,nB,nE,nL,nT,nN,iL,iT,iE,iA,iM,iS,iG,iB,iN,iZ,h,hz0,e3,e2,hz1,k3,k2,hle,hall,ha,tk,b,List.length_map,fitsV]) (rfl)
end
end Go.Vm.A
