/- Functions of the program, walked by the evaluator. -/
import Derived.Test.YtnbhkifknleipaaGreatDoorWb
import Derived.Test.YtnbhkifknleipaaGreatDoorWa
import Derived.Test.YtnbhkifknleipaaGreatDoorFd
import Derived.Test.YtnbhkifknleipaaGreatDoorFe
import Derived.Test.YtnbhkifknleipaaGreatDoorFm
import Derived.Test.YtnbhkifknleipaaGreatDoorFo
import Derived.Test.YtnbhkifknleipaaGreatDoorFp
set_option linter.unusedVariables false
set_option linter.unusedSimpArgs false
set_option autoImplicit false
set_option maxRecDepth 100000
set_option maxHeartbeats 4000000
namespace Go.Vm.A
open Go.Proofs
open Nat renaming reduceAdd → nA, reduceSub → nS, reduceMul → nM, reduceBEq → nB, reduceEqDiff → nE, reduceLeDiff → nL, reduceLT → nT, reduceBneDiff → nN
open Int renaming reduceLE → iL, reduceLT → iT, reduceEq → iE, reduceAdd → iA, reduceMul → iM, reduceSub → iS, reduceNeg → iG, reduceBEq → iB, reduceBNe → iN, reduceToNat → iZ
noncomputable section
def s52 : SP Tryz.prog:=mkS tyA 52 Tryz.f52 [s128,s152] { md:=[.ro 1],rg:=[(0,[1,2],[1,2]),(1,[1,2,3],[1,2]),(2,[1,2,3,7],[1,2]),(3,[2],[2]),(4,[2],[2])],rets:=some ([2],[2]) } Tryz.func52 (by kernel_rfl)
@[go_sem] theorem d52 : s52.g = 52 ∧ s52.fs = ⟨[.ro 1],s52.F,false⟩:=⟨nr rfl,nr rfl⟩
@[go_sem] theorem e52 (z0 z1 : Int) (z2 z3 : List Entry) (h0 : smStore (Store.mk z0 z1 z2 z3)) : s52.F [.agg [.i .i64 z0,.i .i64 z1,.sl .ro 13 (z2.map (rEntry .ro)),.sl .ro 13 (z3.map (rEntry .ro))]] = some (.agg (rIntResult .ro (costIn (Store.mk z0 z1 z2 z3))),[.u]):=mkS_eq (0) rfl rfl (fun cx h=>by
 have h1:=h0.2.2.1
 have h2:=h0.2.2.2
 simp only at h1 h2
 by_cases z : storeFault (Store.mk z0 z1 z2 z3) = 0
 ·simp only [go_sem,reduceIte,↓reduceIte,reduceCtorEq,nA,nS,nM,nB,nE,nL,nT,nN,iL,iT,iE,iA,iM,iS,iG,iB,iN,iZ,h,h0,h1,h2,z,costIn]
 ·have z' : (storeFault (Store.mk z0 z1 z2 z3) != 0) = true:=by simpa using z
  simp only [go_sem,reduceIte,↓reduceIte,reduceCtorEq,nA,nS,nM,nB,nE,nL,nT,nN,iL,iT,iE,iA,iM,iS,iG,iB,iN,iZ,h,h0,z',costIn]) (rfl)
@[go_sem] theorem e52_0 (b g : Int) : s52.F [.agg [.i .i64 b,.i .i64 g,.sl .ro 13 [],.sl .ro 13 []]] = some (.agg (rIntResult .ro (costIn ⟨b,g,[],[]⟩)),[.u]):=e52 b g [] [] ⟨trivial,trivial,⟨Nat.zero_le _,fun x hx=>by cases hx⟩,⟨Nat.zero_le _,fun x hx=>by cases hx⟩⟩
def s153 : SP Tryz.prog:=mkS tyA 153 Tryz.f153 [] { md:=[.ro 1],rg:=[(0,[1],[1]),(1,[1,3],[1]),(2,[3,7,8,9],[1]),(3,[3,7,8,9,10],[1]),(4,[3,5,7,8,9],[1,5]),(5,[3,7,8,9],[1]),(6,[3,7,8,9],[1]),(7,[2],[])],lv:=[(0,[3,7,8,9],[1])],out:=[(0,[3],[])],rets:=some ([2],[]) } Tryz.func153 (by kernel_rfl)
@[go_sem] theorem d153 : s153.g = 153 ∧ s153.fs = ⟨[.ro 1],s153.F,false⟩:=⟨nr rfl,nr rfl⟩
@[go_sem] theorem e153 (z4 z5 z6 z7 z8 z9 z10 z11 : Int) (z12 : List ByteArray) (z13 z14 z15 z16 z17 z18 z19 z20 z21 z22 z23 z24 : Int) (z25 z26 : List Entry) (z27 : List Origin) (z28 : List Flight) (h0 : smL smFlight (Shield.mk (Config.mk z4 z5 z6 z7 z8 z9 z10 z11 z12 (Lanes.mk z13 z14 z15) (Rules.mk z16 z17 z18 z19 z20)) z21 z22 (Store.mk z23 z24 z25 z26) z27 z28).Flights) : s153.F [.agg [.i .i64 z4,.i .i64 z5,.i .i64 z6,.i .i64 z7,.i .i64 z8,.i .i64 z9,.i .i64 z10,.i .i64 z11,.sl .ro 1 (z12.map rStr),.i .i64 z13,.i .i64 z14,.i .i64 z15,.i .i64 z16,.i .i64 z17,.i .i64 z18,.i .i64 z19,.i .i64 z20,.i .i64 z21,.i .i64 z22,.i .i64 z23,.i .i64 z24,.sl .ro 13 (z25.map (rEntry .ro)),.sl .ro 13 (z26.map (rEntry .ro)),.sl .ro 7 (z27.map (rOrigin .ro)),.sl .ro 11 (z28.map (rFlight .ro))]] = some (.i .i64 (waitingV (Shield.mk (Config.mk z4 z5 z6 z7 z8 z9 z10 z11 z12 (Lanes.mk z13 z14 z15) (Rules.mk z16 z17 z18 z19 z20)) z21 z22 (Store.mk z23 z24 z25 z26) z27 z28).Flights),[.u]):=mkS_eq (z28.length + 1) rfl rfl (fun cx h=>by
 have hx:=h0.1
 simp only at hx h0
 have hb0:=loopN_eq Tryz.f153 0 _ _ rfl rfl
 obtain ⟨hI,hr⟩:=loop_fold (cx:=cx) (blk:=0) (body:=loopN Tryz.f153 0) z28 (fun k (s : Int)=>⟨E [(3,.i .i64 s),(7,.sl .ro 11 (z28.map (rFlight .ro))),(8,.i .i64 z28.length),(9,.i .i64 k)],B [(1,[.i .i64 z4,.i .i64 z5,.i .i64 z6,.i .i64 z7,.i .i64 z8,.i .i64 z9,.i .i64 z10,.i .i64 z11,.sl .ro 1 (z12.map rStr),.i .i64 z13,.i .i64 z14,.i .i64 z15,.i .i64 z16,.i .i64 z17,.i .i64 z18,.i .i64 z19,.i .i64 z20,.i .i64 z21,.i .i64 z22,.i .i64 z23,.i .i64 z24,.sl .ro 13 (z25.map (rEntry .ro)),.sl .ro 13 (z26.map (rEntry .ro)),.sl .ro 7 (z27.map (rOrigin .ro)),.sl .ro 11 (z28.map (rFlight .ro))])]⟩) (fun s=>⟨E [(3,.i .i64 s)],B []⟩) (fun x s=>s + (x.Waiters.length : Int)) (fun k s=>(0 ≤ s ∧ s ≤ (k : Int) * 1048576))
   (fun s hI G=>by simp only [go_sem,reduceIte,↓reduceIte,reduceCtorEq,nA,nS,nM,nB,nE,nL,nT,nN,iL,iT,iE,iA,iM,iS,iG,iB,iN,iZ,h,Int.lt_irrefl,hb0,hx]) (fun k hk s hI=>by
    have h1 : ((k : Int) < (z28.length : Int)):=Int.ofNat_lt.2 hk
    obtain ⟨i1,i2⟩:=hI
    have hw : z28[k].Waiters.length ≤ 1048576:=(h0.2 _ (List.getElem_mem hk)).2.2.2.2.2.2.2.1
    have hb1 : (k : Int) * 1048576 ≤ 1048576 * 1048576:=Int.mul_le_mul_of_nonneg_right (by omega) (by decide)
    have hJ : 0 ≤ s + (z28[k].Waiters.length : Int) ∧ s + (z28[k].Waiters.length : Int) ≤ ((k + 1 : Nat) : Int) * 1048576:=by
     rw [Int.natCast_add,Int.add_mul]; constructor <;> omega
    have w1 : (IntKind.i64).wrap (s + (z28[k].Waiters.length : Int)) = s + (z28[k].Waiters.length : Int):=wrap_id (by omega) (by omega)
    exact ⟨hJ,_,fun G=>by simp only [go_sem,reduceIte,↓reduceIte,reduceCtorEq,nA,nS,nM,nB,nE,nL,nT,nN,iL,iT,iE,iA,iM,iS,iG,iB,iN,iZ,h,w1,map_gd (rFlight .ro) z28 k hk,h1,idx_nt _ _ hk,wrap_nat1 (show k < 9223372036854775807 by omega),hb0] <;> with_reducible rfl,by simp only [go_sem,reduceIte,↓reduceIte,reduceCtorEq,nA,nS,nM,nB,nE,nL,nT,nN,iL,iT,iE,iA,iM,iS,iG,iB,iN,iZ,h]⟩) 0 (by simp) (z28.length + 1) (Nat.le_refl _)
 rw [hb0] at hr
 simp only [go_sem,reduceIte,↓reduceIte,reduceCtorEq,nA,nS,nM,nB,nE,nL,nT,nN,iL,iT,iE,iA,iM,iS,iG,iB,iN,iZ,h,hr,waitingV]) (rfl)
def s53 : SP Tryz.prog:=mkS tyA 53 Tryz.f53 [s51,s153] { md:=[.ro 1],rg:=[(0,[1,2],[1,2]),(1,[1,2,3],[1,2]),(2,[1,2,3,7],[1,2]),(3,[2],[2]),(4,[2],[2])],rets:=some ([2],[2]) } Tryz.func53 (by kernel_rfl)
@[go_sem] theorem d53 : s53.g = 53 ∧ s53.fs = ⟨[.ro 1],s53.F,false⟩:=⟨nr rfl,nr rfl⟩
@[go_sem] theorem e53 (z4 z5 z6 z7 z8 z9 z10 z11 : Int) (z12 : List ByteArray) (z13 z14 z15 z16 z17 z18 z19 z20 z21 z22 z23 z24 : Int) (z25 z26 : List Entry) (z27 : List Origin) (z28 : List Flight) (h0 : smShield (Shield.mk (Config.mk z4 z5 z6 z7 z8 z9 z10 z11 z12 (Lanes.mk z13 z14 z15) (Rules.mk z16 z17 z18 z19 z20)) z21 z22 (Store.mk z23 z24 z25 z26) z27 z28)) : s53.F [.agg [.i .i64 z4,.i .i64 z5,.i .i64 z6,.i .i64 z7,.i .i64 z8,.i .i64 z9,.i .i64 z10,.i .i64 z11,.sl .ro 1 (z12.map rStr),.i .i64 z13,.i .i64 z14,.i .i64 z15,.i .i64 z16,.i .i64 z17,.i .i64 z18,.i .i64 z19,.i .i64 z20,.i .i64 z21,.i .i64 z22,.i .i64 z23,.i .i64 z24,.sl .ro 13 (z25.map (rEntry .ro)),.sl .ro 13 (z26.map (rEntry .ro)),.sl .ro 7 (z27.map (rOrigin .ro)),.sl .ro 11 (z28.map (rFlight .ro))]] = some (.agg (rIntResult .ro (waitingIn (Shield.mk (Config.mk z4 z5 z6 z7 z8 z9 z10 z11 z12 (Lanes.mk z13 z14 z15) (Rules.mk z16 z17 z18 z19 z20)) z21 z22 (Store.mk z23 z24 z25 z26) z27 z28))),[.u]):=mkS_eq (0) rfl rfl (fun cx h=>by
 have h2:=h0.2.2.2.2.2
 simp only at h2
 have h3 : z27.length ≤ 9223372036854775806:=by have:=h0.2.2.2.2.1.1; simp only at this; omega
 by_cases z : shieldFault (Shield.mk (Config.mk z4 z5 z6 z7 z8 z9 z10 z11 z12 (Lanes.mk z13 z14 z15) (Rules.mk z16 z17 z18 z19 z20)) z21 z22 (Store.mk z23 z24 z25 z26) z27 z28) = 0
 rotate_left
 ·have z' : (shieldFault (Shield.mk (Config.mk z4 z5 z6 z7 z8 z9 z10 z11 z12 (Lanes.mk z13 z14 z15) (Rules.mk z16 z17 z18 z19 z20)) z21 z22 (Store.mk z23 z24 z25 z26) z27 z28) != 0) = true:=by simpa using z
  simp only [go_sem,reduceIte,↓reduceIte,reduceCtorEq,nA,nS,nM,nB,nE,nL,nT,nN,iL,iT,iE,iA,iM,iS,iG,iB,iN,iZ,h,h0,z',waitingIn]
 simp only [go_sem,reduceIte,↓reduceIte,reduceCtorEq,nA,nS,nM,nB,nE,nL,nT,nN,iL,iT,iE,iA,iM,iS,iG,iB,iN,iZ,h,h0,z,h2,waitingIn]) (rfl)
def s54 : SP Tryz.prog:=mkS tyA 54 Tryz.f54 [s51,s148,s154] { md:=[.ro 1,.ro 1],rg:=[(0,[1,2,4],[2,4]),(1,[1,2,4,5],[2,4]),(2,[1,2,4,5,12],[2,4]),(3,[4],[4]),(4,[2,4,6],[2,4]),(5,[2,4,6,19],[2,4]),(6,[4],[4]),(7,[4,7],[4]),(8,[4],[4])],rets:=some ([4],[4]),al:=[21] } Tryz.func54 (by kernel_rfl)
@[go_sem] theorem d54 : s54.g = 54 ∧ s54.fs = ⟨[.ro 1,.ro 1],s54.F,false⟩:=⟨nr rfl,nr rfl⟩
@[go_sem] theorem e54 (z4 z5 z6 z7 z8 z9 z10 z11 : Int) (z12 : List ByteArray) (z13 z14 z15 z16 z17 z18 z19 z20 z21 z22 z23 z24 : Int) (z25 z26 : List Entry) (z27 : List Origin) (z28 : List Flight) (host : ByteArray) (h0 : smShield (Shield.mk (Config.mk z4 z5 z6 z7 z8 z9 z10 z11 z12 (Lanes.mk z13 z14 z15) (Rules.mk z16 z17 z18 z19 z20)) z21 z22 (Store.mk z23 z24 z25 z26) z27 z28)) : s54.F [.agg [.i .i64 z4,.i .i64 z5,.i .i64 z6,.i .i64 z7,.i .i64 z8,.i .i64 z9,.i .i64 z10,.i .i64 z11,.sl .ro 1 (z12.map rStr),.i .i64 z13,.i .i64 z14,.i .i64 z15,.i .i64 z16,.i .i64 z17,.i .i64 z18,.i .i64 z19,.i .i64 z20,.i .i64 z21,.i .i64 z22,.i .i64 z23,.i .i64 z24,.sl .ro 13 (z25.map (rEntry .ro)),.sl .ro 13 (z26.map (rEntry .ro)),.sl .ro 7 (z27.map (rOrigin .ro)),.sl .ro 11 (z28.map (rFlight .ro))],.s host] = some (.agg (rIntResult .ro (outTo (Shield.mk (Config.mk z4 z5 z6 z7 z8 z9 z10 z11 z12 (Lanes.mk z13 z14 z15) (Rules.mk z16 z17 z18 z19 z20)) z21 z22 (Store.mk z23 z24 z25 z26) z27 z28) host)),[.u,.u]):=mkS_eq (0) rfl rfl (fun cx h=>by
 have h2:=h0.2.2.2.2.2
 simp only at h2
 have h3 : z27.length ≤ 9223372036854775806:=by have:=h0.2.2.2.2.1.1; simp only at this; omega
 by_cases z : shieldFault (Shield.mk (Config.mk z4 z5 z6 z7 z8 z9 z10 z11 z12 (Lanes.mk z13 z14 z15) (Rules.mk z16 z17 z18 z19 z20)) z21 z22 (Store.mk z23 z24 z25 z26) z27 z28) = 0
 rotate_left
 ·have z' : (shieldFault (Shield.mk (Config.mk z4 z5 z6 z7 z8 z9 z10 z11 z12 (Lanes.mk z13 z14 z15) (Rules.mk z16 z17 z18 z19 z20)) z21 z22 (Store.mk z23 z24 z25 z26) z27 z28) != 0) = true:=by simpa using z
  simp only [go_sem,reduceIte,↓reduceIte,reduceCtorEq,nA,nS,nM,nB,nE,nL,nT,nN,iL,iT,iE,iA,iM,iS,iG,iB,iN,iZ,h,h0,z',outTo]
 by_cases c : originAt z27 host < 0 <;> simp only [go_sem,reduceIte,↓reduceIte,reduceCtorEq,nA,nS,nM,nB,nE,nL,nT,nN,iL,iT,iE,iA,iM,iS,iG,iB,iN,iZ,h,h0,z,h2,h3,c,outTo]) (rfl)
def s281 : SP Tryz.prog:=mkS tyA 281 Tryz.f281 [] { md:=[.ro 1,.ro 1],rg:=[(0,[0,1],[]),(1,[0,1,10],[]),(2,[4],[]),(3,[0,1,12,13],[]),(4,[0,1,12,13,14],[]),(5,[0,1,5,12,13],[]),(6,[0,1,12,13,24],[]),(7,[4],[]),(8,[0,1,12,13],[]),(9,[4],[])],lv:=[(0,[0,1,12,13],[])],out:=[(0,[],[])],rets:=some ([4],[]),plan:=[(6,(.take 0 (.take 1 (.take 2 (.take 3 (.take 4 (.take 5 (.take 6 (.take 7 (.take 8 .done))))))))))] } Tryz.func281 (by kernel_rfl)
@[go_sem] theorem d281 : s281.g = 281 ∧ s281.fs = ⟨[.ro 1,.ro 1],s281.F,false⟩:=⟨nr rfl,nr rfl⟩
@[go_sem] theorem e281 (xs ys : List Header) (h0 : smL smHeader xs) : s281.F [.sl .ro 2 (xs.map (rHeader .ro)),.sl .ro 2 (ys.map (rHeader .ro))] = some (.b (eqv xs ys),[.u,.u]):=mkS_eq (xs.length + 1) rfl rfl (fun cx h=>by
 have hx:=h0.1
 by_cases hl : xs.length = ys.length
 ·have hb0:=loopN_eq Tryz.f281 0 _ _ rfl rfl
  obtain ⟨r,hr,hq⟩:=loop_srch (cx:=cx) (blk:=0) (body:=loopN Tryz.f281 0) (xs.zip ys) (fun k (s : Unit)=>⟨E [(0,.sl .ro 2 (xs.map (rHeader .ro))),(1,.sl .ro 2 (ys.map (rHeader .ro))),(12,.i .i64 xs.length),(13,.i .i64 k)],B []⟩) (fun s=>⟨E [],B []⟩) (fun x s=>!eqv x.1 x.2) (fun x s=>s) (fun x s=>(.ret,⟨E [(4,.b false)],B []⟩)) (fun k s=>True)
    (fun s hI G=>by simp only [go_sem,reduceIte,↓reduceIte,reduceCtorEq,nA,nS,nM,nB,nE,nL,nT,nN,iL,iT,iE,iA,iM,iS,iG,iB,iN,iZ,h,Int.lt_irrefl,hb0,zip_len hl,hl]) (fun k hk s hI=>by
     have h1 : ((k : Int) < ((xs.zip ys).length : Int)):=Int.ofNat_lt.2 hk
     have hk' : k < xs.length:=by rwa [zip_len hl] at hk
     have h1' : ((k : Int) < (xs.length : Int)):=Int.ofNat_lt.2 hk'
     have h2:=h0.2 _ (List.getElem_mem hk')
     have h3 : (xs.zip ys)[k] = (xs[k],ys[k]'(by omega)):=by simp
     rw [h3]
     have h4:=h2
     obtain ⟨u0,u1⟩:=h2
     exact ⟨_,_,_,fun G=>by simp only [go_sem,reduceIte,↓reduceIte,reduceCtorEq,nA,nS,nM,nB,nE,nL,nT,nN,iL,iT,iE,iA,iM,iS,iG,iB,iN,iZ,h,h1',idx_nt _ _ hk',idx_nt ys.length k (by omega),map_gd (rHeader .ro) xs k hk',map_gd (rHeader .ro) ys k (by omega),wrap_nat1 (show k < 9223372036854775807 by omega),h4,if_oret,Header.eqv xs[k] (ys[k]'(by omega)),u0,u1,eqv_byte,eqv_intne,eqv_int,eqv_bytes,eqv_boolne,h1,idx_nt _ _ hk,wrap_nat1 (show k < 9223372036854775807 by omega),hb0] <;> with_reducible rfl,by first | exact Iff.rfl | ((simp only [Header.eqv xs[k] (ys[k]'(by omega))] <;> simp) <;> done) | ((simp only [Header.eqv xs[k] (ys[k]'(by omega))] <;> simp [eqv]) <;> done) | (simp only [Header.eqv xs[k] (ys[k]'(by omega))] <;> simp [eqv] <;> (by_cases g : xs[k].Get = (ys[k]'(by omega)).Get <;> simp [g])),fun hc=>⟨trivial,by simp only [go_sem,reduceIte,↓reduceIte,reduceCtorEq,nA,nS,nM,nB,nE,nL,nT,nN,iL,iT,iE,iA,iM,iS,iG,iB,iN,iZ,h]⟩⟩) () trivial (xs.length + 1) (by rw [zip_len hl]; exact Nat.le_refl _)
  rw [hb0] at hr
  have hl2 : ((xs.length : Int) != (ys.length : Int)) = false:=by simp [hl]
  rcases hq with ⟨s',e1,_,e3⟩ | ⟨x,s',e1,e3⟩
  ·simp only [go_sem,reduceIte,↓reduceIte,reduceCtorEq,nA,nS,nM,nB,nE,nL,nT,nN,iL,iT,iE,iA,iM,iS,iG,iB,iN,iZ,h,hl2,hr,e3,zip_eqv hl e1]
  ·simp only [go_sem,reduceIte,↓reduceIte,reduceCtorEq,nA,nS,nM,nB,nE,nL,nT,nN,iL,iT,iE,iA,iM,iS,iG,iB,iN,iZ,h,hl2,hr,e3,zip_nev hl e1]
 ·have hl2 : ((xs.length : Int) != (ys.length : Int)) = true:=by simpa using fun h=>hl (Int.ofNat_inj.1 h)
  simp only [go_sem,reduceIte,↓reduceIte,reduceCtorEq,nA,nS,nM,nB,nE,nL,nT,nN,iL,iT,iE,iA,iM,iS,iG,iB,iN,iZ,h,hl2,len_nev hl]) (rfl)
def s189 : SP Tryz.prog:=mkS tyA 189 Tryz.f189 [s281] { md:=[.ro 1,.ro 1],rets:=some ([4],[]) } Tryz.func189 (by kernel_rfl)
@[go_sem] theorem d189 : s189.g = 189 ∧ s189.fs = ⟨[.ro 1,.ro 1],s189.F,false⟩:=⟨nr rfl,nr rfl⟩
@[go_sem] theorem e189 (z29 z30 z31 : ByteArray) (z32 : List Header) (z33 z34 z35 : ByteArray) (z36 : List Header) (h0 : smRequest (Request.mk z29 z30 z31 z32)) : s189.F [.agg [.s z29,.s z30,.s z31,.sl .ro 2 (z32.map (rHeader .ro))],.agg [.s z33,.s z34,.s z35,.sl .ro 2 (z36.map (rHeader .ro))]] = some (.b (eqv (Request.mk z29 z30 z31 z32) (Request.mk z33 z34 z35 z36)),[.u,.u]):=mkS_eq (0) rfl rfl (fun cx h=>by
 obtain ⟨q0,q1,q2,q3⟩:=h0
 simp only [go_sem,reduceIte,↓reduceIte,reduceCtorEq,nA,nS,nM,nB,nE,nL,nT,nN,iL,iT,iE,iA,iM,iS,iG,iB,iN,iZ,h,eqv_intne,eqv_int,eqv_bytes,eqv_boolne,eqv_bool,eqv_mk,q0,q1,q2,q3]
 simp only [Request.eqv (Request.mk z29 z30 z31 z32) (Request.mk z33 z34 z35 z36),if_sb,if_and',if_or',Bool.and_true,Bool.and_assoc]) (rfl)
def s190 : SP Tryz.prog:=mkS tyA 190 Tryz.f190 [] { md:=[.ro 1,.ro 1],rg:=[(0,[0,1],[]),(1,[0,1,10],[]),(2,[4],[]),(3,[0,1,12,13],[]),(4,[0,1,12,13,14],[]),(5,[0,1,5,12,13],[]),(6,[0,1,12,13,24],[]),(7,[4],[]),(8,[0,1,12,13],[]),(9,[4],[])],lv:=[(0,[0,1,12,13],[])],out:=[(0,[],[])],rets:=some ([4],[]),plan:=[(6,(.take 0 (.take 1 (.take 2 (.take 3 (.take 4 (.take 5 (.take 6 (.take 7 (.take 8 .done))))))))))] } Tryz.func190 (by kernel_rfl)
@[go_sem] theorem d190 : s190.g = 190 ∧ s190.fs = ⟨[.ro 1,.ro 1],s190.F,false⟩:=⟨nr rfl,nr rfl⟩
@[go_sem] theorem e190 (xs ys : List Waiter) (h0 : smL smWaiter xs) : s190.F [.sl .ro 4 (xs.map (rWaiter .ro)),.sl .ro 4 (ys.map (rWaiter .ro))] = some (.b (eqv xs ys),[.u,.u]):=mkS_eq (xs.length + 1) rfl rfl (fun cx h=>by
 have hx:=h0.1
 by_cases hl : xs.length = ys.length
 ·have hb0:=loopN_eq Tryz.f190 0 _ _ rfl rfl
  obtain ⟨r,hr,hq⟩:=loop_srch (cx:=cx) (blk:=0) (body:=loopN Tryz.f190 0) (xs.zip ys) (fun k (s : Unit)=>⟨E [(0,.sl .ro 4 (xs.map (rWaiter .ro))),(1,.sl .ro 4 (ys.map (rWaiter .ro))),(12,.i .i64 xs.length),(13,.i .i64 k)],B []⟩) (fun s=>⟨E [],B []⟩) (fun x s=>!eqv x.1 x.2) (fun x s=>s) (fun x s=>(.ret,⟨E [(4,.b false)],B []⟩)) (fun k s=>True)
    (fun s hI G=>by simp only [go_sem,reduceIte,↓reduceIte,reduceCtorEq,nA,nS,nM,nB,nE,nL,nT,nN,iL,iT,iE,iA,iM,iS,iG,iB,iN,iZ,h,Int.lt_irrefl,hb0,zip_len hl,hl]) (fun k hk s hI=>by
     have h1 : ((k : Int) < ((xs.zip ys).length : Int)):=Int.ofNat_lt.2 hk
     have hk' : k < xs.length:=by rwa [zip_len hl] at hk
     have h1' : ((k : Int) < (xs.length : Int)):=Int.ofNat_lt.2 hk'
     have h2:=h0.2 _ (List.getElem_mem hk')
     have h3 : (xs.zip ys)[k] = (xs[k],ys[k]'(by omega)):=by simp
     rw [h3]
     have h4:=h2
     obtain ⟨u0,u1,u2,u3⟩:=h2
     exact ⟨_,_,_,fun G=>by simp only [go_sem,reduceIte,↓reduceIte,reduceCtorEq,nA,nS,nM,nB,nE,nL,nT,nN,iL,iT,iE,iA,iM,iS,iG,iB,iN,iZ,h,h1',idx_nt _ _ hk',idx_nt ys.length k (by omega),map_gd (rWaiter .ro) xs k hk',map_gd (rWaiter .ro) ys k (by omega),wrap_nat1 (show k < 9223372036854775807 by omega),h4,if_oret,Waiter.eqv xs[k] (ys[k]'(by omega)),u0,u1,u2,u3,eqv_byte,eqv_intne,eqv_int,eqv_bytes,eqv_boolne,h1,idx_nt _ _ hk,wrap_nat1 (show k < 9223372036854775807 by omega),hb0] <;> with_reducible rfl,by first | exact Iff.rfl | ((simp only [Waiter.eqv xs[k] (ys[k]'(by omega))] <;> simp) <;> done) | ((simp only [Waiter.eqv xs[k] (ys[k]'(by omega))] <;> simp [eqv]) <;> done) | (simp only [Waiter.eqv xs[k] (ys[k]'(by omega))] <;> simp [eqv] <;> (by_cases g : xs[k].Get = (ys[k]'(by omega)).Get <;> simp [g])),fun hc=>⟨trivial,by simp only [go_sem,reduceIte,↓reduceIte,reduceCtorEq,nA,nS,nM,nB,nE,nL,nT,nN,iL,iT,iE,iA,iM,iS,iG,iB,iN,iZ,h]⟩⟩) () trivial (xs.length + 1) (by rw [zip_len hl]; exact Nat.le_refl _)
  rw [hb0] at hr
  have hl2 : ((xs.length : Int) != (ys.length : Int)) = false:=by simp [hl]
  rcases hq with ⟨s',e1,_,e3⟩ | ⟨x,s',e1,e3⟩
  ·simp only [go_sem,reduceIte,↓reduceIte,reduceCtorEq,nA,nS,nM,nB,nE,nL,nT,nN,iL,iT,iE,iA,iM,iS,iG,iB,iN,iZ,h,hl2,hr,e3,zip_eqv hl e1]
  ·simp only [go_sem,reduceIte,↓reduceIte,reduceCtorEq,nA,nS,nM,nB,nE,nL,nT,nN,iL,iT,iE,iA,iM,iS,iG,iB,iN,iZ,h,hl2,hr,e3,zip_nev hl e1]
 ·have hl2 : ((xs.length : Int) != (ys.length : Int)) = true:=by simpa using fun h=>hl (Int.ofNat_inj.1 h)
  simp only [go_sem,reduceIte,↓reduceIte,reduceCtorEq,nA,nS,nM,nB,nE,nL,nT,nN,iL,iT,iE,iA,iM,iS,iG,iB,iN,iZ,h,hl2,len_nev hl]) (rfl)
def s84 : SP Tryz.prog:=mkS tyA 84 Tryz.f84 [s189,s190] { md:=[.ro 1,.ro 1],rets:=some ([4],[]) } Tryz.func84 (by kernel_rfl)
@[go_sem] theorem d84 : s84.g = 84 ∧ s84.fs = ⟨[.ro 1,.ro 1],s84.F,false⟩:=⟨nr rfl,nr rfl⟩
@[go_sem] theorem e84 (xId : Int) (z37 : ByteArray) (z38 z39 : Bool) (z40 : Int) (z41 : Bool) (z42 z43 z44 : ByteArray) (z45 : List Header) (z46 : List Waiter) (yId : Int) (z47 : ByteArray) (z48 z49 : Bool) (z50 : Int) (z51 : Bool) (z52 z53 z54 : ByteArray) (z55 : List Header) (z56 : List Waiter) (h0 : smFlight (Flight.mk xId z37 z38 z39 z40 z41 (Request.mk z42 z43 z44 z45) z46)) : s84.F [.agg [.i .i64 xId,.s z37,.b z38,.b z39,.i .i64 z40,.b z41,.s z42,.s z43,.s z44,.sl .ro 2 (z45.map (rHeader .ro)),.sl .ro 4 (z46.map (rWaiter .ro))],.agg [.i .i64 yId,.s z47,.b z48,.b z49,.i .i64 z50,.b z51,.s z52,.s z53,.s z54,.sl .ro 2 (z55.map (rHeader .ro)),.sl .ro 4 (z56.map (rWaiter .ro))]] = some (.b (eqv (Flight.mk xId z37 z38 z39 z40 z41 (Request.mk z42 z43 z44 z45) z46) (Flight.mk yId z47 z48 z49 z50 z51 (Request.mk z52 z53 z54 z55) z56)),[.u,.u]):=mkS_eq (0) rfl rfl (fun cx h=>by
 obtain ⟨q0,q1,q2,q3,q4,q5,q6,q7⟩:=h0
 simp only [go_sem,reduceIte,↓reduceIte,reduceCtorEq,nA,nS,nM,nB,nE,nL,nT,nN,iL,iT,iE,iA,iM,iS,iG,iB,iN,iZ,h,eqv_intne,eqv_int,eqv_bytes,eqv_boolne,eqv_bool,eqv_mk,q0,q1,q2,q3,q4,q5,q6,q7]
 simp only [Flight.eqv (Flight.mk xId z37 z38 z39 z40 z41 (Request.mk z42 z43 z44 z45) z46) (Flight.mk yId z47 z48 z49 z50 z51 (Request.mk z52 z53 z54 z55) z56),if_sb,if_and',if_or',Bool.and_true,Bool.and_assoc]) (rfl)
end
end Go.Vm.A
