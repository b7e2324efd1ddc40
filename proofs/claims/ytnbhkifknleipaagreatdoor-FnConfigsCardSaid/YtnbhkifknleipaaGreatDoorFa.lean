/- Functions of the program, walked by the evaluator. -/
import Derived.Test.YtnbhkifknleipaaGreatDoorWb
import Derived.Test.YtnbhkifknleipaaGreatDoorWa
set_option linter.unusedVariables false
set_option linter.unusedSimpArgs false
set_option autoImplicit false
set_option maxRecDepth 100000
set_option maxHeartbeats 4000000
namespace Go.Vm.A
open Go.Proofs
open Nat renaming reduceAdd → nA, reduceSub → nS, reduceMul → nM, reduceBEq → nB, reduceEqDiff → nE, reduceLeDiff → nL, reduceLT → nT, reduceBneDiff → nN
open Int renaming reduceLE → iL, reduceLT → iT, reduceEq → iE, reduceAdd → iA, reduceMul → iM, reduceSub → iS, reduceNeg → iG, reduceBEq → iB, reduceBNe → iN, reduceToNat → iZ
noncomputable section
def s9 : SP Tryz.prog:=mkS tyA 9 Tryz.f9 [] { md:=[.ro 1],rets:=some ([2],[]) } Tryz.func9 (by kernel_rfl)
@[go_sem] theorem d9 : s9.g = 9 ∧ s9.fs = ⟨[.ro 1],s9.F,false⟩:=⟨nr rfl,nr rfl⟩
@[go_sem] theorem e9 (code : List UInt8) : s9.F [.sl .ro 1 (code.map rByte)] = some (.b (decide (1048576 < (code.length : Int))),[.u]):=mkS_eq (0) rfl rfl (fun cx h=>by
 simp only [go_sem,reduceIte,↓reduceIte,reduceCtorEq,nA,nS,nM,nB,nE,nL,nT,nN,iL,iT,iE,iA,iM,iS,iG,iB,iN,iZ,h]) (rfl)
def s67 : SP Tryz.prog:=mkS tyA 67 Tryz.f67 [] { md:=[.ro 1],wk:=true,rets:=some ([0,2,3],[5]) } Tryz.func67 (by kernel_rfl)
@[go_sem] theorem d67 : s67.g = 67 ∧ s67.fs = ⟨[.ro 1],s67.F,true⟩:=⟨nr rfl,nr rfl⟩
@[go_sem] theorem e67 (code : List UInt8) : s67.F [.sl .ro 1 (code.map rByte)] = some (.tup [.agg [.sl .ro 1 (code.map rByte),.i .i64 0]],[.u]):=mkS_eq (0) rfl rfl (fun cx h=>by
 simp only [go_sem,reduceIte,↓reduceIte,reduceCtorEq,nA,nS,nM,nB,nE,nL,nT,nN,iL,iT,iE,iA,iM,iS,iG,iB,iN,iZ,h]) (rfl)
def bat (code : List UInt8) (i : Int) : Int:=((code.getD i.toNat 0).toNat : Int)
def nextV (code : List UInt8) (a n : Int) : Int :=
 if n < 1 then 0 else if code.length = 0 then (a * 7).tmod n else
  let k : Int:=code.length
  let v:=bat code (a.tmod k) + a.tdiv k * 37
  let v:=if 200 < n then v * 251 + bat code ((a + 1).tmod k) * 13 + a else v
  let v:=if 60000 < n then v * 257 + bat code ((a + 2).tmod k) else v
  v.tmod n
def aOk (a : Int) : Bool:=decide (0 ≤ a ∧ a ≤ 1000000)
theorem bat_le (code : List UInt8) (i : Int) : 0 ≤ bat code i ∧ bat code i ≤ 255:=by
 have:=(code.getD i.toNat 0).toNat_lt
 unfold bat; omega
theorem tmod_in {a k : Int} (h0 : 0 ≤ a) (hk : 0 < k) : 0 ≤ a.tmod k ∧ a.tmod k < k:=⟨Int.tmod_nonneg _ h0,Int.tmod_lt_of_pos _ hk⟩
theorem tmod_nat (code : List UInt8) (a : Int) (h0 : 0 ≤ a) (h : ¬ code.length = 0) : ∃ i : Nat,a.tmod code.length = (i : Int) ∧ i < code.length:=by
 have h1:=tmod_in h0 (k:=code.length) (by omega)
 exact ⟨(a.tmod code.length).toNat,by omega,by omega⟩
theorem bat_at (code : List UInt8) (i : Nat) (h : i < code.length) : bat code (i : Int) = (code[i].toNat : Int):=by
 unfold bat; simp [List.getD,h]
def s70 : SP Tryz.prog:=mkS tyA 70 Tryz.f70 [] { md:=[.rw 2,.ro 1],wk:=true,rg:=[(0,[0,1],[0]),(1,[0,1],[0]),(2,[0,1,17],[0]),(3,[0,4],[0]),(4,[0,1,5],[0]),(5,[0,1,5,6],[0]),(6,[0,1,5,6,29],[0]),(7,[0,4],[0]),(8,[0,1,5,6,7],[0]),(9,[0,1,5,6,7,50],[0]),(10,[0,1,5,6,7],[0]),(11,[0,1,5,6,7,69],[0]),(12,[0,1,7],[0]),(13,[0,4],[0])],rets:=some ([0,4],[0]),plan:=[(8,(.take 0 (.take 1 (.take 2 (.take 3 (.take 4 (.take 5 (.take 6 (.take 7 (.take 8 (.take 9 (.take 10 (.take 11 (.take 12 (.take 13 (.take 14 (.one 15 .done))))))))))))))))),(10,(.take 0 (.take 1 (.take 2 (.take 3 (.take 4 (.take 5 (.take 6 (.take 7 (.take 8 (.take 9 (.take 10 (.take 11 (.take 12 (.take 13 (.take 14 (.take 15 (.take 16 (.one 17 .done))))))))))))))))))),(12,(.take 0 (.take 1 (.take 2 (.take 3 (.take 4 (.take 5 (.take 6 (.take 7 (.take 8 (.take 9 (.take 10 (.take 11 (.take 12 (.take 13 (.one 14 .done))))))))))))))))] } Tryz.func70 (by kernel_rfl)
@[go_sem] theorem d70 : s70.g = 70 ∧ s70.fs = ⟨[.rw 2,.ro 1],s70.F,true⟩:=⟨nr rfl,nr rfl⟩
@[go_sem] theorem e70 (code : List UInt8) (a n : Int) (h1 : aOk a = true) : s70.F [.agg [.sl .ro 1 (code.map rByte),.i .i64 a],.i .i64 n] = some (.i .i64 (nextV code a n),[.agg [.sl .ro 1 (code.map rByte),.i .i64 (a + 1)],.u]):=mkS_eq (0) rfl rfl (fun cx h=>by
 have ha : 0 ≤ a ∧ a ≤ 1000000:=by simpa [aOk] using h1
 have w1 : (IntKind.i64).wrap (a + 1) = a + 1:=wrap_id (by omega) (by omega)
 have w2 : (IntKind.i64).wrap (a + 1 - 1) = a:=by rw [wrap_id (by omega) (by omega)]; omega
 have w3 : (IntKind.i64).wrap (a * 7) = a * 7:=wrap_id (by omega) (by omega)
 by_cases c1 : n < 1
 ·simp only [go_sem,reduceIte,↓reduceIte,reduceCtorEq,nA,nS,nM,nB,nE,nL,nT,nN,iL,iT,iE,iA,iM,iS,iG,iB,iN,iZ,h,nextV,c1,w1]
 have c3 : ¬ n = 0:=by omega
 by_cases c2 : (code.length : Int) = 0
 ·have c2' : code.length = 0:=by omega
  simp only [go_sem,reduceIte,↓reduceIte,reduceCtorEq,nA,nS,nM,nB,nE,nL,nT,nN,iL,iT,iE,iA,iM,iS,iG,iB,iN,iZ,h,nextV,c1,c2,c2',c3,w1,w2,w3]
 have c2' : ((code.length : Int) == 0) = false:=by simpa using c2
 have c2n : ¬ code.length = 0:=by omega
 obtain ⟨i1,e1,l1⟩:=tmod_nat code a (by omega) c2n
 obtain ⟨i2,e2,l2⟩:=tmod_nat code (a + 1) (by omega) c2n
 obtain ⟨i3,e3,l3⟩:=tmod_nat code (a + 2) (by omega) c2n
 have b1:=bat_at code i1 l1
 have b2:=bat_at code i2 l2
 have b3:=bat_at code i3 l3
 have g1:=bat_le code i1
 have g2:=bat_le code i2
 have g3:=bat_le code i3
 rw [b1] at g1
 rw [b2] at g2
 rw [b3] at g3
 have q0 : 0 ≤ a.tdiv code.length ∧ a.tdiv code.length ≤ 1000000:=⟨Int.tdiv_nonneg ha.1 (by omega),Int.le_trans (Int.tdiv_le_self _ ha.1) ha.2⟩
 obtain ⟨d,hd⟩ : ∃ d,a.tdiv code.length = d:=⟨_,rfl⟩
 rw [hd] at q0
 have w4 : (IntKind.i64).wrap d = d:=wrap_id (by omega) (by omega)
 have w5 : (IntKind.i64).wrap (d * 37) = d * 37:=wrap_id (by omega) (by omega)
 have w6 : (IntKind.i64).wrap ((code[i1].toNat : Int) + d * 37) = (code[i1].toNat : Int) + d * 37:=wrap_id (by omega) (by omega)
 have w7 : (IntKind.i64).wrap (((code[i1].toNat : Int) + d * 37) * 251) = ((code[i1].toNat : Int) + d * 37) * 251:=wrap_id (by omega) (by omega)
 have w8 : (IntKind.i64).wrap ((code[i2].toNat : Int) * 13) = (code[i2].toNat : Int) * 13:=wrap_id (by omega) (by omega)
 have w9 : (IntKind.i64).wrap (((code[i1].toNat : Int) + d * 37) * 251 + (code[i2].toNat : Int) * 13) = ((code[i1].toNat : Int) + d * 37) * 251 + (code[i2].toNat : Int) * 13:=wrap_id (by omega) (by omega)
 have w10 : (IntKind.i64).wrap (((code[i1].toNat : Int) + d * 37) * 251 + (code[i2].toNat : Int) * 13 + a) = ((code[i1].toNat : Int) + d * 37) * 251 + (code[i2].toNat : Int) * 13 + a:=wrap_id (by omega) (by omega)
 have w11 : (IntKind.i64).wrap ((((code[i1].toNat : Int) + d * 37) * 251 + (code[i2].toNat : Int) * 13 + a) * 257) = (((code[i1].toNat : Int) + d * 37) * 251 + (code[i2].toNat : Int) * 13 + a) * 257:=wrap_id (by omega) (by omega)
 have w12 : (IntKind.i64).wrap ((((code[i1].toNat : Int) + d * 37) * 251 + (code[i2].toNat : Int) * 13 + a) * 257 + (code[i3].toNat : Int)) = (((code[i1].toNat : Int) + d * 37) * 251 + (code[i2].toNat : Int) * 13 + a) * 257 + (code[i3].toNat : Int):=wrap_id (by omega) (by omega)
 have w13 : (IntKind.i64).wrap (a + 2) = a + 2:=wrap_id (by omega) (by omega)
 have v1 : (IntKind.i64).wrap (code[i1].toNat : Int) = (code[i1].toNat : Int):=wrap_id (by omega) (by omega)
 have v2 : (IntKind.i64).wrap (code[i2].toNat : Int) = (code[i2].toNat : Int):=wrap_id (by omega) (by omega)
 have v3 : (IntKind.i64).wrap (code[i3].toNat : Int) = (code[i3].toNat : Int):=wrap_id (by omega) (by omega)
 by_cases k1 : 200 < n <;> by_cases k2 : 60000 < n
 all_goals try omega
 all_goals simp only [go_sem,reduceIte,↓reduceIte,reduceCtorEq,nA,nS,nM,nB,nE,nL,nT,nN,iL,iT,iE,iA,iM,iS,iG,iB,iN,iZ,h,nextV,c1,c2,c2',c2n,c3,w1,w2,v1,v2,v3,w4,w5,w6,w7,w8,w9,w10,w11,w12,w13,k1,k2,e1,e2,e3,hd,b1,b2,b3,idx_nt _ _ l1,idx_nt _ _ l2,idx_nt _ _ l3,map_gd rByte code i1 l1,map_gd rByte code i2 l2,map_gd rByte code i3 l3]) (rfl)
theorem nextV_in (code : List UInt8) {a n : Int} (h : aOk a = true) (hn : 1 ≤ n) : 0 ≤ nextV code a n ∧ nextV code a n < n:=by
 have ha : 0 ≤ a ∧ a ≤ 1000000:=by simpa [aOk] using h
 have g:=bat_le code
 unfold nextV
 rw [if_neg (by omega)]
 by_cases c : code.length = 0
 ·rw [if_pos c]; exact tmod_in (by omega) (by omega)
 rw [if_neg c]
 have q0 : 0 ≤ a.tdiv code.length:=Int.tdiv_nonneg ha.1 (Int.natCast_nonneg _)
 have g1:=g (a.tmod code.length)
 have g2:=g ((a + 1).tmod code.length)
 have g3:=g ((a + 2).tmod code.length)
 refine tmod_in ?_ (by omega)
 split <;> split <;> omega
def pickV (code : List UInt8) (a : Int) (xs : List Int) : Int:=xs.getD (nextV code a xs.length).toNat 0
theorem pick_nat (code : List UInt8) {a : Int} (xs : List Int) (h : aOk a = true) (hx : 0 < xs.length) : ∃ i : Nat,nextV code a xs.length = (i : Int) ∧ i < xs.length:=by
 have:=nextV_in code (n:=xs.length) h (by omega)
 exact ⟨(nextV code a xs.length).toNat,by omega,by omega⟩
def s74 : SP Tryz.prog:=mkS tyA 74 Tryz.f74 [s70] { md:=[.rw 2,.ro 1],wk:=true,rets:=some ([0,4],[0]) } Tryz.func74 (by kernel_rfl)
@[go_sem] theorem d74 : s74.g = 74 ∧ s74.fs = ⟨[.rw 2,.ro 1],s74.F,true⟩:=⟨nr rfl,nr rfl⟩
theorem e74 (code : List UInt8) (a : Int) (xs : List Int) (h1 : aOk a = true) (h2 : 0 < xs.length) : s74.F [.agg [.sl .ro 1 (code.map rByte),.i .i64 a],.sl .ro 1 (xs.map rInt)] = some (.i .i64 (pickV code a xs),[.agg [.sl .ro 1 (code.map rByte),.i .i64 (a + 1)],.u]):=mkS_eq (0) rfl rfl (fun cx h=>by
 obtain ⟨i,e,hi⟩:=pick_nat code xs h1 h2
 have e2 : pickV code a xs = xs[i]:=by unfold pickV; rw [e]; simp [List.getD,hi]
 simp only [go_sem,reduceIte,↓reduceIte,reduceCtorEq,nA,nS,nM,nB,nE,nL,nT,nN,iL,iT,iE,iA,iM,iS,iG,iB,iN,iZ,h,h1,e,e2,idx_nt _ _ hi,map_gd rInt xs i hi]) (rfl)
@[go_sem] theorem e74_2 (code : List UInt8) (a x0 x1 : Int) (h1 : aOk a = true) : s74.F [.agg [.sl .ro 1 (code.map rByte),.i .i64 a],.sl .ro 1 [[.i .i64 x0],[.i .i64 x1]]] = some (.i .i64 (pickV code a [x0,x1]),[.agg [.sl .ro 1 (code.map rByte),.i .i64 (a + 1)],.u]):=e74 code a [x0,x1] h1 (by simp)
@[go_sem] theorem e74_3 (code : List UInt8) (a x0 x1 x2 : Int) (h1 : aOk a = true) : s74.F [.agg [.sl .ro 1 (code.map rByte),.i .i64 a],.sl .ro 1 [[.i .i64 x0],[.i .i64 x1],[.i .i64 x2]]] = some (.i .i64 (pickV code a [x0,x1,x2]),[.agg [.sl .ro 1 (code.map rByte),.i .i64 (a + 1)],.u]):=e74 code a [x0,x1,x2] h1 (by simp)
@[go_sem] theorem e74_4 (code : List UInt8) (a x0 x1 x2 x3 : Int) (h1 : aOk a = true) : s74.F [.agg [.sl .ro 1 (code.map rByte),.i .i64 a],.sl .ro 1 [[.i .i64 x0],[.i .i64 x1],[.i .i64 x2],[.i .i64 x3]]] = some (.i .i64 (pickV code a [x0,x1,x2,x3]),[.agg [.sl .ro 1 (code.map rByte),.i .i64 (a + 1)],.u]):=e74 code a [x0,x1,x2,x3] h1 (by simp)
@[go_sem] theorem e74_5 (code : List UInt8) (a x0 x1 x2 x3 x4 : Int) (h1 : aOk a = true) : s74.F [.agg [.sl .ro 1 (code.map rByte),.i .i64 a],.sl .ro 1 [[.i .i64 x0],[.i .i64 x1],[.i .i64 x2],[.i .i64 x3],[.i .i64 x4]]] = some (.i .i64 (pickV code a [x0,x1,x2,x3,x4]),[.agg [.sl .ro 1 (code.map rByte),.i .i64 (a + 1)],.u]):=e74 code a [x0,x1,x2,x3,x4] h1 (by simp)
@[go_sem] theorem e74_6 (code : List UInt8) (a x0 x1 x2 x3 x4 x5 : Int) (h1 : aOk a = true) : s74.F [.agg [.sl .ro 1 (code.map rByte),.i .i64 a],.sl .ro 1 [[.i .i64 x0],[.i .i64 x1],[.i .i64 x2],[.i .i64 x3],[.i .i64 x4],[.i .i64 x5]]] = some (.i .i64 (pickV code a [x0,x1,x2,x3,x4,x5]),[.agg [.sl .ro 1 (code.map rByte),.i .i64 (a + 1)],.u]):=e74 code a [x0,x1,x2,x3,x4,x5] h1 (by simp)
@[go_sem] theorem e74_7 (code : List UInt8) (a x0 x1 x2 x3 x4 x5 x6 : Int) (h1 : aOk a = true) : s74.F [.agg [.sl .ro 1 (code.map rByte),.i .i64 a],.sl .ro 1 [[.i .i64 x0],[.i .i64 x1],[.i .i64 x2],[.i .i64 x3],[.i .i64 x4],[.i .i64 x5],[.i .i64 x6]]] = some (.i .i64 (pickV code a [x0,x1,x2,x3,x4,x5,x6]),[.agg [.sl .ro 1 (code.map rByte),.i .i64 (a + 1)],.u]):=e74 code a [x0,x1,x2,x3,x4,x5,x6] h1 (by simp)
@[go_sem] theorem e74_8 (code : List UInt8) (a x0 x1 x2 x3 x4 x5 x6 x7 : Int) (h1 : aOk a = true) : s74.F [.agg [.sl .ro 1 (code.map rByte),.i .i64 a],.sl .ro 1 [[.i .i64 x0],[.i .i64 x1],[.i .i64 x2],[.i .i64 x3],[.i .i64 x4],[.i .i64 x5],[.i .i64 x6],[.i .i64 x7]]] = some (.i .i64 (pickV code a [x0,x1,x2,x3,x4,x5,x6,x7]),[.agg [.sl .ro 1 (code.map rByte),.i .i64 (a + 1)],.u]):=e74 code a [x0,x1,x2,x3,x4,x5,x6,x7] h1 (by simp)
@[go_sem] theorem e74_9 (code : List UInt8) (a x0 x1 x2 x3 x4 x5 x6 x7 x8 : Int) (h1 : aOk a = true) : s74.F [.agg [.sl .ro 1 (code.map rByte),.i .i64 a],.sl .ro 1 [[.i .i64 x0],[.i .i64 x1],[.i .i64 x2],[.i .i64 x3],[.i .i64 x4],[.i .i64 x5],[.i .i64 x6],[.i .i64 x7],[.i .i64 x8]]] = some (.i .i64 (pickV code a [x0,x1,x2,x3,x4,x5,x6,x7,x8]),[.agg [.sl .ro 1 (code.map rByte),.i .i64 (a + 1)],.u]):=e74 code a [x0,x1,x2,x3,x4,x5,x6,x7,x8] h1 (by simp)
def rulesV (code : List UInt8) (a : Int) : Rules:=⟨pickV code a [1000,5000,300],pickV code (a + 1) [1,2,3,5],pickV code (a + 1 + 1) [500,500,1000,1,300],pickV code (a + 1 + 1 + 1) [0,500,2000],pickV code (a + 1 + 1 + 1 + 1) [1,1,2,5]⟩
def bOk (a : Int) : Bool:=decide (0 ≤ a ∧ a ≤ 900000)
theorem bOk_a {a : Int} (h : bOk a = true) (k : Int) (h0 : 0 ≤ k) (h1 : k ≤ 1000) : aOk (a + k) = true:=by simp only [aOk,bOk,decide_eq_true_eq] at h ⊢; omega
def lanesV (code : List UInt8) (a : Int) : Lanes:=⟨pickV code a [1,1,2,8],pickV code (a + 1) [0,1,2,8],pickV code (a + 1 + 1) [0,500,2000]⟩
def s221 : SP Tryz.prog:=mkS tyA 221 Tryz.f221 [s74] { md:=[.rw 2],wk:=true,rets:=some ([0,2],[0,2]) } Tryz.func221 (by kernel_rfl)
@[go_sem] theorem d221 : s221.g = 221 ∧ s221.fs = ⟨[.rw 2],s221.F,true⟩:=⟨nr rfl,nr rfl⟩
@[go_sem] theorem e221 (code : List UInt8) (a : Int) (h1 : bOk a = true) : s221.F [.agg [.sl .ro 1 (code.map rByte),.i .i64 a]] = some (.agg (rLanes .ro (lanesV code a)),[.agg [.sl .ro 1 (code.map rByte),.i .i64 (a + 1 + 1 + 1)]]):=mkS_eq (0) rfl rfl (fun cx h=>by
 have p0 : aOk (a) = true:=by have:=bOk_a h1 0 (by omega) (by omega); rwa [show a + (0 : Int) = a by omega] at this
 have p1 : aOk (a + 1) = true:=by have:=bOk_a h1 1 (by omega) (by omega); rwa [show a + (1 : Int) = a + 1 by omega] at this
 have p2 : aOk (a + 1 + 1) = true:=by have:=bOk_a h1 2 (by omega) (by omega); rwa [show a + (2 : Int) = a + 1 + 1 by omega] at this
 simp only [go_sem,reduceIte,↓reduceIte,reduceCtorEq,nA,nS,nM,nB,nE,nL,nT,nN,iL,iT,iE,iA,iM,iS,iG,iB,iN,iZ,h,lanesV,p0,p1,p2]) (rfl)
def s222 : SP Tryz.prog:=mkS tyA 222 Tryz.f222 [s74] { md:=[.rw 2],wk:=true,rets:=some ([0,2],[0,2]) } Tryz.func222 (by kernel_rfl)
@[go_sem] theorem d222 : s222.g = 222 ∧ s222.fs = ⟨[.rw 2],s222.F,true⟩:=⟨nr rfl,nr rfl⟩
@[go_sem] theorem e222 (code : List UInt8) (a : Int) (h1 : bOk a = true) : s222.F [.agg [.sl .ro 1 (code.map rByte),.i .i64 a]] = some (.agg (rRules .ro (rulesV code a)),[.agg [.sl .ro 1 (code.map rByte),.i .i64 (a + 1 + 1 + 1 + 1 + 1)]]):=mkS_eq (0) rfl rfl (fun cx h=>by
 have p0 : aOk (a) = true:=by have:=bOk_a h1 0 (by omega) (by omega); rwa [show a + (0 : Int) = a by omega] at this
 have p1 : aOk (a + 1) = true:=by have:=bOk_a h1 1 (by omega) (by omega); rwa [show a + (1 : Int) = a + 1 by omega] at this
 have p2 : aOk (a + 1 + 1) = true:=by have:=bOk_a h1 2 (by omega) (by omega); rwa [show a + (2 : Int) = a + 1 + 1 by omega] at this
 have p3 : aOk (a + 1 + 1 + 1) = true:=by have:=bOk_a h1 3 (by omega) (by omega); rwa [show a + (3 : Int) = a + 1 + 1 + 1 by omega] at this
 have p4 : aOk (a + 1 + 1 + 1 + 1) = true:=by have:=bOk_a h1 4 (by omega) (by omega); rwa [show a + (4 : Int) = a + 1 + 1 + 1 + 1 by omega] at this
 simp only [go_sem,reduceIte,↓reduceIte,reduceCtorEq,nA,nS,nM,nB,nE,nL,nT,nN,iL,iT,iE,iA,iM,iS,iG,iB,iN,iZ,h,rulesV,p0,p1,p2,p3,p4]) (rfl)
def cOk (a : Int) : Bool:=decide (0 ≤ a ∧ a ≤ 800000)
def names3 : List ByteArray:=[⟨#[65,99,99,101,112,116]⟩,⟨#[88,45,65]⟩,⟨#[65,99,99,101,112,116,45,76,97,110,103,117,97,103,101]⟩]
def configA (code : List UInt8) (a : Int) : Config:=⟨pickV code (a) [3000,600,900,300],pickV code (a + 1) [300,200,0],pickV code (a + 1 + 1) [300,250,120],pickV code (a + 1 + 1 + 1) [0,1000],pickV code (a + 1 + 1 + 1 + 1) [0,1000,5000],pickV code (a + 1 + 1 + 1 + 1 + 1) [500,2000,1],pickV code (a + 1 + 1 + 1 + 1 + 1 + 1) [300,1500,0],pickV code (a + 1 + 1 + 1 + 1 + 1 + 1 + 1) [1,2,10],names3,lanesV code (a + 1 + 1 + 1 + 1 + 1 + 1 + 1 + 1),rulesV code (a + 1 + 1 + 1 + 1 + 1 + 1 + 1 + 1 + 1 + 1 + 1)⟩
def configV (code : List UInt8) : Config:=configA code 0
theorem names3_row : names3.map rStr = [[.s ⟨#[65,99,99,101,112,116]⟩],[.s ⟨#[88,45,65]⟩],[.s ⟨#[65,99,99,101,112,116,45,76,97,110,103,117,97,103,101]⟩]]:=rfl
def drawConfig (code : List UInt8) : Config :=
 let c:=configV code
 if nextV code 16 16 = 0 then { c with Budget:=pickV code 17 [-1,1000001,100] } else if nextV code 16 16 = 1 then { c with ObjCost:=pickV code 17 [-1,(IntKind.i64).wrap (c.Budget + 1)] }
 else if nextV code 16 16 = 2 then { c with FetchTime:=pickV code 17 [0,1000001] } else if nextV code 16 16 = 3 then { c with WaitCap:=pickV code 17 [0,11] }
 else if nextV code 16 16 = 4 then { c with Names:=[⟨#[97,32,98]⟩] } else if nextV code 16 16 = 5 then { c with Lanes:=⟨0,c.Lanes.Cap,c.Lanes.Time⟩ }
 else if nextV code 16 16 = 6 then { c with Rules:=⟨c.Rules.Window,c.Rules.Min,c.Rules.Ratio,c.Rules.Cool,6⟩ } else if nextV code 16 16 = 7 then { c with Neg:=-1 } else c
theorem names3_sm : smL smStr names3:=⟨by show 3 ≤ 1048576; omega,fun x hx=>by
 simp only [names3,List.mem_cons,List.not_mem_nil,or_false] at hx
 rcases hx with rfl | rfl | rfl
 ·show 6 ≤ 1048576; omega
 ·show 3 ≤ 1048576; omega
 ·show 15 ≤ 1048576; omega⟩
theorem configV_sm (code : List UInt8) : smConfig (configV code):=⟨trivial,trivial,trivial,trivial,trivial,trivial,trivial,trivial,names3_sm,⟨trivial,trivial,trivial⟩,⟨trivial,trivial,trivial,trivial,trivial⟩⟩
theorem drawConfig_sm (code : List UInt8) : smConfig (drawConfig code):=by
 have h:=configV_sm code
 have h1 : smL smStr [⟨#[97,32,98]⟩]:=⟨by show 1 ≤ 1048576; omega,fun x hx=>by
  obtain rfl:=List.mem_singleton.1 hx
  show 3 ≤ 1048576; omega⟩
 unfold drawConfig
 simp only
 repeat' split
 all_goals first | exact h | exact ⟨trivial,trivial,trivial,trivial,trivial,trivial,trivial,trivial,h.2.2.2.2.2.2.2.2.1,⟨trivial,trivial,trivial⟩,⟨trivial,trivial,trivial,trivial,trivial⟩⟩ | exact ⟨trivial,trivial,trivial,trivial,trivial,trivial,trivial,trivial,h1,⟨trivial,trivial,trivial⟩,⟨trivial,trivial,trivial,trivial,trivial⟩⟩
def s126 : SP Tryz.prog:=mkS tyA 126 Tryz.f126 [s74,s221,s222] { md:=[.rw 2],wk:=true,rets:=some ([0,2,27,29,31],[0,2]) } Tryz.func126 (by kernel_rfl)
@[go_sem] theorem d126 : s126.g = 126 ∧ s126.fs = ⟨[.rw 2],s126.F,true⟩:=⟨nr rfl,nr rfl⟩
@[go_sem] theorem e126 (code : List UInt8) (a : Int) (h0 : cOk a = true) : s126.F [.agg [.sl .ro 1 (code.map rByte),.i .i64 a]] = some (.agg (rConfig .mut (configA code a)),[.agg [.sl .ro 1 (code.map rByte),.i .i64 (a + 1 + 1 + 1 + 1 + 1 + 1 + 1 + 1 + 1 + 1 + 1 + 1 + 1 + 1 + 1 + 1)]]):=mkS_eq (0) rfl rfl (fun cx h=>by
 have h1 : bOk a = true:=by have:=h0; simp only [bOk,cOk,decide_eq_true_eq] at this ⊢; omega
 have h0':=h0
 simp only [cOk,decide_eq_true_eq] at h0'
 have p0 : aOk (a) = true:=by have:=bOk_a h1 0 (by omega) (by omega); rwa [show a + (0 : Int) = a by omega] at this
 have p1 : aOk (a + 1) = true:=by have:=bOk_a h1 1 (by omega) (by omega); rwa [show a + (1 : Int) = a + 1 by omega] at this
 have p2 : aOk (a + 1 + 1) = true:=by have:=bOk_a h1 2 (by omega) (by omega); rwa [show a + (2 : Int) = a + 1 + 1 by omega] at this
 have p3 : aOk (a + 1 + 1 + 1) = true:=by have:=bOk_a h1 3 (by omega) (by omega); rwa [show a + (3 : Int) = a + 1 + 1 + 1 by omega] at this
 have p4 : aOk (a + 1 + 1 + 1 + 1) = true:=by have:=bOk_a h1 4 (by omega) (by omega); rwa [show a + (4 : Int) = a + 1 + 1 + 1 + 1 by omega] at this
 have p5 : aOk (a + 1 + 1 + 1 + 1 + 1) = true:=by have:=bOk_a h1 5 (by omega) (by omega); rwa [show a + (5 : Int) = a + 1 + 1 + 1 + 1 + 1 by omega] at this
 have p6 : aOk (a + 1 + 1 + 1 + 1 + 1 + 1) = true:=by have:=bOk_a h1 6 (by omega) (by omega); rwa [show a + (6 : Int) = a + 1 + 1 + 1 + 1 + 1 + 1 by omega] at this
 have p7 : aOk (a + 1 + 1 + 1 + 1 + 1 + 1 + 1) = true:=by have:=bOk_a h1 7 (by omega) (by omega); rwa [show a + (7 : Int) = a + 1 + 1 + 1 + 1 + 1 + 1 + 1 by omega] at this
 have b8 : bOk (a + 1 + 1 + 1 + 1 + 1 + 1 + 1 + 1) = true:=by simp only [bOk,decide_eq_true_eq]; omega
 have b11 : bOk (a + 1 + 1 + 1 + 1 + 1 + 1 + 1 + 1 + 1 + 1 + 1) = true:=by simp only [bOk,decide_eq_true_eq]; omega
 simp only [go_sem,reduceIte,↓reduceIte,reduceCtorEq,nA,nS,nM,nB,nE,nL,nT,nN,iL,iT,iE,iA,iM,iS,iG,iB,iN,iZ,h,configA,names3_row,p0,p1,p2,p3,p4,p5,p6,p7,b8,b11]) (rfl)
def s44 : SP Tryz.prog:=mkS tyA 44 Tryz.f44 [s67,s70,s74,s126] { md:=[.ro 1],wk:=true,rg:=[(0,[0,2],[2,4]),(1,[2,3],[2,4,6]),(2,[2,3,4],[2,4,6]),(3,[2,3,4,10],[2,4,6]),(4,[2,3,4,10,11],[2,4,6]),(5,[2,4],[2,4]),(6,[2,3,4,10,17],[2,4,6]),(7,[2,4],[2,4]),(8,[2,3,4,10,26],[2,4,6]),(9,[2,4],[2,4]),(10,[2,3,4,10,32],[2,4,6]),(11,[2,4],[2,4]),(12,[2,4,10,38],[2,4]),(13,[2,4],[2,4]),(14,[2,4,10,42],[2,4]),(15,[2,4],[2,4]),(16,[2,4,10,46],[2,4]),(17,[2,4],[2,4]),(18,[2,4,50],[2,4]),(19,[2,4],[2,4]),(20,[2],[2,4])],rets:=some ([2],[2,4]) } Tryz.func44 (by kernel_rfl)
@[go_sem] theorem d44 : s44.g = 44 ∧ s44.fs = ⟨[.ro 1],s44.F,true⟩:=⟨nr rfl,nr rfl⟩
@[go_sem] theorem e44 (code : List UInt8) : s44.F [.sl .ro 1 (code.map rByte)] = some (.agg (rConfig .mut (drawConfig code)),[.u]):=mkS_eq (0) rfl rfl (fun cx h=>by
 have f0 : cOk 0 = true:=rfl
 have f16 : aOk 16 = true:=rfl
 have f17 : aOk 17 = true:=rfl
 obtain ⟨C,hC⟩ : ∃ C,configV code = C:=⟨_,rfl⟩
 have hC0 : configA code 0 = C:=hC
 have hn : C.Names.map rStr = [[.s ⟨#[65,99,99,101,112,116]⟩],[.s ⟨#[88,45,65]⟩],[.s ⟨#[65,99,99,101,112,116,45,76,97,110,103,117,97,103,101]⟩]]:=by rw [← hC]; rfl
 obtain ⟨k,hk⟩ : ∃ k,nextV code 16 16 = k:=⟨_,rfl⟩
 by_cases c0 : k = 0
 ·subst c0
  simp only [go_sem,reduceIte,↓reduceIte,reduceCtorEq,nA,nS,nM,nB,nE,nL,nT,nN,iL,iT,iE,iA,iM,iS,iG,iB,iN,iZ,h,drawConfig,f0,f16,f17,hC,hC0,hk]
 have d0 : (k == 0) = false:=by simpa using c0
 by_cases c1 : k = 1
 ·subst c1
  simp only [go_sem,reduceIte,↓reduceIte,reduceCtorEq,nA,nS,nM,nB,nE,nL,nT,nN,iL,iT,iE,iA,iM,iS,iG,iB,iN,iZ,h,drawConfig,f0,f16,f17,hC,hC0,hk]
 have d1 : (k == 1) = false:=by simpa using c1
 by_cases c2 : k = 2
 ·subst c2
  simp only [go_sem,reduceIte,↓reduceIte,reduceCtorEq,nA,nS,nM,nB,nE,nL,nT,nN,iL,iT,iE,iA,iM,iS,iG,iB,iN,iZ,h,drawConfig,f0,f16,f17,hC,hC0,hk]
 have d2 : (k == 2) = false:=by simpa using c2
 by_cases c3 : k = 3
 ·subst c3
  simp only [go_sem,reduceIte,↓reduceIte,reduceCtorEq,nA,nS,nM,nB,nE,nL,nT,nN,iL,iT,iE,iA,iM,iS,iG,iB,iN,iZ,h,drawConfig,f0,f16,f17,hC,hC0,hk]
 have d3 : (k == 3) = false:=by simpa using c3
 by_cases c4 : k = 4
 ·subst c4
  simp only [go_sem,reduceIte,↓reduceIte,reduceCtorEq,nA,nS,nM,nB,nE,nL,nT,nN,iL,iT,iE,iA,iM,iS,iG,iB,iN,iZ,h,drawConfig,f0,f16,f17,hC,hC0,hk]
 have d4 : (k == 4) = false:=by simpa using c4
 by_cases c5 : k = 5
 ·subst c5
  simp only [go_sem,reduceIte,↓reduceIte,reduceCtorEq,nA,nS,nM,nB,nE,nL,nT,nN,iL,iT,iE,iA,iM,iS,iG,iB,iN,iZ,h,drawConfig,f0,f16,f17,hC,hC0,hk]
 have d5 : (k == 5) = false:=by simpa using c5
 by_cases c6 : k = 6
 ·subst c6
  simp only [go_sem,reduceIte,↓reduceIte,reduceCtorEq,nA,nS,nM,nB,nE,nL,nT,nN,iL,iT,iE,iA,iM,iS,iG,iB,iN,iZ,h,drawConfig,f0,f16,f17,hC,hC0,hk]
 have d6 : (k == 6) = false:=by simpa using c6
 by_cases c7 : k = 7
 ·subst c7
  simp only [go_sem,reduceIte,↓reduceIte,reduceCtorEq,nA,nS,nM,nB,nE,nL,nT,nN,iL,iT,iE,iA,iM,iS,iG,iB,iN,iZ,h,drawConfig,f0,f16,f17,hC,hC0,hk]
 have d7 : (k == 7) = false:=by simpa using c7
 simp only [go_sem,reduceIte,↓reduceIte,reduceCtorEq,nA,nS,nM,nB,nE,nL,nT,nN,iL,iT,iE,iA,iM,iS,iG,iB,iN,iZ,h,drawConfig,f0,f16,f17,hC,hC0,hk,c0,d0,c1,d1,c2,d2,c3,d3,c4,d4,c5,d5,c6,d6,c7,d7]) (rfl)
def within (a b c : Int) : Bool:=decide (b ≤ a) && decide (a ≤ c)
theorem within_t {a b c : Int} : within a b c = true ↔ b ≤ a ∧ a ≤ c:=by simp [within]
end
end Go.Vm.A
