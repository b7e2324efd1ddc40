/- Functions of the program, walked by the evaluator. -/
import Derived.Test.YtnbhkifknleipaaGreatDoorWb
import Derived.Test.YtnbhkifknleipaaGreatDoorWa
set_option linter.unusedVariables false
set_option linter.unusedSimpArgs false
set_option autoImplicit false
set_option maxRecDepth 100000
set_option maxHeartbeats 4000000
namespace Go.Vm.A
open Go.Proofs
open Nat renaming reduceAdd → nA, reduceSub → nS, reduceMul → nM, reduceBEq → nB, reduceEqDiff → nE, reduceLeDiff → nL, reduceLT → nT, reduceBneDiff → nN
open Int renaming reduceLE → iL, reduceLT → iT, reduceEq → iE, reduceAdd → iA, reduceMul → iM, reduceSub → iS, reduceNeg → iG, reduceBEq → iB, reduceBNe → iN, reduceToNat → iZ
noncomputable section
def s9 : SP Tryz.prog:=mkS tyA 9 Tryz.f9 [] { md:=[.ro 1],rets:=some ([2],[]) } Tryz.func9 (by kernel_rfl)
@[go_sem] theorem d9 : s9.g = 9 ∧ s9.fs = ⟨[.ro 1],s9.F,false⟩:=⟨nr rfl,nr rfl⟩
@[go_sem] theorem e9 (code : List UInt8) : s9.F [.sl .ro 1 (code.map rByte)] = some (.b (decide (1048576 < (code.length : Int))),[.u]):=mkS_eq (0) rfl rfl (fun cx h=>by
 simp only [go_sem,reduceIte,↓reduceIte,reduceCtorEq,nA,nS,nM,nB,nE,nL,nT,nN,iL,iT,iE,iA,iM,iS,iG,iB,iN,iZ,h]) (rfl)
def s67 : SP Tryz.prog:=mkS tyA 67 Tryz.f67 [] { md:=[.ro 1],wk:=true,rets:=some ([0,2,3],[5]) } Tryz.func67 (by kernel_rfl)
@[go_sem] theorem d67 : s67.g = 67 ∧ s67.fs = ⟨[.ro 1],s67.F,true⟩:=⟨nr rfl,nr rfl⟩
@[go_sem] theorem e67 (code : List UInt8) : s67.F [.sl .ro 1 (code.map rByte)] = some (.tup [.agg [.sl .ro 1 (code.map rByte),.i .i64 0]],[.u]):=mkS_eq (0) rfl rfl (fun cx h=>by
 simp only [go_sem,reduceIte,↓reduceIte,reduceCtorEq,nA,nS,nM,nB,nE,nL,nT,nN,iL,iT,iE,iA,iM,iS,iG,iB,iN,iZ,h]) (rfl)
def bat (code : List UInt8) (i : Int) : Int:=((code.getD i.toNat 0).toNat : Int)
def nextV (code : List UInt8) (a n : Int) : Int :=
 if n < 1 then 0 else if code.length = 0 then (a * 7).tmod n else
  let k : Int:=code.length
  let v:=bat code (a.tmod k) + a.tdiv k * 37
  let v:=if 200 < n then v * 251 + bat code ((a + 1).tmod k) * 13 + a else v
  let v:=if 60000 < n then v * 257 + bat code ((a + 2).tmod k) else v
  v.tmod n
def aOk (a : Int) : Bool:=decide (0 ≤ a ∧ a ≤ 1000000)
theorem bat_le (code : List UInt8) (i : Int) : 0 ≤ bat code i ∧ bat code i ≤ 255:=by
 have:=(code.getD i.toNat 0).toNat_lt
 unfold bat; omega
theorem tmod_in {a k : Int} (h0 : 0 ≤ a) (hk : 0 < k) : 0 ≤ a.tmod k ∧ a.tmod k < k:=⟨Int.tmod_nonneg _ h0,Int.tmod_lt_of_pos _ hk⟩
theorem tmod_nat (code : List UInt8) (a : Int) (h0 : 0 ≤ a) (h : ¬ code.length = 0) : ∃ i : Nat,a.tmod code.length = (i : Int) ∧ i < code.length:=by
 have h1:=tmod_in h0 (k:=code.length) (by omega)
 exact ⟨(a.tmod code.length).toNat,by omega,by omega⟩
theorem bat_at (code : List UInt8) (i : Nat) (h : i < code.length) : bat code (i : Int) = (code[i].toNat : Int):=by
 unfold bat; simp [List.getD,h]
def s70 : SP Tryz.prog:=mkS tyA 70 Tryz.f70 [] { md:=[.rw 2,.ro 1],wk:=true,rg:=[(0,[0,1],[0]),(1,[0,1],[0]),(2,[0,1,17],[0]),(3,[0,4],[0]),(4,[0,1,5],[0]),(5,[0,1,5,6],[0]),(6,[0,1,5,6,29],[0]),(7,[0,4],[0]),(8,[0,1,5,6,7],[0]),(9,[0,1,5,6,7,50],[0]),(10,[0,1,5,6,7],[0]),(11,[0,1,5,6,7,69],[0]),(12,[0,1,7],[0]),(13,[0,4],[0])],rets:=some ([0,4],[0]),plan:=[(8,(.take 0 (.take 1 (.take 2 (.take 3 (.take 4 (.take 5 (.take 6 (.take 7 (.take 8 (.take 9 (.take 10 (.take 11 (.take 12 (.take 13 (.take 14 (.one 15 .done))))))))))))))))),(10,(.take 0 (.take 1 (.take 2 (.take 3 (.take 4 (.take 5 (.take 6 (.take 7 (.take 8 (.take 9 (.take 10 (.take 11 (.take 12 (.take 13 (.take 14 (.take 15 (.take 16 (.one 17 .done))))))))))))))))))),(12,(.take 0 (.take 1 (.take 2 (.take 3 (.take 4 (.take 5 (.take 6 (.take 7 (.take 8 (.take 9 (.take 10 (.take 11 (.take 12 (.take 13 (.one 14 .done))))))))))))))))] } Tryz.func70 (by kernel_rfl)
@[go_sem] theorem d70 : s70.g = 70 ∧ s70.fs = ⟨[.rw 2,.ro 1],s70.F,true⟩:=⟨nr rfl,nr rfl⟩
@[go_sem] theorem e70 (code : List UInt8) (a n : Int) (h1 : aOk a = true) : s70.F [.agg [.sl .ro 1 (code.map rByte),.i .i64 a],.i .i64 n] = some (.i .i64 (nextV code a n),[.agg [.sl .ro 1 (code.map rByte),.i .i64 (a + 1)],.u]):=mkS_eq (0) rfl rfl (fun cx h=>by
 have ha : 0 ≤ a ∧ a ≤ 1000000:=by simpa [aOk] using h1
 have w1 : (IntKind.i64).wrap (a + 1) = a + 1:=wrap_id (by omega) (by omega)
 have w2 : (IntKind.i64).wrap (a + 1 - 1) = a:=by rw [wrap_id (by omega) (by omega)]; omega
 have w3 : (IntKind.i64).wrap (a * 7) = a * 7:=wrap_id (by omega) (by omega)
 by_cases c1 : n < 1
 ·simp only [go_sem,reduceIte,↓reduceIte,reduceCtorEq,nA,nS,nM,nB,nE,nL,nT,nN,iL,iT,iE,iA,iM,iS,iG,iB,iN,iZ,h,nextV,c1,w1]
 have c3 : ¬ n = 0:=by omega
 by_cases c2 : (code.length : Int) = 0
 ·have c2' : code.length = 0:=by omega
  simp only [go_sem,reduceIte,↓reduceIte,reduceCtorEq,nA,nS,nM,nB,nE,nL,nT,nN,iL,iT,iE,iA,iM,iS,iG,iB,iN,iZ,h,nextV,c1,c2,c2',c3,w1,w2,w3]
 have c2' : ((code.length : Int) == 0) = false:=by simpa using c2
 have c2n : ¬ code.length = 0:=by omega
 obtain ⟨i1,e1,l1⟩:=tmod_nat code a (by omega) c2n
 obtain ⟨i2,e2,l2⟩:=tmod_nat code (a + 1) (by omega) c2n
 obtain ⟨i3,e3,l3⟩:=tmod_nat code (a + 2) (by omega) c2n
 have b1:=bat_at code i1 l1
 have b2:=bat_at code i2 l2
 have b3:=bat_at code i3 l3
 have g1:=bat_le code i1
 have g2:=bat_le code i2
 have g3:=bat_le code i3
 rw [b1] at g1
 rw [b2] at g2
 rw [b3] at g3
 have q0 : 0 ≤ a.tdiv code.length ∧ a.tdiv code.length ≤ 1000000:=⟨Int.tdiv_nonneg ha.1 (by omega),Int.le_trans (Int.tdiv_le_self _ ha.1) ha.2⟩
 obtain ⟨d,hd⟩ : ∃ d,a.tdiv code.length = d:=⟨_,rfl⟩
 rw [hd] at q0
 have w4 : (IntKind.i64).wrap d = d:=wrap_id (by omega) (by omega)
 have w5 : (IntKind.i64).wrap (d * 37) = d * 37:=wrap_id (by omega) (by omega)
 have w6 : (IntKind.i64).wrap ((code[i1].toNat : Int) + d * 37) = (code[i1].toNat : Int) + d * 37:=wrap_id (by omega) (by omega)
 have w7 : (IntKind.i64).wrap (((code[i1].toNat : Int) + d * 37) * 251) = ((code[i1].toNat : Int) + d * 37) * 251:=wrap_id (by omega) (by omega)
 have w8 : (IntKind.i64).wrap ((code[i2].toNat : Int) * 13) = (code[i2].toNat : Int) * 13:=wrap_id (by omega) (by omega)
 have w9 : (IntKind.i64).wrap (((code[i1].toNat : Int) + d * 37) * 251 + (code[i2].toNat : Int) * 13) = ((code[i1].toNat : Int) + d * 37) * 251 + (code[i2].toNat : Int) * 13:=wrap_id (by omega) (by omega)
 have w10 : (IntKind.i64).wrap (((code[i1].toNat : Int) + d * 37) * 251 + (code[i2].toNat : Int) * 13 + a) = ((code[i1].toNat : Int) + d * 37) * 251 + (code[i2].toNat : Int) * 13 + a:=wrap_id (by omega) (by omega)
 have w11 : (IntKind.i64).wrap ((((code[i1].toNat : Int) + d * 37) * 251 + (code[i2].toNat : Int) * 13 + a) * 257) = (((code[i1].toNat : Int) + d * 37) * 251 + (code[i2].toNat : Int) * 13 + a) * 257:=wrap_id (by omega) (by omega)
 have w12 : (IntKind.i64).wrap ((((code[i1].toNat : Int) + d * 37) * 251 + (code[i2].toNat : Int) * 13 + a) * 257 + (code[i3].toNat : Int)) = (((code[i1].toNat : Int) + d * 37) * 251 + (code[i2].toNat : Int) * 13 + a) * 257 + (code[i3].toNat : Int):=wrap_id (by omega) (by omega)
 have w13 : (IntKind.i64).wrap (a + 2) = a + 2:=wrap_id (by omega) (by omega)
 have v1 : (IntKind.i64).wrap (code[i1].toNat : Int) = (code[i1].toNat : Int):=wrap_id (by omega) (by omega)
 have v2 : (IntKind.i64).wrap (code[i2].toNat : Int) = (code[i2].toNat : Int):=wrap_id (by omega) (by omega)
 have v3 : (IntKind.i64).wrap (code[i3].toNat : Int) = (code[i3].toNat : Int):=wrap_id (by omega) (by omega)
 by_cases k1 : 200 < n <;> by_cases k2 : 60000 < n
 all_goals try omega
 all_goals simp only [go_sem,reduceIte,↓reduceIte,reduceCtorEq,nA,nS,nM,nB,nE,nL,nT,nN,iL,iT,iE,iA,iM,iS,iG,iB,iN,iZ,h,nextV,c1,c2,c2',c2n,c3,w1,w2,v1,v2,v3,w4,w5,w6,w7,w8,w9,w10,w11,w12,w13,k1,k2,e1,e2,e3,hd,b1,b2,b3,idx_nt _ _ l1,idx_nt _ _ l2,idx_nt _ _ l3,map_gd rByte code i1 l1,map_gd rByte code i2 l2,map_gd rByte code i3 l3]) (rfl)
def s69 : SP Tryz.prog:=mkS tyA 69 Tryz.f69 [s70] { md:=[.rw 2,.ro 1],wk:=true,rets:=some ([0,4],[0]) } Tryz.func69 (by kernel_rfl)
@[go_sem] theorem d69 : s69.g = 69 ∧ s69.fs = ⟨[.rw 2,.ro 1],s69.F,true⟩:=⟨nr rfl,nr rfl⟩
@[go_sem] theorem e69 (code : List UInt8) (a n : Int) (h1 : aOk a = true) : s69.F [.agg [.sl .ro 1 (code.map rByte),.i .i64 a],.i .i64 n] = some (.b (nextV code a n == 0),[.agg [.sl .ro 1 (code.map rByte),.i .i64 (a + 1)],.u]):=mkS_eq (0) rfl rfl (fun cx h=>by
 simp only [go_sem,reduceIte,↓reduceIte,reduceCtorEq,nA,nS,nM,nB,nE,nL,nT,nN,iL,iT,iE,iA,iM,iS,iG,iB,iN,iZ,h,h1]) (rfl)
theorem nextV_in (code : List UInt8) {a n : Int} (h : aOk a = true) (hn : 1 ≤ n) : 0 ≤ nextV code a n ∧ nextV code a n < n:=by
 have ha : 0 ≤ a ∧ a ≤ 1000000:=by simpa [aOk] using h
 have g:=bat_le code
 unfold nextV
 rw [if_neg (by omega)]
 by_cases c : code.length = 0
 ·rw [if_pos c]; exact tmod_in (by omega) (by omega)
 rw [if_neg c]
 have q0 : 0 ≤ a.tdiv code.length:=Int.tdiv_nonneg ha.1 (Int.natCast_nonneg _)
 have g1:=g (a.tmod code.length)
 have g2:=g ((a + 1).tmod code.length)
 have g3:=g ((a + 2).tmod code.length)
 refine tmod_in ?_ (by omega)
 split <;> split <;> omega
def pickV (code : List UInt8) (a : Int) (xs : List Int) : Int:=xs.getD (nextV code a xs.length).toNat 0
theorem pick_nat (code : List UInt8) {a : Int} (xs : List Int) (h : aOk a = true) (hx : 0 < xs.length) : ∃ i : Nat,nextV code a xs.length = (i : Int) ∧ i < xs.length:=by
 have:=nextV_in code (n:=xs.length) h (by omega)
 exact ⟨(nextV code a xs.length).toNat,by omega,by omega⟩
def s74 : SP Tryz.prog:=mkS tyA 74 Tryz.f74 [s70] { md:=[.rw 2,.ro 1],wk:=true,rets:=some ([0,4],[0]) } Tryz.func74 (by kernel_rfl)
@[go_sem] theorem d74 : s74.g = 74 ∧ s74.fs = ⟨[.rw 2,.ro 1],s74.F,true⟩:=⟨nr rfl,nr rfl⟩
theorem e74 (code : List UInt8) (a : Int) (xs : List Int) (h1 : aOk a = true) (h2 : 0 < xs.length) : s74.F [.agg [.sl .ro 1 (code.map rByte),.i .i64 a],.sl .ro 1 (xs.map rInt)] = some (.i .i64 (pickV code a xs),[.agg [.sl .ro 1 (code.map rByte),.i .i64 (a + 1)],.u]):=mkS_eq (0) rfl rfl (fun cx h=>by
 obtain ⟨i,e,hi⟩:=pick_nat code xs h1 h2
 have e2 : pickV code a xs = xs[i]:=by unfold pickV; rw [e]; simp [List.getD,hi]
 simp only [go_sem,reduceIte,↓reduceIte,reduceCtorEq,nA,nS,nM,nB,nE,nL,nT,nN,iL,iT,iE,iA,iM,iS,iG,iB,iN,iZ,h,h1,e,e2,idx_nt _ _ hi,map_gd rInt xs i hi]) (rfl)
@[go_sem] theorem e74_2 (code : List UInt8) (a x0 x1 : Int) (h1 : aOk a = true) : s74.F [.agg [.sl .ro 1 (code.map rByte),.i .i64 a],.sl .ro 1 [[.i .i64 x0],[.i .i64 x1]]] = some (.i .i64 (pickV code a [x0,x1]),[.agg [.sl .ro 1 (code.map rByte),.i .i64 (a + 1)],.u]):=e74 code a [x0,x1] h1 (by simp)
@[go_sem] theorem e74_3 (code : List UInt8) (a x0 x1 x2 : Int) (h1 : aOk a = true) : s74.F [.agg [.sl .ro 1 (code.map rByte),.i .i64 a],.sl .ro 1 [[.i .i64 x0],[.i .i64 x1],[.i .i64 x2]]] = some (.i .i64 (pickV code a [x0,x1,x2]),[.agg [.sl .ro 1 (code.map rByte),.i .i64 (a + 1)],.u]):=e74 code a [x0,x1,x2] h1 (by simp)
@[go_sem] theorem e74_4 (code : List UInt8) (a x0 x1 x2 x3 : Int) (h1 : aOk a = true) : s74.F [.agg [.sl .ro 1 (code.map rByte),.i .i64 a],.sl .ro 1 [[.i .i64 x0],[.i .i64 x1],[.i .i64 x2],[.i .i64 x3]]] = some (.i .i64 (pickV code a [x0,x1,x2,x3]),[.agg [.sl .ro 1 (code.map rByte),.i .i64 (a + 1)],.u]):=e74 code a [x0,x1,x2,x3] h1 (by simp)
@[go_sem] theorem e74_5 (code : List UInt8) (a x0 x1 x2 x3 x4 : Int) (h1 : aOk a = true) : s74.F [.agg [.sl .ro 1 (code.map rByte),.i .i64 a],.sl .ro 1 [[.i .i64 x0],[.i .i64 x1],[.i .i64 x2],[.i .i64 x3],[.i .i64 x4]]] = some (.i .i64 (pickV code a [x0,x1,x2,x3,x4]),[.agg [.sl .ro 1 (code.map rByte),.i .i64 (a + 1)],.u]):=e74 code a [x0,x1,x2,x3,x4] h1 (by simp)
@[go_sem] theorem e74_6 (code : List UInt8) (a x0 x1 x2 x3 x4 x5 : Int) (h1 : aOk a = true) : s74.F [.agg [.sl .ro 1 (code.map rByte),.i .i64 a],.sl .ro 1 [[.i .i64 x0],[.i .i64 x1],[.i .i64 x2],[.i .i64 x3],[.i .i64 x4],[.i .i64 x5]]] = some (.i .i64 (pickV code a [x0,x1,x2,x3,x4,x5]),[.agg [.sl .ro 1 (code.map rByte),.i .i64 (a + 1)],.u]):=e74 code a [x0,x1,x2,x3,x4,x5] h1 (by simp)
@[go_sem] theorem e74_7 (code : List UInt8) (a x0 x1 x2 x3 x4 x5 x6 : Int) (h1 : aOk a = true) : s74.F [.agg [.sl .ro 1 (code.map rByte),.i .i64 a],.sl .ro 1 [[.i .i64 x0],[.i .i64 x1],[.i .i64 x2],[.i .i64 x3],[.i .i64 x4],[.i .i64 x5],[.i .i64 x6]]] = some (.i .i64 (pickV code a [x0,x1,x2,x3,x4,x5,x6]),[.agg [.sl .ro 1 (code.map rByte),.i .i64 (a + 1)],.u]):=e74 code a [x0,x1,x2,x3,x4,x5,x6] h1 (by simp)
@[go_sem] theorem e74_8 (code : List UInt8) (a x0 x1 x2 x3 x4 x5 x6 x7 : Int) (h1 : aOk a = true) : s74.F [.agg [.sl .ro 1 (code.map rByte),.i .i64 a],.sl .ro 1 [[.i .i64 x0],[.i .i64 x1],[.i .i64 x2],[.i .i64 x3],[.i .i64 x4],[.i .i64 x5],[.i .i64 x6],[.i .i64 x7]]] = some (.i .i64 (pickV code a [x0,x1,x2,x3,x4,x5,x6,x7]),[.agg [.sl .ro 1 (code.map rByte),.i .i64 (a + 1)],.u]):=e74 code a [x0,x1,x2,x3,x4,x5,x6,x7] h1 (by simp)
@[go_sem] theorem e74_9 (code : List UInt8) (a x0 x1 x2 x3 x4 x5 x6 x7 x8 : Int) (h1 : aOk a = true) : s74.F [.agg [.sl .ro 1 (code.map rByte),.i .i64 a],.sl .ro 1 [[.i .i64 x0],[.i .i64 x1],[.i .i64 x2],[.i .i64 x3],[.i .i64 x4],[.i .i64 x5],[.i .i64 x6],[.i .i64 x7],[.i .i64 x8]]] = some (.i .i64 (pickV code a [x0,x1,x2,x3,x4,x5,x6,x7,x8]),[.agg [.sl .ro 1 (code.map rByte),.i .i64 (a + 1)],.u]):=e74 code a [x0,x1,x2,x3,x4,x5,x6,x7,x8] h1 (by simp)
def wordV (code : List UInt8) (a : Int) (xs : List ByteArray) : ByteArray:=xs.getD (nextV code a xs.length).toNat ⟨#[]⟩
def s106 : SP Tryz.prog:=mkS tyA 106 Tryz.f106 [s70] { md:=[.rw 2,.ro 1],wk:=true,rets:=some ([0,4],[0]) } Tryz.func106 (by kernel_rfl)
@[go_sem] theorem d106 : s106.g = 106 ∧ s106.fs = ⟨[.rw 2,.ro 1],s106.F,true⟩:=⟨nr rfl,nr rfl⟩
theorem e106 (code : List UInt8) (a : Int) (xs : List ByteArray) (h1 : aOk a = true) (h2 : 0 < xs.length) : s106.F [.agg [.sl .ro 1 (code.map rByte),.i .i64 a],.sl .ro 1 (xs.map rStr)] = some (.s (wordV code a xs),[.agg [.sl .ro 1 (code.map rByte),.i .i64 (a + 1)],.u]):=mkS_eq (0) rfl rfl (fun cx h=>by
 obtain ⟨i,e,hi⟩ : ∃ i : Nat,nextV code a xs.length = (i : Int) ∧ i < xs.length:=by
  have:=nextV_in code (n:=xs.length) h1 (by omega)
  exact ⟨(nextV code a xs.length).toNat,by omega,by omega⟩
 have e2 : wordV code a xs = xs[i]:=by unfold wordV; rw [e]; simp [List.getD,hi]
 simp only [go_sem,reduceIte,↓reduceIte,reduceCtorEq,nA,nS,nM,nB,nE,nL,nT,nN,iL,iT,iE,iA,iM,iS,iG,iB,iN,iZ,h,h1,e,e2,idx_nt _ _ hi,map_gd rStr xs i hi]) (rfl)
@[go_sem] theorem e106_2 (code : List UInt8) (a : Int) (x0 x1 : ByteArray) (h1 : aOk a = true) : s106.F [.agg [.sl .ro 1 (code.map rByte),.i .i64 a],.sl .ro 1 [[.s x0],[.s x1]]] = some (.s (wordV code a [x0,x1]),[.agg [.sl .ro 1 (code.map rByte),.i .i64 (a + 1)],.u]):=e106 code a [x0,x1] h1 (by simp)
@[go_sem] theorem e106_3 (code : List UInt8) (a : Int) (x0 x1 x2 : ByteArray) (h1 : aOk a = true) : s106.F [.agg [.sl .ro 1 (code.map rByte),.i .i64 a],.sl .ro 1 [[.s x0],[.s x1],[.s x2]]] = some (.s (wordV code a [x0,x1,x2]),[.agg [.sl .ro 1 (code.map rByte),.i .i64 (a + 1)],.u]):=e106 code a [x0,x1,x2] h1 (by simp)
@[go_sem] theorem e106_4 (code : List UInt8) (a : Int) (x0 x1 x2 x3 : ByteArray) (h1 : aOk a = true) : s106.F [.agg [.sl .ro 1 (code.map rByte),.i .i64 a],.sl .ro 1 [[.s x0],[.s x1],[.s x2],[.s x3]]] = some (.s (wordV code a [x0,x1,x2,x3]),[.agg [.sl .ro 1 (code.map rByte),.i .i64 (a + 1)],.u]):=e106 code a [x0,x1,x2,x3] h1 (by simp)
@[go_sem] theorem e106_5 (code : List UInt8) (a : Int) (x0 x1 x2 x3 x4 : ByteArray) (h1 : aOk a = true) : s106.F [.agg [.sl .ro 1 (code.map rByte),.i .i64 a],.sl .ro 1 [[.s x0],[.s x1],[.s x2],[.s x3],[.s x4]]] = some (.s (wordV code a [x0,x1,x2,x3,x4]),[.agg [.sl .ro 1 (code.map rByte),.i .i64 (a + 1)],.u]):=e106 code a [x0,x1,x2,x3,x4] h1 (by simp)
@[go_sem] theorem e106_6 (code : List UInt8) (a : Int) (x0 x1 x2 x3 x4 x5 : ByteArray) (h1 : aOk a = true) : s106.F [.agg [.sl .ro 1 (code.map rByte),.i .i64 a],.sl .ro 1 [[.s x0],[.s x1],[.s x2],[.s x3],[.s x4],[.s x5]]] = some (.s (wordV code a [x0,x1,x2,x3,x4,x5]),[.agg [.sl .ro 1 (code.map rByte),.i .i64 (a + 1)],.u]):=e106 code a [x0,x1,x2,x3,x4,x5] h1 (by simp)
@[go_sem] theorem e106_7 (code : List UInt8) (a : Int) (x0 x1 x2 x3 x4 x5 x6 : ByteArray) (h1 : aOk a = true) : s106.F [.agg [.sl .ro 1 (code.map rByte),.i .i64 a],.sl .ro 1 [[.s x0],[.s x1],[.s x2],[.s x3],[.s x4],[.s x5],[.s x6]]] = some (.s (wordV code a [x0,x1,x2,x3,x4,x5,x6]),[.agg [.sl .ro 1 (code.map rByte),.i .i64 (a + 1)],.u]):=e106 code a [x0,x1,x2,x3,x4,x5,x6] h1 (by simp)
@[go_sem] theorem e106_8 (code : List UInt8) (a : Int) (x0 x1 x2 x3 x4 x5 x6 x7 : ByteArray) (h1 : aOk a = true) : s106.F [.agg [.sl .ro 1 (code.map rByte),.i .i64 a],.sl .ro 1 [[.s x0],[.s x1],[.s x2],[.s x3],[.s x4],[.s x5],[.s x6],[.s x7]]] = some (.s (wordV code a [x0,x1,x2,x3,x4,x5,x6,x7]),[.agg [.sl .ro 1 (code.map rByte),.i .i64 (a + 1)],.u]):=e106 code a [x0,x1,x2,x3,x4,x5,x6,x7] h1 (by simp)
@[go_sem] theorem e106_9 (code : List UInt8) (a : Int) (x0 x1 x2 x3 x4 x5 x6 x7 x8 : ByteArray) (h1 : aOk a = true) : s106.F [.agg [.sl .ro 1 (code.map rByte),.i .i64 a],.sl .ro 1 [[.s x0],[.s x1],[.s x2],[.s x3],[.s x4],[.s x5],[.s x6],[.s x7],[.s x8]]] = some (.s (wordV code a [x0,x1,x2,x3,x4,x5,x6,x7,x8]),[.agg [.sl .ro 1 (code.map rByte),.i .i64 (a + 1)],.u]):=e106 code a [x0,x1,x2,x3,x4,x5,x6,x7,x8] h1 (by simp)
@[go_sem] theorem e106_10 (code : List UInt8) (a : Int) (x0 x1 x2 x3 x4 x5 x6 x7 x8 x9 : ByteArray) (h1 : aOk a = true) : s106.F [.agg [.sl .ro 1 (code.map rByte),.i .i64 a],.sl .ro 1 [[.s x0],[.s x1],[.s x2],[.s x3],[.s x4],[.s x5],[.s x6],[.s x7],[.s x8],[.s x9]]] = some (.s (wordV code a [x0,x1,x2,x3,x4,x5,x6,x7,x8,x9]),[.agg [.sl .ro 1 (code.map rByte),.i .i64 (a + 1)],.u]):=e106 code a [x0,x1,x2,x3,x4,x5,x6,x7,x8,x9] h1 (by simp)
def rulesV (code : List UInt8) (a : Int) : Rules:=⟨pickV code a [1000,5000,300],pickV code (a + 1) [1,2,3,5],pickV code (a + 1 + 1) [500,500,1000,1,300],pickV code (a + 1 + 1 + 1) [0,500,2000],pickV code (a + 1 + 1 + 1 + 1) [1,1,2,5]⟩
theorem aOk_le {a b : Int} (h : aOk b = true) (h0 : 0 ≤ a) (h1 : a ≤ b) : aOk a = true:=by simp only [aOk,decide_eq_true_eq] at h ⊢; omega
def bOk (a : Int) : Bool:=decide (0 ≤ a ∧ a ≤ 900000)
theorem bOk_a {a : Int} (h : bOk a = true) (k : Int) (h0 : 0 ≤ k) (h1 : k ≤ 1000) : aOk (a + k) = true:=by simp only [aOk,bOk,decide_eq_true_eq] at h ⊢; omega
def lineC (code : List UInt8) (a : Int) : Header:=⟨wordV code (a + 1) [⟨#[67,97,99,104,101,45,67,111,110,116,114,111,108]⟩,⟨#[99,97,99,104,101,45,99,111,110,116,114,111,108]⟩],wordV code (a + 1 + 1) [⟨#[109,97,120,45,97,103,101,61,53]⟩,⟨#[109,97,120,45,97,103,101,61,50,44,32,115,116,97,108,101,45,119,104,105,108,101,45,114,101,118,97,108,105,100,97,116,101,61,51]⟩,⟨#[115,45,109,97,120,97,103,101,61,49,44,32,115,116,97,108,101,45,105,102,45,101,114,114,111,114,61,57]⟩,⟨#[110,111,45,115,116,111,114,101]⟩,⟨#[110,111,45,99,97,99,104,101]⟩,⟨#[112,114,105,118,97,116,101]⟩,⟨#[109,97,120,45,97,103,101,61,48,44,32,109,117,115,116,45,114,101,118,97,108,105,100,97,116,101]⟩,⟨#[109,97,120,45,97,103,101,61,120]⟩,⟨#[112,117,98,108,105,99]⟩,⟨#[109,97,120,45,97,103,101,61,54,48,44,32,115,116,97,108,101,45,119,104,105,108,101,45,114,101,118,97,108,105,100,97,116,101,61,54,48,44,32,115,116,97,108,101,45,105,102,45,101,114,114,111,114,61,54,48]⟩]⟩
def lineV (code : List UInt8) (a : Int) : Header:=if nextV code a 9 = 0 then lineC code a else if nextV code a 9 = 1 then lineC code a else if nextV code a 9 = 2 then ⟨⟨#[69,84,97,103]⟩,wordV code (a + 1) [⟨#[34,118,49,34]⟩,⟨#[34,118,50,34]⟩,⟨#[87,47,34,118,49,34]⟩]⟩ else if nextV code a 9 = 3 then ⟨⟨#[86,97,114,121]⟩,wordV code (a + 1) [⟨#[65,99,99,101,112,116]⟩,⟨#[97,99,99,101,112,116,45,108,97,110,103,117,97,103,101]⟩,⟨#[42]⟩,⟨#[65,99,99,101,112,116,44,32,88,45,65]⟩]⟩ else if nextV code a 9 = 4 then ⟨⟨#[65,103,101]⟩,wordV code (a + 1) [⟨#[48]⟩,⟨#[49]⟩,⟨#[51]⟩,⟨#[120]⟩]⟩ else if nextV code a 9 = 5 then ⟨wordV code (a + 1) [⟨#[69,120,112,105,114,101,115]⟩,⟨#[68,97,116,101]⟩],wordV code (a + 1 + 1) [⟨#[84,104,117,44,32,48,49,32,74,97,110,32,49,57,55,48,32,48,48,58,48,48,58,48,53,32,71,77,84]⟩,⟨#[84,104,117,44,32,48,49,32,74,97,110,32,49,57,55,48,32,48,48,58,48,48,58,48,57,32,71,77,84]⟩,⟨#[48]⟩]⟩ else if nextV code a 9 = 6 then ⟨⟨#[83,117,114,114,111,103,97,116,101,45,75,101,121]⟩,wordV code (a + 1) [⟨#[97,32,98]⟩,⟨#[97]⟩,⟨#[98,32,99]⟩]⟩
 else ⟨wordV code (a + 1) [⟨#[65,99,99,101,112,116]⟩,⟨#[88,45,65]⟩,⟨#[65,99,99,101,112,116,45,76,97,110,103,117,97,103,101]⟩,⟨#[83,101,114,118,101,114]⟩],wordV code (a + 1 + 1) [⟨#[120]⟩,⟨#[121]⟩,⟨#[]⟩,⟨#[116,101,120,116,47,104,116,109,108]⟩]⟩
def lineA (code : List UInt8) (a : Int) : Int:=if nextV code a 9 = 0 then a + 1 + 1 + 1 else if nextV code a 9 = 1 then a + 1 + 1 + 1 else if nextV code a 9 = 2 then a + 1 + 1 else if nextV code a 9 = 3 then a + 1 + 1 else if nextV code a 9 = 4 then a + 1 + 1 else if nextV code a 9 = 5 then a + 1 + 1 + 1 else if nextV code a 9 = 6 then a + 1 + 1 else a + 1 + 1 + 1
theorem lineA_le (code : List UInt8) (a : Int) : a ≤ lineA code a ∧ lineA code a ≤ a + 3:=by
 unfold lineA
 repeat' split
 all_goals omega
def s290 : SP Tryz.prog:=mkS tyA 290 Tryz.f290 [s70,s106] { md:=[.rw 2],wk:=true,rg:=[(0,[0,2],[0,2]),(1,[0,2,4],[0,2]),(2,[0,2,4,5],[0,2]),(3,[0,2,4,5],[0,2]),(4,[0,2],[0,2]),(5,[0,2,4,15],[0,2]),(6,[0,2],[0,2]),(7,[0,2,4,21],[0,2]),(8,[0,2],[0,2]),(9,[0,2,4,27],[0,2]),(10,[0,2],[0,2]),(11,[0,2,4,33],[0,2]),(12,[0,2],[0,2]),(13,[0,2,42],[0,2]),(14,[0,2],[0,2]),(15,[0,2],[0,2])],rets:=some ([0,2],[0,2]) } Tryz.func290 (by kernel_rfl)
@[go_sem] theorem d290 : s290.g = 290 ∧ s290.fs = ⟨[.rw 2],s290.F,true⟩:=⟨nr rfl,nr rfl⟩
@[go_sem] theorem e290 (code : List UInt8) (a : Int) (h1 : bOk a = true) : s290.F [.agg [.sl .ro 1 (code.map rByte),.i .i64 a]] = some (.agg (rHeader .ro (lineV code a)),[.agg [.sl .ro 1 (code.map rByte),.i .i64 (lineA code a)]]):=mkS_eq (0) rfl rfl (fun cx h=>by
 have p0 : aOk (a) = true:=by have:=bOk_a h1 0 (by omega) (by omega); rwa [show a + (0 : Int) = a by omega] at this
 have p1 : aOk (a + 1) = true:=by have:=bOk_a h1 1 (by omega) (by omega); rwa [show a + (1 : Int) = a + 1 by omega] at this
 have p2 : aOk (a + 1 + 1) = true:=by have:=bOk_a h1 2 (by omega) (by omega); rwa [show a + (2 : Int) = a + 1 + 1 by omega] at this
 obtain ⟨k,hk⟩ : ∃ k,nextV code a 9 = k:=⟨_,rfl⟩
 by_cases c0 : k = 0
 ·subst c0
  simp only [go_sem,reduceIte,↓reduceIte,reduceCtorEq,nA,nS,nM,nB,nE,nL,nT,nN,iL,iT,iE,iA,iM,iS,iG,iB,iN,iZ,h,lineV,lineC,lineA,hk,p0,p1,p2]
 have d0 : (k == 0) = false:=by simpa using c0
 by_cases c1 : k = 1
 ·subst c1
  simp only [go_sem,reduceIte,↓reduceIte,reduceCtorEq,nA,nS,nM,nB,nE,nL,nT,nN,iL,iT,iE,iA,iM,iS,iG,iB,iN,iZ,h,lineV,lineC,lineA,hk,p0,p1,p2]
 have d1 : (k == 1) = false:=by simpa using c1
 by_cases c2 : k = 2
 ·subst c2
  simp only [go_sem,reduceIte,↓reduceIte,reduceCtorEq,nA,nS,nM,nB,nE,nL,nT,nN,iL,iT,iE,iA,iM,iS,iG,iB,iN,iZ,h,lineV,lineC,lineA,hk,p0,p1,p2]
 have d2 : (k == 2) = false:=by simpa using c2
 by_cases c3 : k = 3
 ·subst c3
  simp only [go_sem,reduceIte,↓reduceIte,reduceCtorEq,nA,nS,nM,nB,nE,nL,nT,nN,iL,iT,iE,iA,iM,iS,iG,iB,iN,iZ,h,lineV,lineC,lineA,hk,p0,p1,p2]
 have d3 : (k == 3) = false:=by simpa using c3
 by_cases c4 : k = 4
 ·subst c4
  simp only [go_sem,reduceIte,↓reduceIte,reduceCtorEq,nA,nS,nM,nB,nE,nL,nT,nN,iL,iT,iE,iA,iM,iS,iG,iB,iN,iZ,h,lineV,lineC,lineA,hk,p0,p1,p2]
 have d4 : (k == 4) = false:=by simpa using c4
 by_cases c5 : k = 5
 ·subst c5
  simp only [go_sem,reduceIte,↓reduceIte,reduceCtorEq,nA,nS,nM,nB,nE,nL,nT,nN,iL,iT,iE,iA,iM,iS,iG,iB,iN,iZ,h,lineV,lineC,lineA,hk,p0,p1,p2]
 have d5 : (k == 5) = false:=by simpa using c5
 by_cases c6 : k = 6
 ·subst c6
  simp only [go_sem,reduceIte,↓reduceIte,reduceCtorEq,nA,nS,nM,nB,nE,nL,nT,nN,iL,iT,iE,iA,iM,iS,iG,iB,iN,iZ,h,lineV,lineC,lineA,hk,p0,p1,p2]
 have d6 : (k == 6) = false:=by simpa using c6
 simp only [go_sem,reduceIte,↓reduceIte,reduceCtorEq,nA,nS,nM,nB,nE,nL,nT,nN,iL,iT,iE,iA,iM,iS,iG,iB,iN,iZ,h,lineV,lineC,lineA,hk,p0,p1,p2,c0,d0,c1,d1,c2,d2,c3,d3,c4,d4,c5,d5,c6,d6]) (rfl)
def nOk (n : Int) : Bool:=decide (n ≤ 100)
def lOk (a : Int) : Bool:=decide (0 ≤ a ∧ a ≤ 800000)
def drawL (code : List UInt8) (a n : Int) : Int × List Header:=(List.range n.toNat).foldl (fun s _=>(lineA code s.1,s.2 ++ [lineV code s.1])) (a,[])
def LiI (a : Int) (k : Nat) (s : Int × List Header) : Prop:=a ≤ s.1 ∧ s.1 ≤ a + 3 * k ∧ s.2.length = k
theorem liI (code : List UInt8) {a : Int} (k : Nat) (s : Int × List Header) (h : LiI a k s) : LiI a (k + 1) (lineA code s.1,s.2 ++ [lineV code s.1]):=by
 have:=lineA_le code s.1
 unfold LiI at h ⊢
 simp only [List.length_append,List.length_cons,List.length_nil]
 omega
theorem drawL_I (code : List UInt8) (a n : Int) : LiI a n.toNat (drawL code a n):=by
 unfold drawL
 generalize n.toNat = m
 induction m with
 | zero=>unfold LiI; simp
 | succ m ih=>rw [List.range_succ,List.foldl_append]; exact liI code m _ ih
def s288 : SP Tryz.prog:=mkS tyA 288 Tryz.f288 [s290] { md:=[.rw 2,.ro 1],wk:=true,rg:=[(0,[0,1],[0]),(1,[0,1,5],[0]),(2,[0,1,5,8],[0]),(3,[0,1,5],[0]),(4,[0,1,5],[0]),(5,[0,4],[0])],lv:=[(0,[0,1,5],[0])],out:=[(0,[0,5],[0])],rets:=some ([0,4],[0]) } Tryz.func288 (by kernel_rfl)
@[go_sem] theorem d288 : s288.g = 288 ∧ s288.fs = ⟨[.rw 2,.ro 1],s288.F,true⟩:=⟨nr rfl,nr rfl⟩
@[go_sem] theorem e288 (code : List UInt8) (a K : Int) (h1 : lOk a = true) (h2 : nOk K = true) : s288.F [.agg [.sl .ro 1 (code.map rByte),.i .i64 a],.i .i64 K] = some (.sl .mut 2 ((drawL code a K).2.map (rHeader .mut)),[.agg [.sl .ro 1 (code.map rByte),.i .i64 (drawL code a K).1],.u]):=mkS_eq (200) rfl rfl (fun cx h=>by
 have hk0:=h2
 have ha0:=h1
 simp only [nOk,lOk,decide_eq_true_eq] at hk0 ha0
 have hb0:=loopN_eq Tryz.f288 0 _ _ rfl rfl
 obtain ⟨hI,hr⟩:=loop_fold (cx:=cx) (blk:=0) (body:=loopN Tryz.f288 0) (List.range K.toNat) (fun k (s : Int × List Header)=>⟨E [(0,.p ⟨false,0,[],0⟩),(1,.i .i64 (K - k)),(5,.sl .mut 2 (s.2.map (rHeader .mut)))],B [(0,[.sl .ro 1 (code.map rByte),.i .i64 s.1])]⟩) (fun s=>⟨E [(0,.p ⟨false,0,[],0⟩),(5,.sl .mut 2 (s.2.map (rHeader .mut)))],B [(0,[.sl .ro 1 (code.map rByte),.i .i64 s.1])]⟩) (fun x s=>(lineA code s.1,s.2 ++ [lineV code s.1])) (fun k s=>LiI a k s)
   (fun s hI G=>by simp only [go_sem,reduceIte,↓reduceIte,reduceCtorEq,nA,nS,nM,nB,nE,nL,nT,nN,iL,iT,iE,iA,iM,iS,iG,iB,iN,iZ,h,Int.lt_irrefl,hb0,List.length_range,show ¬ (0 < K - (K.toNat : Int)) from by omega]) (fun k hk s hI=>by
    have h1 : ((k : Int) < ((List.range K.toNat).length : Int)):=Int.ofNat_lt.2 hk
    simp only [List.length_range] at hk h1
    rcases s with ⟨b,out⟩
    obtain ⟨q1,q2,q3⟩:=id hI
    simp only at q1 q2 q3
    have t1 : 0 < K - (k : Int):=by omega
    have t2 : (IntKind.i64).wrap (K - (k : Int) - 1) = K - ((k + 1 : Nat) : Int):=by rw [wrap_id (by omega) (by omega)]; omega
    have t3 : (out.length + 1) * 32 ≤ 140737488355328:=by omega
    have t4 : ∀ x y,out.map (rHeader .mut) ++ [[.s x,.s y]] = (out ++ [Header.mk x y]).map (rHeader .mut):=fun x y=>by simp [rHeader]
    have t5 : bOk b = true:=by simp only [bOk,decide_eq_true_eq]; omega
    have hJ:=liI code k (b,out) hI
    all_goals exact ⟨hJ,_,fun G=>by simp only [go_sem,reduceIte,↓reduceIte,reduceCtorEq,nA,nS,nM,nB,nE,nL,nT,nN,iL,iT,iE,iA,iM,iS,iG,iB,iN,iZ,h,t1,t2,t3,t4,t5,h1,idx_nt _ _ hk,wrap_nat1 (show k < 9223372036854775807 by omega),hb0] <;> with_reducible rfl,by simp only [go_sem,reduceIte,↓reduceIte,reduceCtorEq,nA,nS,nM,nB,nE,nL,nT,nN,iL,iT,iE,iA,iM,iS,iG,iB,iN,iZ,h]⟩) (a,[]) (by unfold LiI; simp) 200 (by simp; omega)
 rw [hb0] at hr
 rw [show K - ((0 : Nat) : Int) = K from by simp] at hr
 simp only [go_sem,reduceIte,↓reduceIte,reduceCtorEq,nA,nS,nM,nB,nE,nL,nT,nN,iL,iT,iE,iA,iM,iS,iG,iB,iN,iZ,h,drawL,hr]) (rfl)
def dOk (a : Int) : Bool:=decide (0 ≤ a ∧ a ≤ 700000)
def reqP (code : List UInt8) (a : Int) : Int × List Header:=drawL code (a + 1 + 1 + 1 + 1) (pickV code (a + 1 + 1 + 1) [0,0,1,2])
def reqV (code : List UInt8) (a : Int) : Request:=⟨wordV code a [⟨#[71,69,84]⟩,⟨#[71,69,84]⟩,⟨#[71,69,84]⟩,⟨#[72,69,65,68]⟩],wordV code (a + 1) [⟨#[97,46,99,111,109]⟩,⟨#[65,46,99,111,109]⟩,⟨#[98,46,111,114,103]⟩],wordV code (a + 1 + 1) [⟨#[47]⟩,⟨#[47,120]⟩,⟨#[47,121,63,98,61,50,38,97,61,49]⟩,⟨#[47,121,63,97,61,49,38,98,61,50]⟩,⟨#[47,121,63,97,61,49,38,38,98,61,50]⟩,⟨#[47,122,63]⟩,⟨#[47,120]⟩],(reqP code a).2⟩
theorem pick_in (code : List UInt8) {a : Int} (xs : List Int) (h : aOk a = true) (hx : 0 < xs.length) : pickV code a xs ∈ xs:=by
 obtain ⟨i,e,hi⟩:=pick_nat code xs h hx
 have : pickV code a xs = xs[i]:=by unfold pickV; rw [e]; simp [List.getD,hi]
 rw [this]; exact List.getElem_mem hi
theorem reqP_le (code : List UInt8) {a : Int} (h : dOk a = true) : a ≤ (reqP code a).1 ∧ (reqP code a).1 ≤ a + 10 ∧ (reqP code a).2.length ≤ 2:=by
 have h':=h
 simp only [dOk,decide_eq_true_eq] at h'
 have p : aOk (a + 1 + 1 + 1) = true:=by simp only [aOk,decide_eq_true_eq]; omega
 have m:=pick_in code [0,0,1,2] p (by simp)
 simp only [List.mem_cons,List.not_mem_nil,or_false] at m
 have:=drawL_I code (a + 1 + 1 + 1 + 1) (pickV code (a + 1 + 1 + 1) [0,0,1,2])
 unfold LiI at this
 unfold reqP
 omega
def s205 : SP Tryz.prog:=mkS tyA 205 Tryz.f205 [s74,s106,s288] { md:=[.rw 2],wk:=true,rets:=some ([0,2,16],[0,2]) } Tryz.func205 (by kernel_rfl)
@[go_sem] theorem d205 : s205.g = 205 ∧ s205.fs = ⟨[.rw 2],s205.F,true⟩:=⟨nr rfl,nr rfl⟩
@[go_sem] theorem e205 (code : List UInt8) (a : Int) (h0 : dOk a = true) : s205.F [.agg [.sl .ro 1 (code.map rByte),.i .i64 a]] = some (.agg (rRequest .mut (reqV code a)),[.agg [.sl .ro 1 (code.map rByte),.i .i64 (reqP code a).1]]):=mkS_eq (0) rfl rfl (fun cx h=>by
 have hd:=h0
 simp only [dOk,decide_eq_true_eq] at hd
 have h1 : bOk a = true:=by simp only [bOk,decide_eq_true_eq]; omega
 have p0 : aOk (a) = true:=by have:=bOk_a h1 0 (by omega) (by omega); rwa [show a + (0 : Int) = a by omega] at this
 have p1 : aOk (a + 1) = true:=by have:=bOk_a h1 1 (by omega) (by omega); rwa [show a + (1 : Int) = a + 1 by omega] at this
 have p2 : aOk (a + 1 + 1) = true:=by have:=bOk_a h1 2 (by omega) (by omega); rwa [show a + (2 : Int) = a + 1 + 1 by omega] at this
 have p3 : aOk (a + 1 + 1 + 1) = true:=by have:=bOk_a h1 3 (by omega) (by omega); rwa [show a + (3 : Int) = a + 1 + 1 + 1 by omega] at this
 have p4 : lOk (a + 1 + 1 + 1 + 1) = true:=by simp only [lOk,decide_eq_true_eq]; omega
 have p5 : nOk (pickV code (a + 1 + 1 + 1) [0,0,1,2]) = true:=by
  have m:=pick_in code [0,0,1,2] p3 (by simp)
  simp only [List.mem_cons,List.not_mem_nil,or_false] at m
  simp only [nOk,decide_eq_true_eq]; omega
 simp only [go_sem,reduceIte,↓reduceIte,reduceCtorEq,nA,nS,nM,nB,nE,nL,nT,nN,iL,iT,iE,iA,iM,iS,iG,iB,iN,iZ,h,reqV,reqP,p0,p1,p2,p3,p4,p5]) (rfl)
def spaces (c : UInt8) (t : ByteArray) : Nat → ByteArray
 | 0=>t
 | k + 1=>spaces c t k ++ ⟨#[c]⟩
theorem spaces_size (c : UInt8) (t : ByteArray) (k : Nat) : (spaces c t k).size = t.size + k:=by
 induction k with
 | zero=>rfl
 | succ k ih=>unfold spaces; rw [ByteArray.size_append,ih]; show t.size + k + 1 = _; omega
def longN (code : List UInt8) (a : Int) : Nat:=if pickV code (a + 999) [1000,1001] = 1000 then 999 else 1000
theorem longN_le (code : List UInt8) (a : Int) : longN code a ≤ 1000 ∧ 999 ≤ longN code a:=by unfold longN; split <;> omega
def sOk (t : ByteArray) : Bool:=decide (t.size = 1)
def s289 : SP Tryz.prog:=mkS tyA 289 Tryz.f289 [s74] { md:=[.rw 2,.ro 1],wk:=true,rg:=[(0,[0,1],[0]),(1,[0,1,10],[0]),(2,[0,1],[0]),(3,[0,4],[0])],lv:=[(0,[0,1],[0])],out:=[(0,[0,1],[0])],rets:=some ([0,4],[0]) } Tryz.func289 (by kernel_rfl)
@[go_sem] theorem d289 : s289.g = 289 ∧ s289.fs = ⟨[.rw 2,.ro 1],s289.F,true⟩:=⟨nr rfl,nr rfl⟩
@[go_sem] theorem e289 (code : List UInt8) (a : Int) (t : ByteArray) (h1 : bOk a = true) (h2 : sOk t = true) : s289.F [.agg [.sl .ro 1 (code.map rByte),.i .i64 a],.s t] = some (.s (spaces 32 t (longN code a)),[.agg [.sl .ro 1 (code.map rByte),.i .i64 (a + longN code a + 1)],.u]):=mkS_eq (1001) rfl rfl (fun cx h=>by
 have ha:=h1
 have hz:=h2
 simp only [bOk,sOk,decide_eq_true_eq] at ha hz
 have hM0:=longN_le code a
 obtain ⟨M,hM⟩ : ∃ M,longN code a = M:=⟨_,rfl⟩
 rw [hM] at hM0
 have e1 : aOk (a + M) = true:=by simp only [aOk,decide_eq_true_eq]; omega
 have e2:=spaces_size 32 t M
 have e3 : ¬ ((t.size + M : Nat) : Int) < pickV code (a + M) [1000,1001]:=by
  have m1:=pick_in code [1000,1001] e1 (by simp)
  simp only [List.mem_cons,List.not_mem_nil,or_false] at m1
  by_cases c : pickV code (a + 999) [1000,1001] = 1000
  ·have : M = 999:=by rw [← hM,longN,if_pos c]
   subst this
   have : pickV code (a + (999 : Nat)) [1000,1001] = 1000:=c
   omega
  ·have : M = 1000:=by rw [← hM,longN,if_neg c]
   subst this
   rcases m1 with e | e <;> rw [e] <;> omega
 have hb0:=loopN_eq Tryz.f289 0 _ _ rfl rfl
 obtain ⟨hI,hr⟩:=loop_fold (cx:=cx) (blk:=0) (body:=loopN Tryz.f289 0) (List.range M) (fun k (s : Unit)=>⟨E [(0,.p ⟨false,0,[],0⟩),(1,.s (spaces 32 t k))],B [(0,[.sl .ro 1 (code.map rByte),.i .i64 (a + k)])]⟩) (fun s=>⟨E [(0,.p ⟨false,0,[],0⟩),(1,.s (spaces 32 t M))],B [(0,[.sl .ro 1 (code.map rByte),.i .i64 (a + M + 1)])]⟩) (fun x s=>()) (fun k s=>True)
   (fun s hI G=>by simp only [go_sem,reduceIte,↓reduceIte,reduceCtorEq,nA,nS,nM,nB,nE,nL,nT,nN,iL,iT,iE,iA,iM,iS,iG,iB,iN,iZ,h,Int.lt_irrefl,hb0,List.length_range,e1,e2,e3]) (fun k hk s hI=>by
    have h1 : ((k : Int) < ((List.range M).length : Int)):=Int.ofNat_lt.2 hk
    simp only [List.length_range] at hk h1
    have t1 : aOk (a + k) = true:=by simp only [aOk,decide_eq_true_eq]; omega
    have m1:=pick_in code [1000,1001] t1 (by simp)
    simp only [List.mem_cons,List.not_mem_nil,or_false] at m1
    have z1:=spaces_size 32 t k
    have t2 : ((t.size + k : Nat) : Int) < pickV code (a + k) [1000,1001]:=by
     by_cases hk9 : k = 999
     ·subst hk9
      have : ¬ pickV code (a + 999) [1000,1001] = 1000:=fun e=>by rw [← hM,longN,if_pos e] at hk; omega
      rcases m1 with e | e
      ·exact absurd e this
      ·rw [e]; omega
     ·rcases m1 with e | e <;> rw [e] <;> omega
    have t3 : t.size + k + (#[32] : Array UInt8).size ≤ 9223372036854775807:=by simp; omega
    have t4 : a + (k : Int) + 1 = a + ((k + 1 : Nat) : Int):=by omega
    have t5 : spaces 32 t k ++ ⟨#[32]⟩ = spaces 32 t (k + 1):=rfl
    exact ⟨trivial,_,fun G=>by simp only [go_sem,reduceIte,↓reduceIte,reduceCtorEq,nA,nS,nM,nB,nE,nL,nT,nN,iL,iT,iE,iA,iM,iS,iG,iB,iN,iZ,h,t1,z1,t2,t3,t4,t5,h1,idx_nt _ _ hk,wrap_nat1 (show k < 9223372036854775807 by omega),hb0] <;> with_reducible rfl,by simp only [go_sem,reduceIte,↓reduceIte,reduceCtorEq,nA,nS,nM,nB,nE,nL,nT,nN,iL,iT,iE,iA,iM,iS,iG,iB,iN,iZ,h]⟩) () trivial 1001 (by simp; omega)
 rw [hb0] at hr
 rw [show a + ((0 : Nat) : Int) = a from by simp,show spaces 32 t 0 = t from rfl] at hr
 simp only [go_sem,reduceIte,↓reduceIte,reduceCtorEq,nA,nS,nM,nB,nE,nL,nT,nN,iL,iT,iE,iA,iM,iS,iG,iB,iN,iZ,h,hr,hM]) (rfl)
def bent0 (code : List UInt8) (a : Int) : Int × List Header:=drawL code (a + 1) (pickV code a [0,1,2,3,5])
def bentM (code : List UInt8) (b : Int) (l : Nat) : Nat:=(pickV code (b + 1) [20,21] - l).toNat
def linesFrom (code : List UInt8) (s : Int × List Header) (m : Nat) : Int × List Header:=(List.range m).foldl (fun s _=>(lineA code s.1,s.2 ++ [lineV code s.1])) s
def bentP (code : List UInt8) (a : Int) : Int × List Header :=
 let b:=(bent0 code a).1
 let l:=(bent0 code a).2
 let k:=nextV code b 20
 if k = 0 then (b + 1 + 1,l ++ [⟨wordV code (b + 1) [⟨#[]⟩,⟨#[97,32,98]⟩,⟨#[120,58]⟩],⟨#[118]⟩⟩])
 else if k = 1 then (b + 1 + 1,l ++ [⟨⟨#[120]⟩,wordV code (b + 1) [⟨#[32,118]⟩,⟨#[118,9]⟩,⟨#[1]⟩,⟨#[10]⟩]⟩])
 else if k = 2 then (b + 1 + longN code (b + 1) + 1 + 1,l ++ [⟨⟨#[120]⟩,(spaces 32 ⟨#[118]⟩ (longN code (b + 1))).extract 0 (pickV code (b + 1 + longN code (b + 1) + 1) [200,201]).toNat ++ ⟨#[118]⟩⟩])
 else if k = 3 then linesFrom code (b + 1 + 1,l) (bentM code b l.length)
 else if k = 4 then (b + 1 + 1,l ++ [⟨⟨#[120]⟩,spaces 119 ⟨#[]⟩ (pickV code (b + 1) [200,201]).toNat⟩])
 else (b + 1,l)
theorem linesFrom_I (code : List UInt8) (s : Int × List Header) (m : Nat) : s.1 ≤ (linesFrom code s m).1 ∧ (linesFrom code s m).1 ≤ s.1 + 3 * m ∧ (linesFrom code s m).2.length = s.2.length + m:=by
 unfold linesFrom
 induction m with
 | zero=>simp
 | succ m ih =>
  rw [List.range_succ,List.foldl_append]
  have:=lineA_le code ((List.range m).foldl (fun s _=>(lineA code s.1,s.2 ++ [lineV code s.1])) s).1
  simp only [List.foldl_cons,List.foldl_nil,List.length_append,List.length_cons,List.length_nil]
  omega
theorem bent0_I (code : List UInt8) {a : Int} (h : aOk a = true) : a + 1 ≤ (bent0 code a).1 ∧ (bent0 code a).1 ≤ a + 16 ∧ (bent0 code a).2.length ≤ 5 ∧ nOk (pickV code a [0,1,2,3,5]) = true:=by
 have m:=pick_in code [0,1,2,3,5] h (by simp)
 simp only [List.mem_cons,List.not_mem_nil,or_false] at m
 have:=drawL_I code (a + 1) (pickV code a [0,1,2,3,5])
 unfold LiI at this
 unfold bent0
 simp only [nOk,decide_eq_true_eq]
 omega
def s206 : SP Tryz.prog:=mkS tyA 206 Tryz.f206 [s70,s74,s106,s288,s289,s290] { md:=[.rw 2],wk:=true,rg:=[(0,[0],[0]),(1,[0,3],[0]),(2,[0,3,13],[0]),(3,[0,3,13,14],[0]),(4,[0,3],[0]),(5,[0,3,13,23],[0]),(6,[0,3],[0]),(7,[0,3,13,32],[0]),(8,[0,3],[0]),(9,[0,3,13,45],[0]),(10,[0,3,4],[0]),(11,[0,3,4,53],[0]),(12,[0,3,4],[0]),(13,[0,3,59],[0]),(14,[0,3,5],[0]),(15,[0,3,5,6],[0]),(16,[0,3,5,6,67],[0]),(17,[0,3,5,6],[0]),(18,[0,3],[0]),(19,[0,2],[0])],lv:=[(1,[0,3,4],[0]),(3,[0,3,5,6],[0])],out:=[(1,[0,3],[0]),(3,[0,3,5],[0])],rets:=some ([0,2],[0]) } Tryz.func206 (by kernel_rfl)
@[go_sem] theorem d206 : s206.g = 206 ∧ s206.fs = ⟨[.rw 2],s206.F,true⟩:=⟨nr rfl,nr rfl⟩
@[go_sem] theorem e206 (code : List UInt8) (a : Int) (h1 : dOk a = true) : s206.F [.agg [.sl .ro 1 (code.map rByte),.i .i64 a]] = some (.sl .mut 2 ((bentP code a).2.map (rHeader .mut)),[.agg [.sl .ro 1 (code.map rByte),.i .i64 (bentP code a).1]]):=mkS_eq (300) rfl rfl (fun cx h=>by
 have ha:=h1
 simp only [dOk,decide_eq_true_eq] at ha
 have p0 : aOk a = true:=by simp only [aOk,decide_eq_true_eq]; omega
 have p1 : lOk (a + 1) = true:=by simp only [lOk,decide_eq_true_eq]; omega
 obtain ⟨i1,i2,i3,i4⟩:=bent0_I code p0
 obtain ⟨⟨b,l⟩,hb⟩ : ∃ s,bent0 code a = s:=⟨_,rfl⟩
 rw [hb] at i1 i2 i3
 simp only at i1 i2 i3
 have hb' : drawL code (a + 1) (pickV code a [0,1,2,3,5]) = (b,l):=hb
 have p2 : aOk b = true:=by simp only [aOk,decide_eq_true_eq]; omega
 have p3 : aOk (b + 1) = true:=by simp only [aOk,decide_eq_true_eq]; omega
 have p4 : bOk (b + 1) = true:=by simp only [bOk,decide_eq_true_eq]; omega
 have t3 : (l.length + 1) * 32 ≤ 140737488355328:=by omega
 have t4 : ∀ x y,l.map (rHeader .mut) ++ [[.s x,.s y]] = (l ++ [Header.mk x y]).map (rHeader .mut):=fun x y=>by simp [rHeader]
 obtain ⟨k,hk⟩ : ∃ k,nextV code b 20 = k:=⟨_,rfl⟩
 by_cases c0 : k = 0
 ·subst c0
  simp only [go_sem,reduceIte,↓reduceIte,reduceCtorEq,nA,nS,nM,nB,nE,nL,nT,nN,iL,iT,iE,iA,iM,iS,iG,iB,iN,iZ,h,bentP,hb,hb',hk,i4,p0,p1,p2,p3,p4,t3,t4]
 have d0 : (k == 0) = false:=by simpa using c0
 by_cases c1 : k = 1
 ·subst c1
  simp only [go_sem,reduceIte,↓reduceIte,reduceCtorEq,nA,nS,nM,nB,nE,nL,nT,nN,iL,iT,iE,iA,iM,iS,iG,iB,iN,iZ,h,bentP,hb,hb',hk,i4,p0,p1,p2,p3,p4,t3,t4]
 have d1 : (k == 1) = false:=by simpa using c1
 by_cases c2 : k = 2
 ·subst c2
  have so : sOk ⟨#[118]⟩ = true:=rfl
  have le:=longN_le code (b + 1)
  obtain ⟨M,hM⟩ : ∃ M,longN code (b + 1) = M:=⟨_,rfl⟩
  rw [hM] at le
  have p5 : aOk (b + 1 + M + 1) = true:=by simp only [aOk,decide_eq_true_eq]; omega
  have m1:=pick_in code [200,201] p5 (by simp)
  simp only [List.mem_cons,List.not_mem_nil,or_false] at m1
  obtain ⟨K,hK⟩ : ∃ K,pickV code (b + 1 + M + 1) [200,201] = K:=⟨_,rfl⟩
  rw [hK] at m1
  have z1:=spaces_size 32 ⟨#[118]⟩ M
  have z2 : (spaces 32 ⟨#[118]⟩ M).size = M + 1:=by rw [z1]; exact Nat.add_comm 1 M
  have z3 : ((spaces 32 ⟨#[118]⟩ M).extract 0 K.toNat).size + (#[118] : Array UInt8).size ≤ 9223372036854775807:=by rw [ByteArray.size_extract]; simp; omega
  have k1 : 0 ≤ K:=by omega
  have k2 : K ≤ ((M + 1 : Nat) : Int):=by omega
  simp only [go_sem,reduceIte,↓reduceIte,reduceCtorEq,nA,nS,nM,nB,nE,nL,nT,nN,iL,iT,iE,iA,iM,iS,iG,iB,iN,iZ,h,bentP,hb,hb',hk,i4,p0,p1,p2,p3,p4,t3,t4,so,hM,p5,hK,z2,z3,k1,k2]
 have d2 : (k == 2) = false:=by simpa using c2
 by_cases c3 : k = 3
 ·subst c3
  have m1:=pick_in code [20,21] p3 (by simp)
  simp only [List.mem_cons,List.not_mem_nil,or_false] at m1
  obtain ⟨K,hK⟩ : ∃ K,pickV code (b + 1) [20,21] = K:=⟨_,rfl⟩
  obtain ⟨M,hM⟩ : ∃ M,bentM code b l.length = M:=⟨_,rfl⟩
  have hM1:=hM
  unfold bentM at hM1
  rw [hK] at m1 hM1
  have hKM : ¬ (((l.length + M : Nat) : Int) < K):=by omega
  have hb0:=loopN_eq Tryz.f206 0 _ _ rfl rfl
  obtain ⟨hI,hr1⟩:=loop_fold (cx:=cx) (blk:=1) (body:=loopN Tryz.f206 0) (List.range M) (fun k (s : Int × List Header)=>⟨E [(0,.p ⟨false,0,[],0⟩),(3,.sl .mut 2 (s.2.map (rHeader .mut))),(4,.i .i64 K)],B [(0,[.sl .ro 1 (code.map rByte),.i .i64 s.1])]⟩) (fun s=>⟨E [(0,.p ⟨false,0,[],0⟩),(3,.sl .mut 2 (s.2.map (rHeader .mut)))],B [(0,[.sl .ro 1 (code.map rByte),.i .i64 s.1])]⟩) (fun x s=>(lineA code s.1,s.2 ++ [lineV code s.1])) (fun k s=>b + 2 ≤ s.1 ∧ s.1 ≤ b + 2 + 3 * k ∧ s.2.length = l.length + k)
    (fun s hI G=>by simp only [go_sem,reduceIte,↓reduceIte,reduceCtorEq,nA,nS,nM,nB,nE,nL,nT,nN,iL,iT,iE,iA,iM,iS,iG,iB,iN,iZ,h,Int.lt_irrefl,hb0,List.length_range,List.length_take,List.length_map,hI.2.2,Nat.min_self,hKM]) (fun k hk s hI=>by
     have h1 : ((k : Int) < ((List.range M).length : Int)):=Int.ofNat_lt.2 hk
     simp only [List.length_range] at hk h1
     rcases s with ⟨b',out⟩
     obtain ⟨q1,q2,q3⟩:=id hI
     simp only at q1 q2 q3
     have t1 : (out.length : Int) < K:=by omega
     have t3 : (out.length + 1) * 32 ≤ 140737488355328:=by omega
     have t4 : ∀ x y,out.map (rHeader .mut) ++ [[.s x,.s y]] = (out ++ [Header.mk x y]).map (rHeader .mut):=fun x y=>by simp [rHeader]
     have t5 : bOk b' = true:=by simp only [bOk,decide_eq_true_eq]; omega
     have le:=lineA_le code b'
     have hJ : b + 2 ≤ lineA code b' ∧ lineA code b' ≤ b + 2 + 3 * ((k + 1 : Nat) : Int) ∧ (out ++ [lineV code b']).length = l.length + (k + 1):=by simp only [List.length_append,List.length_cons,List.length_nil]; omega
     all_goals exact ⟨hJ,_,fun G=>by simp only [go_sem,reduceIte,↓reduceIte,reduceCtorEq,nA,nS,nM,nB,nE,nL,nT,nN,iL,iT,iE,iA,iM,iS,iG,iB,iN,iZ,h,t1,t3,t4,t5,h1,idx_nt _ _ hk,wrap_nat1 (show k < 9223372036854775807 by omega),hb0] <;> with_reducible rfl,by simp only [go_sem,reduceIte,↓reduceIte,reduceCtorEq,nA,nS,nM,nB,nE,nL,nT,nN,iL,iT,iE,iA,iM,iS,iG,iB,iN,iZ,h]⟩) (b + 1 + 1,l) (by simp; omega) 300 (by simp; omega)
  rw [hb0] at hr1
  simp only [go_sem,reduceIte,↓reduceIte,reduceCtorEq,nA,nS,nM,nB,nE,nL,nT,nN,iL,iT,iE,iA,iM,iS,iG,iB,iN,iZ,h,bentP,hb,hb',hk,i4,p0,p1,p2,p3,p4,t3,t4,linesFrom,hM,hK,hr1]
 have d3 : (k == 3) = false:=by simpa using c3
 by_cases c4 : k = 4
 ·subst c4
  have m1:=pick_in code [200,201] p3 (by simp)
  simp only [List.mem_cons,List.not_mem_nil,or_false] at m1
  obtain ⟨K,hK⟩ : ∃ K,pickV code (b + 1) [200,201] = K:=⟨_,rfl⟩
  rw [hK] at m1
  have hz : (spaces 119 ⟨#[]⟩ K.toNat).size = K.toNat:=by rw [spaces_size]; exact Nat.zero_add _
  have hb1:=loopN_eq Tryz.f206 1 _ _ rfl rfl
  obtain ⟨hI,hr2⟩:=loop_fold (cx:=cx) (blk:=3) (body:=loopN Tryz.f206 1) (List.range K.toNat) (fun k (s : Unit)=>⟨E [(0,.p ⟨false,0,[],0⟩),(3,.sl .mut 2 (l.map (rHeader .mut))),(5,.s (spaces 119 ⟨#[]⟩ k)),(6,.i .i64 K)],B [(0,[.sl .ro 1 (code.map rByte),.i .i64 (b + 1 + 1)])]⟩) (fun s=>⟨E [(0,.p ⟨false,0,[],0⟩),(3,.sl .mut 2 (l.map (rHeader .mut))),(5,.s (spaces 119 ⟨#[]⟩ K.toNat))],B [(0,[.sl .ro 1 (code.map rByte),.i .i64 (b + 1 + 1)])]⟩) (fun x s=>()) (fun k s=>True)
    (fun s hI G=>by simp only [go_sem,reduceIte,↓reduceIte,reduceCtorEq,nA,nS,nM,nB,nE,nL,nT,nN,iL,iT,iE,iA,iM,iS,iG,iB,iN,iZ,h,Int.lt_irrefl,hb1,List.length_range,hz,show ¬ ((K.toNat : Int) < K) from by omega]) (fun k hk s hI=>by
     have h1 : ((k : Int) < ((List.range K.toNat).length : Int)):=Int.ofNat_lt.2 hk
     simp only [List.length_range] at hk h1
     have z1:=spaces_size 119 ⟨#[]⟩ k
     have z2 : (ByteArray.mk #[]).size = 0:=rfl
     rw [z2,Nat.zero_add] at z1
     have t1 : (k : Int) < K:=by omega
     have t3 : k + (#[119] : Array UInt8).size ≤ 9223372036854775807:=by simp; omega
     have t5 : spaces 119 ⟨#[]⟩ k ++ ⟨#[119]⟩ = spaces 119 ⟨#[]⟩ (k + 1):=rfl
     exact ⟨trivial,_,fun G=>by simp only [go_sem,reduceIte,↓reduceIte,reduceCtorEq,nA,nS,nM,nB,nE,nL,nT,nN,iL,iT,iE,iA,iM,iS,iG,iB,iN,iZ,h,z1,t1,t3,t5,h1,idx_nt _ _ hk,wrap_nat1 (show k < 9223372036854775807 by omega),hb1] <;> with_reducible rfl,by simp only [go_sem,reduceIte,↓reduceIte,reduceCtorEq,nA,nS,nM,nB,nE,nL,nT,nN,iL,iT,iE,iA,iM,iS,iG,iB,iN,iZ,h]⟩) () trivial 300 (by simp; omega)
  rw [hb1] at hr2
  rw [show spaces 119 ⟨#[]⟩ 0 = ⟨#[]⟩ from rfl] at hr2
  simp only [go_sem,reduceIte,↓reduceIte,reduceCtorEq,nA,nS,nM,nB,nE,nL,nT,nN,iL,iT,iE,iA,iM,iS,iG,iB,iN,iZ,h,bentP,hb,hb',hk,i4,p0,p1,p2,p3,p4,t3,t4,hK,hr2]
 have d4 : (k == 4) = false:=by simpa using c4
 simp only [go_sem,reduceIte,↓reduceIte,reduceCtorEq,nA,nS,nM,nB,nE,nL,nT,nN,iL,iT,iE,iA,iM,iS,iG,iB,iN,iZ,h,bentP,hb,hb',hk,i4,p0,p1,p2,p3,p4,t3,t4,c0,d0,c1,d1,c2,d2,c3,d3,c4,d4]) (rfl)
end
end Go.Vm.A
