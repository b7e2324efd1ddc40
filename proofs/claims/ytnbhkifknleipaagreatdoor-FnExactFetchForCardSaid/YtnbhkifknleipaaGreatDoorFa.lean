/- Functions of the program, walked by the evaluator. -/
import Derived.Test.YtnbhkifknleipaaGreatDoorWb
import Derived.Test.YtnbhkifknleipaaGreatDoorWa
set_option autoImplicit false
set_option maxRecDepth 100000
set_option maxHeartbeats 4000000
set_option linter.unusedVariables false
set_option linter.unusedSimpArgs false
namespace Go.Vm.A
open Go.Proofs
open Nat renaming reduceAdd → nA, reduceSub → nS, reduceMul → nM, reduceBEq → nB, reduceEqDiff → nE, reduceLeDiff → nL, reduceLT → nT, reduceBneDiff → nN
open Int renaming reduceLE → iL, reduceLT → iT, reduceEq → iE, reduceAdd → iA, reduceMul → iM, reduceSub → iS, reduceNeg → iG, reduceBEq → iB, reduceBNe → iN, reduceToNat → iZ

noncomputable def s191 : SP Tryz.prog := mkS tyA 191 Tryz.f191 [] { md := [.ro 1, .ro 1], rg := [(0, [1, 2], [2]), (1, [1, 2], [2]), (2, [1, 2, 11], [2]), (3, [4], []), (4, [1], []), (5, [1, 18], []), (6, [4], []), (7, [4], [])], rets := some ([4], []) } Tryz.func191 (by kernel_rfl)
@[go_sem] theorem d191 : s191.g = 191 ∧ s191.fs = ⟨[.ro 1, .ro 1], s191.F, false⟩ := ⟨nr rfl, nr rfl⟩
@[go_sem] theorem e191 (xName : ByteArray) (xValue : ByteArray) (l : Int) (h0 : okHeader (Header.mk xName xValue)) : s191.F [.agg [.s xName, .s xValue], .i .i64 l] = some (.i .i64 (szHeader (Header.mk xName xValue) l), [.u, .u]) := mkS_eq (0) rfl rfl (fun cx h => by
  obtain ⟨q0, q1⟩ := h0
  simp only [go_sem, reduceIte, ↓reduceIte, reduceCtorEq, nA, nS, nM, nB, nE, nL, nT, nN, iL, iT, iE, iA, iM, iS, iG, iB, iN, iZ, h, q0, q1]
  simp only [szHeader, szs, szn, if_i, decide_eq_true_eq]) (rfl)
noncomputable def s85 : SP Tryz.prog := mkS tyA 85 Tryz.f85 [s191] { md := [.ro 1, .ro 1], rg := [(0, [0, 1], []), (1, [0, 1], []), (2, [0, 1, 11], []), (3, [4], []), (4, [0, 1, 5], []), (5, [0, 1, 5, 15], []), (6, [0, 1, 5], []), (7, [0, 1, 5], []), (8, [0, 1, 5, 25], []), (9, [4], []), (10, [4], [])], lv := [(0, [0, 1, 5], [])], out := [(0, [1], [])], rets := some ([4], []) } Tryz.func85 (by kernel_rfl)
@[go_sem] theorem d85 : s85.g = 85 ∧ s85.fs = ⟨[.ro 1, .ro 1], s85.F, false⟩ := ⟨nr rfl, nr rfl⟩
@[go_sem] theorem e85 (xs : List Header) (l : Int) (h0 : okL okHeader xs) : s85.F [.sl .ro 2 (xs.map (rHeader .ro)), .i .i64 l] = some (.i .i64 (szL szHeader xs l), [.u, .u]) := mkS_eq (xs.length + 1) rfl rfl (fun cx h => by
  have hb := loopN_eq Tryz.f85 0 _ _ rfl rfl
  have hx := h0.1
  obtain ⟨r, hr, hq⟩ := loop_list (cx := cx) (blk := 0) (body := loopN Tryz.f85 0) xs (fun k l => ⟨E [(0, .sl .ro 2 (xs.map (rHeader .ro))), (1, .i .i64 l), (5, .i .i64 k)], B []⟩) (fun l => ⟨E [(1, .i .i64 l)], B []⟩) (fun x l => decide (szHeader x l < 0)) (fun x l => szHeader x l) (fun _ _ => (.ret, ⟨E [(4, .i .i64 (-1))], B []⟩)) (fun _ _ => True)
    (fun l _ G => by simp only [go_sem, reduceIte, ↓reduceIte, reduceCtorEq, nA, nS, nM, nB, nE, nL, nT, nN, iL, iT, iE, iA, iM, iS, iG, iB, iN, iZ, h, Int.lt_irrefl, hb]) (fun k hk l _ => by
      have h1 : ((k : Int) < (xs.length : Int)) := Int.ofNat_lt.2 hk
      have h2 := h0.2 _ (List.getElem_mem hk)
      by_cases hc : szHeader xs[k] l < 0
      · exact .inl ⟨decide_eq_true hc, fun G => by simp only [go_sem, reduceIte, ↓reduceIte, reduceCtorEq, nA, nS, nM, nB, nE, nL, nT, nN, iL, iT, iE, iA, iM, iS, iG, iB, iN, iZ, h, h2, hc, map_gd (rHeader .ro) xs k hk, h1, idx_nt _ _ hk, wrap_nat1 (show k < 9223372036854775807 by omega), hb]⟩
      · exact .inr ⟨decide_eq_false hc, trivial, _, fun G => by simp only [go_sem, reduceIte, ↓reduceIte, reduceCtorEq, nA, nS, nM, nB, nE, nL, nT, nN, iL, iT, iE, iA, iM, iS, iG, iB, iN, iZ, h, h2, hc, map_gd (rHeader .ro) xs k hk, h1, idx_nt _ _ hk, wrap_nat1 (show k < 9223372036854775807 by omega), hb] <;> with_reducible rfl, by simp only [go_sem, reduceIte, ↓reduceIte, reduceCtorEq, nA, nS, nM, nB, nE, nL, nT, nN, iL, iT, iE, iA, iM, iS, iG, iB, iN, iZ, h]⟩) ((IntKind.i64).wrap (l - (xs.length : Int))) trivial (xs.length + 1) (Nat.le_refl _)
  rw [hb] at hr
  unfold szL szs
  by_cases hc : (IntKind.i64).wrap (l - (xs.length : Int)) < 0
  · simp only [go_sem, reduceIte, ↓reduceIte, reduceCtorEq, nA, nS, nM, nB, nE, nL, nT, nN, iL, iT, iE, iA, iM, iS, iG, iB, iN, iZ, h, hc]
  · rcases hq with ⟨s', e1, e2, e3⟩ | ⟨x, s', e1, e3⟩
    · simp only [go_sem, reduceIte, ↓reduceIte, reduceCtorEq, nA, nS, nM, nB, nE, nL, nT, nN, iL, iT, iE, iA, iM, iS, iG, iB, iN, iZ, h, hc, hr, e3, szO_inl e1, Option.getD_some]
    · simp only [go_sem, reduceIte, ↓reduceIte, reduceCtorEq, nA, nS, nM, nB, nE, nL, nT, nN, iL, iT, iE, iA, iM, iS, iG, iB, iN, iZ, h, hc, hr, e3, szO_inr e1, Option.getD_none]) (rfl)
noncomputable def s19 : SP Tryz.prog := mkS tyA 19 Tryz.f19 [s85] { md := [.ro 1, .ro 1], rg := [(0, [1, 2], [2]), (1, [1, 2], [2]), (2, [1, 2, 11], [2]), (3, [4], []), (4, [1, 2], [2]), (5, [1, 2, 18], [2]), (6, [4], []), (7, [1, 2], [2]), (8, [1, 2, 25], [2]), (9, [4], []), (10, [1], []), (11, [1, 31], []), (12, [4], []), (13, [4], [])], rets := some ([4], []) } Tryz.func19 (by kernel_rfl)
@[go_sem] theorem d19 : s19.g = 19 ∧ s19.fs = ⟨[.ro 1, .ro 1], s19.F, false⟩ := ⟨nr rfl, nr rfl⟩
@[go_sem] theorem e19 (xMethod : ByteArray) (xHost : ByteArray) (xPath : ByteArray) (xHeaders : List Header) (l : Int) (h0 : okRequest (Request.mk xMethod xHost xPath xHeaders)) : s19.F [.agg [.s xMethod, .s xHost, .s xPath, .sl .ro 2 (xHeaders.map (rHeader .ro))], .i .i64 l] = some (.i .i64 (szRequest (Request.mk xMethod xHost xPath xHeaders) l), [.u, .u]) := mkS_eq (0) rfl rfl (fun cx h => by
  obtain ⟨q0, q1, q2, q3⟩ := h0
  simp only [go_sem, reduceIte, ↓reduceIte, reduceCtorEq, nA, nS, nM, nB, nE, nL, nT, nN, iL, iT, iE, iA, iM, iS, iG, iB, iN, iZ, h, q0, q1, q2, q3]
  simp only [szRequest, szs, szn, if_i, decide_eq_true_eq]) (rfl)
noncomputable def s86 : SP Tryz.prog := mkS tyA 86 Tryz.f86 [] { md := [.ro 1, .ro 1], rg := [(0, [0, 1], []), (1, [1], []), (2, [1, 10], []), (3, [4], []), (4, [4], [])], rets := some ([4], []) } Tryz.func86 (by kernel_rfl)
@[go_sem] theorem d86 : s86.g = 86 ∧ s86.fs = ⟨[.ro 1, .ro 1], s86.F, false⟩ := ⟨nr rfl, nr rfl⟩
@[go_sem] theorem e86 (xs : List UInt8) (l : Int) : s86.F [.sl .ro 1 (xs.map rByte), .i .i64 l] = some (.i .i64 (szByteS xs l), [.u, .u]) := mkS_eq (0) rfl rfl (fun cx h => by
  simp only [go_sem, reduceIte, ↓reduceIte, reduceCtorEq, nA, nS, nM, nB, nE, nL, nT, nN, iL, iT, iE, iA, iM, iS, iG, iB, iN, iZ, h]
  simp only [szByteS, szF, szs, szn, if_i, decide_eq_true_eq]) (rfl)
noncomputable def s87 : SP Tryz.prog := mkS tyA 87 Tryz.f87 [] { md := [.ro 1, .ro 1], rg := [(0, [0, 1], []), (1, [0, 1], []), (2, [0, 1, 11], []), (3, [4], []), (4, [0, 1, 5], []), (5, [0, 1, 5, 15], []), (6, [0, 1, 5], []), (7, [0, 1, 5], []), (8, [0, 1, 5, 26], []), (9, [4], []), (10, [4], [])], lv := [(0, [0, 1, 5], [])], out := [(0, [1], [])], rets := some ([4], []) } Tryz.func87 (by kernel_rfl)
@[go_sem] theorem d87 : s87.g = 87 ∧ s87.fs = ⟨[.ro 1, .ro 1], s87.F, false⟩ := ⟨nr rfl, nr rfl⟩
@[go_sem] theorem e87 (xs : List ByteArray) (l : Int) (h0 : okL okStr xs) : s87.F [.sl .ro 1 (xs.map rStr), .i .i64 l] = some (.i .i64 (szL szStr xs l), [.u, .u]) := mkS_eq (xs.length + 1) rfl rfl (fun cx h => by
  have hb := loopN_eq Tryz.f87 0 _ _ rfl rfl
  have hx := h0.1
  obtain ⟨r, hr, hq⟩ := loop_list (cx := cx) (blk := 0) (body := loopN Tryz.f87 0) xs (fun k l => ⟨E [(0, .sl .ro 1 (xs.map rStr)), (1, .i .i64 l), (5, .i .i64 k)], B []⟩) (fun l => ⟨E [(1, .i .i64 l)], B []⟩) (fun x l => decide (szStr x l < 0)) (fun x l => szStr x l) (fun _ _ => (.ret, ⟨E [(4, .i .i64 (-1))], B []⟩)) (fun _ _ => True)
    (fun l _ G => by simp only [go_sem, reduceIte, ↓reduceIte, reduceCtorEq, nA, nS, nM, nB, nE, nL, nT, nN, iL, iT, iE, iA, iM, iS, iG, iB, iN, iZ, h, Int.lt_irrefl, hb]) (fun k hk l _ => by
      have h1 : ((k : Int) < (xs.length : Int)) := Int.ofNat_lt.2 hk
      have h2 := h0.2 _ (List.getElem_mem hk)
      by_cases hc : (IntKind.i64).wrap (l - (xs[k].size : Int)) < 0
      · have hs : szStr xs[k] l = -1 := by simp only [szStr, szs]; rw [if_pos hc]
        exact .inl ⟨by rw [hs]; rfl, fun G => by simp only [go_sem, reduceIte, ↓reduceIte, reduceCtorEq, nA, nS, nM, nB, nE, nL, nT, nN, iL, iT, iE, iA, iM, iS, iG, iB, iN, iZ, h, h2, hc, map_gd rStr xs k hk, h1, idx_nt _ _ hk, wrap_nat1 (show k < 9223372036854775807 by omega), hb]⟩
      · have hs : szStr xs[k] l = (IntKind.i64).wrap (l - (xs[k].size : Int)) := by simp only [szStr, szs]; rw [if_neg hc]
        exact .inr ⟨decide_eq_false (by rw [hs]; exact hc), trivial, _, fun G => by simp only [go_sem, reduceIte, ↓reduceIte, reduceCtorEq, nA, nS, nM, nB, nE, nL, nT, nN, iL, iT, iE, iA, iM, iS, iG, iB, iN, iZ, h, h2, hc, map_gd rStr xs k hk, h1, idx_nt _ _ hk, wrap_nat1 (show k < 9223372036854775807 by omega), hb] <;> with_reducible rfl, by simp only [go_sem, reduceIte, ↓reduceIte, reduceCtorEq, nA, nS, nM, nB, nE, nL, nT, nN, iL, iT, iE, iA, iM, iS, iG, iB, iN, iZ, h, hs]⟩) ((IntKind.i64).wrap (l - (xs.length : Int))) trivial (xs.length + 1) (Nat.le_refl _)
  rw [hb] at hr
  unfold szL szs
  by_cases hc : (IntKind.i64).wrap (l - (xs.length : Int)) < 0
  · simp only [go_sem, reduceIte, ↓reduceIte, reduceCtorEq, nA, nS, nM, nB, nE, nL, nT, nN, iL, iT, iE, iA, iM, iS, iG, iB, iN, iZ, h, hc]
  · rcases hq with ⟨s', e1, e2, e3⟩ | ⟨x, s', e1, e3⟩
    · simp only [go_sem, reduceIte, ↓reduceIte, reduceCtorEq, nA, nS, nM, nB, nE, nL, nT, nN, iL, iT, iE, iA, iM, iS, iG, iB, iN, iZ, h, hc, hr, e3, szO_inl e1, Option.getD_some]
    · simp only [go_sem, reduceIte, ↓reduceIte, reduceCtorEq, nA, nS, nM, nB, nE, nL, nT, nN, iL, iT, iE, iA, iM, iS, iG, iB, iN, iZ, h, hc, hr, e3, szO_inr e1, Option.getD_none]) (rfl)
noncomputable def s20 : SP Tryz.prog := mkS tyA 20 Tryz.f20 [s85, s86, s87] { md := [.ro 1, .ro 1], rg := [(0, [1, 2], [2]), (1, [1, 2], [2]), (2, [1, 2, 11], [2]), (3, [4], []), (4, [1, 2], [2]), (5, [1, 2, 17], [2]), (6, [4], []), (7, [1, 2], [2]), (8, [1, 2, 23], [2]), (9, [4], []), (10, [1], []), (11, [1, 29], []), (12, [4], []), (13, [4], [])], rets := some ([4], []) } Tryz.func20 (by kernel_rfl)
@[go_sem] theorem d20 : s20.g = 20 ∧ s20.fs = ⟨[.ro 1, .ro 1], s20.F, false⟩ := ⟨nr rfl, nr rfl⟩
@[go_sem] theorem e20 (xKey : ByteArray) (xStatus : Int) (xHeaders : List Header) (xBody : List UInt8) (xMetaAt : Int) (xMetaAge : Int) (xMetaLife : Int) (xMetaSwr : Int) (xMetaSie : Int) (xMetaSoft : Bool) (xMetaNoCache : Bool) (xTags : List ByteArray) (xPins : Int) (l : Int) (h0 : okEntry (Entry.mk xKey xStatus xHeaders xBody (Meta.mk xMetaAt xMetaAge xMetaLife xMetaSwr xMetaSie xMetaSoft xMetaNoCache) xTags xPins)) : s20.F [.agg [.s xKey, .i .i64 xStatus, .sl .ro 2 (xHeaders.map (rHeader .ro)), .sl .ro 1 (xBody.map rByte), .i .i64 xMetaAt, .i .i64 xMetaAge, .i .i64 xMetaLife, .i .i64 xMetaSwr, .i .i64 xMetaSie, .b xMetaSoft, .b xMetaNoCache, .sl .ro 1 (xTags.map rStr), .i .i64 xPins], .i .i64 l] = some (.i .i64 (szEntry (Entry.mk xKey xStatus xHeaders xBody (Meta.mk xMetaAt xMetaAge xMetaLife xMetaSwr xMetaSie xMetaSoft xMetaNoCache) xTags xPins) l), [.u, .u]) := mkS_eq (0) rfl rfl (fun cx h => by
  obtain ⟨q0, q1, q2, q3, q4, q5, q6⟩ := h0
  simp only [go_sem, reduceIte, ↓reduceIte, reduceCtorEq, nA, nS, nM, nB, nE, nL, nT, nN, iL, iT, iE, iA, iM, iS, iG, iB, iN, iZ, h, q0, q1, q2, q3, q4, q5, q6]
  simp only [szEntry, szs, szn, if_i, decide_eq_true_eq]) (rfl)
theorem byne {c v : UInt8} (h : c ≠ v) : ((c.toNat : Int) == (v.toNat : Int)) = false := by
  simp only [beq_eq_false_iff_ne, ne_eq, Int.ofNat_inj]
  exact fun e => h (UInt8.toNat_inj.1 e)
def letterB (c : UInt8) : Bool := (decide (97 ≤ (c.toNat : Int)) && decide ((c.toNat : Int) ≤ 122)) || (decide (65 ≤ (c.toNat : Int)) && decide ((c.toNat : Int) ≤ 90))
def digitB (c : UInt8) : Bool := decide (48 ≤ (c.toNat : Int)) && decide ((c.toNat : Int) ≤ 57)
theorem index_ge (l : List UInt8) (c : UInt8) : 0 ≤ Lib.indexByte l c ↔ c ∈ l := by
  induction l with
  | nil => simp [Lib.indexByte]
  | cons b l ih =>
    have := Lib.indexByte_ge l c
    unfold Lib.indexByte
    by_cases hb : b = c
    · simp [hb]
    · by_cases hx : Lib.indexByte l c = -1
      · have hn : ¬ c ∈ l := fun h => by have := ih.2 h; omega
        simp [hx, hn, hb, Ne.symm hb]
      · have h2 : 0 ≤ Lib.indexByte l c := by omega
        simp [hb, hx, ih.1 h2]; omega
def ixB (s : ByteArray) (c : UInt8) : Int := Lib.indexByte s.data.toList c
theorem ixB_ge (l : List UInt8) (c : UInt8) : decide (0 ≤ ixB ⟨l.toArray⟩ c) = l.contains c := by
  rw [Bool.eq_iff_iff, decide_eq_true_eq, List.contains_iff_mem]
  exact index_ge l c
theorem int_u8 (c : UInt8) : ((c.toNat : Int)).toNat.toUInt8 = c := by simp
noncomputable def s282 : SP Tryz.prog := mkS tyA 282 Tryz.f282 [] { md := [.ro 1], rets := some ([2], []) } Tryz.func282 (by kernel_rfl)
@[go_sem] theorem d282 : s282.g = 282 ∧ s282.fs = ⟨[.ro 1], s282.F, false⟩ := ⟨nr rfl, nr rfl⟩
@[go_sem] theorem e282 (c : UInt8) : s282.F [.i .u8 c.toNat] = some (.b (letterB c), [.u]) := mkS_eq (0) rfl rfl (fun cx h => by
  by_cases h1 : 97 ≤ (c.toNat : Int) <;> by_cases h2 : (c.toNat : Int) ≤ 122 <;> by_cases h3 : 65 ≤ (c.toNat : Int) <;> by_cases h4 : (c.toNat : Int) ≤ 90 <;> simp only [go_sem, reduceIte, ↓reduceIte, reduceCtorEq, nA, nS, nM, nB, nE, nL, nT, nN, iL, iT, iE, iA, iM, iS, iG, iB, iN, iZ, h, h1, h2, h3, h4, letterB]) (rfl)
noncomputable def s283 : SP Tryz.prog := mkS tyA 283 Tryz.f283 [] { md := [.ro 1], rets := some ([2], []) } Tryz.func283 (by kernel_rfl)
@[go_sem] theorem d283 : s283.g = 283 ∧ s283.fs = ⟨[.ro 1], s283.F, false⟩ := ⟨nr rfl, nr rfl⟩
@[go_sem] theorem e283 (c : UInt8) : s283.F [.i .u8 c.toNat] = some (.b (digitB c), [.u]) := mkS_eq (0) rfl rfl (fun cx h => by
  by_cases h1 : 48 ≤ (c.toNat : Int) <;> by_cases h2 : (c.toNat : Int) ≤ 57 <;> simp only [go_sem, reduceIte, ↓reduceIte, reduceCtorEq, nA, nS, nM, nB, nE, nL, nT, nN, iL, iT, iE, iA, iM, iS, iG, iB, iN, iZ, h, h1, h2, digitB]) (rfl)
def symB : List UInt8 := [33, 35, 36, 37, 38, 39, 42, 43, 45, 46, 94, 95, 124, 126]
def wordB (c : UInt8) : Bool := letterB c || digitB c || symB.contains c
theorem wordB_sym {c : UInt8} (h : c ∈ symB) : wordB c = true := by
  have : symB.contains c = true := List.contains_iff_mem.2 h
  simp [wordB, this, -List.contains_eq_mem]
theorem wordB_not {c : UInt8} (h : ¬ c ∈ symB) : wordB c = (letterB c || digitB c) := by
  have : symB.contains c = false := by rw [Bool.eq_false_iff]; exact fun e => h (List.contains_iff_mem.1 e)
  simp [wordB, this, -List.contains_eq_mem]
theorem ixB_sym (c : UInt8) : decide (0 ≤ ixB ⟨#[33, 35, 36, 37, 38, 39, 42, 43, 45, 46, 94, 95, 124, 126]⟩ c) = symB.contains c := ixB_ge symB c
@[go_sem] theorem ixB_symI (c : UInt8) : decide (ixB ⟨#[33, 35, 36, 37, 38, 39, 42, 43, 45, 46, 94, 95, 124, 126]⟩ c ≥ 0) = symB.contains c := ixB_ge symB c
theorem wx : (1 : Int) = 1 := rfl
noncomputable def s254 : SP Tryz.prog := mkS tyA 254 Tryz.f254 [s282, s283] { md := [.ro 1], rg := [(0, [0], []), (1, [0, 3], []), (2, [0, 3, 4], []), (3, [0, 3, 4], []), (4, [0, 3, 4], []), (5, [0, 3, 4], []), (6, [0, 3, 4], []), (7, [0, 3, 4], []), (8, [0, 3, 4], []), (9, [0, 3, 4], []), (10, [0, 3, 4], []), (11, [0, 3, 4], []), (12, [0, 3, 4], []), (13, [0, 3, 4], []), (14, [0, 3, 4], []), (15, [0, 4], []), (16, [2], []), (17, [2], [])], rets := some ([2], []) } Tryz.func254 (by kernel_rfl)
@[go_sem] theorem d254 : s254.g = 254 ∧ s254.fs = ⟨[.ro 1], s254.F, false⟩ := ⟨nr rfl, nr rfl⟩
@[go_sem] theorem e254 (c : UInt8) : s254.F [.i .u8 c.toNat] = some (.b (wordB c), [.u]) := mkS_eq (0) rfl rfl (fun cx h => by
  by_cases m : c ∈ symB
  · have hw := wordB_sym m
    simp only [symB, List.mem_cons, List.not_mem_nil, or_false] at m
    have u33 : (((33 : UInt8).toNat : Nat) : Int) = 33 := rfl
    have u35 : (((35 : UInt8).toNat : Nat) : Int) = 35 := rfl
    have u36 : (((36 : UInt8).toNat : Nat) : Int) = 36 := rfl
    have u37 : (((37 : UInt8).toNat : Nat) : Int) = 37 := rfl
    have u38 : (((38 : UInt8).toNat : Nat) : Int) = 38 := rfl
    have u39 : (((39 : UInt8).toNat : Nat) : Int) = 39 := rfl
    have u42 : (((42 : UInt8).toNat : Nat) : Int) = 42 := rfl
    have u43 : (((43 : UInt8).toNat : Nat) : Int) = 43 := rfl
    have u45 : (((45 : UInt8).toNat : Nat) : Int) = 45 := rfl
    have u46 : (((46 : UInt8).toNat : Nat) : Int) = 46 := rfl
    have u94 : (((94 : UInt8).toNat : Nat) : Int) = 94 := rfl
    have u95 : (((95 : UInt8).toNat : Nat) : Int) = 95 := rfl
    have u124 : (((124 : UInt8).toNat : Nat) : Int) = 124 := rfl
    have u126 : (((126 : UInt8).toNat : Nat) : Int) = 126 := rfl
    rcases m with rfl | rfl | rfl | rfl | rfl | rfl | rfl | rfl | rfl | rfl | rfl | rfl | rfl | rfl <;> simp only [go_sem, reduceIte, ↓reduceIte, reduceCtorEq, nA, nS, nM, nB, nE, nL, nT, nN, iL, iT, iE, iA, iM, iS, iG, iB, iN, iZ, h, hw, wx, u33, u35, u36, u37, u38, u39, u42, u43, u45, u46, u94, u95, u124, u126]
  · have hw := wordB_not m
    have q33 : ((c.toNat : Int) == 33) = false := byne (v := 33) (fun e => m (by subst e; decide))
    have q35 : ((c.toNat : Int) == 35) = false := byne (v := 35) (fun e => m (by subst e; decide))
    have q36 : ((c.toNat : Int) == 36) = false := byne (v := 36) (fun e => m (by subst e; decide))
    have q37 : ((c.toNat : Int) == 37) = false := byne (v := 37) (fun e => m (by subst e; decide))
    have q38 : ((c.toNat : Int) == 38) = false := byne (v := 38) (fun e => m (by subst e; decide))
    have q39 : ((c.toNat : Int) == 39) = false := byne (v := 39) (fun e => m (by subst e; decide))
    have q42 : ((c.toNat : Int) == 42) = false := byne (v := 42) (fun e => m (by subst e; decide))
    have q43 : ((c.toNat : Int) == 43) = false := byne (v := 43) (fun e => m (by subst e; decide))
    have q45 : ((c.toNat : Int) == 45) = false := byne (v := 45) (fun e => m (by subst e; decide))
    have q46 : ((c.toNat : Int) == 46) = false := byne (v := 46) (fun e => m (by subst e; decide))
    have q94 : ((c.toNat : Int) == 94) = false := byne (v := 94) (fun e => m (by subst e; decide))
    have q95 : ((c.toNat : Int) == 95) = false := byne (v := 95) (fun e => m (by subst e; decide))
    have q124 : ((c.toNat : Int) == 124) = false := byne (v := 124) (fun e => m (by subst e; decide))
    have q126 : ((c.toNat : Int) == 126) = false := byne (v := 126) (fun e => m (by subst e; decide))
    cases h1 : letterB c <;> cases h2 : digitB c <;> simp only [go_sem, reduceIte, ↓reduceIte, reduceCtorEq, nA, nS, nM, nB, nE, nL, nT, nN, iL, iT, iE, iA, iM, iS, iG, iB, iN, iZ, h, hw, h1, h2, q33, q35, q36, q37, q38, q39, q42, q43, q45, q46, q94, q95, q124, q126]) (rfl)
def areB (p : UInt8 → Bool) (lo hi : Int) (t : ByteArray) : Bool := decide (lo ≤ (t.size : Int)) && decide ((t.size : Int) ≤ hi) && t.data.toList.all p
theorem areB_short {p : UInt8 → Bool} {lo hi : Int} {t : ByteArray} (h : (t.size : Int) < lo) : areB p lo hi t = false := by
  have : ¬ lo ≤ (t.size : Int) := by omega
  simp [areB, this]
theorem areB_long {p : UInt8 → Bool} {lo hi : Int} {t : ByteArray} (h : hi < (t.size : Int)) : areB p lo hi t = false := by
  have : ¬ (t.size : Int) ≤ hi := by omega
  simp [areB, this]
theorem areB_all {p : UInt8 → Bool} {lo hi : Int} {t : ByteArray} (h : ¬ (t.size : Int) < lo) (h' : ¬ hi < (t.size : Int)) : areB p lo hi t = t.data.toList.all p := by
  have h1 : lo ≤ (t.size : Int) := by omega
  have h2 : (t.size : Int) ≤ hi := by omega
  simp [areB, h1, h2]
theorem runS_all {α : Type} {p : α → Bool} : ∀ {xs : List α} {u u' : Unit}, runS (fun x _ => !p x) (fun _ _ => ()) xs u = .inl u' → xs.all p = true
  | [], _, _, _ => rfl
  | x :: xs, u, u', h => by
    rw [runS_cons] at h
    split at h
    · cases h
    · rename_i hc
      simp only [List.all_cons, runS_all h, Bool.and_true]
      simpa using hc
theorem runS_all' {α : Type} {p : α → Bool} : ∀ {xs : List α} {u : Unit} {q : α × Unit}, runS (fun x _ => !p x) (fun _ _ => ()) xs u = .inr q → xs.all p = false
  | [], _, _, h => by cases h
  | x :: xs, u, q, h => by
    rw [runS_cons] at h
    split at h
    · rename_i hc
      have : p x = false := by simpa using hc
      simp [this]
    · simp only [List.all_cons, runS_all' h, Bool.and_false]
theorem str_at (t : ByteArray) (k : Nat) (h : k < t.data.toList.length) : t.data[k]?.getD 0 = t.data.toList[k] := by
  have h' : k < t.data.size := by simpa using h
  rw [Array.getElem?_eq_getElem h']
  simp
theorem str_size (t : ByteArray) : t.size = t.data.toList.length := by
  show t.data.size = _
  simp
def isWord (t : ByteArray) : Bool := areB wordB 1 64 t
noncomputable def s161 : SP Tryz.prog := mkS tyA 161 Tryz.f161 [s254] { md := [.ro 1], rg := [(0, [0], []), (1, [0, 11], []), (2, [2], []), (3, [0, 3], []), (4, [0, 3, 15], []), (5, [0, 3], []), (6, [0, 3, 22], []), (7, [2], []), (8, [2], [])], lv := [(0, [0, 3], [])], out := [(0, [], [])], rets := some ([2], []) } Tryz.func161 (by kernel_rfl)
@[go_sem] theorem d161 : s161.g = 161 ∧ s161.fs = ⟨[.ro 1], s161.F, false⟩ := ⟨nr rfl, nr rfl⟩
@[go_sem] theorem e161 (t : ByteArray) : s161.F [.s t] = some (.b (isWord t), [.u]) := mkS_eq (t.data.toList.length + 1) rfl rfl (fun cx h => by
  have hu : isWord t = areB wordB 1 64 t := rfl
  by_cases h1 : (t.size : Int) < 1
  · simp only [go_sem, reduceIte, ↓reduceIte, reduceCtorEq, nA, nS, nM, nB, nE, nL, nT, nN, iL, iT, iE, iA, iM, iS, iG, iB, iN, iZ, h, h1, hu, areB_short h1]
  by_cases h2 : 64 < (t.size : Int)
  · simp only [go_sem, reduceIte, ↓reduceIte, reduceCtorEq, nA, nS, nM, nB, nE, nL, nT, nN, iL, iT, iE, iA, iM, iS, iG, iB, iN, iZ, h, h1, h2, hu, areB_long h2]
  have hx : t.data.toList.length ≤ 9223372036854775806 := by rw [← str_size]; omega
  have ha := areB_all (p := wordB) h1 h2
  rw [str_size t] at h1 h2
  · have hb0 := loopN_eq Tryz.f161 0 _ _ rfl rfl
    obtain ⟨r, hr, hq⟩ := loop_srch (cx := cx) (blk := 0) (body := loopN Tryz.f161 0) t.data.toList (fun k (s : Unit) => ⟨E [(0, .s t), (3, .i .i64 k)], B []⟩) (fun s => ⟨E [], B []⟩) (fun x s => !wordB x) (fun x s => ()) (fun x s => (.ret, ⟨E [(2, .b false)], B []⟩)) (fun k s => True)
        (fun s hI G => by simp only [go_sem, reduceIte, ↓reduceIte, reduceCtorEq, nA, nS, nM, nB, nE, nL, nT, nN, iL, iT, iE, iA, iM, iS, iG, iB, iN, iZ, h, Int.lt_irrefl, hb0, str_size t]) (fun k hk s hI => by
          have h1 : ((k : Int) < (t.data.toList.length : Int)) := Int.ofNat_lt.2 hk
          have hz := str_at t k hk
          exact ⟨_, _, _, fun G => by simp only [go_sem, reduceIte, ↓reduceIte, reduceCtorEq, nA, nS, nM, nB, nE, nL, nT, nN, iL, iT, iE, iA, iM, iS, iG, iB, iN, iZ, h, hz, str_size t, h1, idx_nt _ _ hk, wrap_nat1 (show k < 9223372036854775807 by omega), hb0] <;> with_reducible rfl, Iff.rfl, fun hc => ⟨trivial, by simp only [go_sem, reduceIte, ↓reduceIte, reduceCtorEq, nA, nS, nM, nB, nE, nL, nT, nN, iL, iT, iE, iA, iM, iS, iG, iB, iN, iZ, h, str_size t]⟩⟩) () trivial (t.data.toList.length + 1) (Nat.le_refl _)
    rw [hb0] at hr
    rcases hq with ⟨s', e1, _, e3⟩ | ⟨x, s', e1, e3⟩
    · simp only [go_sem, reduceIte, ↓reduceIte, reduceCtorEq, nA, nS, nM, nB, nE, nL, nT, nN, iL, iT, iE, iA, iM, iS, iG, iB, iN, iZ, h, h1, h2, str_size t, hr, e3, hu, ha, runS_all e1]
    · simp only [go_sem, reduceIte, ↓reduceIte, reduceCtorEq, nA, nS, nM, nB, nE, nL, nT, nN, iL, iT, iE, iA, iM, iS, iG, iB, iN, iZ, h, h1, h2, str_size t, hr, e3, hu, ha, runS_all' e1]) (rfl)
def plainB (c : UInt8) : Bool := ((c.toNat : Int) == 9) || (decide (32 ≤ (c.toNat : Int)) && decide ((c.toNat : Int) ≤ 126))
noncomputable def s342 : SP Tryz.prog := mkS tyA 342 Tryz.f342 [] { md := [.ro 1], rets := some ([2], []) } Tryz.func342 (by kernel_rfl)
@[go_sem] theorem d342 : s342.g = 342 ∧ s342.fs = ⟨[.ro 1], s342.F, false⟩ := ⟨nr rfl, nr rfl⟩
@[go_sem] theorem e342 (c : UInt8) : s342.F [.i .u8 c.toNat] = some (.b (plainB c), [.u]) := mkS_eq (0) rfl rfl (fun cx h => by
  cases h1 : ((c.toNat : Int) == 9) <;> by_cases h2 : 32 ≤ (c.toNat : Int) <;> by_cases h3 : (c.toNat : Int) ≤ 126 <;> simp only [go_sem, reduceIte, ↓reduceIte, reduceCtorEq, nA, nS, nM, nB, nE, nL, nT, nN, iL, iT, iE, iA, iM, iS, iG, iB, iN, iZ, h, h1, h2, h3, plainB]) (rfl)
def areP (t : ByteArray) : Bool := t.data.toList.all plainB
theorem areP_eq (t : ByteArray) : areB plainB 0 (t.size : Int) t = areP t := areB_all (by omega) (by omega)
noncomputable def s295 : SP Tryz.prog := mkS tyA 295 Tryz.f295 [s342] { md := [.ro 1], rg := [(0, [0], []), (1, [0, 3], []), (2, [0, 3, 7], []), (3, [0, 3], []), (4, [0, 3, 14], []), (5, [2], []), (6, [2], [])], lv := [(0, [0, 3], [])], out := [(0, [], [])], rets := some ([2], []) } Tryz.func295 (by kernel_rfl)
@[go_sem] theorem d295 : s295.g = 295 ∧ s295.fs = ⟨[.ro 1], s295.F, false⟩ := ⟨nr rfl, nr rfl⟩
@[go_sem] theorem e295 (t : ByteArray) (h0 : (t.size : Int) ≤ 1000000) : s295.F [.s t] = some (.b (areP t), [.u]) := mkS_eq (t.data.toList.length + 1) rfl rfl (fun cx h => by
  have hx : t.data.toList.length ≤ 9223372036854775806 := by rw [← str_size]; omega
  have hb0 := loopN_eq Tryz.f295 0 _ _ rfl rfl
  obtain ⟨r, hr, hq⟩ := loop_srch (cx := cx) (blk := 0) (body := loopN Tryz.f295 0) t.data.toList (fun k (s : Unit) => ⟨E [(0, .s t), (3, .i .i64 k)], B []⟩) (fun s => ⟨E [], B []⟩) (fun x s => !plainB x) (fun x s => ()) (fun x s => (.ret, ⟨E [(2, .b false)], B []⟩)) (fun k s => True)
      (fun s hI G => by simp only [go_sem, reduceIte, ↓reduceIte, reduceCtorEq, nA, nS, nM, nB, nE, nL, nT, nN, iL, iT, iE, iA, iM, iS, iG, iB, iN, iZ, h, Int.lt_irrefl, hb0, str_size t]) (fun k hk s hI => by
        have h1 : ((k : Int) < (t.data.toList.length : Int)) := Int.ofNat_lt.2 hk
        have hz := str_at t k hk
        exact ⟨_, _, _, fun G => by simp only [go_sem, reduceIte, ↓reduceIte, reduceCtorEq, nA, nS, nM, nB, nE, nL, nT, nN, iL, iT, iE, iA, iM, iS, iG, iB, iN, iZ, h, hz, str_size t, h1, idx_nt _ _ hk, wrap_nat1 (show k < 9223372036854775807 by omega), hb0] <;> with_reducible rfl, Iff.rfl, fun hc => ⟨trivial, by simp only [go_sem, reduceIte, ↓reduceIte, reduceCtorEq, nA, nS, nM, nB, nE, nL, nT, nN, iL, iT, iE, iA, iM, iS, iG, iB, iN, iZ, h, str_size t]⟩⟩) () trivial (t.data.toList.length + 1) (Nat.le_refl _)
  rw [hb0] at hr
  rcases hq with ⟨s', e1, _, e3⟩ | ⟨x, s', e1, e3⟩
  · simp only [go_sem, reduceIte, ↓reduceIte, reduceCtorEq, nA, nS, nM, nB, nE, nL, nT, nN, iL, iT, iE, iA, iM, iS, iG, iB, iN, iZ, h, hr, e3, areP, runS_all e1]
  · simp only [go_sem, reduceIte, ↓reduceIte, reduceCtorEq, nA, nS, nM, nB, nE, nL, nT, nN, iL, iT, iE, iA, iM, iS, iG, iB, iN, iZ, h, hr, e3, areP, runS_all' e1]) (rfl)
end Go.Vm.A
