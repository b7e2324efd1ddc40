/- Functions of the program, walked by the evaluator. -/
import Derived.Test.YtnbhkifknleipaaGreatDoorWb
import Derived.Test.YtnbhkifknleipaaGreatDoorWa
import Derived.Test.YtnbhkifknleipaaGreatDoorFa
set_option autoImplicit false
set_option maxRecDepth 100000
set_option maxHeartbeats 4000000
set_option linter.unusedVariables false
set_option linter.unusedSimpArgs false
namespace Go.Vm.A
open Go.Proofs
open Nat renaming reduceAdd → nA, reduceSub → nS, reduceMul → nM, reduceBEq → nB, reduceEqDiff → nE, reduceLeDiff → nL, reduceLT → nT, reduceBneDiff → nN
open Int renaming reduceLE → iL, reduceLT → iT, reduceEq → iE, reduceAdd → iA, reduceMul → iM, reduceSub → iS, reduceNeg → iG, reduceBEq → iB, reduceBNe → iN, reduceToNat → iZ

def trimB (t : ByteArray) : ByteArray := ⟨(Lib.trimS t.data.toList [32, 9]).toArray⟩
def blankB (c : UInt8) : Bool := ((c.toNat : Int) == 32) || ((c.toNat : Int) == 9)
def bl (t : ByteArray) (j : Nat) : Bool := blankB (t.data[j]?.getD 0)
theorem blankB_c (c : UInt8) : [32, 9].contains c = blankB c := by
  have h32 : (c == 32) = ((c.toNat : Int) == 32) := by
    rw [Bool.eq_iff_iff, beq_iff_eq, beq_iff_eq]
    constructor
    · rintro rfl; rfl
    · intro h; exact UInt8.toNat_inj.1 (by have : (32 : UInt8).toNat = 32 := rfl; omega)
  have h9 : (c == 9) = ((c.toNat : Int) == 9) := by
    rw [Bool.eq_iff_iff, beq_iff_eq, beq_iff_eq]
    constructor
    · rintro rfl; rfl
    · intro h; exact UInt8.toNat_inj.1 (by have : (9 : UInt8).toNat = 9 := rfl; omega)
  simp only [List.contains_cons, List.contains_nil, Bool.or_false, h32, h9, blankB]
theorem bl_get {t : ByteArray} {j : Nat} {b : UInt8} (h : t.data.toList[j]? = some b) : bl t j = [32, 9].contains b := by
  rw [blankB_c]
  unfold bl
  rw [Array.getElem?_toList] at h
  rw [h]; rfl
theorem trim_cut (t : ByteArray) (f e : Nat) (hf : f ≤ e) (he : e ≤ t.size) (h1 : ∀ j, j < f → bl t j = true) (h2 : f < t.size → bl t f = false) (h3 : ∀ j, e ≤ j → j < t.size → bl t j = true) (h4 : f < e → bl t (e - 1) = false) : trimB t = t.extract f e := by
  have hn : t.size = t.data.toList.length := str_size t
  have hext : t.extract f e = ⟨((t.data.toList.take e).drop f).toArray⟩ := by
    have : (t.extract f e).data = t.data.extract f e := by simp
    cases hx : t.extract f e with
    | mk d =>
      rw [hx] at this
      congr 1
      simp only at this
      rw [this]
      apply Array.ext'
      rw [Array.toList_extract, List.extract_eq_take_drop, List.drop_take]
  rw [hext]
  unfold trimB Lib.trimS
  congr 2
  by_cases hall : f < e
  · rw [Lib.trimRightS_take t.data.toList [32, 9] e (by omega) (fun j b hj hb => ?_) (fun b hk hb => ?_)]
    · refine Lib.trimLeftS_drop _ _ f (by simp; omega) (fun j b hj hb => ?_) (fun b hb => ?_)
      · rw [List.getElem?_take] at hb
        split at hb
        · rw [← bl_get hb]; exact h1 j hj
        · cases hb
      · rw [List.getElem?_take, if_pos hall] at hb
        rw [← bl_get hb]; exact h2 (by omega)
    · rw [← bl_get hb]; exact h3 j hj (by have := (List.getElem?_eq_some_iff.1 hb).1; omega)
    · rw [← bl_get hb]; exact h4 hall
  · obtain rfl : f = e := by omega
    have hfn : f = t.size := by
      rcases Nat.lt_or_ge f t.size with h | h
      · have := h2 h; rw [h3 f (Nat.le_refl _) h] at this; cases this
      · omega
    have hr : Lib.trimRightS t.data.toList [32, 9] = t.data.toList.take 0 := Lib.trimRightS_take _ _ 0 (by omega) (fun j b _ hb => by
      rw [← bl_get hb]; exact h1 j (by have := (List.getElem?_eq_some_iff.1 hb).1; omega)) (fun b hk _ => by omega)
    rw [hr]
    have : (t.data.toList.take f).drop f = [] := by
      apply List.drop_eq_nil_of_le
      simp
      omega
    rw [this]
    rfl
noncomputable def s343 : SP Tryz.prog := mkS tyA 343 Tryz.f343 [] { md := [.ro 1], rets := some ([2], []) } Tryz.func343 (by kernel_rfl)
@[go_sem] theorem d343 : s343.g = 343 ∧ s343.fs = ⟨[.ro 1], s343.F, false⟩ := ⟨nr rfl, nr rfl⟩
@[go_sem] theorem e343 (c : UInt8) : s343.F [.i .u8 c.toNat] = some (.b (blankB c), [.u]) := mkS_eq (0) rfl rfl (fun cx h => by
  cases h1 : ((c.toNat : Int) == 32) <;> cases h2 : ((c.toNat : Int) == 9) <;> simp only [go_sem, reduceIte, ↓reduceIte, reduceCtorEq, nA, nS, nM, nB, nE, nL, nT, nN, iL, iT, iE, iA, iM, iS, iG, iB, iN, iZ, h, h1, h2, blankB]) (rfl)
noncomputable def s296 : SP Tryz.prog := mkS tyA 296 Tryz.f296 [s343] { md := [.ro 1], rg := [(0, [0], []), (1, [0, 3], []), (2, [0, 3, 4], []), (3, [0, 3, 4, 15], []), (4, [0, 3, 4], []), (5, [0, 3, 4, 27], []), (6, [0, 3, 4], []), (7, [2], [])], lv := [(0, [0, 3, 4], []), (2, [0, 3, 4], [])], out := [(0, [0, 3, 4], []), (2, [0, 3, 4], [])], rets := some ([2], []) } Tryz.func296 (by kernel_rfl)
@[go_sem] theorem d296 : s296.g = 296 ∧ s296.fs = ⟨[.ro 1], s296.F, false⟩ := ⟨nr rfl, nr rfl⟩
@[go_sem] theorem e296 (t : ByteArray) (h0 : t.size ≤ 9223372036854775806) : s296.F [.s t] = some (.s (trimB t), [.u]) := mkS_eq (t.size + 1) rfl rfl (fun cx h => by
  have hb := loopN_eq Tryz.f296 0 _ _ rfl rfl
  have hb1 := loopN_eq Tryz.f296 1 _ _ rfl rfl
  have lp := loop_gen (cx := cx) (blk := 0) (body := loopN Tryz.f296 0) (fun (k : Nat) => ⟨E [(0, .s t), (3, .i .i64 k), (4, .i .i64 t.size)], B []⟩) (fun k => k ≤ t.size) (fun k => t.size - k)
    (fun k r => ∃ f : Nat, k ≤ f ∧ f ≤ t.size ∧ (∀ j, k ≤ j → j < f → bl t j = true) ∧ (f < t.size → bl t f = false) ∧ r = some (.ex 0, ⟨E [(0, .s t), (3, .i .i64 f), (4, .i .i64 t.size)], B []⟩)) (fun k hk => by
    by_cases h1 : (k : Int) < (t.size : Int)
    · have i1 := idx_nt t.size k (by omega)
      have w1 := wrap_nat1 (show k < 9223372036854775807 by omega)
      cases h2 : bl t k
      · have h3 : blankB (t.data[k]?.getD 0) = false := h2
        exact .inl fun G => ⟨k, Nat.le_refl _, hk, fun j a b => by omega, fun _ => h2, by simp only [go_sem, reduceIte, ↓reduceIte, reduceCtorEq, nA, nS, nM, nB, nE, nL, nT, nN, iL, iT, iE, iA, iM, iS, iG, iB, iN, iZ, h, hb, h1, h3, i1]⟩
      · have h3 : blankB (t.data[k]?.getD 0) = true := h2
        refine .inr ⟨_, k + 1, ?_, by omega, by omega, fun r ⟨f, a, b, c, d, e⟩ => ⟨f, by omega, b, fun j x y => ?_, d, e⟩, fun G => by simp only [go_sem, reduceIte, ↓reduceIte, reduceCtorEq, nA, nS, nM, nB, nE, nL, nT, nN, iL, iT, iE, iA, iM, iS, iG, iB, iN, iZ, h, hb, h1, h3, i1, w1]; rfl⟩
        · simp only [go_sem, reduceIte, ↓reduceIte, reduceCtorEq, nA, nS, nM, nB, nE, nL, nT, nN, iL, iT, iE, iA, iM, iS, iG, iB, iN, iZ, h]
        · rcases Nat.eq_or_lt_of_le x with rfl | x
          · exact h2
          · exact c j x y
    · exact .inl fun G => ⟨k, Nat.le_refl _, hk, fun j a b => by omega, fun x => by omega, by simp only [go_sem, reduceIte, ↓reduceIte, reduceCtorEq, nA, nS, nM, nB, nE, nL, nT, nN, iL, iT, iE, iA, iM, iS, iG, iB, iN, iZ, h, hb, h1]⟩)
  rw [hb] at lp
  obtain ⟨f, _, f2, f3, f4, l1⟩ := lp (t.size + 1) 0 (Nat.zero_le _) (by omega) ⟨E [(0, .s t), (3, .i .i64 0), (4, .i .i64 t.size)], B []⟩ (by simp only [go_sem, reduceIte, ↓reduceIte, reduceCtorEq, nA, nS, nM, nB, nE, nL, nT, nN, iL, iT, iE, iA, iM, iS, iG, iB, iN, iZ, h])
  have lp2 := loop_gen (cx := cx) (blk := 2) (body := loopN Tryz.f296 1) (fun (k : Nat) => ⟨E [(0, .s t), (3, .i .i64 f), (4, .i .i64 k)], B []⟩) (fun k => f ≤ k ∧ k ≤ t.size) (fun k => k)
    (fun k r => ∃ e : Nat, f ≤ e ∧ e ≤ k ∧ (∀ j, e ≤ j → j < k → bl t j = true) ∧ (f < e → bl t (e - 1) = false) ∧ r = some (.ex 2, ⟨E [(0, .s t), (3, .i .i64 f), (4, .i .i64 e)], B []⟩)) (fun k hk => by
    by_cases h1 : (f : Int) < (k : Int)
    · obtain ⟨m, rfl⟩ : ∃ m, k = m + 1 := ⟨k - 1, by omega⟩
      have i1 := idx_nt t.size m (by omega)
      have w1 : (IntKind.i64).wrap (((m + 1 : Nat) : Int) - 1) = (m : Int) := by rw [wrap_id (by omega) (by omega)]; omega
      cases h2 : bl t m
      · have h3 : blankB (t.data[m]?.getD 0) = false := h2
        exact .inl fun G => ⟨m + 1, hk.1, Nat.le_refl _, fun j a b => by omega, fun _ => by simpa using h2, by simp only [go_sem, reduceIte, ↓reduceIte, reduceCtorEq, nA, nS, nM, nB, nE, nL, nT, nN, iL, iT, iE, iA, iM, iS, iG, iB, iN, iZ, h, hb1, h1, h3, i1, w1]⟩
      · have h3 : blankB (t.data[m]?.getD 0) = true := h2
        refine .inr ⟨_, m, ?_, ⟨by omega, by omega⟩, by omega, fun r ⟨e, a, b, c, d, g⟩ => ⟨e, a, by omega, fun j x y => ?_, d, g⟩, fun G => by simp only [go_sem, reduceIte, ↓reduceIte, reduceCtorEq, nA, nS, nM, nB, nE, nL, nT, nN, iL, iT, iE, iA, iM, iS, iG, iB, iN, iZ, h, hb1, h1, h3, i1, w1]; rfl⟩
        · simp only [go_sem, reduceIte, ↓reduceIte, reduceCtorEq, nA, nS, nM, nB, nE, nL, nT, nN, iL, iT, iE, iA, iM, iS, iG, iB, iN, iZ, h]
        · rcases Nat.lt_or_ge j m with y' | y'
          · exact c j x y'
          · obtain rfl : j = m := by omega
            exact h2
    · exact .inl fun G => ⟨k, hk.1, Nat.le_refl _, fun j a b => by omega, fun x => by omega, by simp only [go_sem, reduceIte, ↓reduceIte, reduceCtorEq, nA, nS, nM, nB, nE, nL, nT, nN, iL, iT, iE, iA, iM, iS, iG, iB, iN, iZ, h, hb1, h1]⟩)
  rw [hb1] at lp2
  obtain ⟨e, e1, e2, e3, e4, l2⟩ := lp2 (t.size + 1) t.size ⟨f2, Nat.le_refl _⟩ (by omega) ⟨E [(0, .s t), (3, .i .i64 f), (4, .i .i64 t.size)], B []⟩ (by simp only [go_sem, reduceIte, ↓reduceIte, reduceCtorEq, nA, nS, nM, nB, nE, nL, nT, nN, iL, iT, iE, iA, iM, iS, iG, iB, iN, iZ, h])
  have hc := trim_cut t f e e1 e2 (fun j hj => f3 j (Nat.zero_le _) hj) f4 e3 e4
  have c1 : (0 : Int) ≤ (e : Int) := by omega
  have c2 : (e : Int) ≤ (t.size : Int) := by omega
  have c3 : (0 : Int) ≤ (f : Int) := by omega
  have c4 : (f : Int) ≤ (e : Int) := by omega
  simp only [go_sem, reduceIte, ↓reduceIte, reduceCtorEq, nA, nS, nM, nB, nE, nL, nT, nN, iL, iT, iE, iA, iM, iS, iG, iB, iN, iZ, h, l1, l2, c1, c2, c3, c4, Int.toNat_natCast, hc]) (rfl)
noncomputable def headerCode (h : Header) : Int := if isWord h.Name = false then 5 else if 200 < (h.Value.size : Int) then 2 else if (areP h.Value && eqv (trimB h.Value) h.Value) = true then 0 else 5
noncomputable def headersFault (hs : List Header) : Int := if 20 < (hs.length : Int) then 2 else firstI (hs.map headerCode)
theorem firstI_inl {α : Type} {f : α → Int} : ∀ {xs : List α} {u u' : Unit}, runS (fun x _ => f x != 0) (fun _ _ => ()) xs u = .inl u' → firstI (xs.map f) = 0
  | [], _, _, _ => rfl
  | x :: xs, u, u', h => by
    rw [runS_cons] at h
    split at h
    · cases h
    · rename_i hc; rw [List.map_cons, firstI_cons, if_neg hc]; exact firstI_inl h
theorem firstI_inr {α : Type} {f : α → Int} : ∀ {xs : List α} {u : Unit} {q : α × Unit}, runS (fun x _ => f x != 0) (fun _ _ => ()) xs u = .inr q → firstI (xs.map f) = f q.1
  | [], _, _, h => by cases h
  | x :: xs, u, q, h => by
    rw [runS_cons] at h
    split at h
    · rename_i hc; injection h with h; subst h; rw [List.map_cons, firstI_cons, if_pos hc]
    · rename_i hc; rw [List.map_cons, firstI_cons, if_neg hc]; exact firstI_inr h
noncomputable def s215 : SP Tryz.prog := mkS tyA 215 Tryz.f215 [s161, s295, s296] { md := [.ro 1], rg := [(0, [1], [1]), (1, [1, 3], [1]), (2, [3, 6], []), (3, [2], []), (4, [3, 11], []), (5, [2], []), (6, [15], []), (7, [2], []), (8, [2], [])], rets := some ([2], []) } Tryz.func215 (by kernel_rfl)
@[go_sem] theorem d215 : s215.g = 215 ∧ s215.fs = ⟨[.ro 1], s215.F, false⟩ := ⟨nr rfl, nr rfl⟩
@[go_sem] theorem e215 (xName : ByteArray) (xValue : ByteArray) : s215.F [.agg [.s xName, .s xValue]] = some (.i .i64 (headerCode (Header.mk xName xValue)), [.u]) := mkS_eq (0) rfl rfl (fun cx h => by
  cases h1 : isWord xName
  · simp only [go_sem, reduceIte, ↓reduceIte, reduceCtorEq, nA, nS, nM, nB, nE, nL, nT, nN, iL, iT, iE, iA, iM, iS, iG, iB, iN, iZ, h, h1, headerCode]
  by_cases h2 : 200 < (xValue.size : Int)
  · simp only [go_sem, reduceIte, ↓reduceIte, reduceCtorEq, nA, nS, nM, nB, nE, nL, nT, nN, iL, iT, iE, iA, iM, iS, iG, iB, iN, iZ, h, h1, h2, headerCode]
  have h3 : (xValue.size : Int) ≤ 1000000 := by omega
  have h4 : xValue.size ≤ 9223372036854775806 := by omega
  have h5 : xValue.size ≤ 9223372036854775807 := by omega
  cases h6 : areP xValue
  · simp only [go_sem, reduceIte, ↓reduceIte, reduceCtorEq, nA, nS, nM, nB, nE, nL, nT, nN, iL, iT, iE, iA, iM, iS, iG, iB, iN, iZ, h, h1, h2, h3, h4, h5, h6, headerCode]
  cases h7 : eqv (trimB xValue) xValue <;> simp only [go_sem, reduceIte, ↓reduceIte, reduceCtorEq, nA, nS, nM, nB, nE, nL, nT, nN, iL, iT, iE, iA, iM, iS, iG, iB, iN, iZ, h, h1, h2, h3, h4, h5, h6, h7, eqv_bytes, eqv_boolne, bne, headerCode]) (rfl)
noncomputable def s114 : SP Tryz.prog := mkS tyA 114 Tryz.f114 [s215] { md := [.ro 1], rg := [(0, [0], []), (1, [0, 7], []), (2, [2], []), (3, [0, 3], []), (4, [0, 3, 11], []), (5, [0, 3], []), (6, [0, 3, 4], []), (7, [0, 3, 4, 20], []), (8, [2], []), (9, [2], [])], lv := [(0, [0, 3], [])], out := [(0, [], [])], rets := some ([2], []) } Tryz.func114 (by kernel_rfl)
@[go_sem] theorem d114 : s114.g = 114 ∧ s114.fs = ⟨[.ro 1], s114.F, false⟩ := ⟨nr rfl, nr rfl⟩
@[go_sem] theorem e114 (hs : List Header) : s114.F [.sl .ro 2 (hs.map (rHeader .ro))] = some (.i .i64 (headersFault hs), [.u]) := mkS_eq (hs.length + 1) rfl rfl (fun cx h => by
  by_cases h1 : 20 < (hs.length : Int)
  · simp only [go_sem, reduceIte, ↓reduceIte, reduceCtorEq, nA, nS, nM, nB, nE, nL, nT, nN, iL, iT, iE, iA, iM, iS, iG, iB, iN, iZ, h, h1, headersFault]
  have hx : hs.length ≤ 9223372036854775806 := by omega
  have hb0 := loopN_eq Tryz.f114 0 _ _ rfl rfl
  obtain ⟨r, hr, hq⟩ := loop_srch (cx := cx) (blk := 0) (body := loopN Tryz.f114 0) hs (fun k (s : Unit) => ⟨E [(0, .sl .ro 2 (hs.map (rHeader .ro))), (3, .i .i64 k)], B []⟩) (fun s => ⟨E [], B []⟩) (fun x s => headerCode x != 0) (fun x s => ()) (fun x s => (.ret, ⟨E [(2, .i .i64 (headerCode x))], B []⟩)) (fun k s => True)
      (fun s hI G => by simp only [go_sem, reduceIte, ↓reduceIte, reduceCtorEq, nA, nS, nM, nB, nE, nL, nT, nN, iL, iT, iE, iA, iM, iS, iG, iB, iN, iZ, h, Int.lt_irrefl, hb0, hx]) (fun k hk s hI => by
        have h1 : ((k : Int) < (hs.length : Int)) := Int.ofNat_lt.2 hk
        exact ⟨_, _, _, fun G => by simp only [go_sem, reduceIte, ↓reduceIte, reduceCtorEq, nA, nS, nM, nB, nE, nL, nT, nN, iL, iT, iE, iA, iM, iS, iG, iB, iN, iZ, h, map_gd (rHeader .ro) hs _ hk, rHeader, h1, idx_nt _ _ hk, wrap_nat1 (show k < 9223372036854775807 by omega), hb0] <;> with_reducible rfl, Iff.rfl, fun hc => ⟨trivial, by simp only [go_sem, reduceIte, ↓reduceIte, reduceCtorEq, nA, nS, nM, nB, nE, nL, nT, nN, iL, iT, iE, iA, iM, iS, iG, iB, iN, iZ, h]⟩⟩) () trivial (hs.length + 1) (Nat.le_refl _)
  rw [hb0] at hr
  rcases hq with ⟨s', e1, _, e3⟩ | ⟨x, s', e1, e3⟩
  · simp only [go_sem, reduceIte, ↓reduceIte, reduceCtorEq, nA, nS, nM, nB, nE, nL, nT, nN, iL, iT, iE, iA, iM, iS, iG, iB, iN, iZ, h, h1, hr, e3, headersFault, firstI_inl e1]
  · simp only [go_sem, reduceIte, ↓reduceIte, reduceCtorEq, nA, nS, nM, nB, nE, nL, nT, nN, iL, iT, iE, iA, iM, iS, iG, iB, iN, iZ, h, h1, hr, e3, headersFault, firstI_inr e1]) (rfl)
def hostB (c : UInt8) : Bool := letterB c || digitB c || ((c.toNat : Int) == 46) || ((c.toNat : Int) == 45)
def pSymB : List UInt8 := [47, 63, 61, 38, 58, 64, 44, 59, 40, 41]
def pathB (c : UInt8) : Bool := wordB c || pSymB.contains c
theorem pathB_sym {c : UInt8} (h : c ∈ pSymB) : pathB c = true := by
  have : pSymB.contains c = true := List.contains_iff_mem.2 h
  simp [pathB, this, -List.contains_eq_mem]
theorem pathB_not {c : UInt8} (h : ¬ c ∈ pSymB) : pathB c = wordB c := by
  have : pSymB.contains c = false := by rw [Bool.eq_false_iff]; exact fun e => h (List.contains_iff_mem.1 e)
  simp [pathB, this, -List.contains_eq_mem]
theorem ixB_psym (c : UInt8) : decide (0 ≤ ixB ⟨#[47, 63, 61, 38, 58, 64, 44, 59, 40, 41]⟩ c) = pSymB.contains c := ixB_ge pSymB c
@[go_sem] theorem map_byteRow (xs : List UInt8) : xs.map byteRow = xs.map rByte := nr rfl
def lowB (c : UInt8) : UInt8 := if 65 ≤ (c.toNat : Int) ∧ (c.toNat : Int) ≤ 90 then c + 32 else c
def lowS (t : ByteArray) : ByteArray := ⟨(t.data.toList.map lowB).toArray⟩
def lowUp (xs : List UInt8) (k : Nat) : List UInt8 := (xs.take k).map lowB ++ xs.drop k
theorem lowUp_zero (xs : List UInt8) : lowUp xs 0 = xs := by simp [lowUp]
theorem lowUp_all (xs : List UInt8) : lowUp xs xs.length = xs.map lowB := by simp [lowUp]
theorem lowUp_len (xs : List UInt8) (k : Nat) (h : k ≤ xs.length) : (lowUp xs k).length = xs.length := by simp [lowUp]; omega
theorem lowUp_at (xs : List UInt8) (k : Nat) (h : k < xs.length) : (lowUp xs k)[k]? = some xs[k] := by
  unfold lowUp
  rw [List.getElem?_append_right (by simp; omega)]
  simp [Nat.min_eq_left (Nat.le_of_lt h), h]
theorem lowUp_succ (xs : List UInt8) (k : Nat) (h : k < xs.length) : (lowUp xs k).set k (lowB xs[k]) = lowUp xs (k + 1) := by
  unfold lowUp
  rw [List.set_append_right _ _ (by simp; omega)]
  rw [List.length_map, List.length_take, Nat.min_eq_left (Nat.le_of_lt h), Nat.sub_self, List.drop_eq_getElem_cons h, List.set_cons_zero]
  have e : (xs.take (k + 1)).map lowB = (xs.take k).map lowB ++ [lowB xs[k]] := by
    rw [List.take_add_one, List.getElem?_eq_getElem h, Option.toList_some, List.map_append]; rfl
  rw [e]
  simp
theorem lowUp_same (xs : List UInt8) (k : Nat) (h : k < xs.length) (hc : lowB xs[k] = xs[k]) : lowUp xs (k + 1) = lowUp xs k := by
  rw [← lowUp_succ xs k h, hc]
  have := lowUp_at xs k h
  obtain ⟨h1, h2⟩ := List.getElem?_eq_some_iff.1 this
  rw [← h2]
  exact List.set_getElem_self h1
theorem lowUp_gd (xs : List UInt8) (k : Nat) (h : k < xs.length) : ((lowUp xs k).map rByte).getD k [] = [.i .u8 xs[k].toNat] := by
  rw [List.getD_eq_getElem?_getD, List.getElem?_map, lowUp_at xs k h]; rfl
theorem lowUp_g (xs : List UInt8) (k : Nat) (h : k < xs.length) : ((lowUp xs k).map rByte)[k]? = some [.i .u8 xs[k].toNat] := by
  rw [List.getElem?_map, lowUp_at xs k h]; rfl
theorem low_add {c : UInt8} (h : (c.toNat : Int) ≤ 90) : (c + 32).toNat = c.toNat + 32 := by
  rw [UInt8.toNat_add]
  have : (32 : UInt8).toNat = 32 := rfl
  rw [this]
  omega
theorem lowStep (xs : List UInt8) (k : Nat) (h : k < xs.length) :
    (65 ≤ (xs[k].toNat : Int) ∧ (xs[k].toNat : Int) ≤ 90 ∧ ((IntKind.u8).wrap ((IntKind.u8).wrap ((xs[k].toNat : Int) + 97) - 65) = ((lowB xs[k]).toNat : Int)) ∧ ((IntKind.u8).wrap ((xs[k].toNat : Int) + 32) = ((lowB xs[k]).toNat : Int)) ∧ ((lowUp xs k).map rByte).set k [.i .u8 (lowB xs[k]).toNat] = (lowUp xs (k + 1)).map rByte ∧ True) ∨
    (¬ 65 ≤ (xs[k].toNat : Int) ∧ True ∧ True ∧ True ∧ True ∧ lowUp xs (k + 1) = lowUp xs k) ∨ (65 ≤ (xs[k].toNat : Int) ∧ ¬ (xs[k].toNat : Int) ≤ 90 ∧ True ∧ True ∧ True ∧ lowUp xs (k + 1) = lowUp xs k) := by
  by_cases a1 : 65 ≤ (xs[k].toNat : Int)
  · by_cases a2 : (xs[k].toNat : Int) ≤ 90
    · refine .inl ⟨a1, a2, ?_, ?_, ?_, trivial⟩
      · have hl : lowB xs[k] = xs[k] + 32 := if_pos ⟨a1, a2⟩
        rw [hl, low_add a2]
        simp only [IntKind.wrap, IntKind.bits, IntKind.signed]
        simp
        omega
      · have hl : lowB xs[k] = xs[k] + 32 := if_pos ⟨a1, a2⟩
        rw [hl, low_add a2]
        simp only [IntKind.wrap, IntKind.bits, IntKind.signed]
        simp
        omega
      · rw [← lowUp_succ xs k h, List.map_set]; rfl
    · exact .inr (.inr ⟨a1, a2, trivial, trivial, trivial, lowUp_same xs k h (if_neg fun x => a2 x.2)⟩)
  · exact .inr (.inl ⟨a1, trivial, trivial, trivial, trivial, lowUp_same xs k h (if_neg fun x => a1 x.1)⟩)
def okN (n : ByteArray) : Bool := decide (n.size ≤ 9223372036854775806)
noncomputable def valsOf (hs : List Header) (n : ByteArray) : List ByteArray := (hs.filter fun x => eqv (lowS x.Name) (lowS n)).map (·.Value)
noncomputable def hasV (hs : List Header) (n : ByteArray) : Bool := hs.any fun x => eqv (lowS x.Name) (lowS n)
theorem valsOf_pos (hs : List Header) (n : ByteArray) : decide (0 < ((valsOf hs n).length : Int)) = hasV hs n := by
  have : 0 < (valsOf hs n).length ↔ hasV hs n = true := by
    unfold valsOf hasV
    rw [List.length_map, List.length_pos_iff_exists_mem, List.any_eq_true]
    simp only [List.mem_filter]
  rw [Bool.eq_iff_iff, decide_eq_true_eq, ← this]
  omega
noncomputable def joinStep (n : ByteArray) (s : ByteArray × Bool) (x : Header) : ByteArray × Bool := if eqv (lowS x.Name) (lowS n) = true then ((if s.2 = true then s.1 ++ ⟨#[44, 32]⟩ else s.1) ++ x.Value, true) else s
noncomputable def joinV (hs : List Header) (n : ByteArray) : ByteArray × Bool := hs.foldl (fun s x => joinStep n s x) (⟨#[]⟩, false)
theorem joinFold_2 (n : ByteArray) : ∀ (hs : List Header) (s : ByteArray × Bool), (hs.foldl (fun s x => joinStep n s x) s).2 = (s.2 || hasV hs n)
  | [], s => by simp [hasV]
  | x :: hs, s => by
    rw [List.foldl_cons, joinFold_2 n hs]
    unfold joinStep hasV
    rw [List.any_cons]
    cases eqv (lowS x.Name) (lowS n) <;> simp
theorem joinV_2 (hs : List Header) (n : ByteArray) : (joinV hs n).2 = hasV hs n := by
  unfold joinV; rw [joinFold_2]; rfl
theorem joinStep_size {n : ByteArray} {s : ByteArray × Bool} {x : Header} {k : Nat} (h : s.1.size ≤ k * 1048578) (hx : x.Value.size ≤ 1048576) : (joinStep n s x).1.size ≤ (k + 1) * 1048578 := by
  have h2 : (⟨#[44, 32]⟩ : ByteArray).size = 2 := rfl
  have h3 : (k + 1) * 1048578 = k * 1048578 + 1048578 := Nat.succ_mul _ _
  rw [h3]
  generalize k * 1048578 = K at h ⊢
  unfold joinStep
  split
  · show (((if s.2 = true then s.1 ++ ⟨#[44, 32]⟩ else s.1) ++ x.Value).size) ≤ _
    rw [ByteArray.size_append]
    split
    · rw [ByteArray.size_append]; omega
    · omega
  · omega
noncomputable def isMethod (t : ByteArray) : Bool := eqv t ⟨#[71, 69, 84]⟩ || eqv t ⟨#[72, 69, 65, 68]⟩
theorem eqv_bytesne (a b : ByteArray) : (a.toList != b.toList) = !eqv a b := by rw [bne, eqv_bytes]
def isHost (t : ByteArray) : Bool := areB hostB 1 60 t
def isPath (t : ByteArray) : Bool := areB pathB 1 100 t && (((t.data[0]?.getD 0).toNat : Int) == 47)
noncomputable def requestFault (r : Request) : Int := if (isMethod r.Method && isHost r.Host && isPath r.Path) = false then 5 else if (headersFault r.Headers != 0) = true then headersFault r.Headers else if hasV r.Headers ⟨#[72, 111, 115, 116]⟩ = true then 6 else if 20 ≤ (r.Headers.length : Int) then 2 else 0
theorem hasV_host (hs : List Header) : hasV hs ⟨#[104, 111, 115, 116]⟩ = hasV hs ⟨#[72, 111, 115, 116]⟩ := by
  unfold hasV
  have : lowS ⟨#[104, 111, 115, 116]⟩ = lowS ⟨#[72, 111, 115, 116]⟩ := by rfl
  rw [this]
theorem headersFault_ok {hs : List Header} (h : headersFault hs = 0) : hs.length ≤ 20 := by
  unfold headersFault at h
  split at h
  · cases h
  · omega
theorem areB_nil {p : UInt8 → Bool} {hi : Int} {t : ByteArray} (h : areB p 1 hi t = true) : 0 < t.size := by
  unfold areB at h
  simp only [Bool.and_eq_true, decide_eq_true_eq] at h
  omega
noncomputable def s192 : SP Tryz.prog := mkS tyA 192 Tryz.f192 [s282, s283] { md := [.ro 1], rg := [(0, [0], []), (1, [0, 11], []), (2, [2], []), (3, [0, 3], []), (4, [0, 3, 15], []), (5, [0, 3], []), (6, [0, 3, 41], []), (7, [2], []), (8, [2], [])], lv := [(0, [0, 3], [])], out := [(0, [], [])], rets := some ([2], []) } Tryz.func192 (by kernel_rfl)
@[go_sem] theorem d192 : s192.g = 192 ∧ s192.fs = ⟨[.ro 1], s192.F, false⟩ := ⟨nr rfl, nr rfl⟩
@[go_sem] theorem e192 (t : ByteArray) : s192.F [.s t] = some (.b (isHost t), [.u]) := mkS_eq (t.data.toList.length + 1) rfl rfl (fun cx h => by
  have hu : isHost t = areB hostB 1 60 t := rfl
  by_cases h1 : (t.size : Int) < 1
  · simp only [go_sem, reduceIte, ↓reduceIte, reduceCtorEq, nA, nS, nM, nB, nE, nL, nT, nN, iL, iT, iE, iA, iM, iS, iG, iB, iN, iZ, h, h1, hu, areB_short h1]
  by_cases h2 : 60 < (t.size : Int)
  · simp only [go_sem, reduceIte, ↓reduceIte, reduceCtorEq, nA, nS, nM, nB, nE, nL, nT, nN, iL, iT, iE, iA, iM, iS, iG, iB, iN, iZ, h, h1, h2, hu, areB_long h2]
  have hx : t.data.toList.length ≤ 9223372036854775806 := by rw [← str_size]; omega
  have ha := areB_all (p := hostB) h1 h2
  rw [str_size t] at h1 h2
  · have hb0 := loopN_eq Tryz.f192 0 _ _ rfl rfl
    obtain ⟨r, hr, hq⟩ := loop_list (cx := cx) (blk := 0) (body := loopN Tryz.f192 0) t.data.toList (fun k (s : Unit) => ⟨E [(0, .s t), (3, .i .i64 k)], B []⟩) (fun s => ⟨E [], B []⟩) (fun x s => !hostB x) (fun x s => ()) (fun x s => (.ret, ⟨E [(2, .b false)], B []⟩)) (fun k s => True)
        (fun s hI G => by simp only [go_sem, reduceIte, ↓reduceIte, reduceCtorEq, nA, nS, nM, nB, nE, nL, nT, nN, iL, iT, iE, iA, iM, iS, iG, iB, iN, iZ, h, Int.lt_irrefl, hb0, str_size t]) (fun k hk s hI => by
          have h1 : ((k : Int) < (t.data.toList.length : Int)) := Int.ofNat_lt.2 hk
          have hz := str_at t k hk
          have hu : hostB t.data.toList[k] = (letterB t.data.toList[k] || digitB t.data.toList[k] || ((t.data.toList[k].toNat : Int) == 46) || ((t.data.toList[k].toNat : Int) == 45)) := rfl
          by_cases c0 : hostB t.data.toList[k] = true
          · skip
            have c9 := c0
            rw [hu] at c0
            cases a1 : letterB t.data.toList[k] <;> cases a2 : digitB t.data.toList[k] <;> cases a3 : ((t.data.toList[k].toNat : Int) == 46) <;> cases a4 : ((t.data.toList[k].toNat : Int) == 45) <;> first | (exfalso; rw [a1, a2, a3, a4] at c0; exact absurd c0 (by decide)) | skip
            all_goals exact .inr ⟨by rw [c9]; rfl, trivial, _, fun G => by simp only [go_sem, reduceIte, ↓reduceIte, reduceCtorEq, nA, nS, nM, nB, nE, nL, nT, nN, iL, iT, iE, iA, iM, iS, iG, iB, iN, iZ, h, hz, str_size t, bne, a1, a2, a3, a4, h1, idx_nt _ _ hk, wrap_nat1 (show k < 9223372036854775807 by omega), hb0] <;> with_reducible rfl, by simp only [go_sem, reduceIte, ↓reduceIte, reduceCtorEq, nA, nS, nM, nB, nE, nL, nT, nN, iL, iT, iE, iA, iM, iS, iG, iB, iN, iZ, h, str_size t]⟩
          · have c1 : hostB t.data.toList[k] = false := by simpa using c0
            have c2 := c1
            rw [hu] at c2
            simp only [Bool.or_eq_false_iff] at c2
            obtain ⟨⟨⟨b1, b2⟩, b3⟩, b4⟩ := c2
            all_goals exact .inl ⟨by rw [c1]; rfl, fun G => by simp only [go_sem, reduceIte, ↓reduceIte, reduceCtorEq, nA, nS, nM, nB, nE, nL, nT, nN, iL, iT, iE, iA, iM, iS, iG, iB, iN, iZ, h, hz, str_size t, bne, b1, b2, b3, b4, h1, idx_nt _ _ hk, wrap_nat1 (show k < 9223372036854775807 by omega), hb0]⟩) () trivial (t.data.toList.length + 1) (Nat.le_refl _)
    rw [hb0] at hr
    rcases hq with ⟨s', e1, _, e3⟩ | ⟨x, s', e1, e3⟩
    · simp only [go_sem, reduceIte, ↓reduceIte, reduceCtorEq, nA, nS, nM, nB, nE, nL, nT, nN, iL, iT, iE, iA, iM, iS, iG, iB, iN, iZ, h, h1, h2, str_size t, hr, e3, hu, ha, runS_all e1]
    · simp only [go_sem, reduceIte, ↓reduceIte, reduceCtorEq, nA, nS, nM, nB, nE, nL, nT, nN, iL, iT, iE, iA, iM, iS, iG, iB, iN, iZ, h, h1, h2, str_size t, hr, e3, hu, ha, runS_all' e1]) (rfl)
end Go.Vm.A
