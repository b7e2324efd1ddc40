/- Functions of the program, walked by the evaluator. -/
import Derived.Test.YtionofhbbjpffaaWb
import Derived.Test.YtionofhbbjpffaaWa
set_option autoImplicit false
set_option maxRecDepth 100000
set_option maxHeartbeats 4000000
set_option linter.unusedVariables false
set_option linter.unusedSimpArgs false
namespace Go.Vm.A
open Go.Proofs
open Nat renaming reduceAdd → nA, reduceSub → nS, reduceMul → nM, reduceBEq → nB, reduceEqDiff → nE, reduceLeDiff → nL, reduceLT → nT, reduceBneDiff → nN
open Int renaming reduceLE → iL, reduceLT → iT, reduceEq → iE, reduceAdd → iA, reduceMul → iM, reduceSub → iS, reduceNeg → iG, reduceBEq → iB, reduceBNe → iN, reduceToNat → iZ

noncomputable def s52 : SP Try.prog := mkS tyA 52 Try.f52 [] { md := [.ro 1, .ro 1], rg := [(0, [0, 1], []), (1, [1], []), (2, [1, 10], []), (3, [4], []), (4, [4], [])], rets := some ([4], []) } Try.func52 (by kernel_rfl)
@[go_sem] theorem d52 : s52.g = 52 ∧ s52.fs = ⟨[.ro 1, .ro 1], s52.F, false⟩ := ⟨nr rfl, nr rfl⟩
@[go_sem] theorem e52 (xs : List Mark) (l : Int) : s52.F [.sl .ro 2 (xs.map (rMark .ro)), .i .i64 l] = some (.i .i64 (szF xs.length l), [.u, .u]) := mkS_eq (0) rfl rfl (fun cx h => by
  simp only [go_sem, reduceIte, ↓reduceIte, reduceCtorEq, nA, nS, nM, nB, nE, nL, nT, nN, iL, iT, iE, iA, iM, iS, iG, iB, iN, iZ, h]
  simp only [szByteS, szF, szs, szn, if_i, decide_eq_true_eq]) (rfl)
noncomputable def s23 : SP Try.prog := mkS tyA 23 Try.f23 [s52] { md := [.ro 1, .ro 1], rg := [(0, [1, 2], [2]), (1, [1], []), (2, [1, 10], []), (3, [4], []), (4, [4], [])], rets := some ([4], []) } Try.func23 (by kernel_rfl)
@[go_sem] theorem d23 : s23.g = 23 ∧ s23.fs = ⟨[.ro 1, .ro 1], s23.F, false⟩ := ⟨nr rfl, nr rfl⟩
@[go_sem] theorem e23 (xState : Int) (xSince : Int) (xOut : Int) (xMarks : List Mark) (l : Int) (h0 : okBreaker (Breaker.mk xState xSince xOut xMarks)) : s23.F [.agg [.i .i64 xState, .i .i64 xSince, .i .i64 xOut, .sl .ro 2 (xMarks.map (rMark .ro))], .i .i64 l] = some (.i .i64 (szBreaker (Breaker.mk xState xSince xOut xMarks) l), [.u, .u]) := mkS_eq (0) rfl rfl (fun cx h => by
  obtain ⟨q0, q1, q2, q3⟩ := h0
  simp only [go_sem, reduceIte, ↓reduceIte, reduceCtorEq, nA, nS, nM, nB, nE, nL, nT, nN, iL, iT, iE, iA, iM, iS, iG, iB, iN, iZ, h, q0, q1, q2, q3]
  simp only [szBreaker, szs, szn, if_i, decide_eq_true_eq]) (rfl)
def within (a b c : Int) : Bool := decide (b ≤ a) && decide (a ≤ c)
theorem within_t {a b c : Int} : within a b c = true ↔ b ≤ a ∧ a ≤ c := by simp [within]
theorem within_f {a b c : Int} : within a b c = false ↔ ¬ (b ≤ a ∧ a ≤ c) := by rw [← within_t]; simp
noncomputable def s33 : SP Try.prog := mkS tyA 33 Try.f33 [] { md := [.ro 1, .ro 1, .ro 1], rets := some ([6], []) } Try.func33 (by kernel_rfl)
@[go_sem] theorem d33 : s33.g = 33 ∧ s33.fs = ⟨[.ro 1, .ro 1, .ro 1], s33.F, false⟩ := ⟨nr rfl, nr rfl⟩
@[go_sem] theorem e33 (a : Int) (b : Int) (c : Int) : s33.F [.i .i64 a, .i .i64 b, .i .i64 c] = some (.b (within a b c), [.u, .u, .u]) := mkS_eq (0) rfl rfl (fun cx h => by
  simp only [go_sem, reduceIte, ↓reduceIte, reduceCtorEq, nA, nS, nM, nB, nE, nL, nT, nN, iL, iT, iE, iA, iM, iS, iG, iB, iN, iZ, h, within]
  by_cases h : b ≤ a <;> simp [h]) (rfl)
def isTime (a : Int) : Bool := within a 0 1000000000000000
theorem isTime_t {a : Int} : isTime a = true ↔ 0 ≤ a ∧ a ≤ 1000000000000000 := within_t
noncomputable def s43 : SP Try.prog := mkS tyA 43 Try.f43 [s33] { md := [.ro 1], rets := some ([2], []) } Try.func43 (by kernel_rfl)
@[go_sem] theorem d43 : s43.g = 43 ∧ s43.fs = ⟨[.ro 1], s43.F, false⟩ := ⟨nr rfl, nr rfl⟩
@[go_sem] theorem e43 (a : Int) : s43.F [.i .i64 a] = some (.b (isTime a), [.u]) := mkS_eq (0) rfl rfl (fun cx h => by
  simp only [go_sem, reduceIte, ↓reduceIte, reduceCtorEq, nA, nS, nM, nB, nE, nL, nT, nN, iL, iT, iE, iA, iM, iS, iG, iB, iN, iZ, h, isTime]) (rfl)
def badT (ms : List Mark) : Bool := ms.any fun x => !isTime x.At
def unsorted (ms : List Mark) : Bool := (ms.zip ms.tail).any fun p => decide (p.2.At < p.1.At)
def breakerFault (b : Breaker) : Int :=
  if (within b.State 0 2 && isTime b.Since && within b.Out 0 5) = false then 3
  else if 60 < (b.Marks.length : Int) then 2
  else if badT b.Marks = true then 3
  else if unsorted b.Marks = true then 1
  else if ((b.State != 0 && decide (0 < (b.Marks.length : Int))) || (b.State != 2 && b.Out != 0)) = true then 8 else 0
theorem badT_get {ms : List Mark} (h : badT ms = false) {m : Mark} (hm : m ∈ ms) : isTime m.At = true := by
  have := List.any_eq_false.1 h m hm
  simpa using this
theorem pairs_len {α : Type} (ms : List α) : (ms.zip ms.tail).length = ms.length - 1 := by simp
theorem pairs_get {α : Type} (ms : List α) (k : Nat) (h : k < (ms.zip ms.tail).length) : (ms.zip ms.tail)[k] = (ms[k]'(by simp at h; omega), ms[k + 1]'(by simp at h; omega)) := by simp
theorem breakerFault_ok {b : Breaker} (h : breakerFault b = 0) : (0 ≤ b.State ∧ b.State ≤ 2) ∧ (0 ≤ b.Since ∧ b.Since ≤ 1000000000000000) ∧ (0 ≤ b.Out ∧ b.Out ≤ 5) ∧ b.Marks.length ≤ 60 ∧ badT b.Marks = false ∧ unsorted b.Marks = false ∧ (b.State ≠ 0 → b.Marks = []) ∧ (b.State ≠ 2 → b.Out = 0) := by
  unfold breakerFault at h
  split at h
  · cases h
  split at h
  · cases h
  split at h
  · cases h
  split at h
  · cases h
  split at h
  · cases h
  rename_i h1 h2 h3 h4 h5
  simp only [Bool.and_eq_false_iff, not_or, Bool.not_eq_false, within_t, isTime_t] at h1
  simp only [Bool.or_eq_true, Bool.and_eq_true, bne_iff_ne, ne_eq, decide_eq_true_eq, not_or, not_and, Classical.not_not] at h5
  refine ⟨by omega, by omega, by omega, by omega, by simpa using h3, by simpa using h4, fun hs => ?_, h5.2⟩
  have := h5.1 hs
  cases hm : b.Marks with
  | nil => rfl
  | cons x r => rw [hm] at this; simp at this
noncomputable def s80 : SP Try.prog := mkS tyA 80 Try.f80 [s33, s43] { md := [.ro 1], rg := [(0, [1], [1]), (1, [1, 20], [1]), (2, [2], []), (3, [1, 24], [1]), (4, [2], []), (5, [1, 3], [1]), (6, [1, 3, 29], [1]), (7, [1, 3], [1]), (8, [1, 3, 39], [1]), (9, [2], []), (10, [1, 4], [1]), (11, [1, 4, 44], [1]), (12, [1, 4], [1]), (13, [1, 4, 60], [1]), (14, [2], []), (15, [79], []), (16, [2], []), (17, [2], [])], lv := [(0, [1, 3], [1]), (2, [1, 4], [1])], out := [(0, [1], [1]), (2, [1], [1])], rets := some ([2], []), plan := [(13, (.take 0 (.take 1 (.take 2 (.take 3 (.take 4 (.take 5 (.take 6 (.take 7 (.take 8 (.take 9 (.take 10 (.take 11 (.take 12 (.take 13 .done)))))))))))))))] } Try.func80 (by kernel_rfl)
@[go_sem] theorem d80 : s80.g = 80 ∧ s80.fs = ⟨[.ro 1], s80.F, false⟩ := ⟨nr rfl, nr rfl⟩
@[go_sem] theorem e80 (bState : Int) (bSince : Int) (bOut : Int) (bMarks : List Mark) (h0 : (Breaker.mk bState bSince bOut bMarks).Marks.length ≤ 1048576) : s80.F [.agg [.i .i64 bState, .i .i64 bSince, .i .i64 bOut, .sl .ro 2 (bMarks.map (rMark .ro))]] = some (.i .i64 (breakerFault (Breaker.mk bState bSince bOut bMarks)), [.u]) := mkS_eq ((Breaker.mk bState bSince bOut bMarks).Marks.length + 1) rfl rfl (fun cx h => by
  have hx := h0
  simp only at hx
  by_cases c0 : (within bState 0 2 && isTime bSince && within bOut 0 5) = false
  · simp only [go_sem, reduceIte, ↓reduceIte, reduceCtorEq, nA, nS, nM, nB, nE, nL, nT, nN, iL, iT, iE, iA, iM, iS, iG, iB, iN, iZ, h, breakerFault, c0]
    all_goals (cases hw1 : within bState 0 2 <;> cases hw2 : isTime bSince <;> cases hw3 : within bOut 0 5 <;> simp_all)
  simp only [Bool.not_eq_false, Bool.and_eq_true] at c0
  obtain ⟨⟨d1, d2⟩, d3⟩ := c0
  by_cases c1 : 60 < (bMarks.length : Int)
  · simp only [go_sem, reduceIte, ↓reduceIte, reduceCtorEq, nA, nS, nM, nB, nE, nL, nT, nN, iL, iT, iE, iA, iM, iS, iG, iB, iN, iZ, h, breakerFault, d1, d2, d3, c1]
  have hb0 := loopN_eq Try.f80 0 _ _ rfl rfl
  obtain ⟨r, hr, hq⟩ := loop_srch (cx := cx) (blk := 0) (body := loopN Try.f80 0) bMarks (fun k (s : Unit) => ⟨E [(1, .p ⟨false, 1, [], 0⟩), (3, .i .i64 k)], B [(1, [.i .i64 bState, .i .i64 bSince, .i .i64 bOut, .sl .ro 2 (bMarks.map (rMark .ro))])]⟩) (fun s => ⟨E [(1, .p ⟨false, 1, [], 0⟩)], B [(1, [.i .i64 bState, .i .i64 bSince, .i .i64 bOut, .sl .ro 2 (bMarks.map (rMark .ro))])]⟩) (fun x s => !isTime x.At) (fun x s => ()) (fun x s => (.ret, ⟨E [(2, .i .i64 3)], B []⟩)) (fun k s => True)
      (fun s hI G => by simp only [go_sem, reduceIte, ↓reduceIte, reduceCtorEq, nA, nS, nM, nB, nE, nL, nT, nN, iL, iT, iE, iA, iM, iS, iG, iB, iN, iZ, h, Int.lt_irrefl, hb0, hx]) (fun k hk s hI => by
        have h1 : ((k : Int) < (bMarks.length : Int)) := Int.ofNat_lt.2 hk
        exact ⟨_, _, _, fun G => by simp only [go_sem, reduceIte, ↓reduceIte, reduceCtorEq, nA, nS, nM, nB, nE, nL, nT, nN, iL, iT, iE, iA, iM, iS, iG, iB, iN, iZ, h, map_gd (rMark .ro) bMarks _ hk, h1, idx_nt _ _ hk, wrap_nat1 (show k < 9223372036854775807 by omega), hb0] <;> with_reducible rfl, Iff.rfl, fun hc => ⟨trivial, by simp only [go_sem, reduceIte, ↓reduceIte, reduceCtorEq, nA, nS, nM, nB, nE, nL, nT, nN, iL, iT, iE, iA, iM, iS, iG, iB, iN, iZ, h]⟩⟩) () trivial (bMarks.length + 1) (Nat.le_refl _)
  rw [hb0] at hr
  rcases hq with ⟨s', a1, _, a3⟩ | ⟨x, s', a1, a3⟩
  case inr =>
    have c2 : badT bMarks = true := (runS_found a1).1
    simp only [go_sem, reduceIte, ↓reduceIte, reduceCtorEq, nA, nS, nM, nB, nE, nL, nT, nN, iL, iT, iE, iA, iM, iS, iG, iB, iN, iZ, h, hr, a3, breakerFault, d1, d2, d3, c1, c2]
  have c2 : badT bMarks = false := runS_any a1
  have hb1 := loopN_eq Try.f80 1 _ _ rfl rfl
  obtain ⟨r2, hr2, hqr2⟩ := loop_srch (cx := cx) (blk := 2) (body := loopN Try.f80 1) (bMarks.zip bMarks.tail) (fun k (s : Unit) => ⟨E [(1, .p ⟨false, 1, [], 0⟩), (4, .i .i64 ((k + 1 : Nat) : Int))], B [(1, [.i .i64 bState, .i .i64 bSince, .i .i64 bOut, .sl .ro 2 (bMarks.map (rMark .ro))])]⟩) (fun s => ⟨E [(1, .p ⟨false, 1, [], 0⟩)], B [(1, [.i .i64 bState, .i .i64 bSince, .i .i64 bOut, .sl .ro 2 (bMarks.map (rMark .ro))])]⟩) (fun x s => decide (x.2.At < x.1.At)) (fun x s => ()) (fun x s => (.ret, ⟨E [(2, .i .i64 1)], B []⟩)) (fun k s => True)
      (fun s hI G => by simp only [go_sem, reduceIte, ↓reduceIte, reduceCtorEq, nA, nS, nM, nB, nE, nL, nT, nN, iL, iT, iE, iA, iM, iS, iG, iB, iN, iZ, h, Int.lt_irrefl, hb1, show ¬ ((((bMarks.zip bMarks.tail).length + 1 : Nat) : Int) < (bMarks.length : Int)) by simp; omega]) (fun k hk s hI => by
        have h1 : ((k : Int) < ((bMarks.zip bMarks.tail).length : Int)) := Int.ofNat_lt.2 hk
        have hk2 : k + 1 < bMarks.length := by simp at hk; omega
        have h3 := pairs_get bMarks k hk
        rw [h3]
        have i0 : ((k + 1 : Nat) : Int) < (bMarks.length : Int) := Int.ofNat_lt.2 hk2
        have i2 : (IntKind.i64).wrap (((k + 1 : Nat) : Int) - 1) = (k : Int) := by rw [wrap_id (by omega) (by omega)]; omega
        have i3 : (IntKind.i64).wrap (((k + 1 : Nat) : Int) + 1) = ((k + 1 + 1 : Nat) : Int) := wrap_nat1 (by omega)
        exact ⟨_, _, _, fun G => by simp only [go_sem, reduceIte, ↓reduceIte, reduceCtorEq, nA, nS, nM, nB, nE, nL, nT, nN, iL, iT, iE, iA, iM, iS, iG, iB, iN, iZ, h, i0, i2, i3, idx_nt bMarks.length _ hk2, idx_nt bMarks.length k (by omega), map_gd (rMark .ro) bMarks _ hk2, map_gd (rMark .ro) bMarks k (by omega), h1, idx_nt _ _ hk, wrap_nat1 (show k < 9223372036854775807 by omega), hb1] <;> with_reducible rfl, by simp, fun hc => ⟨trivial, by simp only [go_sem, reduceIte, ↓reduceIte, reduceCtorEq, nA, nS, nM, nB, nE, nL, nT, nN, iL, iT, iE, iA, iM, iS, iG, iB, iN, iZ, h]⟩⟩) () trivial (bMarks.length + 1) (by simp <;> omega)
  rw [hb1] at hr2
  rcases hqr2 with ⟨s', b1, _, b3⟩ | ⟨x, s', b1, b3⟩
  case inr =>
    have c5 : unsorted bMarks = true := (runS_found b1).1
    simp only [go_sem, reduceIte, ↓reduceIte, reduceCtorEq, nA, nS, nM, nB, nE, nL, nT, nN, iL, iT, iE, iA, iM, iS, iG, iB, iN, iZ, h, hr, a3, hr2, b3, breakerFault, d1, d2, d3, c1, c2, c5]
  have c5 : unsorted bMarks = false := runS_any b1
  simp only [go_sem, reduceIte, ↓reduceIte, reduceCtorEq, nA, nS, nM, nB, nE, nL, nT, nN, iL, iT, iE, iA, iM, iS, iG, iB, iN, iZ, h, hr, a3, hr2, b3, breakerFault, d1, d2, d3, c1, c2, c5]
  all_goals (cases e1 : bState != 0 <;> cases e2 : bState != 2 <;> cases e3 : bOut != 0 <;> cases e4 : decide (0 < (bMarks.length : Int)) <;> simp_all)) (rfl)
def rulesFault (r : Rules) : Int := if (within r.Window 1 1000000 && within r.Min 1 50 && within r.Ratio 1 1000 && within r.Cool 0 1000000 && within r.Quota 1 5) = true then 0 else 3
theorem rulesFault_ok {r : Rules} (h : rulesFault r = 0) : 1 ≤ r.Window ∧ r.Window ≤ 1000000 ∧ 1 ≤ r.Min ∧ r.Min ≤ 50 ∧ 1 ≤ r.Ratio ∧ r.Ratio ≤ 1000 ∧ 0 ≤ r.Cool ∧ r.Cool ≤ 1000000 ∧ 1 ≤ r.Quota ∧ r.Quota ≤ 5 := by
  unfold rulesFault at h
  split at h
  · rename_i hc
    simp only [Bool.and_eq_true, within_t] at hc
    omega
  · cases h
noncomputable def s81 : SP Try.prog := mkS tyA 81 Try.f81 [s33] { md := [.ro 1], rg := [(0, [1], [1]), (1, [30], []), (2, [2], []), (3, [2], [])], rets := some ([2], []) } Try.func81 (by kernel_rfl)
@[go_sem] theorem d81 : s81.g = 81 ∧ s81.fs = ⟨[.ro 1], s81.F, false⟩ := ⟨nr rfl, nr rfl⟩
@[go_sem] theorem e81 (rWindow : Int) (rMin : Int) (rRatio : Int) (rCool : Int) (rQuota : Int) : s81.F [.agg [.i .i64 rWindow, .i .i64 rMin, .i .i64 rRatio, .i .i64 rCool, .i .i64 rQuota]] = some (.i .i64 (rulesFault (Rules.mk rWindow rMin rRatio rCool rQuota)), [.u]) := mkS_eq (0) rfl rfl (fun cx h => by
  simp only [go_sem, reduceIte, ↓reduceIte, reduceCtorEq, nA, nS, nM, nB, nE, nL, nT, nN, iL, iT, iE, iA, iM, iS, iG, iB, iN, iZ, h]
  simp only [rulesFault]
  cases within rWindow 1 1000000 <;> cases within rMin 1 50 <;> cases within rRatio 1 1000 <;> cases within rCool 0 1000000 <;> cases within rQuota 1 5 <;> rfl) (rfl)
def breakerCode (b : Breaker) (r : Rules) (now : Int) : Int :=
  if breakerFault b ≠ 0 then breakerFault b else if rulesFault r ≠ 0 then rulesFault r
  else if (!isTime now || decide (now < b.Since) || b.Marks.any fun x => decide (now < x.At)) = true then 3 else 0
theorem last_any : ∀ {ms : List Mark} (now : Int), unsorted ms = false → (ms.any fun x => decide (now < x.At)) = (match ms.getLast? with
    | some m => decide (now < m.At)
    | none => false)
  | [], _, _ => rfl
  | [x], _, _ => by simp
  | x :: y :: r, now, h => by
    simp only [unsorted, List.tail_cons, List.zip_cons_cons, List.any_cons, Bool.or_eq_false_iff, decide_eq_false_iff_not] at h
    have ih := last_any (ms := y :: r) now h.2
    rw [List.any_cons, ih, List.getLast?_cons_cons]
    have key : decide (now < x.At) = true → (match (y :: r).getLast? with
      | some m => decide (now < m.At)
      | none => false) = true := by
      intro hx
      rw [← ih, List.any_cons]
      have h1 := of_decide_eq_true hx
      have h2 := h.1
      simp only [Bool.or_eq_true, decide_eq_true_eq]
      left; omega
    cases hx : decide (now < x.At) with
    | false => simp
    | true => rw [key hx]; rfl
theorem getLast_of {ms : List Mark} (h : 0 < ms.length) : ms.getLast? = some (ms[ms.length - 1]'(by omega)) := by
  rw [List.getLast?_eq_getElem?, List.getElem?_eq_getElem (by omega)]
theorem breakerCode_ok {b : Breaker} {r : Rules} {now : Int} (h : breakerCode b r now = 0) : breakerFault b = 0 ∧ rulesFault r = 0 ∧ isTime now = true ∧ b.Since ≤ now := by
  unfold breakerCode at h
  by_cases h1 : breakerFault b = 0
  · rw [if_neg (by simp [h1])] at h
    by_cases h2 : rulesFault r = 0
    · rw [if_neg (by simp [h2])] at h
      split at h
      · cases h
      · rename_i hc
        simp only [Bool.or_eq_true, not_or, Bool.not_eq_true', Bool.not_eq_false, decide_eq_true_eq] at hc
        exact ⟨h1, h2, hc.1.1, by omega⟩
    · rw [if_pos h2] at h; exact absurd h h2
  · rw [if_pos h1] at h; exact absurd h h1
noncomputable def s53 : SP Try.prog := mkS tyA 53 Try.f53 [s43, s80, s81] { md := [.ro 1, .ro 1, .ro 1], rg := [(0, [0, 1, 2], []), (1, [0, 1, 2, 7], []), (2, [0, 1, 2, 7, 15], []), (3, [6], []), (4, [0, 2, 8], []), (5, [0, 2, 8, 22], []), (6, [6], []), (7, [0, 2, 34], []), (8, [6], []), (9, [0, 2, 9], []), (10, [54], []), (11, [6], []), (12, [6], [])], rets := some ([6], []) } Try.func53 (by kernel_rfl)
@[go_sem] theorem d53 : s53.g = 53 ∧ s53.fs = ⟨[.ro 1, .ro 1, .ro 1], s53.F, false⟩ := ⟨nr rfl, nr rfl⟩
@[go_sem] theorem e53 (bState : Int) (bSince : Int) (bOut : Int) (bMarks : List Mark) (rWindow : Int) (rMin : Int) (rRatio : Int) (rCool : Int) (rQuota : Int) (now : Int) (h0 : (Breaker.mk bState bSince bOut bMarks).Marks.length ≤ 1048576) : s53.F [.pr [.i .i64 bState, .i .i64 bSince, .i .i64 bOut, .sl .ro 2 (bMarks.map (rMark .ro))], .pr [.i .i64 rWindow, .i .i64 rMin, .i .i64 rRatio, .i .i64 rCool, .i .i64 rQuota], .i .i64 now] = some (.i .i64 (breakerCode (Breaker.mk bState bSince bOut bMarks) (Rules.mk rWindow rMin rRatio rCool rQuota) now), [.u, .u, .u]) := mkS_eq (0) rfl rfl (fun cx h => by
  simp only [breakerCode]
  by_cases c1 : breakerFault (Breaker.mk bState bSince bOut bMarks) = 0
  · by_cases c2 : rulesFault (Rules.mk rWindow rMin rRatio rCool rQuota) = 0
    · have hl := last_any (ms := bMarks) now (breakerFault_ok c1).2.2.2.2.2.1
      rcases Nat.eq_zero_or_pos bMarks.length with hp | hp
      · have hp0 : ¬ (0 : Int) < (bMarks.length : Int) := by omega
        have hl2 : (bMarks.any fun x => decide (now < x.At)) = false := by rw [List.length_eq_zero_iff.1 hp]; rfl
        simp only [go_sem, reduceIte, ↓reduceIte, reduceCtorEq, nA, nS, nM, nB, nE, nL, nT, nN, iL, iT, iE, iA, iM, iS, iG, iB, iN, iZ, h, h0, c1, c2, hp0, hl2]
        cases isTime now <;> by_cases d1 : now < bSince <;> simp [d1]
      · have hp1 : (0 : Int) < (bMarks.length : Int) := by omega
        have w1 : (IntKind.i64).wrap ((bMarks.length : Int) - 1) = ((bMarks.length - 1 : Nat) : Int) := by rw [wrap_id (by have := h0; simp only at this; omega) (by have := h0; simp only at this; omega)]; omega
        rw [getLast_of hp] at hl
        have hk : bMarks.length - 1 < bMarks.length := by omega
        simp only [go_sem, reduceIte, ↓reduceIte, reduceCtorEq, nA, nS, nM, nB, nE, nL, nT, nN, iL, iT, iE, iA, iM, iS, iG, iB, iN, iZ, h, h0, c1, c2, hp1, w1, idx_nt _ _ hk, map_gd (rMark .ro) bMarks _ hk, hl]
        cases isTime now <;> by_cases d1 : now < bSince <;> by_cases d2 : now < bMarks[bMarks.length - 1].At <;> simp [d1, d2]
    · have c2' : (rulesFault (Rules.mk rWindow rMin rRatio rCool rQuota) != 0) = true := by simpa using c2
      simp only [go_sem, reduceIte, ↓reduceIte, reduceCtorEq, nA, nS, nM, nB, nE, nL, nT, nN, iL, iT, iE, iA, iM, iS, iG, iB, iN, iZ, h, h0, c1, c2, c2']
  · have c1' : (breakerFault (Breaker.mk bState bSince bOut bMarks) != 0) = true := by simpa using c1
    simp only [go_sem, reduceIte, ↓reduceIte, reduceCtorEq, nA, nS, nM, nB, nE, nL, nT, nN, iL, iT, iE, iA, iM, iS, iG, iB, iN, iZ, h, h0, c1, c1']) (rfl)
noncomputable def s54 : SP Try.prog := mkS tyA 54 Try.f54 [] { md := [.ro 1], rg := [(0, [0, 2], [2, 3]), (1, [0, 2, 3], [2, 3]), (2, [2, 3], [2, 3]), (3, [2], [2, 3])], rets := some ([2], [2, 3]) } Try.func54 (by kernel_rfl)
@[go_sem] theorem d54 : s54.g = 54 ∧ s54.fs = ⟨[.ro 1], s54.F, false⟩ := ⟨nr rfl, nr rfl⟩
@[go_sem] theorem e54 (bState : Int) (bSince : Int) (bOut : Int) (bMarks : List Mark) (h0 : smL smMark (Breaker.mk bState bSince bOut bMarks).Marks) : s54.F [.pr [.i .i64 bState, .i .i64 bSince, .i .i64 bOut, .sl .ro 2 (bMarks.map (rMark .ro))]] = some (.agg (rBreaker .mut (Breaker.mk bState bSince bOut bMarks)), [.u]) := mkS_eq (0) rfl rfl (fun cx h => by
  have h1 : (bMarks.map (rMark .ro)).all (·.all plain) = true := by simp [rMark, plain]
  have h2 : bMarks.length * 16 ≤ 140737488355328 := by have := h0.1; simp only at this; omega
  have h3 : bMarks.map (rMark .ro) = bMarks.map (rMark .mut) := rfl
  simp only [go_sem, reduceIte, ↓reduceIte, reduceCtorEq, nA, nS, nM, nB, nE, nL, nT, nN, iL, iT, iE, iA, iM, iS, iG, iB, iN, iZ, h, h1, h2]
  rw [h3]) (by simp only [go_sem, reduceIte, ↓reduceIte, reduceCtorEq, nA, nS, nM, nB, nE, nL, nT, nN, iL, iT, iE, iA, iM, iS, iG, iB, iN, iZ, okRes, hasRo, hasRoL, hasRoLL])
noncomputable def s103 : SP Try.prog := mkS tyA 103 Try.f103 [] { md := [.ro 1, .ro 1], rg := [(0, [0, 1], []), (1, [0, 1, 7], []), (2, [4], []), (3, [4], [])], rets := some ([4], []) } Try.func103 (by kernel_rfl)
@[go_sem] theorem d103 : s103.g = 103 ∧ s103.fs = ⟨[.ro 1, .ro 1], s103.F, false⟩ := ⟨nr rfl, nr rfl⟩
@[go_sem] theorem e103 (a : Int) (b : Int) : s103.F [.i .i64 a, .i .i64 b] = some (.i .i64 (if a < b then a else b), [.u, .u]) := mkS_eq (0) rfl rfl (fun cx h => by
  simp only [go_sem, reduceIte, ↓reduceIte, reduceCtorEq, nA, nS, nM, nB, nE, nL, nT, nN, iL, iT, iE, iA, iM, iS, iG, iB, iN, iZ, h, if_i]) (rfl)
def addT (a b : Int) : Int := if 1000000000000000 < a + b then 1000000000000000 else a + b
noncomputable def s82 : SP Try.prog := mkS tyA 82 Try.f82 [s103] { md := [.ro 1, .ro 1], rets := some ([4], []) } Try.func82 (by kernel_rfl)
@[go_sem] theorem d82 : s82.g = 82 ∧ s82.fs = ⟨[.ro 1, .ro 1], s82.F, false⟩ := ⟨nr rfl, nr rfl⟩
@[go_sem] theorem e82 (a : Int) (b : Int) (h0 : (isTime a = true ∧ 0 ≤ b ∧ b ≤ 1000000000000000)) : s82.F [.i .i64 a, .i .i64 b] = some (.i .i64 (addT a b), [.u, .u]) := mkS_eq (0) rfl rfl (fun cx h => by
  have h1 := isTime_t.1 h0.1
  have h2 : (IntKind.i64).wrap (a + b) = a + b := wrap_id (by omega) (by omega)
  simp only [go_sem, reduceIte, ↓reduceIte, reduceCtorEq, nA, nS, nM, nB, nE, nL, nT, nN, iL, iT, iE, iA, iM, iS, iG, iB, iN, iZ, h, h2, minL, addT]
  try (split <;> first | rfl | (simp only [Option.some.injEq, Prod.mk.injEq, AV.i.injEq, true_and, and_true]; omega))) (rfl)
def badN (ms : List Mark) : Int := ms.foldl (fun s x => if x.Good = true then s else s + 1) 0
theorem badN_aux : ∀ (ms : List Mark) (s : Int), s ≤ ms.foldl (fun s x => if x.Good = true then s else s + 1) s ∧ ms.foldl (fun s x => if x.Good = true then s else s + 1) s ≤ s + ms.length
  | [], s => by simp
  | x :: r, s => by
    simp only [List.foldl_cons, List.length_cons]
    cases hg : x.Good
    · have h := badN_aux r (s + 1)
      simp only [Bool.false_eq_true, if_false]; omega
    · have h := badN_aux r s
      simp only [if_true]; omega
theorem badN_le (ms : List Mark) : 0 ≤ badN ms ∧ badN ms ≤ ms.length := by have := badN_aux ms 0; unfold badN; omega
noncomputable def s83 : SP Try.prog := mkS tyA 83 Try.f83 [] { md := [.ro 1], rg := [(0, [0], []), (1, [0, 3], []), (2, [0, 3, 4], []), (3, [0, 3, 4, 8], []), (4, [0, 3, 4], []), (5, [0, 3, 4, 16], []), (6, [0, 3, 4], []), (7, [2], [])], lv := [(0, [0, 3, 4], [])], out := [(0, [3], [])], rets := some ([2], []) } Try.func83 (by kernel_rfl)
@[go_sem] theorem d83 : s83.g = 83 ∧ s83.fs = ⟨[.ro 1], s83.F, false⟩ := ⟨nr rfl, nr rfl⟩
@[go_sem] theorem e83 (xs : List Mark) (hb : xs.length ≤ 1000) : s83.F [.sl .ro 2 (xs.map (rMark .ro))] = some (.i .i64 (badN xs), [.u]) := mkS_eq (xs.length + 1) rfl rfl (fun cx h => by
  have hx := hb
  have hb0 := loopN_eq Try.f83 0 _ _ rfl rfl
  obtain ⟨hI, hr⟩ := loop_fold (cx := cx) (blk := 0) (body := loopN Try.f83 0) xs (fun k (s : Int) => ⟨E [(0, .sl .ro 2 (xs.map (rMark .ro))), (3, .i .i64 s), (4, .i .i64 k)], B []⟩) (fun s => ⟨E [(3, .i .i64 s)], B []⟩) (fun x s => (if x.Good = true then s else s + 1)) (fun k s => 0 ≤ s ∧ s ≤ k)
      (fun s hI G => by simp only [go_sem, reduceIte, ↓reduceIte, reduceCtorEq, nA, nS, nM, nB, nE, nL, nT, nN, iL, iT, iE, iA, iM, iS, iG, iB, iN, iZ, h, Int.lt_irrefl, hb0, hx]) (fun k hk s hI => by
        have h1 : ((k : Int) < (xs.length : Int)) := Int.ofNat_lt.2 hk
        have w1 : (IntKind.i64).wrap (s + 1) = s + 1 := wrap_id (by omega) (by omega)
        cases hg : xs[k].Good
        all_goals exact ⟨by simp <;> omega, _, fun G => by simp only [go_sem, reduceIte, ↓reduceIte, reduceCtorEq, nA, nS, nM, nB, nE, nL, nT, nN, iL, iT, iE, iA, iM, iS, iG, iB, iN, iZ, h, map_gd (rMark .ro) xs k hk, w1, hg, h1, idx_nt _ _ hk, wrap_nat1 (show k < 9223372036854775807 by omega), hb0] <;> with_reducible rfl, by simp only [go_sem, reduceIte, ↓reduceIte, reduceCtorEq, nA, nS, nM, nB, nE, nL, nT, nN, iL, iT, iE, iA, iM, iS, iG, iB, iN, iZ, h, hg]⟩) 0 (by simp) (xs.length + 1) (Nat.le_refl _)
  rw [hb0] at hr
  simp only [go_sem, reduceIte, ↓reduceIte, reduceCtorEq, nA, nS, nM, nB, nE, nL, nT, nN, iL, iT, iE, iA, iM, iS, iG, iB, iN, iZ, h, hr, badN]) (rfl)
/-! what is deleted -/
theorem idxP_neg {α : Type} (p : α → Bool) : ∀ (xs : List α) (k : Nat), idxP p xs k < 0 → idxP p xs k = -1
  | [], _, _ => rfl
  | x :: xs, k, h => by
    rw [idxP] at h ⊢
    split at h
    · omega
    · rename_i hc; rw [if_neg hc]; exact idxP_neg p xs (k + 1) h
theorem delF_none {α : Type} (p : α → Bool) (xs : List α) (h : idxP p xs 0 = -1) : xs.filter (fun x => !(p x)) = xs := by
  have h2 := idxP_any (p := p) xs 0
  rw [h] at h2
  rw [List.filter_eq_self]
  intro x hx
  have := List.any_eq_false.1 h2.symm x hx
  simpa using this
theorem idxP_pos {α : Type} (p : α → Bool) (xs : List α) (h : 0 ≤ idxP p xs 0) : ∃ i : Nat, idxP p xs 0 = (i : Int) ∧ i < xs.length ∧ (∀ x, xs[i]? = some x → p x = true) ∧ ∀ j x, j < i → xs[j]? = some x → p x = false := by
  have key : ∀ (xs : List α) (k : Nat), 0 ≤ idxP p xs k → ∃ i : Nat, idxP p xs k = ((k + i : Nat) : Int) ∧ i < xs.length ∧ (∀ x, xs[i]? = some x → p x = true) ∧ ∀ j x, j < i → xs[j]? = some x → p x = false := by
    intro xs
    induction xs with
    | nil => intro k h; simp [idxP] at h
    | cons x xs ih =>
      intro k h
      rw [idxP] at h ⊢
      by_cases hc : p x = true
      · rw [if_pos hc]
        exact ⟨0, rfl, by simp, fun y hy => by simp at hy; rw [← hy]; exact hc, fun j y hj => absurd hj (by omega)⟩
      · rw [if_neg hc] at h ⊢
        obtain ⟨i, h1, h2, h3, h4⟩ := ih (k + 1) h
        refine ⟨i + 1, by rw [h1]; omega, by simp; omega, fun y hy => h3 y (by simpa using hy), fun j y hj hy => ?_⟩
        cases j with
        | zero => simp at hy; rw [← hy]; simpa using hc
        | succ j => exact h4 j y (by omega) (by simpa using hy)
  obtain ⟨i, h1, h2⟩ := key xs 0 h
  exact ⟨i, by rw [h1]; omega, h2⟩
def delI {α : Type} (p : α → Bool) (xs : List α) (j : Nat) (s : List α × Nat) : Prop := s.1.length = xs.length ∧ s.1.take s.2 = (xs.take j).filter (fun x => !(p x)) ∧ s.1.drop j = xs.drop j ∧ s.2 < j
theorem delI_zero {α : Type} {p : α → Bool} {xs : List α} {i : Nat} (h1 : i < xs.length) (h2 : ∀ x, xs[i]? = some x → p x = true) (h3 : ∀ j x, j < i → xs[j]? = some x → p x = false) : delI p xs (i + 1 + 0) (xs, i) := by
  refine ⟨rfl, ?_, rfl, by simp⟩
  simp only [Nat.add_zero]
  rw [List.take_succ_eq_append_getElem h1, List.filter_append]
  have e1 : (xs.take i).filter (fun x => !(p x)) = xs.take i := by
    rw [List.filter_eq_self]
    intro x hx
    obtain ⟨j, hj⟩ := List.getElem?_of_mem hx
    rw [List.getElem?_take] at hj
    split at hj
    · rename_i hji; simp [h3 j x hji hj]
    · cases hj
  rw [e1, List.filter_cons, h2 _ (List.getElem?_eq_getElem h1)]
  simp
theorem delI_get {α : Type} {p : α → Bool} {xs : List α} {j : Nat} {s : List α × Nat} (h : delI p xs j s) (hj : j < xs.length) : s.1[j]'(by rw [h.1]; exact hj) = xs[j] := by
  have h1 := h.2.2.1
  rw [List.drop_eq_getElem_cons hj, List.drop_eq_getElem_cons (by rw [h.1]; exact hj)] at h1
  exact (List.cons.inj h1).1
theorem delI_step {α : Type} {p : α → Bool} {xs : List α} {j : Nat} {s : List α × Nat} (h : delI p xs j s) (hj : j < xs.length) : delI p xs (j + 1) (if p xs[j] = true then s else (s.1.set s.2 xs[j], s.2 + 1)) := by
  obtain ⟨h1, h2, h3, h4⟩ := h
  have h5 : s.1.drop (j + 1) = xs.drop (j + 1) := by
    have := congrArg (List.drop 1) h3
    simpa [List.drop_drop, Nat.add_comm] using this
  by_cases hp : p xs[j] = true
  · rw [if_pos hp]
    refine ⟨h1, ?_, h5, by omega⟩
    rw [h2, List.take_succ_eq_append_getElem hj, List.filter_append, List.filter_cons, hp]
    simp
  · rw [if_neg hp]
    refine ⟨by simp [h1], ?_, ?_, by simp; omega⟩
    · simp only
      rw [List.take_succ_eq_append_getElem (by simp; omega), List.getElem_set_self, List.take_set_of_le (Nat.le_refl _), h2, List.take_succ_eq_append_getElem hj, List.filter_append, List.filter_cons]
      simp [hp]
    · simp only
      rw [List.drop_set_of_lt (by omega)]
      exact h5
theorem delI_len {α : Type} {p : α → Bool} {xs : List α} {j : Nat} {s : List α × Nat} (h : delI p xs j s) : s.1.length = xs.length := h.1
theorem delI_end {α : Type} {p : α → Bool} {xs : List α} {j : Nat} {s : List α × Nat} (h : delI p xs j s) (hj : xs.length ≤ j) : s.1.take s.2 = xs.filter (fun x => !(p x)) := by
  rw [h.2.1, List.take_of_length_le hj]
theorem clearRows_take (z lo n : Nat) (es : List (List AV)) (h : lo ≤ es.length) : (clearRows z lo n es).take lo = es.take lo := by
  unfold clearRows
  rw [List.append_assoc, List.take_append_of_le_length (by simp; omega), List.take_take, Nat.min_self]
def kept (b : Breaker) (r : Rules) (now : Int) : List Mark := b.Marks.filter fun x => !decide (addT x.At r.Window ≤ now)
def noteMs (b : Breaker) (r : Rules) (now : Int) (good : Bool) : List Mark :=
  if 60 < (((kept b r now ++ [Mark.mk now good]).length : Nat) : Int) then (kept b r now ++ [Mark.mk now good]).drop 1 else kept b r now ++ [Mark.mk now good]
def noteM (b : Breaker) (r : Rules) (now : Int) (good : Bool) : Breaker :=
  if b.State = 1 then b
  else if b.State = 2 then (if good = true then ⟨0, b.Since, 0, []⟩ else ⟨1, now, 0, []⟩)
  else if r.Min ≤ ((noteMs b r now good).length : Int) ∧ r.Ratio * ((noteMs b r now good).length : Int) ≤ 1000 * badN (noteMs b r now good) then ⟨1, now, 0, []⟩ else ⟨0, b.Since, b.Out, noteMs b r now good⟩
theorem kept_len (b : Breaker) (r : Rules) (now : Int) : (kept b r now).length ≤ b.Marks.length := List.length_filter_le _ _
theorem fold_filter {α : Type} (p : α → Bool) : ∀ (xs acc : List α), xs.foldl (fun s x => if p x = true then s else s ++ [x]) acc = acc ++ xs.filter fun x => !p x
  | [], acc => by simp
  | x :: xs, acc => by
    rw [List.foldl_cons, fold_filter p xs, List.filter_cons]
    cases p x <;> simp
theorem noteMs_len (b : Breaker) (r : Rules) (now : Int) (good : Bool) (h : b.Marks.length ≤ 60) : (noteMs b r now good).length ≤ 61 := by
  have h1 := kept_len b r now
  unfold noteMs
  split <;> simp <;> omega
theorem mul_wrap {a n : Int} (h1 : 0 ≤ a) (h2 : a ≤ 1000) (h3 : 0 ≤ n) (h4 : n ≤ 1000) : (IntKind.i64).wrap (a * n) = a * n := by
  have h5 := Int.mul_nonneg h1 h3
  have h6 := Int.mul_le_mul h2 h4 h3 (by omega)
  exact wrap_id (by omega) (by omega)
noncomputable def s55 : SP Try.prog := mkS tyA 55 Try.f55 [s82, s83] { md := [.rw 4, .ro 1, .ro 1, .ro 1], wk := true, rg := [(0, [0, 1, 2, 3, 8, 14], [0]), (1, [0, 1, 2, 3, 8, 14, 15], [0]), (2, [0, 1, 2, 3, 8, 17], [0]), (3, [0, 2, 3, 8], [0]), (4, [0, 2, 8, 23], [0]), (5, [0, 2, 8], [0]), (6, [0, 8], [0]), (7, [0, 8], [0]), (8, [0, 1, 2, 3, 8], [0]), (9, [0, 1, 2, 3, 8, 9], [0]), (10, [0, 1, 2, 3, 8, 9, 41], [0]), (11, [0, 1, 2, 3, 8, 9], [0]), (12, [0, 1, 2, 3, 8, 9, 58], [0]), (13, [0, 1, 2, 3, 8, 9], [0]), (14, [0, 1, 2, 8], [0]), (15, [0, 1, 2, 8, 77], [0]), (16, [0, 1, 2, 8], [0]), (17, [0, 1, 2, 8], [0]), (18, [0, 1, 2, 8, 10], [0]), (19, [0, 2, 8, 103], [0]), (20, [0, 2, 8], [0]), (21, [0, 8], [0]), (22, [0, 8], [0])], lv := [(1, [0, 1, 2, 3, 8, 9], [0])], out := [(1, [0, 1, 2, 3, 8], [0])], rets := some ([0, 8], [0]), plan := [(12, (.take 0 (.take 1 (.take 2 (.take 3 (.take 4 (.take 5 (.take 6 (.take 7 (.take 8 (.take 9 (.take 10 (.take 11 (.take 13 (.one 12 (.take 14 .done)))))))))))))))), (19, (.take 0 (.take 1 (.take 2 (.take 3 (.take 4 (.take 5 (.take 6 (.take 7 (.take 10 (.take 11 (.take 12 (.take 13 (.take 14 (.take 15 (.one 8 (.take 9 (.take 16 (.take 17 .done)))))))))))))))))))], ws := [(0, [(false, 0, 3)]), (8, [(true, 8, 0)]), (22, [(false, 0, 3)])] } Try.func55 (by kernel_rfl)
@[go_sem] theorem d55 : s55.g = 55 ∧ s55.fs = ⟨[.rw 4, .ro 1, .ro 1, .ro 1], s55.F, true⟩ := ⟨nr rfl, nr rfl⟩
@[go_sem] theorem e55 (bState bSince bOut : Int) (bMarks : List Mark) (rWindow rMin rRatio rCool rQuota now : Int) (good : Bool) (hf : breakerFault (Breaker.mk bState bSince bOut bMarks) = 0) (hg : rulesFault (Rules.mk rWindow rMin rRatio rCool rQuota) = 0) : s55.F [.agg [.i .i64 bState, .i .i64 bSince, .i .i64 bOut, .sl .mut 2 (bMarks.map (rMark .mut))], .pr [.i .i64 rWindow, .i .i64 rMin, .i .i64 rRatio, .i .i64 rCool, .i .i64 rQuota], .i .i64 now, .b good] = some (.tup [], [.agg [.i .i64 (noteM (Breaker.mk bState bSince bOut bMarks) (Rules.mk rWindow rMin rRatio rCool rQuota) now good).State, .i .i64 (noteM (Breaker.mk bState bSince bOut bMarks) (Rules.mk rWindow rMin rRatio rCool rQuota) now good).Since, .i .i64 (noteM (Breaker.mk bState bSince bOut bMarks) (Rules.mk rWindow rMin rRatio rCool rQuota) now good).Out, .sl .app 2 ((noteM (Breaker.mk bState bSince bOut bMarks) (Rules.mk rWindow rMin rRatio rCool rQuota) now good).Marks.map (rMark .ro))], .u, .u, .u]) := mkS_eq (bMarks.length + 1) rfl rfl (fun cx h => by
  have hB := breakerFault_ok hf
  have hR := rulesFault_ok hg
  simp only at hB hR
  have hk1 := kept_len (Breaker.mk bState bSince bOut bMarks) (Rules.mk rWindow rMin rRatio rCool rQuota) now
  simp only at hk1
  obtain ⟨K, hK⟩ : ∃ K, kept (Breaker.mk bState bSince bOut bMarks) (Rules.mk rWindow rMin rRatio rCool rQuota) now ++ [Mark.mk now good] = K := ⟨_, rfl⟩
  have hKl : K.length = (kept (Breaker.mk bState bSince bOut bMarks) (Rules.mk rWindow rMin rRatio rCool rQuota) now).length + 1 := by rw [← hK]; simp
  have hA : (kept (Breaker.mk bState bSince bOut bMarks) (Rules.mk rWindow rMin rRatio rCool rQuota) now).map (rMark .ro) ++ [[.i .i64 now, .b good]] = K.map (rMark .ro) := by rw [← hK]; simp [rMark]
  have hs : List.take (K.length - 1) (List.drop 1 (K.map (rMark .ro))) = (K.drop 1).map (rMark .ro) := by rw [List.take_of_length_le (by simp), List.map_drop]
  have hP : ((kept (Breaker.mk bState bSince bOut bMarks) (Rules.mk rWindow rMin rRatio rCool rQuota) now).length + 1) * 16 ≤ 140737488355328 := by omega
  obtain ⟨M, hM⟩ : ∃ M, noteMs (Breaker.mk bState bSince bOut bMarks) (Rules.mk rWindow rMin rRatio rCool rQuota) now good = M := ⟨_, rfl⟩
  have hM2 : M = if 60 < (K.length : Int) then K.drop 1 else K := by rw [← hM]; unfold noteMs; rw [hK]
  have hMl : M.length ≤ 61 := by rw [← hM]; exact noteMs_len _ _ _ _ hB.2.2.2.1
  have hb1 := badN_le M
  have w2 : (IntKind.i64).wrap (1000 * badN M) = 1000 * badN M := wrap_id (by omega) (by omega)
  have w3 : (IntKind.i64).wrap (rRatio * (M.length : Int)) = rRatio * (M.length : Int) := mul_wrap (by omega) (by omega) (by omega) (by omega)
  have hq1 : K.length ≤ 1000 := by omega
  have hq2 : (K.drop 1).length ≤ 1000 := by simp; omega
  have hq3 : (1 : Int) ≤ (K.length : Int) := by omega
  have hq4 : 1 + (K.length - 1) ≤ K.length := by omega
  have hq5 : 1 + (K.length - 1) = K.length := by omega
  by_cases s1 : bState = 1
  · subst s1
    simp only [go_sem, reduceIte, ↓reduceIte, reduceCtorEq, nA, nS, nM, nB, nE, nL, nT, nN, iL, iT, iE, iA, iM, iS, iG, iB, iN, iZ, h, noteM]
  by_cases s2 : bState = 2
  · subst s2
    have hm : bMarks = [] := hB.2.2.2.2.2.2.1 (by decide)
    cases good
    · simp only [go_sem, reduceIte, ↓reduceIte, reduceCtorEq, nA, nS, nM, nB, nE, nL, nT, nN, iL, iT, iE, iA, iM, iS, iG, iB, iN, iZ, h, noteM]
      simp [hm]
    · simp only [go_sem, reduceIte, ↓reduceIte, reduceCtorEq, nA, nS, nM, nB, nE, nL, nT, nN, iL, iT, iE, iA, iM, iS, iG, iB, iN, iZ, h, noteM]
      simp [hm]
  have s0 : bState = 0 := by omega
  subst s0
  have ho : bOut = 0 := hB.2.2.2.2.2.2.2 (by decide)
  have hb0 := loopN_eq Try.f55 0 _ _ rfl rfl
  obtain ⟨hI, hr⟩ := loop_fold (cx := cx) (blk := 1) (body := loopN Try.f55 0) bMarks (fun k (s : List Mark) => ⟨E [(0, .p ⟨false, 0, [], 0⟩), (1, .pr [.i .i64 rWindow, .i .i64 rMin, .i .i64 rRatio, .i .i64 rCool, .i .i64 rQuota]), (2, .i .i64 now), (3, .b good), (8, .sl .app 2 (s.map (rMark .ro))), (9, .i .i64 k)], B [(0, [.i .i64 0, .i .i64 bSince, .i .i64 bOut, .sl .app 2 (bMarks.map (rMark .ro))])]⟩) (fun s => ⟨E [(0, .p ⟨false, 0, [], 0⟩), (1, .pr [.i .i64 rWindow, .i .i64 rMin, .i .i64 rRatio, .i .i64 rCool, .i .i64 rQuota]), (2, .i .i64 now), (3, .b good), (8, .sl .app 2 (s.map (rMark .ro)))], B [(0, [.i .i64 0, .i .i64 bSince, .i .i64 bOut, .sl .app 2 (bMarks.map (rMark .ro))])]⟩) (fun x s => (if decide (addT x.At rWindow ≤ now) = true then s else s ++ [x])) (fun k s => s.length ≤ k)
      (fun s hI G => by simp only [go_sem, reduceIte, ↓reduceIte, reduceCtorEq, nA, nS, nM, nB, nE, nL, nT, nN, iL, iT, iE, iA, iM, iS, iG, iB, iN, iZ, h, Int.lt_irrefl, hb0, show List.take bMarks.length (List.map (rMark .ro) bMarks) = List.map (rMark .ro) bMarks from List.take_of_length_le (by simp)]) (fun k hk s hI => by
        have h1 : ((k : Int) < (bMarks.length : Int)) := Int.ofNat_lt.2 hk
        have t1 := badT_get hB.2.2.2.2.1 (List.getElem_mem hk)
        have t2 : isTime bMarks[k].At = true ∧ 0 ≤ rWindow ∧ rWindow ≤ 1000000000000000 := ⟨t1, by omega, by omega⟩
        have t3 : (s.length + 1) * 16 ≤ 140737488355328 := by omega
        have t4 : s.map (rMark .ro) ++ [[.i .i64 bMarks[k].At, .b bMarks[k].Good]] = (s ++ [bMarks[k]]).map (rMark .ro) := by simp [rMark]
        have t5 : List.take bMarks.length (List.map (rMark .ro) bMarks) = List.map (rMark .ro) bMarks := List.take_of_length_le (by simp)
        by_cases hd : addT bMarks[k].At rWindow ≤ now
        all_goals have hd2 : (now < addT bMarks[k].At rWindow) = ¬ (addT bMarks[k].At rWindow ≤ now) := by simp
        all_goals exact ⟨by split <;> (try simp only [List.length_append, List.length_cons, List.length_nil]) <;> omega, _, fun G => by simp only [go_sem, reduceIte, ↓reduceIte, reduceCtorEq, nA, nS, nM, nB, nE, nL, nT, nN, iL, iT, iE, iA, iM, iS, iG, iB, iN, iZ, h, t2, t3, t4, t5, map_gd (rMark .ro) bMarks k hk, gd_map (rMark .ro) bMarks k hk, hd, hd2, h1, idx_nt _ _ hk, wrap_nat1 (show k < 9223372036854775807 by omega), hb0] <;> with_reducible rfl, by simp only [go_sem, reduceIte, ↓reduceIte, reduceCtorEq, nA, nS, nM, nB, nE, nL, nT, nN, iL, iT, iE, iA, iM, iS, iG, iB, iN, iZ, h, hd]⟩) [] (by simp) (bMarks.length + 1) (Nat.le_refl _)
  rw [hb0] at hr
  have hfold := fold_filter (fun (x : Mark) => decide (addT x.At rWindow ≤ now)) bMarks []
  simp only [List.nil_append] at hfold
  rw [hfold] at hr
  have hkd : (bMarks.filter fun x => !decide (addT x.At rWindow ≤ now)) = kept (Breaker.mk 0 bSince bOut bMarks) (Rules.mk rWindow rMin rRatio rCool rQuota) now := rfl
  rw [hkd] at hr
  by_cases c : 60 < (K.length : Int)
  · rw [if_pos c] at hM2
    by_cases d1 : rMin ≤ (M.length : Int) <;> by_cases d2 : rRatio * (M.length : Int) ≤ 1000 * badN M
    all_goals have hz1 := d1
    all_goals have hz2 := d2
    all_goals rw [hM2] at d1 d2 w2 w3
    all_goals simp only [go_sem, reduceIte, ↓reduceIte, reduceCtorEq, nA, nS, nM, nB, nE, nL, nT, nN, iL, iT, iE, iA, iM, iS, iG, iB, iN, iZ, h, noteM, hr, hA, hP, c, hs, hM, hz1, hz2, d1, d2, w2, w3, hq1, hq2, hq3, hq4, hq5, hM2, s1, s2] <;> simp only [ho]
  · rw [if_neg c] at hM2
    by_cases d1 : rMin ≤ (M.length : Int) <;> by_cases d2 : rRatio * (M.length : Int) ≤ 1000 * badN M
    all_goals have hz1 := d1
    all_goals have hz2 := d2
    all_goals rw [hM2] at d1 d2 w2 w3
    all_goals simp only [go_sem, reduceIte, ↓reduceIte, reduceCtorEq, nA, nS, nM, nB, nE, nL, nT, nN, iL, iT, iE, iA, iM, iS, iG, iB, iN, iZ, h, noteM, hr, hA, hP, c, hs, hM, hz1, hz2, d1, d2, w2, w3, hq1, hq2, hq3, hq4, hq5, hM2, s1, s2] <;> simp only [ho]) (rfl)
def noteOutcome (b : Breaker) (r : Rules) (now : Int) (good : Bool) : BreakerResult := if breakerCode b r now = 0 then ⟨0, noteM b r now good⟩ else ⟨breakerCode b r now, ⟨0, 0, 0, []⟩⟩
theorem noteM_len (b : Breaker) (r : Rules) (now : Int) (good : Bool) (h : b.Marks.length ≤ 60) : (noteM b r now good).Marks.length ≤ 61 := by
  have h1 := noteMs_len b r now good h
  unfold noteM
  repeat' split
  all_goals first | exact h1 | exact Nat.le_trans h (by decide) | exact Nat.zero_le _
theorem marks_sm (ms : List Mark) (h : ms.length ≤ 1048576) : smL smMark ms := ⟨h, fun x _ => sm_trivMark x⟩
theorem noteOutcome_sm (b : Breaker) (r : Rules) (now : Int) (good : Bool) : smBreakerResult (noteOutcome b r now good) := by
  unfold noteOutcome
  by_cases hc : breakerCode b r now = 0
  · rw [if_pos hc]
    exact ⟨trivial, trivial, trivial, trivial, marks_sm _ (Nat.le_trans (noteM_len b r now good (breakerFault_ok (breakerCode_ok hc).1).2.2.2.1) (by decide))⟩
  · rw [if_neg hc]
    exact ⟨trivial, trivial, trivial, trivial, marks_sm _ (Nat.zero_le _)⟩
noncomputable def s24 : SP Try.prog := mkS tyA 24 Try.f24 [s53, s54, s55] { md := [.ro 1, .ro 1, .ro 1, .ro 1], wk := true, rg := [(0, [2, 3, 4, 5, 8, 21], [4, 5, 8, 10]), (1, [2, 3, 4, 5, 8, 9, 21], [4, 5, 8, 10]), (2, [2, 3, 4, 5, 8, 9, 14, 21], [4, 5, 8, 10]), (3, [8, 21], [8, 10]), (4, [2, 3, 5, 8, 10, 21], [5, 8, 10]), (5, [8, 10, 21], [8, 10]), (6, [8, 21], [8, 10])], rets := some ([8, 21], [8, 10]), fz := [5], ws := [(3, [(false, 8, 4)])] } Try.func24 (by kernel_rfl)
@[go_sem] theorem d24 : s24.g = 24 ∧ s24.fs = ⟨[.ro 1, .ro 1, .ro 1, .ro 1], s24.F, true⟩ := ⟨nr rfl, nr rfl⟩
@[go_sem] theorem e24 (bState : Int) (bSince : Int) (bOut : Int) (bMarks : List Mark) (rWindow : Int) (rMin : Int) (rRatio : Int) (rCool : Int) (rQuota : Int) (now : Int) (good : Bool) (h0 : smL smMark (Breaker.mk bState bSince bOut bMarks).Marks) : s24.F [.agg [.i .i64 bState, .i .i64 bSince, .i .i64 bOut, .sl .ro 2 (bMarks.map (rMark .ro))], .agg [.i .i64 rWindow, .i .i64 rMin, .i .i64 rRatio, .i .i64 rCool, .i .i64 rQuota], .i .i64 now, .b good] = some (.agg [.i .i64 (noteOutcome (Breaker.mk bState bSince bOut bMarks) (Rules.mk rWindow rMin rRatio rCool rQuota) now good).Code, .i .i64 (noteOutcome (Breaker.mk bState bSince bOut bMarks) (Rules.mk rWindow rMin rRatio rCool rQuota) now good).Breaker.State, .i .i64 (noteOutcome (Breaker.mk bState bSince bOut bMarks) (Rules.mk rWindow rMin rRatio rCool rQuota) now good).Breaker.Since, .i .i64 (noteOutcome (Breaker.mk bState bSince bOut bMarks) (Rules.mk rWindow rMin rRatio rCool rQuota) now good).Breaker.Out, .sl .app 2 ((noteOutcome (Breaker.mk bState bSince bOut bMarks) (Rules.mk rWindow rMin rRatio rCool rQuota) now good).Breaker.Marks.map (rMark .ro))], [.u, .u, .u, .u]) := mkS_eq (0) rfl rfl (fun cx h => by
  have hx := h0.1
  simp only at hx
  by_cases c : breakerCode (Breaker.mk bState bSince bOut bMarks) (Rules.mk rWindow rMin rRatio rCool rQuota) now = 0
  · have c1 := breakerCode_ok c
    simp only [go_sem, reduceIte, ↓reduceIte, reduceCtorEq, nA, nS, nM, nB, nE, nL, nT, nN, iL, iT, iE, iA, iM, iS, iG, iB, iN, iZ, h, noteOutcome, c, c1.1, c1.2.1, hx, h0]
  · have c1 : (breakerCode (Breaker.mk bState bSince bOut bMarks) (Rules.mk rWindow rMin rRatio rCool rQuota) now != 0) = true := by simpa using c
    simp only [go_sem, reduceIte, ↓reduceIte, reduceCtorEq, nA, nS, nM, nB, nE, nL, nT, nN, iL, iT, iE, iA, iM, iS, iG, iB, iN, iZ, h, noteOutcome, c, c1, hx, h0]) (rfl)
noncomputable def s84 : SP Try.prog := mkS tyA 84 Try.f84 [] { md := [.ro 1], rg := [(0, [1, 2], [1, 2, 3]), (1, [1, 2, 3], [1, 2, 3]), (2, [1, 2, 3], [1, 2, 3]), (3, [2, 3], [2, 3]), (4, [2], [2, 3])], rets := some ([2], [2, 3]) } Try.func84 (by kernel_rfl)
@[go_sem] theorem d84 : s84.g = 84 ∧ s84.fs = ⟨[.ro 1], s84.F, false⟩ := ⟨nr rfl, nr rfl⟩
@[go_sem] theorem e84 (xAt : Int) (xGood : Bool) (h0 : smMark (Mark.mk xAt xGood)) : s84.F [.agg [.i .i64 xAt, .b xGood]] = some (.agg (rMark .mut (Mark.mk xAt xGood)), [.u]) := mkS_eq (0) rfl rfl (fun cx h => by
  obtain ⟨q0, q1⟩ := h0
  simp only [go_sem, reduceIte, ↓reduceIte, reduceCtorEq, nA, nS, nM, nB, nE, nL, nT, nN, iL, iT, iE, iA, iM, iS, iG, iB, iN, iZ, h, q0, q1]) (by simp only [go_sem, reduceIte, ↓reduceIte, reduceCtorEq, nA, nS, nM, nB, nE, nL, nT, nN, iL, iT, iE, iA, iM, iS, iG, iB, iN, iZ, okRes, hasRo, hasRoL, hasRoLL])
noncomputable def s56 : SP Try.prog := mkS tyA 56 Try.f56 [s84] { md := [.ro 1], rg := [(0, [0], []), (1, [0, 3], []), (2, [0, 3, 4], []), (3, [0, 3, 4, 11], []), (4, [0, 3, 4], []), (5, [0, 3, 4], []), (6, [2], [])], lv := [(0, [0, 3, 4], [])], out := [(0, [3], [])], rets := some ([2], []) } Try.func56 (by kernel_rfl)
@[go_sem] theorem d56 : s56.g = 56 ∧ s56.fs = ⟨[.ro 1], s56.F, false⟩ := ⟨nr rfl, nr rfl⟩
@[go_sem] theorem e56 (xs : List Mark) (h0 : smL smMark xs) : s56.F [.sl .ro 2 (xs.map (rMark .ro))] = some (.sl .mut 2 (xs.map (rMark .mut)), [.u]) := mkS_eq (xs.length + 1) rfl rfl (fun cx h => by
  have hb := loopN_eq Try.f56 0 _ _ rfl rfl
  have hx := h0.1
  have c1 : ((xs.length : Int) * (16 : Nat) ≤ 140737488355328) := by omega
  have c2 : 0 ≤ (xs.length : Int) := by omega
  have hr := (loop_fold (cx := cx) (blk := 0) (body := loopN Try.f56 0) xs (fun k (_ : Unit) => ⟨E [(0, .sl .ro 2 (xs.map (rMark .ro))), (3, .sl .mut 2 (fillUp (rMark .mut) [.i .i64 0, .b false] xs k)), (4, .i .i64 k)], B []⟩) (fun _ => ⟨E [(3, .sl .mut 2 (xs.map (rMark .mut)))], B []⟩) (fun _ _ => ()) (fun _ _ => True)
    (fun l _ G => by simp only [go_sem, reduceIte, ↓reduceIte, reduceCtorEq, nA, nS, nM, nB, nE, nL, nT, nN, iL, iT, iE, iA, iM, iS, iG, iB, iN, iZ, h, Int.lt_irrefl, hb, fillUp_all]) (fun k hk l _ => by
      have h1 : ((k : Int) < (xs.length : Int)) := Int.ofNat_lt.2 hk
      have h2 := h0.2 _ (List.getElem_mem hk)
      have h3 : (fillUp (rMark .mut) [.i .i64 0, .b false] xs k).set k [.i .i64 xs[k].At, .b xs[k].Good] = fillUp (rMark .mut) [.i .i64 0, .b false] xs (k + 1) := fillUp_set (rMark .mut) [.i .i64 0, .b false] xs k hk
      exact ⟨trivial, _, fun G => by simp only [go_sem, reduceIte, ↓reduceIte, reduceCtorEq, nA, nS, nM, nB, nE, nL, nT, nN, iL, iT, iE, iA, iM, iS, iG, iB, iN, iZ, h, h2, h3, map_gd (rMark .ro) xs k hk, fillUp_get (rMark .mut) [.i .i64 0, .b false] xs k hk, fillUp_getD (rMark .mut) [.i .i64 0, .b false] xs k hk, fillUp_len (rMark .mut) [.i .i64 0, .b false] xs k (Nat.le_of_lt hk), h1, idx_nt _ _ hk, wrap_nat1 (show k < 9223372036854775807 by omega), hb] <;> with_reducible rfl, by simp only [go_sem, reduceIte, ↓reduceIte, reduceCtorEq, nA, nS, nM, nB, nE, nL, nT, nN, iL, iT, iE, iA, iM, iS, iG, iB, iN, iZ, h]⟩) () trivial (xs.length + 1) (Nat.le_refl _)).2
  rw [hb] at hr
  simp only [go_sem, reduceIte, ↓reduceIte, reduceCtorEq, nA, nS, nM, nB, nE, nL, nT, nN, iL, iT, iE, iA, iM, iS, iG, iB, iN, iZ, h, c1, c2, Int.toNat_natCast, fillUp_zero (rMark .mut) [.i .i64 0, .b false], hr]) (by simp only [go_sem, reduceIte, ↓reduceIte, reduceCtorEq, nA, nS, nM, nB, nE, nL, nT, nN, iL, iT, iE, iA, iM, iS, iG, iB, iN, iZ, okRes, hasRo])
noncomputable def s25 : SP Try.prog := mkS tyA 25 Try.f25 [s56] { md := [.ro 1], rg := [(0, [1, 2], [1, 2, 3]), (1, [1, 2, 3], [1, 2, 3]), (2, [1, 2, 3], [1, 2, 3]), (3, [1, 2, 3], [1, 2, 3]), (4, [1, 2, 3], [1, 2, 3]), (5, [2, 3], [2, 3]), (6, [2], [2, 3])], rets := some ([2], [2, 3]) } Try.func25 (by kernel_rfl)
@[go_sem] theorem d25 : s25.g = 25 ∧ s25.fs = ⟨[.ro 1], s25.F, false⟩ := ⟨nr rfl, nr rfl⟩
@[go_sem] theorem e25 (xState : Int) (xSince : Int) (xOut : Int) (xMarks : List Mark) (h0 : smBreaker (Breaker.mk xState xSince xOut xMarks)) : s25.F [.agg [.i .i64 xState, .i .i64 xSince, .i .i64 xOut, .sl .ro 2 (xMarks.map (rMark .ro))]] = some (.agg (rBreaker .mut (Breaker.mk xState xSince xOut xMarks)), [.u]) := mkS_eq (0) rfl rfl (fun cx h => by
  obtain ⟨q0, q1, q2, q3⟩ := h0
  simp only [go_sem, reduceIte, ↓reduceIte, reduceCtorEq, nA, nS, nM, nB, nE, nL, nT, nN, iL, iT, iE, iA, iM, iS, iG, iB, iN, iZ, h, q0, q1, q2, q3]) (by simp only [go_sem, reduceIte, ↓reduceIte, reduceCtorEq, nA, nS, nM, nB, nE, nL, nT, nN, iL, iT, iE, iA, iM, iS, iG, iB, iN, iZ, okRes, hasRo, hasRoL, hasRoLL])
noncomputable def s26 : SP Try.prog := mkS tyA 26 Try.f26 [] { md := [.ro 1], rg := [(0, [1, 2], [1, 2, 3]), (1, [1, 2, 3], [1, 2, 3]), (2, [1, 2, 3], [1, 2, 3]), (3, [1, 2, 3], [1, 2, 3]), (4, [1, 2, 3], [1, 2, 3]), (5, [1, 2, 3], [1, 2, 3]), (6, [2, 3], [2, 3]), (7, [2], [2, 3])], rets := some ([2], [2, 3]) } Try.func26 (by kernel_rfl)
@[go_sem] theorem d26 : s26.g = 26 ∧ s26.fs = ⟨[.ro 1], s26.F, false⟩ := ⟨nr rfl, nr rfl⟩
@[go_sem] theorem e26 (xWindow : Int) (xMin : Int) (xRatio : Int) (xCool : Int) (xQuota : Int) (h0 : smRules (Rules.mk xWindow xMin xRatio xCool xQuota)) : s26.F [.agg [.i .i64 xWindow, .i .i64 xMin, .i .i64 xRatio, .i .i64 xCool, .i .i64 xQuota]] = some (.agg (rRules .mut (Rules.mk xWindow xMin xRatio xCool xQuota)), [.u]) := mkS_eq (0) rfl rfl (fun cx h => by
  obtain ⟨q0, q1, q2, q3, q4⟩ := h0
  simp only [go_sem, reduceIte, ↓reduceIte, reduceCtorEq, nA, nS, nM, nB, nE, nL, nT, nN, iL, iT, iE, iA, iM, iS, iG, iB, iN, iZ, h, q0, q1, q2, q3, q4]) (by simp only [go_sem, reduceIte, ↓reduceIte, reduceCtorEq, nA, nS, nM, nB, nE, nL, nT, nN, iL, iT, iE, iA, iM, iS, iG, iB, iN, iZ, okRes, hasRo, hasRoL, hasRoLL])
noncomputable def s35 : SP Try.prog := mkS tyA 35 Try.f35 [] { md := [.ro 1, .ro 1, .ro 1], rets := some ([6], []) } Try.func35 (by kernel_rfl)
@[go_sem] theorem d35 : s35.g = 35 ∧ s35.fs = ⟨[.ro 1, .ro 1, .ro 1], s35.F, false⟩ := ⟨nr rfl, nr rfl⟩
@[go_sem] theorem e35 (a : Int) (b : Int) (c : Int) : s35.F [.i .i64 a, .i .i64 b, .i .i64 c] = some (.b (within a b c), [.u, .u, .u]) := mkS_eq (0) rfl rfl (fun cx h => by
  simp only [go_sem, reduceIte, ↓reduceIte, reduceCtorEq, nA, nS, nM, nB, nE, nL, nT, nN, iL, iT, iE, iA, iM, iS, iG, iB, iN, iZ, h, within]
  by_cases h : b ≤ a <;> simp [h]) (rfl)
noncomputable def s75 : SP Try.prog := mkS tyA 75 Try.f75 [s35] { md := [.ro 1], rets := some ([2], []) } Try.func75 (by kernel_rfl)
@[go_sem] theorem d75 : s75.g = 75 ∧ s75.fs = ⟨[.ro 1], s75.F, false⟩ := ⟨nr rfl, nr rfl⟩
@[go_sem] theorem e75 (a : Int) : s75.F [.i .i64 a] = some (.b (isTime a), [.u]) := mkS_eq (0) rfl rfl (fun cx h => by
  simp only [go_sem, reduceIte, ↓reduceIte, reduceCtorEq, nA, nS, nM, nB, nE, nL, nT, nN, iL, iT, iE, iA, iM, iS, iG, iB, iN, iZ, h, isTime]) (rfl)
noncomputable def s88 : SP Try.prog := mkS tyA 88 Try.f88 [] { md := [.ro 1, .ro 1], rets := some ([3], []) } Try.func88 (by kernel_rfl)
@[go_sem] theorem d88 : s88.g = 88 ∧ s88.fs = ⟨[.ro 1, .ro 1], s88.F, false⟩ := ⟨nr rfl, nr rfl⟩
@[go_sem] theorem e88 (mAt : Int) (mGood : Bool) (t : Int) : s88.F [.agg [.i .i64 mAt, .b mGood], .pr [.i .i64 t]] = some (.b (decide (t < (Mark.mk mAt mGood).At)), [.u, .u]) := mkS_eq (0) rfl rfl (fun cx h => by
  simp only [go_sem, reduceIte, ↓reduceIte, reduceCtorEq, nA, nS, nM, nB, nE, nL, nT, nN, iL, iT, iE, iA, iM, iS, iG, iB, iN, iZ, h]) (rfl)
noncomputable def s104 : SP Try.prog := mkS tyA 104 Try.f104 [s75] { md := [.ro 1], rets := some ([2], []) } Try.func104 (by kernel_rfl)
@[go_sem] theorem d104 : s104.g = 104 ∧ s104.fs = ⟨[.ro 1], s104.F, false⟩ := ⟨nr rfl, nr rfl⟩
@[go_sem] theorem e104 (mAt : Int) (mGood : Bool) : s104.F [.agg [.i .i64 mAt, .b mGood]] = some (.b (!isTime (Mark.mk mAt mGood).At), [.u]) := mkS_eq (0) rfl rfl (fun cx h => by
  simp only [go_sem, reduceIte, ↓reduceIte, reduceCtorEq, nA, nS, nM, nB, nE, nL, nT, nN, iL, iT, iE, iA, iM, iS, iG, iB, iN, iZ, h]) (rfl)
noncomputable def s92 : SP Try.prog := mkS tyA 92 Try.f92 [] { md := [.ro 1, .ro 1], rets := some ([4], []) } Try.func92 (by kernel_rfl)
@[go_sem] theorem d92 : s92.g = 92 ∧ s92.fs = ⟨[.ro 1, .ro 1], s92.F, false⟩ := ⟨nr rfl, nr rfl⟩
@[go_sem] theorem e92 (a : Int) (b : Int) (h0 : (isTime a = true ∧ 0 ≤ b ∧ b ≤ 1000000000000000)) : s92.F [.i .i64 a, .i .i64 b] = some (.i .i64 (addT a b), [.u, .u]) := mkS_eq (0) rfl rfl (fun cx h => by
  have h1 := isTime_t.1 h0.1
  have h2 : (IntKind.i64).wrap (a + b) = a + b := wrap_id (by omega) (by omega)
  simp only [go_sem, reduceIte, ↓reduceIte, reduceCtorEq, nA, nS, nM, nB, nE, nL, nT, nN, iL, iT, iE, iA, iM, iS, iG, iB, iN, iZ, h, h2, minL, addT]
  try (split <;> first | rfl | (simp only [Option.some.injEq, Prod.mk.injEq, AV.i.injEq, true_and, and_true]; omega))) (rfl)
noncomputable def s91 : SP Try.prog := mkS tyA 91 Try.f91 [s92] { md := [.ro 1, .ro 1, .ro 1], rets := some ([4], []), plan := [(1, (.take 0 (.take 1 (.take 2 (.take 3 (.take 5 (.one 4 (.take 6 (.one 7 .done)))))))))] } Try.func91 (by kernel_rfl)
@[go_sem] theorem d91 : s91.g = 91 ∧ s91.fs = ⟨[.ro 1, .ro 1, .ro 1], s91.F, false⟩ := ⟨nr rfl, nr rfl⟩
@[go_sem] theorem e91 (mAt : Int) (mGood : Bool) (w rMin rRatio rCool rQuota : Int) (t : Int) (h0 : (isTime (Mark.mk mAt mGood).At = true ∧ 0 ≤ w ∧ w ≤ 1000000)) : s91.F [.agg [.i .i64 mAt, .b mGood], .pr [.i .i64 w, .i .i64 rMin, .i .i64 rRatio, .i .i64 rCool, .i .i64 rQuota], .pr [.i .i64 t]] = some (.b (decide (addT (Mark.mk mAt mGood).At w ≤ t)), [.u, .u, .u]) := mkS_eq (0) rfl rfl (fun cx h => by
  have h1 : isTime mAt = true ∧ 0 ≤ w ∧ w ≤ 1000000000000000 := ⟨h0.1, h0.2.1, by omega⟩
  simp only [go_sem, reduceIte, ↓reduceIte, reduceCtorEq, nA, nS, nM, nB, nE, nL, nT, nN, iL, iT, iE, iA, iM, iS, iG, iB, iN, iZ, h, h1]) (rfl)
noncomputable def s107 : SP Try.prog := mkS tyA 107 Try.f107 [s88, s91, s104] { md := [.ro 1, .ro 1], rg := [(0, [0, 1], []), (1, [0, 1, 7, 8], []), (2, [0, 1, 7, 8, 9], []), (3, [0, 1, 5, 7, 8], []), (4, [0, 1, 5, 7, 8, 16], []), (5, [4], []), (6, [0, 1, 7, 8], []), (7, [4], [])], lv := [(0, [0, 1, 7, 8], [])], out := [(0, [], [])], rets := some ([4], []) } Try.func107 (by kernel_rfl)
@[go_sem] theorem d107 : s107.g = 107 ∧ s107.fs = ⟨[.ro 1, .ro 1], s107.F, false⟩ := ⟨nr rfl, nr rfl⟩
@[go_sem] theorem e107_88 (xs : List Mark) (t : Int) (hb : xs.length ≤ 9223372036854775806) : s107.F [.sl .ro 2 (xs.map (rMark .ro)), .fn 88 [.pr [.i .i64 t]]] = some (.i .i64 (idxP (fun x => decide (t < x.At)) xs 0), [.u, .u]) := mkS_eq (xs.length + 1) rfl rfl (fun cx h => by
  have hx := hb
  have hb0 := loopN_eq Try.f107 0 _ _ rfl rfl
  obtain ⟨r, hr, hq⟩ := loop_srch (cx := cx) (blk := 0) (body := loopN Try.f107 0) xs (fun k (s : Nat) => ⟨E [(0, .sl .ro 2 (xs.map (rMark .ro))), (1, .fn 88 [.pr [.i .i64 t]]), (7, .i .i64 xs.length), (8, .i .i64 k)], B []⟩) (fun s => ⟨E [], B []⟩) (fun x s => decide (t < x.At)) (fun x s => s + 1) (fun x s => (.ret, ⟨E [(4, .i .i64 s)], B []⟩)) (fun k s => k = s)
      (fun s hI G => by simp only [go_sem, reduceIte, ↓reduceIte, reduceCtorEq, nA, nS, nM, nB, nE, nL, nT, nN, iL, iT, iE, iA, iM, iS, iG, iB, iN, iZ, h, Int.lt_irrefl, hb0, hI]) (fun k hk s hI => by
        have h1 : ((k : Int) < (xs.length : Int)) := Int.ofNat_lt.2 hk
        obtain rfl := hI
        exact ⟨_, _, _, fun G => by simp only [go_sem, reduceIte, ↓reduceIte, reduceCtorEq, nA, nS, nM, nB, nE, nL, nT, nN, iL, iT, iE, iA, iM, iS, iG, iB, iN, iZ, h, map_gd (rMark .ro) xs _ hk, decide_eq_true_eq, h1, idx_nt _ _ hk, wrap_nat1 (show k < 9223372036854775807 by omega), hb0] <;> with_reducible rfl, by first | exact Iff.rfl | simp, fun hc => ⟨rfl, by simp only [go_sem, reduceIte, ↓reduceIte, reduceCtorEq, nA, nS, nM, nB, nE, nL, nT, nN, iL, iT, iE, iA, iM, iS, iG, iB, iN, iZ, h]⟩⟩) 0 rfl (xs.length + 1) (Nat.le_refl _)
  rw [hb0] at hr
  rcases hq with ⟨s', e1, _, e3⟩ | ⟨x, s', e1, e3⟩
  · simp only [go_sem, reduceIte, ↓reduceIte, reduceCtorEq, nA, nS, nM, nB, nE, nL, nT, nN, iL, iT, iE, iA, iM, iS, iG, iB, iN, iZ, h, hr, e3, runS_idx e1]
  · simp only [go_sem, reduceIte, ↓reduceIte, reduceCtorEq, nA, nS, nM, nB, nE, nL, nT, nN, iL, iT, iE, iA, iM, iS, iG, iB, iN, iZ, h, hr, e3, runS_idx' e1]) (rfl)
@[go_sem] theorem e107_104 (xs : List Mark)  (hb : xs.length ≤ 9223372036854775806) : s107.F [.sl .ro 2 (xs.map (rMark .ro)), .fn 104 []] = some (.i .i64 (idxP (fun x => !isTime x.At) xs 0), [.u, .u]) := mkS_eq (xs.length + 1) rfl rfl (fun cx h => by
  have hx := hb
  have hb0 := loopN_eq Try.f107 0 _ _ rfl rfl
  obtain ⟨r, hr, hq⟩ := loop_srch (cx := cx) (blk := 0) (body := loopN Try.f107 0) xs (fun k (s : Nat) => ⟨E [(0, .sl .ro 2 (xs.map (rMark .ro))), (1, .fn 104 []), (7, .i .i64 xs.length), (8, .i .i64 k)], B []⟩) (fun s => ⟨E [], B []⟩) (fun x s => !isTime x.At) (fun x s => s + 1) (fun x s => (.ret, ⟨E [(4, .i .i64 s)], B []⟩)) (fun k s => k = s)
      (fun s hI G => by simp only [go_sem, reduceIte, ↓reduceIte, reduceCtorEq, nA, nS, nM, nB, nE, nL, nT, nN, iL, iT, iE, iA, iM, iS, iG, iB, iN, iZ, h, Int.lt_irrefl, hb0, hI]) (fun k hk s hI => by
        have h1 : ((k : Int) < (xs.length : Int)) := Int.ofNat_lt.2 hk
        obtain rfl := hI
        exact ⟨_, _, _, fun G => by simp only [go_sem, reduceIte, ↓reduceIte, reduceCtorEq, nA, nS, nM, nB, nE, nL, nT, nN, iL, iT, iE, iA, iM, iS, iG, iB, iN, iZ, h, map_gd (rMark .ro) xs _ hk, decide_eq_true_eq, h1, idx_nt _ _ hk, wrap_nat1 (show k < 9223372036854775807 by omega), hb0] <;> with_reducible rfl, by first | exact Iff.rfl | simp, fun hc => ⟨rfl, by simp only [go_sem, reduceIte, ↓reduceIte, reduceCtorEq, nA, nS, nM, nB, nE, nL, nT, nN, iL, iT, iE, iA, iM, iS, iG, iB, iN, iZ, h]⟩⟩) 0 rfl (xs.length + 1) (Nat.le_refl _)
  rw [hb0] at hr
  rcases hq with ⟨s', e1, _, e3⟩ | ⟨x, s', e1, e3⟩
  · simp only [go_sem, reduceIte, ↓reduceIte, reduceCtorEq, nA, nS, nM, nB, nE, nL, nT, nN, iL, iT, iE, iA, iM, iS, iG, iB, iN, iZ, h, hr, e3, runS_idx e1]
  · simp only [go_sem, reduceIte, ↓reduceIte, reduceCtorEq, nA, nS, nM, nB, nE, nL, nT, nN, iL, iT, iE, iA, iM, iS, iG, iB, iN, iZ, h, hr, e3, runS_idx' e1]) (rfl)
@[go_sem] theorem e107_91 (xs : List Mark) (w rMin rRatio rCool rQuota t : Int) (hb : xs.length ≤ 9223372036854775806) (h0 : Every (fun x => isTime x.At = true ∧ 0 ≤ w ∧ w ≤ 1000000) xs) : s107.F [.sl .ro 2 (xs.map (rMark .ro)), .fn 91 [.pr [.i .i64 w, .i .i64 rMin, .i .i64 rRatio, .i .i64 rCool, .i .i64 rQuota], .pr [.i .i64 t]]] = some (.i .i64 (idxP (fun x => decide (addT x.At w ≤ t)) xs 0), [.u, .u]) := mkS_eq (xs.length + 1) rfl rfl (fun cx h => by
  have hx := hb
  have hb0 := loopN_eq Try.f107 0 _ _ rfl rfl
  obtain ⟨r, hr, hq⟩ := loop_srch (cx := cx) (blk := 0) (body := loopN Try.f107 0) xs (fun k (s : Nat) => ⟨E [(0, .sl .ro 2 (xs.map (rMark .ro))), (1, .fn 91 [.pr [.i .i64 w, .i .i64 rMin, .i .i64 rRatio, .i .i64 rCool, .i .i64 rQuota], .pr [.i .i64 t]]), (7, .i .i64 xs.length), (8, .i .i64 k)], B []⟩) (fun s => ⟨E [], B []⟩) (fun x s => decide (addT x.At w ≤ t)) (fun x s => s + 1) (fun x s => (.ret, ⟨E [(4, .i .i64 s)], B []⟩)) (fun k s => k = s)
      (fun s hI G => by simp only [go_sem, reduceIte, ↓reduceIte, reduceCtorEq, nA, nS, nM, nB, nE, nL, nT, nN, iL, iT, iE, iA, iM, iS, iG, iB, iN, iZ, h, Int.lt_irrefl, hb0, hI]) (fun k hk s hI => by
        have h1 : ((k : Int) < (xs.length : Int)) := Int.ofNat_lt.2 hk
        obtain rfl := hI
        have h2 := h0 _ (List.getElem_mem hk)
        simp only at h2
        exact ⟨_, _, _, fun G => by simp only [go_sem, reduceIte, ↓reduceIte, reduceCtorEq, nA, nS, nM, nB, nE, nL, nT, nN, iL, iT, iE, iA, iM, iS, iG, iB, iN, iZ, h, map_gd (rMark .ro) xs _ hk, h2, decide_eq_true_eq, h1, idx_nt _ _ hk, wrap_nat1 (show k < 9223372036854775807 by omega), hb0] <;> with_reducible rfl, by first | exact Iff.rfl | simp, fun hc => ⟨rfl, by simp only [go_sem, reduceIte, ↓reduceIte, reduceCtorEq, nA, nS, nM, nB, nE, nL, nT, nN, iL, iT, iE, iA, iM, iS, iG, iB, iN, iZ, h]⟩⟩) 0 rfl (xs.length + 1) (Nat.le_refl _)
  rw [hb0] at hr
  rcases hq with ⟨s', e1, _, e3⟩ | ⟨x, s', e1, e3⟩
  · simp only [go_sem, reduceIte, ↓reduceIte, reduceCtorEq, nA, nS, nM, nB, nE, nL, nT, nN, iL, iT, iE, iA, iM, iS, iG, iB, iN, iZ, h, hr, e3, runS_idx e1]
  · simp only [go_sem, reduceIte, ↓reduceIte, reduceCtorEq, nA, nS, nM, nB, nE, nL, nT, nN, iL, iT, iE, iA, iM, iS, iG, iB, iN, iZ, h, hr, e3, runS_idx' e1]) (rfl)
noncomputable def s87 : SP Try.prog := mkS tyA 87 Try.f87 [s107] { md := [.ro 1, .ro 1], rets := some ([4], []) } Try.func87 (by kernel_rfl)
@[go_sem] theorem d87 : s87.g = 87 ∧ s87.fs = ⟨[.ro 1, .ro 1], s87.F, false⟩ := ⟨nr rfl, nr rfl⟩
@[go_sem] theorem e87_88 (xs : List Mark) (t : Int) (hb : xs.length ≤ 9223372036854775806) : s87.F [.sl .ro 2 (xs.map (rMark .ro)), .fn 88 [.pr [.i .i64 t]]] = some (.b (xs.any (fun x => decide (t < x.At))), [.u, .u]) := mkS_eq (0) rfl rfl (fun cx h => by
  simp only [go_sem, reduceIte, ↓reduceIte, reduceCtorEq, nA, nS, nM, nB, nE, nL, nT, nN, iL, iT, iE, iA, iM, iS, iG, iB, iN, iZ, h, hb, idxP_any]) (rfl)
@[go_sem] theorem e87_104 (xs : List Mark)  (hb : xs.length ≤ 9223372036854775806) : s87.F [.sl .ro 2 (xs.map (rMark .ro)), .fn 104 []] = some (.b (xs.any (fun x => !isTime x.At)), [.u, .u]) := mkS_eq (0) rfl rfl (fun cx h => by
  simp only [go_sem, reduceIte, ↓reduceIte, reduceCtorEq, nA, nS, nM, nB, nE, nL, nT, nN, iL, iT, iE, iA, iM, iS, iG, iB, iN, iZ, h, hb, idxP_any]) (rfl)
noncomputable def s106 : SP Try.prog := mkS tyA 106 Try.f106 [] { md := [.ro 1, .ro 1], rets := some ([4], []) } Try.func106 (by kernel_rfl)
@[go_sem] theorem d106 : s106.g = 106 ∧ s106.fs = ⟨[.ro 1, .ro 1], s106.F, false⟩ := ⟨nr rfl, nr rfl⟩
@[go_sem] theorem e106 (xAt : Int) (xGood : Bool) (yAt : Int) (yGood : Bool) : s106.F [.agg [.i .i64 xAt, .b xGood], .agg [.i .i64 yAt, .b yGood]] = some (.i .i64 ((IntKind.i64).wrap ((Mark.mk xAt xGood).At - (Mark.mk yAt yGood).At)), [.u, .u]) := mkS_eq (0) rfl rfl (fun cx h => by
  simp only [go_sem, reduceIte, ↓reduceIte, reduceCtorEq, nA, nS, nM, nB, nE, nL, nT, nN, iL, iT, iE, iA, iM, iS, iG, iB, iN, iZ, h]) (rfl)
noncomputable def s105 : SP Try.prog := mkS tyA 105 Try.f105 [s106] { md := [.ro 1, .ro 1], rg := [(0, [0, 1], []), (1, [0, 1, 5], []), (2, [0, 1, 5, 10], []), (3, [0, 1, 5], []), (4, [0, 1, 5, 24], []), (5, [4], []), (6, [4], [])], lv := [(0, [0, 1, 5], [])], out := [(0, [], [])], rets := some ([4], []), plan := [(4, (.take 0 (.take 1 (.take 2 (.take 3 (.take 4 (.take 5 (.take 6 (.take 7 (.take 8 (.take 9 (.one 10 (.take 11 .done)))))))))))))] } Try.func105 (by kernel_rfl)
@[go_sem] theorem d105 : s105.g = 105 ∧ s105.fs = ⟨[.ro 1, .ro 1], s105.F, false⟩ := ⟨nr rfl, nr rfl⟩
@[go_sem] theorem e105 (xs : List Mark) (h0 : badT xs = false) (hb : xs.length ≤ 1000) : s105.F [.sl .ro 2 (xs.map (rMark .ro)), .fn 106 []] = some (.b (!unsorted xs), [.u, .u]) := mkS_eq (xs.length + 1) rfl rfl (fun cx h => by
  have w0 : (IntKind.i64).wrap ((xs.length : Int) - 1) = (xs.length : Int) - 1 - ((0 : Nat) : Int) := by rw [wrap_id (by omega) (by omega)]; omega
  have hb0 := loopN_eq Try.f105 0 _ _ rfl rfl
  obtain ⟨r, hr, hq⟩ := loop_srch (cx := cx) (blk := 0) (body := loopN Try.f105 0) (xs.zip xs.tail).reverse (fun k (s : Unit) => ⟨E [(0, .sl .ro 2 (xs.map (rMark .ro))), (1, .fn 106 []), (5, .i .i64 ((xs.length : Int) - 1 - k))], B []⟩) (fun s => ⟨E [], B []⟩) (fun x s => decide (x.2.At < x.1.At)) (fun x s => ()) (fun x s => (.ret, ⟨E [(4, .b false)], B []⟩)) (fun k s => True)
      (fun s hI G => by simp only [go_sem, reduceIte, ↓reduceIte, reduceCtorEq, nA, nS, nM, nB, nE, nL, nT, nN, iL, iT, iE, iA, iM, iS, iG, iB, iN, iZ, h, Int.lt_irrefl, hb0, show ¬ (0 < ((xs.length : Int) - 1 - ((xs.zip xs.tail).reverse.length : Nat))) by simp; omega]) (fun k hk s hI => by
        have h1 : ((k : Int) < ((xs.zip xs.tail).reverse.length : Int)) := Int.ofNat_lt.2 hk
        have hk2 : k < xs.length - 1 := by simpa using hk
        have h3 : (xs.zip xs.tail).reverse[k] = (xs[xs.length - 2 - k]'(by omega), xs[xs.length - 1 - k]'(by omega)) := by
          rw [List.getElem_reverse, pairs_get]
          have e1 : (xs.zip xs.tail).length - 1 - k = xs.length - 2 - k := by rw [pairs_len]; omega
          have e2 : xs.length - 2 - k + 1 = xs.length - 1 - k := by omega
          simp only [e1, e2]
        rw [h3]
        have t1 := isTime_t.1 (badT_get h0 (List.getElem_mem (show xs.length - 2 - k < xs.length by omega)))
        have t2 := isTime_t.1 (badT_get h0 (List.getElem_mem (show xs.length - 1 - k < xs.length by omega)))
        have i1 : ((xs.length : Int) - 1 - k) = ((xs.length - 1 - k : Nat) : Int) := by omega
        have i0 : 0 < ((xs.length - 1 - k : Nat) : Int) := by omega
        have i2 : (IntKind.i64).wrap (((xs.length - 1 - k : Nat) : Int) - 1) = ((xs.length - 2 - k : Nat) : Int) := by rw [wrap_id (by omega) (by omega)]; omega
        have i3 : (xs.length : Int) - 1 - (k + 1 : Nat) = ((xs.length - 2 - k : Nat) : Int) := by omega
        have w1 : (IntKind.i64).wrap ((xs[xs.length - 1 - k]'(by omega)).At - (xs[xs.length - 2 - k]'(by omega)).At) = (xs[xs.length - 1 - k]'(by omega)).At - (xs[xs.length - 2 - k]'(by omega)).At := wrap_id (by omega) (by omega)
        exact ⟨_, _, _, fun G => by simp only [go_sem, reduceIte, ↓reduceIte, reduceCtorEq, nA, nS, nM, nB, nE, nL, nT, nN, iL, iT, iE, iA, iM, iS, iG, iB, iN, iZ, h, i1, i0, i2, w1, idx_nt xs.length _ (show xs.length - 1 - k < xs.length by omega), idx_nt xs.length _ (show xs.length - 2 - k < xs.length by omega), map_gd (rMark .ro) xs _ (show xs.length - 1 - k < xs.length by omega), map_gd (rMark .ro) xs _ (show xs.length - 2 - k < xs.length by omega), h1, idx_nt _ _ hk, wrap_nat1 (show k < 9223372036854775807 by omega), hb0] <;> with_reducible rfl, by simp <;> omega, fun hc => ⟨trivial, by simp only [go_sem, reduceIte, ↓reduceIte, reduceCtorEq, nA, nS, nM, nB, nE, nL, nT, nN, iL, iT, iE, iA, iM, iS, iG, iB, iN, iZ, h, i3]⟩⟩) () trivial (xs.length + 1) (by simp <;> omega)
  rw [hb0] at hr
  rcases hq with ⟨s', e1, _, e3⟩ | ⟨x, s', e1, e3⟩
  · have e4 : unsorted xs = false := by rw [unsorted, ← List.any_reverse]; exact runS_any e1
    simp only [go_sem, reduceIte, ↓reduceIte, reduceCtorEq, nA, nS, nM, nB, nE, nL, nT, nN, iL, iT, iE, iA, iM, iS, iG, iB, iN, iZ, h, w0, hr, e3, e4]
  · have e4 : unsorted xs = true := by rw [unsorted, ← List.any_reverse]; exact (runS_found e1).1
    simp only [go_sem, reduceIte, ↓reduceIte, reduceCtorEq, nA, nS, nM, nB, nE, nL, nT, nN, iL, iT, iE, iA, iM, iS, iG, iB, iN, iZ, h, w0, hr, e3, e4]) (rfl)
noncomputable def s85 : SP Try.prog := mkS tyA 85 Try.f85 [s35, s75, s87, s104, s105, s106] { md := [.ro 1], rg := [(0, [1], [1]), (1, [1, 3], [1]), (2, [2], []), (3, [1, 20], [1]), (4, [2], []), (5, [1, 25], [1]), (6, [2], []), (7, [1, 29], [1]), (8, [2], []), (9, [34], []), (10, [2], []), (11, [2], [])], rets := some ([2], []) } Try.func85 (by kernel_rfl)
@[go_sem] theorem d85 : s85.g = 85 ∧ s85.fs = ⟨[.ro 1], s85.F, false⟩ := ⟨nr rfl, nr rfl⟩
@[go_sem] theorem e85 (bState : Int) (bSince : Int) (bOut : Int) (bMarks : List Mark) (h0 : (Breaker.mk bState bSince bOut bMarks).Marks.length ≤ 1048576) : s85.F [.agg [.i .i64 bState, .i .i64 bSince, .i .i64 bOut, .sl .ro 2 (bMarks.map (rMark .ro))]] = some (.i .i64 (breakerFault (Breaker.mk bState bSince bOut bMarks)), [.u]) := mkS_eq (0) rfl rfl (fun cx h => by
  have hb : bMarks.length ≤ 9223372036854775806 := by have := h0; simp only at this; omega
  by_cases c0 : (within bState 0 2 && isTime bSince && within bOut 0 5) = false
  · simp only [go_sem, reduceIte, ↓reduceIte, reduceCtorEq, nA, nS, nM, nB, nE, nL, nT, nN, iL, iT, iE, iA, iM, iS, iG, iB, iN, iZ, h, hb, breakerFault, c0]
    all_goals (cases hw1 : within bState 0 2 <;> cases hw2 : isTime bSince <;> cases hw3 : within bOut 0 5 <;> simp_all)
  simp only [Bool.not_eq_false, Bool.and_eq_true] at c0
  obtain ⟨⟨d1, d2⟩, d3⟩ := c0
  by_cases c1 : 60 < (bMarks.length : Int)
  · simp only [go_sem, reduceIte, ↓reduceIte, reduceCtorEq, nA, nS, nM, nB, nE, nL, nT, nN, iL, iT, iE, iA, iM, iS, iG, iB, iN, iZ, h, hb, breakerFault, d1, d2, d3, c1]
  cases c2 : badT bMarks
  case true =>
    have c2' : (bMarks.any fun x => !isTime x.At) = true := c2
    simp only [go_sem, reduceIte, ↓reduceIte, reduceCtorEq, nA, nS, nM, nB, nE, nL, nT, nN, iL, iT, iE, iA, iM, iS, iG, iB, iN, iZ, h, hb, breakerFault, d1, d2, d3, c1, c2, c2']
  have c2' : (bMarks.any fun x => !isTime x.At) = false := c2
  have c4 : bMarks.length ≤ 1000 := by omega
  cases c5 : unsorted bMarks
  case true => simp only [go_sem, reduceIte, ↓reduceIte, reduceCtorEq, nA, nS, nM, nB, nE, nL, nT, nN, iL, iT, iE, iA, iM, iS, iG, iB, iN, iZ, h, hb, breakerFault, d1, d2, d3, c1, c2, c2', c4, c5]
  simp only [go_sem, reduceIte, ↓reduceIte, reduceCtorEq, nA, nS, nM, nB, nE, nL, nT, nN, iL, iT, iE, iA, iM, iS, iG, iB, iN, iZ, h, hb, breakerFault, d1, d2, d3, c1, c2, c2', c4, c5]
  all_goals (cases e1 : bState != 0 <;> cases e2 : bState != 2 <;> cases e3 : bOut != 0 <;> cases e4 : decide (0 < (bMarks.length : Int)) <;> simp_all)) (rfl)
noncomputable def s86 : SP Try.prog := mkS tyA 86 Try.f86 [s35] { md := [.ro 1], rg := [(0, [1], [1]), (1, [30], []), (2, [2], []), (3, [2], [])], rets := some ([2], []) } Try.func86 (by kernel_rfl)
@[go_sem] theorem d86 : s86.g = 86 ∧ s86.fs = ⟨[.ro 1], s86.F, false⟩ := ⟨nr rfl, nr rfl⟩
@[go_sem] theorem e86 (rWindow : Int) (rMin : Int) (rRatio : Int) (rCool : Int) (rQuota : Int) : s86.F [.agg [.i .i64 rWindow, .i .i64 rMin, .i .i64 rRatio, .i .i64 rCool, .i .i64 rQuota]] = some (.i .i64 (rulesFault (Rules.mk rWindow rMin rRatio rCool rQuota)), [.u]) := mkS_eq (0) rfl rfl (fun cx h => by
  simp only [go_sem, reduceIte, ↓reduceIte, reduceCtorEq, nA, nS, nM, nB, nE, nL, nT, nN, iL, iT, iE, iA, iM, iS, iG, iB, iN, iZ, h]
  simp only [rulesFault]
  cases within rWindow 1 1000000 <;> cases within rMin 1 50 <;> cases within rRatio 1 1000 <;> cases within rCool 0 1000000 <;> cases within rQuota 1 5 <;> rfl) (rfl)
noncomputable def s57 : SP Try.prog := mkS tyA 57 Try.f57 [s75, s85, s86, s87] { md := [.ro 1, .ro 1, .ro 1], rg := [(0, [3, 4, 5], [3, 4, 5]), (1, [3, 4, 5, 7], [3, 4, 5]), (2, [3, 4, 5, 7, 12], [3, 4, 5]), (3, [6], []), (4, [3, 5, 8], [3, 5]), (5, [3, 5, 8, 17], [3, 5]), (6, [6], []), (7, [33], []), (8, [6], []), (9, [6], [])], rets := some ([6], []), fz := [5] } Try.func57 (by kernel_rfl)
@[go_sem] theorem d57 : s57.g = 57 ∧ s57.fs = ⟨[.ro 1, .ro 1, .ro 1], s57.F, false⟩ := ⟨nr rfl, nr rfl⟩
@[go_sem] theorem e57 (bState : Int) (bSince : Int) (bOut : Int) (bMarks : List Mark) (rWindow : Int) (rMin : Int) (rRatio : Int) (rCool : Int) (rQuota : Int) (now : Int) (h0 : (Breaker.mk bState bSince bOut bMarks).Marks.length ≤ 1048576) : s57.F [.agg [.i .i64 bState, .i .i64 bSince, .i .i64 bOut, .sl .ro 2 (bMarks.map (rMark .ro))], .agg [.i .i64 rWindow, .i .i64 rMin, .i .i64 rRatio, .i .i64 rCool, .i .i64 rQuota], .i .i64 now] = some (.i .i64 (breakerCode (Breaker.mk bState bSince bOut bMarks) (Rules.mk rWindow rMin rRatio rCool rQuota) now), [.u, .u, .u]) := mkS_eq (0) rfl rfl (fun cx h => by
  have hb : bMarks.length ≤ 9223372036854775806 := by have := h0; simp only at this; omega
  simp only [breakerCode]
  obtain ⟨f, hf⟩ : ∃ f, breakerFault (Breaker.mk bState bSince bOut bMarks) = f := ⟨_, rfl⟩
  obtain ⟨g, hg⟩ : ∃ g, rulesFault (Rules.mk rWindow rMin rRatio rCool rQuota) = g := ⟨_, rfl⟩
  by_cases c1 : f = 0
  · subst c1
    by_cases c2 : g = 0
    · subst c2
      simp only [go_sem, reduceIte, ↓reduceIte, reduceCtorEq, nA, nS, nM, nB, nE, nL, nT, nN, iL, iT, iE, iA, iM, iS, iG, iB, iN, iZ, h, hb, h0, hf, hg]
      cases isTime now <;> by_cases d1 : now < bSince <;> cases (bMarks.any fun x => decide (now < x.At)) <;> simp [d1]
    · have c2' : (g != 0) = true := by simpa using c2
      simp only [go_sem, reduceIte, ↓reduceIte, reduceCtorEq, nA, nS, nM, nB, nE, nL, nT, nN, iL, iT, iE, iA, iM, iS, iG, iB, iN, iZ, h, hb, h0, hf, hg, c2, c2']
  · have c1' : (f != 0) = true := by simpa using c1
    simp only [go_sem, reduceIte, ↓reduceIte, reduceCtorEq, nA, nS, nM, nB, nE, nL, nT, nN, iL, iT, iE, iA, iM, iS, iG, iB, iN, iZ, h, hb, h0, hf, c1, c1']) (rfl)
noncomputable def s89 : SP Try.prog := mkS tyA 89 Try.f89 [] { md := [.ro 1], rg := [(0, [0], []), (1, [0, 4], []), (2, [2], []), (3, [2], [])], rets := some ([2], []), nz := true } Try.func89 (by kernel_rfl)
@[go_sem] theorem d89 : s89.g = 89 ∧ s89.fs = ⟨[.ro 1], s89.F, false⟩ := ⟨nr rfl, nr rfl⟩
@[go_sem] theorem e89 (xs : List Mark) (h0 : smL smMark xs) : s89.F [.sl .ro 2 (xs.map (rMark .ro))] = some (.sl .mut 2 (xs.map (rMark .mut)), [.u]) := mkS_eqN (0) rfl rfl (fun cx h => by
  have h0 := h0.1
  have h1 : (xs.map (rMark .ro)).all (·.all plain) = true := by simp [rMark, plain]
  have h2 : xs.length * 16 ≤ 140737488355328 := by omega
  have h3 : xs.map (rMark .ro) = xs.map (rMark .mut) := rfl
  rcases Nat.eq_zero_or_pos xs.length with hp | hp
  · obtain rfl := List.length_eq_zero_iff.1 hp
    simp only [go_sem, reduceIte, ↓reduceIte, reduceCtorEq, nA, nS, nM, nB, nE, nL, nT, nN, iL, iT, iE, iA, iM, iS, iG, iB, iN, iZ, h]
  · simp only [go_sem, reduceIte, ↓reduceIte, reduceCtorEq, nA, nS, nM, nB, nE, nL, nT, nN, iL, iT, iE, iA, iM, iS, iG, iB, iN, iZ, h, h1, h2, hp]
    rw [h3]) (by simp only [go_sem, reduceIte, ↓reduceIte, reduceCtorEq, nA, nS, nM, nB, nE, nL, nT, nN, iL, iT, iE, iA, iM, iS, iG, iB, iN, iZ, okRes, hasRo])
noncomputable def s58 : SP Try.prog := mkS tyA 58 Try.f58 [s89] { md := [.ro 1], rg := [(0, [1, 2], [1, 2]), (1, [1, 2], [1, 2]), (2, [2], [1, 2])], rets := some ([2], [1, 2]) } Try.func58 (by kernel_rfl)
@[go_sem] theorem d58 : s58.g = 58 ∧ s58.fs = ⟨[.ro 1], s58.F, false⟩ := ⟨nr rfl, nr rfl⟩
@[go_sem] theorem e58 (bState : Int) (bSince : Int) (bOut : Int) (bMarks : List Mark) (h0 : smL smMark (Breaker.mk bState bSince bOut bMarks).Marks) : s58.F [.agg [.i .i64 bState, .i .i64 bSince, .i .i64 bOut, .sl .ro 2 (bMarks.map (rMark .ro))]] = some (.agg (rBreaker .mut (Breaker.mk bState bSince bOut bMarks)), [.u]) := mkS_eq (0) rfl rfl (fun cx h => by
  simp only [go_sem, reduceIte, ↓reduceIte, reduceCtorEq, nA, nS, nM, nB, nE, nL, nT, nN, iL, iT, iE, iA, iM, iS, iG, iB, iN, iZ, h, h0]) (by simp only [go_sem, reduceIte, ↓reduceIte, reduceCtorEq, nA, nS, nM, nB, nE, nL, nT, nN, iL, iT, iE, iA, iM, iS, iG, iB, iN, iZ, okRes, hasRo, hasRoL, hasRoLL])
noncomputable def s90 : SP Try.prog := mkS tyA 90 Try.f90 [s91, s107] { md := [.mv, .ro 1], rg := [(0, [0, 1], []), (1, [0, 1, 5], []), (2, [0, 1, 5, 12], []), (3, [0, 4], []), (4, [0, 1, 5, 6], []), (5, [0, 1, 5, 6, 19], []), (6, [0, 1, 5, 6], []), (7, [0, 1, 5, 6, 7, 22], [7]), (8, [0, 1, 5, 6, 7, 22, 29], [7]), (9, [0, 1, 5, 6], []), (10, [0, 1, 5, 6], []), (11, [0, 5], []), (12, [0, 4], [])], lv := [(0, [0, 1, 5, 6], [])], out := [(0, [0, 5], [])], rets := some ([0, 4], []) } Try.func90 (by kernel_rfl)
@[go_sem] theorem d90 : s90.g = 90 ∧ s90.fs = ⟨[.mv, .ro 1], s90.F, false⟩ := ⟨nr rfl, nr rfl⟩
@[go_sem] theorem e90_91 (xs : List Mark) (w rMin rRatio rCool rQuota t : Int) (hb : xs.length ≤ 1048576) (h0 : Every (fun x => isTime x.At = true ∧ 0 ≤ w ∧ w ≤ 1000000) xs) : s90.F [.sl .mut 2 (xs.map (rMark .mut)), .fn 91 [.pr [.i .i64 w, .i .i64 rMin, .i .i64 rRatio, .i .i64 rCool, .i .i64 rQuota], .pr [.i .i64 t]]] = some (.sl .mut 2 ((xs.filter (fun x => !(decide (addT x.At w ≤ t)))).map (rMark .mut)), [.u, .u]) := mkS_eq (xs.length + 1) rfl rfl (fun cx h => by
  have hx : xs.length ≤ 9223372036854775806 := by omega
  rcases Int.lt_or_le (idxP (fun (x : Mark) => decide (addT x.At w ≤ t)) xs 0) 0 with hn | hn
  · have hm1 := idxP_neg (fun (x : Mark) => decide (addT x.At w ≤ t)) xs 0 hn
    have hf := delF_none (fun (x : Mark) => decide (addT x.At w ≤ t)) xs hm1
    simp only [go_sem, reduceIte, ↓reduceIte, reduceCtorEq, nA, nS, nM, nB, nE, nL, nT, nN, iL, iT, iE, iA, iM, iS, iG, iB, iN, iZ, h, hx, h0, hm1, hf]
  · obtain ⟨i, hi0, hi1, hi2, hi3⟩ := idxP_pos (fun (x : Mark) => decide (addT x.At w ≤ t)) xs hn
    have w1 : (IntKind.i64).wrap ((i : Int) + 1) = ((i + 1 : Nat) : Int) := wrap_nat1 (by omega)
    have hb0 := loopN_eq Try.f90 0 _ _ rfl rfl
    obtain ⟨hI, hr⟩ := loop_fold (cx := cx) (blk := 0) (body := loopN Try.f90 0) (xs.drop (i + 1)) (fun k (s : List Mark × Nat) => ⟨E [(0, .sl .mut 2 (s.1.map (rMark .mut))), (1, .fn 91 [.pr [.i .i64 w, .i .i64 rMin, .i .i64 rRatio, .i .i64 rCool, .i .i64 rQuota], .pr [.i .i64 t]]), (5, .i .i64 (s.2 : Nat)), (6, .i .i64 ((i + 1 + k : Nat) : Int))], B []⟩) (fun s => ⟨E [(0, .sl .mut 2 (s.1.map (rMark .mut))), (5, .i .i64 (s.2 : Nat))], B []⟩) (fun x s => (if decide (addT x.At w ≤ t) then s else (s.1.set s.2 x, s.2 + 1))) (fun k s => delI (fun (x : Mark) => decide (addT x.At w ≤ t)) xs (i + 1 + k) s)
        (fun s hI G => by simp only [go_sem, reduceIte, ↓reduceIte, reduceCtorEq, nA, nS, nM, nB, nE, nL, nT, nN, iL, iT, iE, iA, iM, iS, iG, iB, iN, iZ, h, Int.lt_irrefl, hb0, delI_len hI, show List.take xs.length (List.map (rMark .mut) s.1) = List.map (rMark .mut) s.1 from List.take_of_length_le (by rw [List.length_map, hI.1]; exact Nat.le_refl _), show ¬ (((i + 1 + (xs.drop (i + 1)).length : Nat) : Int) < (xs.length : Int)) by simp; omega]) (fun k hk s hI => by
          have h1 : ((k : Int) < ((xs.drop (i + 1)).length : Int)) := Int.ofNat_lt.2 hk
          have hkl : i + 1 + k < xs.length := by simp at hk; omega
          have hget : (xs.drop (i + 1))[k] = xs[i + 1 + k] := by simp
          have hlen : s.1.length = xs.length := hI.1
          have hsi : s.2 < s.1.length := by have := hI.2.2.2; omega
          have hcur : s.1[i + 1 + k]'(by omega) = xs[i + 1 + k] := delI_get hI hkl
          have j1 : (((i + 1 + k : Nat) : Int) < (xs.length : Int)) := Int.ofNat_lt.2 hkl
          have j2 : (IntKind.i64).wrap (((i + 1 + k : Nat) : Int) + 1) = ((i + 1 + (k + 1) : Nat) : Int) := wrap_nat1 (by omega)
          have j3 : (IntKind.i64).wrap (((s.2 : Nat) : Int) + 1) = ((s.2 + 1 : Nat) : Int) := wrap_nat1 (by omega)
          have j4 := map_gd (rMark .mut) s.1 (i + 1 + k) (by omega)
          rw [hcur] at j4
          have j6 := gd_map (rMark .mut) s.1 (i + 1 + k) (by omega)
          rw [hcur] at j6
          have j7 := gd_map (rMark .mut) s.1 s.2 hsi
          have j5 : (s.1.map (rMark .mut)).set s.2 ((rMark .mut) xs[i + 1 + k]) = (s.1.set s.2 xs[i + 1 + k]).map (rMark .mut) := (List.map_set).symm
          have j8 : List.take xs.length (List.map (rMark .mut) s.1) = List.map (rMark .mut) s.1 := List.take_of_length_le (by rw [List.length_map, hlen]; exact Nat.le_refl _)
          simp only [rMark] at j5
          have h2 := h0 _ (List.getElem_mem hkl)
          simp only at h2
          by_cases hd : decide (addT xs[i + 1 + k].At w ≤ t) = true
          all_goals have hd' := hd
          all_goals try simp only [decide_eq_true_eq] at hd'
          all_goals exact ⟨by rw [hget]; exact delI_step hI (by omega), _, fun G => by simp only [go_sem, reduceIte, ↓reduceIte, reduceCtorEq, nA, nS, nM, nB, nE, nL, nT, nN, iL, iT, iE, iA, iM, iS, iG, iB, iN, iZ, h, j1, j2, j3, j4, j5, j6, j7, j8, hlen, idx_nt xs.length _ hkl, idx_nt xs.length s.2 (by omega), h2, hd, hd', h1, idx_nt _ _ hk, wrap_nat1 (show k < 9223372036854775807 by omega), hb0] <;> with_reducible rfl, by simp only [go_sem, reduceIte, ↓reduceIte, reduceCtorEq, nA, nS, nM, nB, nE, nL, nT, nN, iL, iT, iE, iA, iM, iS, iG, iB, iN, iZ, h, hget, hd, hd']⟩) (xs, i) (delI_zero hi1 hi2 hi3) (xs.length + 1) (by simp <;> omega)
    rw [hb0] at hr
    generalize List.foldl _ _ _ = q at hI hr
    have e9 := delI_end hI (by simp <;> omega)
    have e8 : q.1.length = xs.length := hI.1
    have e7 : q.2 ≤ xs.length := by have h1 := hI.2.2.2; simp only [List.length_drop] at h1; omega
    have e6 : (0 : Int) ≤ (q.2 : Int) := by omega
    have e5 : (q.2 : Int) ≤ (xs.length : Int) := by omega
    have e4 : ((i : Int) == -1) = false := by simp <;> omega
    have c1 : (clearRows 2 q.2 (xs.length - q.2) (q.1.map (rMark .mut))).length = xs.length := by rw [clearRows_len (by rw [List.length_map]; omega), List.length_map, e8]
    have c2 : (clearRows 2 q.2 (xs.length - q.2) (q.1.map (rMark .mut))).take q.2 = (xs.filter (fun x => !(decide (addT x.At w ≤ t)))).map (rMark .mut) := by rw [clearRows_take _ _ _ _ (by rw [List.length_map]; omega), ← List.map_take, e9]
    have e3 : q.2 + (xs.length - q.2) ≤ xs.length := by omega
    simp only [go_sem, reduceIte, ↓reduceIte, reduceCtorEq, nA, nS, nM, nB, nE, nL, nT, nN, iL, iT, iE, iA, iM, iS, iG, iB, iN, iZ, h, hx, h0, hi0, w1, hr, e8, e7, e6, e5, e4, e3, c1, c2, Int.toNat_natCast, Nat.sub_zero]) (by simp only [go_sem, reduceIte, ↓reduceIte, reduceCtorEq, nA, nS, nM, nB, nE, nL, nT, nN, iL, iT, iE, iA, iM, iS, iG, iB, iN, iZ, okRes, hasRo])
noncomputable def s93 : SP Try.prog := mkS tyA 93 Try.f93 [] { md := [.ro 1], rg := [(0, [1], [1]), (1, [1, 3], [1]), (2, [3, 7, 8, 9], [1]), (3, [3, 7, 8, 9, 10], [1]), (4, [3, 5, 7, 8, 9], [1, 5]), (5, [3, 7, 8, 9, 15], [1]), (6, [3, 7, 8, 9], [1]), (7, [3, 7, 8, 9], [1]), (8, [2], [])], lv := [(0, [3, 7, 8, 9], [1])], out := [(0, [3], [])], rets := some ([2], []) } Try.func93 (by kernel_rfl)
@[go_sem] theorem d93 : s93.g = 93 ∧ s93.fs = ⟨[.ro 1], s93.F, false⟩ := ⟨nr rfl, nr rfl⟩
@[go_sem] theorem e93 (bState bSince bOut : Int) (bMarks : List Mark) (hb : bMarks.length ≤ 1000) : s93.F [.agg [.i .i64 bState, .i .i64 bSince, .i .i64 bOut, .sl .ro 2 (bMarks.map (rMark .ro))]] = some (.i .i64 (badN bMarks), [.u]) := mkS_eq (bMarks.length + 1) rfl rfl (fun cx h => by
  have hx := hb
  have hb0 := loopN_eq Try.f93 0 _ _ rfl rfl
  obtain ⟨hI, hr⟩ := loop_fold (cx := cx) (blk := 0) (body := loopN Try.f93 0) bMarks (fun k (s : Int) => ⟨E [(3, .i .i64 s), (7, .sl .ro 2 (bMarks.map (rMark .ro))), (8, .i .i64 bMarks.length), (9, .i .i64 k)], B [(1, [.i .i64 bState, .i .i64 bSince, .i .i64 bOut, .sl .ro 2 (bMarks.map (rMark .ro))])]⟩) (fun s => ⟨E [(3, .i .i64 s)], B []⟩) (fun x s => (if x.Good = true then s else s + 1)) (fun k s => 0 ≤ s ∧ s ≤ k)
      (fun s hI G => by simp only [go_sem, reduceIte, ↓reduceIte, reduceCtorEq, nA, nS, nM, nB, nE, nL, nT, nN, iL, iT, iE, iA, iM, iS, iG, iB, iN, iZ, h, Int.lt_irrefl, hb0, hx]) (fun k hk s hI => by
        have h1 : ((k : Int) < (bMarks.length : Int)) := Int.ofNat_lt.2 hk
        have w1 : (IntKind.i64).wrap (s + 1) = s + 1 := wrap_id (by omega) (by omega)
        cases hg : bMarks[k].Good
        all_goals exact ⟨by simp <;> omega, _, fun G => by simp only [go_sem, reduceIte, ↓reduceIte, reduceCtorEq, nA, nS, nM, nB, nE, nL, nT, nN, iL, iT, iE, iA, iM, iS, iG, iB, iN, iZ, h, map_gd (rMark .ro) bMarks k hk, w1, hg, h1, idx_nt _ _ hk, wrap_nat1 (show k < 9223372036854775807 by omega), hb0] <;> with_reducible rfl, by simp only [go_sem, reduceIte, ↓reduceIte, reduceCtorEq, nA, nS, nM, nB, nE, nL, nT, nN, iL, iT, iE, iA, iM, iS, iG, iB, iN, iZ, h, hg]⟩) 0 (by simp) (bMarks.length + 1) (Nat.le_refl _)
  rw [hb0] at hr
  simp only [go_sem, reduceIte, ↓reduceIte, reduceCtorEq, nA, nS, nM, nB, nE, nL, nT, nN, iL, iT, iE, iA, iM, iS, iG, iB, iN, iZ, h, hr, badN]) (rfl)
noncomputable def s59 : SP Try.prog := mkS tyA 59 Try.f59 [s90, s93] { md := [.rw 4, .ro 1, .ro 1, .ro 1], rg := [(0, [0, 3, 5, 6, 46], [0, 5, 6]), (1, [0, 3, 5, 6, 12, 46], [0, 5, 6]), (2, [0, 3, 5, 6, 12, 13, 46], [0, 5, 6]), (3, [0, 3, 5, 6, 46], [0, 5, 6]), (4, [0, 5, 6, 46], [0, 5, 6]), (5, [0, 5, 6, 41, 46], [0, 5, 6]), (6, [0, 5, 6, 46], [0, 5, 6]), (7, [0, 5, 6, 8, 46], [0, 5, 6]), (8, [0, 6, 46, 70], [0, 6]), (9, [0, 46], [0]), (10, [0, 3, 6, 46, 75], [0, 6]), (11, [0, 6, 46, 77], [0, 6]), (12, [0, 46], [0]), (13, [0, 46], [0])], rets := some ([0, 46], [0]), plan := [(4, (.take 1 (.take 2 (.take 3 (.take 4 (.take 5 (.take 6 (.take 7 (.alt 0 (.one 8 (.one 9 (.one 10 (.one 11 (.one 12 .done))))) (.one 8 (.alt 0 (.one 9 (.one 10 (.one 11 (.one 12 .done)))) (.one 9 (.one 0 (.one 10 (.one 11 (.one 12 .done)))))))))))))))), (8, (.take 0 (.take 1 (.take 2 (.take 3 (.take 4 (.take 5 (.take 6 (.take 7 (.take 10 (.take 11 (.take 12 (.take 13 (.one 8 (.take 9 (.take 14 (.take 15 .done)))))))))))))))))], fz := [5, 6] } Try.func59 (by kernel_rfl)
@[go_sem] theorem d59 : s59.g = 59 ∧ s59.fs = ⟨[.rw 4, .ro 1, .ro 1, .ro 1], s59.F, false⟩ := ⟨nr rfl, nr rfl⟩
@[go_sem] theorem e59 (bState bSince bOut : Int) (bMarks : List Mark) (rWindow rMin rRatio rCool rQuota now : Int) (good : Bool) (hf : breakerFault (Breaker.mk bState bSince bOut bMarks) = 0) (hg : rulesFault (Rules.mk rWindow rMin rRatio rCool rQuota) = 0) : s59.F [.agg [.i .i64 bState, .i .i64 bSince, .i .i64 bOut, .sl .mut 2 (bMarks.map (rMark .mut))], .agg [.i .i64 rWindow, .i .i64 rMin, .i .i64 rRatio, .i .i64 rCool, .i .i64 rQuota], .i .i64 now, .b good] = some (.tup [], [.agg (rBreaker .mut (noteM (Breaker.mk bState bSince bOut bMarks) (Rules.mk rWindow rMin rRatio rCool rQuota) now good)), .u, .u, .u]) := mkS_eq (0) rfl rfl (fun cx h => by
  have hB := breakerFault_ok hf
  have hR := rulesFault_ok hg
  simp only at hB hR
  have hk1 := kept_len (Breaker.mk bState bSince bOut bMarks) (Rules.mk rWindow rMin rRatio rCool rQuota) now
  simp only at hk1
  obtain ⟨K, hK⟩ : ∃ K, kept (Breaker.mk bState bSince bOut bMarks) (Rules.mk rWindow rMin rRatio rCool rQuota) now ++ [Mark.mk now good] = K := ⟨_, rfl⟩
  have hKl : K.length = (kept (Breaker.mk bState bSince bOut bMarks) (Rules.mk rWindow rMin rRatio rCool rQuota) now).length + 1 := by rw [← hK]; simp
  have hA : (kept (Breaker.mk bState bSince bOut bMarks) (Rules.mk rWindow rMin rRatio rCool rQuota) now).map (rMark .mut) ++ [[.i .i64 now, .b good]] = K.map (rMark .mut) := by rw [← hK]; simp [rMark]
  have hs : List.take (K.length - 1) (List.drop 1 (K.map (rMark .mut))) = (K.drop 1).map (rMark .mut) := by rw [List.take_of_length_le (by simp), List.map_drop]
  have hP : ((kept (Breaker.mk bState bSince bOut bMarks) (Rules.mk rWindow rMin rRatio rCool rQuota) now).length + 1) * 16 ≤ 140737488355328 := by omega
  obtain ⟨M, hM⟩ : ∃ M, noteMs (Breaker.mk bState bSince bOut bMarks) (Rules.mk rWindow rMin rRatio rCool rQuota) now good = M := ⟨_, rfl⟩
  have hM2 : M = if 60 < (K.length : Int) then K.drop 1 else K := by rw [← hM]; unfold noteMs; rw [hK]
  have hMl : M.length ≤ 61 := by rw [← hM]; exact noteMs_len _ _ _ _ hB.2.2.2.1
  have hb1 := badN_le M
  have w2 : (IntKind.i64).wrap (1000 * badN M) = 1000 * badN M := wrap_id (by omega) (by omega)
  have w3 : (IntKind.i64).wrap (rRatio * (M.length : Int)) = rRatio * (M.length : Int) := mul_wrap (by omega) (by omega) (by omega) (by omega)
  have hq1 : K.length ≤ 1000 := by omega
  have hq2 : (K.drop 1).length ≤ 1000 := by simp; omega
  have hq3 : (1 : Int) ≤ (K.length : Int) := by omega
  have hq4 : 1 + (K.length - 1) ≤ K.length := by omega
  have hq5 : 1 + (K.length - 1) = K.length := by omega
  have hE : Every (fun x => isTime x.At = true ∧ 0 ≤ rWindow ∧ rWindow ≤ 1000000) bMarks := fun x hx => ⟨badT_get hB.2.2.2.2.1 hx, by omega, by omega⟩
  have hx1 : bMarks.length ≤ 1048576 := by omega
  by_cases s1 : bState = 1
  · subst s1
    simp only [go_sem, reduceIte, ↓reduceIte, reduceCtorEq, nA, nS, nM, nB, nE, nL, nT, nN, iL, iT, iE, iA, iM, iS, iG, iB, iN, iZ, h, noteM]
  by_cases s2 : bState = 2
  · subst s2
    have hm : bMarks = [] := hB.2.2.2.2.2.2.1 (by decide)
    cases good
    · simp only [go_sem, reduceIte, ↓reduceIte, reduceCtorEq, nA, nS, nM, nB, nE, nL, nT, nN, iL, iT, iE, iA, iM, iS, iG, iB, iN, iZ, h, noteM]
    · simp only [go_sem, reduceIte, ↓reduceIte, reduceCtorEq, nA, nS, nM, nB, nE, nL, nT, nN, iL, iT, iE, iA, iM, iS, iG, iB, iN, iZ, h, noteM]
  have s0 : bState = 0 := by omega
  subst s0
  have ho : bOut = 0 := hB.2.2.2.2.2.2.2 (by decide)
  have hkd : (bMarks.filter fun x => !decide (addT x.At rWindow ≤ now)) = kept (Breaker.mk 0 bSince bOut bMarks) (Rules.mk rWindow rMin rRatio rCool rQuota) now := rfl
  by_cases c : 60 < (K.length : Int)
  · rw [if_pos c] at hM2
    by_cases d1 : rMin ≤ (M.length : Int) <;> by_cases d2 : rRatio * (M.length : Int) ≤ 1000 * badN M
    all_goals have hz1 := d1
    all_goals have hz2 := d2
    all_goals rw [hM2] at d1 d2 w2 w3
    all_goals simp only [go_sem, reduceIte, ↓reduceIte, reduceCtorEq, nA, nS, nM, nB, nE, nL, nT, nN, iL, iT, iE, iA, iM, iS, iG, iB, iN, iZ, h, noteM, hE, hx1, hkd, hA, hP, c, hs, hM, hz1, hz2, d1, d2, w2, w3, hq1, hq2, hq3, hq4, hq5, hM2, s1, s2]
  · rw [if_neg c] at hM2
    by_cases d1 : rMin ≤ (M.length : Int) <;> by_cases d2 : rRatio * (M.length : Int) ≤ 1000 * badN M
    all_goals have hz1 := d1
    all_goals have hz2 := d2
    all_goals rw [hM2] at d1 d2 w2 w3
    all_goals simp only [go_sem, reduceIte, ↓reduceIte, reduceCtorEq, nA, nS, nM, nB, nE, nL, nT, nN, iL, iT, iE, iA, iM, iS, iG, iB, iN, iZ, h, noteM, hE, hx1, hkd, hA, hP, c, hs, hM, hz1, hz2, d1, d2, w2, w3, hq1, hq2, hq3, hq4, hq5, hM2, s1, s2]) (by simp only [go_sem, reduceIte, ↓reduceIte, reduceCtorEq, nA, nS, nM, nB, nE, nL, nT, nN, iL, iT, iE, iA, iM, iS, iG, iB, iN, iZ, okRes, hasRo, hasRoL, hasRoLL])
noncomputable def s27 : SP Try.prog := mkS tyA 27 Try.f27 [s57, s58, s59] { md := [.ro 1, .ro 1, .ro 1, .ro 1], rg := [(0, [2, 3, 4, 5, 8, 25], [4, 5, 8, 10]), (1, [2, 3, 4, 5, 8, 9, 25], [4, 5, 8, 10]), (2, [2, 3, 4, 5, 8, 9, 16, 25], [4, 5, 8, 10]), (3, [8, 25], [8, 10]), (4, [2, 3, 5, 8, 10, 25], [5, 8, 10]), (5, [8, 10, 25], [8, 10]), (6, [8, 25], [8, 10])], rets := some ([8, 25], [8, 10]) } Try.func27 (by kernel_rfl)
@[go_sem] theorem d27 : s27.g = 27 ∧ s27.fs = ⟨[.ro 1, .ro 1, .ro 1, .ro 1], s27.F, false⟩ := ⟨nr rfl, nr rfl⟩
@[go_sem] theorem e27 (bState : Int) (bSince : Int) (bOut : Int) (bMarks : List Mark) (rWindow : Int) (rMin : Int) (rRatio : Int) (rCool : Int) (rQuota : Int) (now : Int) (good : Bool) (h0 : smL smMark (Breaker.mk bState bSince bOut bMarks).Marks) : s27.F [.agg [.i .i64 bState, .i .i64 bSince, .i .i64 bOut, .sl .ro 2 (bMarks.map (rMark .ro))], .agg [.i .i64 rWindow, .i .i64 rMin, .i .i64 rRatio, .i .i64 rCool, .i .i64 rQuota], .i .i64 now, .b good] = some (.agg (rBreakerResult .mut (noteOutcome (Breaker.mk bState bSince bOut bMarks) (Rules.mk rWindow rMin rRatio rCool rQuota) now good)), [.u, .u, .u, .u]) := mkS_eq (0) rfl rfl (fun cx h => by
  have hx := h0.1
  simp only at hx
  by_cases c : breakerCode (Breaker.mk bState bSince bOut bMarks) (Rules.mk rWindow rMin rRatio rCool rQuota) now = 0
  · have c1 := breakerCode_ok c
    simp only [go_sem, reduceIte, ↓reduceIte, reduceCtorEq, nA, nS, nM, nB, nE, nL, nT, nN, iL, iT, iE, iA, iM, iS, iG, iB, iN, iZ, h, noteOutcome, c, c1.1, c1.2.1, hx, h0]
  · have c1 : (breakerCode (Breaker.mk bState bSince bOut bMarks) (Rules.mk rWindow rMin rRatio rCool rQuota) now != 0) = true := by simpa using c
    simp only [go_sem, reduceIte, ↓reduceIte, reduceCtorEq, nA, nS, nM, nB, nE, nL, nT, nN, iL, iT, iE, iA, iM, iS, iG, iB, iN, iZ, h, noteOutcome, c, c1, hx, h0]) (by simp only [go_sem, reduceIte, ↓reduceIte, reduceCtorEq, nA, nS, nM, nB, nE, nL, nT, nN, iL, iT, iE, iA, iM, iS, iG, iB, iN, iZ, okRes, hasRo, hasRoL, hasRoLL])
noncomputable def s94 : SP Try.prog := mkS tyA 94 Try.f94 [] { md := [.ro 1, .ro 1], rg := [(0, [2, 3], [2, 3]), (1, [2, 3, 9], [2, 3]), (2, [4], []), (3, [14], []), (4, [4], []), (5, [4], [])], rets := some ([4], []) } Try.func94 (by kernel_rfl)
@[go_sem] theorem d94 : s94.g = 94 ∧ s94.fs = ⟨[.ro 1, .ro 1], s94.F, false⟩ := ⟨nr rfl, nr rfl⟩
@[go_sem] theorem e94 (xAt : Int) (xGood : Bool) (yAt : Int) (yGood : Bool) (h0 : smMark (Mark.mk xAt xGood)) : s94.F [.agg [.i .i64 xAt, .b xGood], .agg [.i .i64 yAt, .b yGood]] = some (.b (eqv (Mark.mk xAt xGood) (Mark.mk yAt yGood)), [.u, .u]) := mkS_eq (0) rfl rfl (fun cx h => by
  obtain ⟨q0, q1⟩ := h0
  simp only [go_sem, reduceIte, ↓reduceIte, reduceCtorEq, nA, nS, nM, nB, nE, nL, nT, nN, iL, iT, iE, iA, iM, iS, iG, iB, iN, iZ, h, eqv_intne, eqv_bytes, eqv_boolne, q0, q1]
  simp only [eqv_bool, eqv_int, Mark.eqv (Mark.mk xAt xGood) (Mark.mk yAt yGood), if_b, not_eq_t, if_nb, Bool.and_true]) (rfl)
noncomputable def s60 : SP Try.prog := mkS tyA 60 Try.f60 [s94] { md := [.ro 1, .ro 1], rg := [(0, [0, 1], []), (1, [0, 1, 10], []), (2, [4], []), (3, [0, 1, 5], []), (4, [0, 1, 5, 14], []), (5, [0, 1, 5], []), (6, [0, 1, 5, 26], []), (7, [4], []), (8, [4], [])], lv := [(0, [0, 1, 5], [])], out := [(0, [], [])], rets := some ([4], []), plan := [(6, (.take 0 (.take 1 (.take 2 (.take 3 (.take 4 (.take 5 (.take 6 (.take 7 (.one 8 (.take 9 .done)))))))))))] } Try.func60 (by kernel_rfl)
@[go_sem] theorem d60 : s60.g = 60 ∧ s60.fs = ⟨[.ro 1, .ro 1], s60.F, false⟩ := ⟨nr rfl, nr rfl⟩
@[go_sem] theorem e60 (xs ys : List Mark) (h0 : smL smMark xs) : s60.F [.sl .ro 2 (xs.map (rMark .ro)), .sl .ro 2 (ys.map (rMark .ro))] = some (.b (eqv xs ys), [.u, .u]) := mkS_eq (xs.length + 1) rfl rfl (fun cx h => by
  have hb := loopN_eq Try.f60 0 _ _ rfl rfl
  have hx := h0.1
  by_cases hl : xs.length = ys.length
  · obtain ⟨r, hr, hq⟩ := loop_list (cx := cx) (blk := 0) (body := loopN Try.f60 0) (xs.zip ys) (fun k (_ : Unit) => ⟨E [(0, .sl .ro 2 (xs.map (rMark .ro))), (1, .sl .ro 2 (ys.map (rMark .ro))), (5, .i .i64 k)], B []⟩) (fun _ => ⟨E [], B []⟩) (fun x _ => !eqv x.1 x.2) (fun _ _ => ()) (fun _ _ => (.ret, ⟨E [(4, .b false)], B []⟩)) (fun _ _ => True)
      (fun l _ G => by simp only [go_sem, reduceIte, ↓reduceIte, reduceCtorEq, nA, nS, nM, nB, nE, nL, nT, nN, iL, iT, iE, iA, iM, iS, iG, iB, iN, iZ, h, zip_len hl, hl, Int.lt_irrefl, hb]) (fun k hk l _ => by
        have hk : k < xs.length := by rwa [zip_len hl] at hk
        have h1 : ((k : Int) < (xs.length : Int)) := Int.ofNat_lt.2 hk
        have h2 := h0.2 _ (List.getElem_mem hk)
        have h3 : (xs.zip ys)[k] = (xs[k], ys[k]'(by omega)) := by simp
        rw [h3]
        cases hc : eqv xs[k] (ys[k]'(by omega))
        · exact .inl ⟨rfl, fun G => by simp only [go_sem, reduceIte, ↓reduceIte, reduceCtorEq, nA, nS, nM, nB, nE, nL, nT, nN, iL, iT, iE, iA, iM, iS, iG, iB, iN, iZ, h, hc, map_gd (rMark .ro) xs k hk, map_gd (rMark .ro) ys k (by omega), idx_nt ys.length k (by omega), h2, h1, idx_nt _ _ hk, wrap_nat1 (show k < 9223372036854775807 by omega), hb]⟩
        · exact .inr ⟨rfl, trivial, _, fun G => by simp only [go_sem, reduceIte, ↓reduceIte, reduceCtorEq, nA, nS, nM, nB, nE, nL, nT, nN, iL, iT, iE, iA, iM, iS, iG, iB, iN, iZ, h, hc, map_gd (rMark .ro) xs k hk, map_gd (rMark .ro) ys k (by omega), idx_nt ys.length k (by omega), h2, h1, idx_nt _ _ hk, wrap_nat1 (show k < 9223372036854775807 by omega), hb] <;> with_reducible rfl, by simp only [go_sem, reduceIte, ↓reduceIte, reduceCtorEq, nA, nS, nM, nB, nE, nL, nT, nN, iL, iT, iE, iA, iM, iS, iG, iB, iN, iZ, h]⟩) () trivial (xs.length + 1) (by rw [zip_len hl]; exact Nat.le_refl _)
    rw [hb] at hr
    have hl2 : ((xs.length : Int) != (ys.length : Int)) = false := by simp [hl]
    rcases hq with ⟨s', e1, e2, e3⟩ | ⟨x, s', e1, e3⟩
    · simp only [go_sem, reduceIte, ↓reduceIte, reduceCtorEq, nA, nS, nM, nB, nE, nL, nT, nN, iL, iT, iE, iA, iM, iS, iG, iB, iN, iZ, h, hl2, hr, e3, zip_eqv hl e1]
    · simp only [go_sem, reduceIte, ↓reduceIte, reduceCtorEq, nA, nS, nM, nB, nE, nL, nT, nN, iL, iT, iE, iA, iM, iS, iG, iB, iN, iZ, h, hl2, hr, e3, zip_nev hl e1]
  · have hl2 : ((xs.length : Int) != (ys.length : Int)) = true := by simpa using fun h => hl (Int.ofNat_inj.1 h)
    simp only [go_sem, reduceIte, ↓reduceIte, reduceCtorEq, nA, nS, nM, nB, nE, nL, nT, nN, iL, iT, iE, iA, iM, iS, iG, iB, iN, iZ, h, hl2, len_nev hl]) (rfl)
noncomputable def s29 : SP Try.prog := mkS tyA 29 Try.f29 [s60] { md := [.ro 1, .ro 1], rg := [(0, [2, 3], [2, 3]), (1, [2, 3, 9], [2, 3]), (2, [4], []), (3, [2, 3, 14], [2, 3]), (4, [4], []), (5, [2, 3, 19], [2, 3]), (6, [4], []), (7, [25], []), (8, [4], []), (9, [4], [])], rets := some ([4], []) } Try.func29 (by kernel_rfl)
@[go_sem] theorem d29 : s29.g = 29 ∧ s29.fs = ⟨[.ro 1, .ro 1], s29.F, false⟩ := ⟨nr rfl, nr rfl⟩
@[go_sem] theorem e29 (xState : Int) (xSince : Int) (xOut : Int) (xMarks : List Mark) (yState : Int) (ySince : Int) (yOut : Int) (yMarks : List Mark) (h0 : smBreaker (Breaker.mk xState xSince xOut xMarks)) : s29.F [.agg [.i .i64 xState, .i .i64 xSince, .i .i64 xOut, .sl .ro 2 (xMarks.map (rMark .ro))], .agg [.i .i64 yState, .i .i64 ySince, .i .i64 yOut, .sl .ro 2 (yMarks.map (rMark .ro))]] = some (.b (eqv (Breaker.mk xState xSince xOut xMarks) (Breaker.mk yState ySince yOut yMarks)), [.u, .u]) := mkS_eq (0) rfl rfl (fun cx h => by
  obtain ⟨q0, q1, q2, q3⟩ := h0
  simp only [go_sem, reduceIte, ↓reduceIte, reduceCtorEq, nA, nS, nM, nB, nE, nL, nT, nN, iL, iT, iE, iA, iM, iS, iG, iB, iN, iZ, h, eqv_intne, eqv_bytes, eqv_boolne, q0, q1, q2, q3]
  simp only [eqv_bool, eqv_int, Breaker.eqv (Breaker.mk xState xSince xOut xMarks) (Breaker.mk yState ySince yOut yMarks), if_b, not_eq_t, if_nb, Bool.and_true]) (rfl)
noncomputable def s28 : SP Try.prog := mkS tyA 28 Try.f28 [s29] { md := [.ro 1, .ro 1], rg := [(0, [2, 3], [2, 3]), (1, [2, 3, 9], [2, 3]), (2, [4], []), (3, [15], []), (4, [4], []), (5, [4], [])], rets := some ([4], []) } Try.func28 (by kernel_rfl)
@[go_sem] theorem d28 : s28.g = 28 ∧ s28.fs = ⟨[.ro 1, .ro 1], s28.F, false⟩ := ⟨nr rfl, nr rfl⟩
@[go_sem] theorem e28 (xCode : Int) (xBreakerState : Int) (xBreakerSince : Int) (xBreakerOut : Int) (xBreakerMarks : List Mark) (yCode : Int) (yBreakerState : Int) (yBreakerSince : Int) (yBreakerOut : Int) (yBreakerMarks : List Mark) (h0 : smBreakerResult (BreakerResult.mk xCode (Breaker.mk xBreakerState xBreakerSince xBreakerOut xBreakerMarks))) : s28.F [.agg [.i .i64 xCode, .i .i64 xBreakerState, .i .i64 xBreakerSince, .i .i64 xBreakerOut, .sl .ro 2 (xBreakerMarks.map (rMark .ro))], .agg [.i .i64 yCode, .i .i64 yBreakerState, .i .i64 yBreakerSince, .i .i64 yBreakerOut, .sl .ro 2 (yBreakerMarks.map (rMark .ro))]] = some (.b (eqv (BreakerResult.mk xCode (Breaker.mk xBreakerState xBreakerSince xBreakerOut xBreakerMarks)) (BreakerResult.mk yCode (Breaker.mk yBreakerState yBreakerSince yBreakerOut yBreakerMarks))), [.u, .u]) := mkS_eq (0) rfl rfl (fun cx h => by
  obtain ⟨q0, q1⟩ := h0
  simp only [go_sem, reduceIte, ↓reduceIte, reduceCtorEq, nA, nS, nM, nB, nE, nL, nT, nN, iL, iT, iE, iA, iM, iS, iG, iB, iN, iZ, h, eqv_intne, eqv_bytes, eqv_boolne, q0, q1]
  simp only [eqv_bool, eqv_int, BreakerResult.eqv (BreakerResult.mk xCode (Breaker.mk xBreakerState xBreakerSince xBreakerOut xBreakerMarks)) (BreakerResult.mk yCode (Breaker.mk yBreakerState yBreakerSince yBreakerOut yBreakerMarks)), if_b, not_eq_t, if_nb, Bool.and_true]) (rfl)
noncomputable def s61 : SP Try.prog := mkS tyA 61 Try.f61 [] { md := [.mv, .ro 1], rg := [(0, [0, 1], []), (1, [0, 1, 5], []), (2, [0, 1, 5, 9], []), (3, [0, 1, 5], []), (4, [0, 1, 5], []), (5, [0, 1, 5], []), (6, [0, 1, 5], []), (7, [0, 1, 5], []), (8, [0, 4], [])], lv := [(0, [0, 1, 5], [])], out := [(0, [0, 1], [])], rets := some ([0, 4], []) } Try.func61 (by kernel_rfl)
@[go_sem] theorem d61 : s61.g = 61 ∧ s61.fs = ⟨[.mv, .ro 1], s61.F, false⟩ := ⟨nr rfl, nr rfl⟩
@[go_sem] theorem e61 (xs : List Mark) (k : Int) (h1 : 0 ≤ k) (h0 : (mkL mkMarkE xs k).2 ≤ 9223372036854775807) : s61.F [.sl .mut 2 (xs.map (rMark .mut)), .i .i64 k] = some (.i .i64 (mkL mkMarkE xs k).2, [.sl .mut 2 ((mkL mkMarkE xs k).1.map (rMark .mut)), .u]) := mkS_eq (xs.length + 1) rfl rfl (fun cx h => by
  have hb := loopN_eq Try.f61 0 _ _ rfl rfl
  have hx := mkL_cnt mkMarkE_ge xs k
  have hr := (loop_fold (cx := cx) (blk := 0) (body := loopN Try.f61 0) xs (fun i (s : Int) => ⟨E [(0, .sl .mut 2 ((mkUp mkMarkE xs k i).map (rMark .mut))), (1, .i .i64 s), (5, .i .i64 i)], B []⟩) (fun _ => ⟨E [(0, .sl .mut 2 ((mkL mkMarkE xs k).1.map (rMark .mut))), (1, .i .i64 (mkL mkMarkE xs k).2)], B []⟩) (fun x s => (mkMarkE x s).2) (fun i s => s = mkAt mkMarkE xs k i)
    (fun s hI G => by simp only [go_sem, reduceIte, ↓reduceIte, reduceCtorEq, nA, nS, nM, nB, nE, nL, nT, nN, iL, iT, iE, iA, iM, iS, iG, iB, iN, iZ, h, Int.lt_irrefl, hb, mkUp_len, mkL_take, mkUp_take, mkUp_end, mkL_len, hI, mkAt_end]) (fun i hk s hI => by
      have h2 : ((i : Int) < (xs.length : Int)) := Int.ofNat_lt.2 hk
      have g1 := mkAt_ge mkMarkE_ge xs k i
      have g2 := mkAt_le mkMarkE_ge xs k i hk
      rw [← hI] at g1 g2

      have h3 := mkUp_set (f := mkMarkE) (rMark .mut) xs k i hk
      rw [← hI] at h3
      simp only [mkMarkE, rMark] at h3 g2
      have v0 : (IntKind.i64).wrap (s) = s := wrap_id (by omega) (by omega)
      have v1 : (IntKind.i64).wrap (s + 1) = s + 1 := wrap_id (by omega) (by omega)
      have v2 : (IntKind.i64).wrap (s + 1 + 1) = s + 1 + 1 := wrap_id (by omega) (by omega)
      have hL : i < ((mkUp mkMarkE xs k i).map (rMark .mut)).length := by rw [List.length_map, mkUp_len]; exact hk
      have hg := fun y => set_get ((mkUp mkMarkE xs k i).map (rMark .mut)) i y hL
      have hG := fun y => set_getD ((mkUp mkMarkE xs k i).map (rMark .mut)) i y hL
      refine ⟨by rw [mkAt_succ xs k i hk, ← hI], _, fun G => by simp only [go_sem, reduceIte, ↓reduceIte, reduceCtorEq, nA, nS, nM, nB, nE, nL, nT, nN, iL, iT, iE, iA, iM, iS, iG, iB, iN, iZ, h, h3, hg, hG, mkUp_len (f := mkMarkE) xs k i, mkUp_get (f := mkMarkE) (rMark .mut) xs k i hk, mkUp_getD (f := mkMarkE) (rMark .mut) xs k i hk, mkUp_take (f := mkMarkE) (rMark .mut) xs k i, mkB_def, v0, v1, v2, h2, idx_nt _ _ hk, wrap_nat1 (show i < 9223372036854775807 by omega), hb] <;> with_reducible rfl, by simp only [go_sem, reduceIte, ↓reduceIte, reduceCtorEq, nA, nS, nM, nB, nE, nL, nT, nN, iL, iT, iE, iA, iM, iS, iG, iB, iN, iZ, h, mkMarkE]⟩) k rfl (xs.length + 1) (Nat.le_refl _)).2
  rw [hb] at hr
  simp only [go_sem, reduceIte, ↓reduceIte, reduceCtorEq, nA, nS, nM, nB, nE, nL, nT, nN, iL, iT, iE, iA, iM, iS, iG, iB, iN, iZ, h, hr, mkUp_zero]) (by simp only [go_sem, reduceIte, ↓reduceIte, reduceCtorEq, nA, nS, nM, nB, nE, nL, nT, nN, iL, iT, iE, iA, iM, iS, iG, iB, iN, iZ, okRes, hasRo])
noncomputable def s30 : SP Try.prog := mkS tyA 30 Try.f30 [s61] { md := [.mv, .ro 1], rg := [(0, [0, 1, 2], [2]), (1, [0, 1], []), (2, [0, 4], [])], rets := some ([0, 4], []), al := [2] } Try.func30 (by kernel_rfl)
@[go_sem] theorem d30 : s30.g = 30 ∧ s30.fs = ⟨[.mv, .ro 1], s30.F, false⟩ := ⟨nr rfl, nr rfl⟩
@[go_sem] theorem e30 (xState : Int) (xSince : Int) (xOut : Int) (xMarks : List Mark) (k : Int) (h1 : 0 ≤ k) (h0 : (mkBreakerV (Breaker.mk xState xSince xOut xMarks) k).2 ≤ 9223372036854775807) : s30.F [.agg [.i .i64 xState, .i .i64 xSince, .i .i64 xOut, .sl .mut 2 (xMarks.map (rMark .mut))], .i .i64 k] = some (.i .i64 (mkBreakerV (Breaker.mk xState xSince xOut xMarks) k).2, [.agg (rBreaker .mut (mkBreakerV (Breaker.mk xState xSince xOut xMarks) k).1), .u]) := mkS_eq (0) rfl rfl (fun cx h => by
  obtain ⟨q0, hq0⟩ : ∃ q, (mkL mkMarkE xMarks k).2 = q := ⟨_, rfl⟩
  have b0 := mkL_ge mkMarkE_ge xMarks k
  rw [hq0] at b0
  have p0 : 0 ≤ k := by omega
  simp only [mkBreakerV_eq, hq0] at h0
  have c0 : q0 ≤ 9223372036854775807 := by omega
  have d0 : ¬ (q0 < 0) := by omega
  simp only [go_sem, reduceIte, ↓reduceIte, reduceCtorEq, nA, nS, nM, nB, nE, nL, nT, nN, iL, iT, iE, iA, iM, iS, iG, iB, iN, iZ, h, p0, c0, d0, hq0, mkBreakerV_eq]) (by simp only [go_sem, reduceIte, ↓reduceIte, reduceCtorEq, nA, nS, nM, nB, nE, nL, nT, nN, iL, iT, iE, iA, iM, iS, iG, iB, iN, iZ, mkBreakerV_eq, okRes, hasRo, hasRoL, hasRoLL])
end Go.Vm.A
