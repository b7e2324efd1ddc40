/- Functions of the program, walked by the evaluator. -/
import Derived.Test.YtahcdlpjkcbjgaaFa
set_option autoImplicit false
set_option maxRecDepth 100000
set_option maxHeartbeats 4000000
set_option linter.unusedVariables false
set_option linter.unusedSimpArgs false
namespace Go.Vm.A
open Go.Proofs
open Nat renaming reduceAdd → nA, reduceSub → nS, reduceMul → nM, reduceBEq → nB, reduceEqDiff → nE, reduceLeDiff → nL, reduceLT → nT, reduceBneDiff → nN
open Int renaming reduceLE → iL, reduceLT → iT, reduceEq → iE, reduceAdd → iA, reduceMul → iM, reduceSub → iS, reduceNeg → iG, reduceBEq → iB, reduceBNe → iN, reduceToNat → iZ

noncomputable def s61 : SP Try.prog := mkS tyA 61 Try.f61 [s92] { md := [.ro 1], rg := [(0, [1], [1]), (1, [30], []), (2, [2], []), (3, [2], [])], rets := some ([2], []) } Try.func61 (by kernel_rfl)
@[go_sem] theorem d61 : s61.g = 61 ∧ s61.fs = ⟨[.ro 1], s61.F, false⟩ := ⟨nr rfl, nr rfl⟩
@[go_sem] theorem e61 (rWindow : Int) (rMin : Int) (rRatio : Int) (rCool : Int) (rQuota : Int) : s61.F [.agg [.i .i64 rWindow, .i .i64 rMin, .i .i64 rRatio, .i .i64 rCool, .i .i64 rQuota]] = some (.i .i64 (rulesFault (Rules.mk rWindow rMin rRatio rCool rQuota)), [.u]) := mkS_eq (0) rfl rfl (fun cx h => by
  simp only [go_sem, reduceIte, ↓reduceIte, reduceCtorEq, nA, nS, nM, nB, nE, nL, nT, nN, iL, iT, iE, iA, iM, iS, iG, iB, iN, iZ, h]
  simp only [rulesFault]
  cases within rWindow 1 1000000 <;> cases within rMin 1 50 <;> cases within rRatio 1 1000 <;> cases within rCool 0 1000000 <;> cases within rQuota 1 5 <;> rfl) (rfl)
noncomputable def s43 : SP Try.prog := mkS tyA 43 Try.f43 [s47, s61, s64] { md := [.ro 1, .ro 1, .ro 1], rg := [(0, [0, 1, 2], []), (1, [0, 1, 2, 7], []), (2, [0, 1, 2, 7, 15], []), (3, [6], []), (4, [0, 2, 8], []), (5, [0, 2, 8, 22], []), (6, [6], []), (7, [0, 2, 34], []), (8, [6], []), (9, [0, 2, 9], []), (10, [54], []), (11, [6], []), (12, [6], [])], rets := some ([6], []) } Try.func43 (by kernel_rfl)
@[go_sem] theorem d43 : s43.g = 43 ∧ s43.fs = ⟨[.ro 1, .ro 1, .ro 1], s43.F, false⟩ := ⟨nr rfl, nr rfl⟩
@[go_sem] theorem e43 (bState : Int) (bSince : Int) (bOut : Int) (bMarks : List Mark) (rWindow : Int) (rMin : Int) (rRatio : Int) (rCool : Int) (rQuota : Int) (now : Int) (h0 : (Breaker.mk bState bSince bOut bMarks).Marks.length ≤ 1048576) : s43.F [.pr [.i .i64 bState, .i .i64 bSince, .i .i64 bOut, .sl .ro 2 (bMarks.map (rMark .ro))], .pr [.i .i64 rWindow, .i .i64 rMin, .i .i64 rRatio, .i .i64 rCool, .i .i64 rQuota], .i .i64 now] = some (.i .i64 (breakerCode (Breaker.mk bState bSince bOut bMarks) (Rules.mk rWindow rMin rRatio rCool rQuota) now), [.u, .u, .u]) := mkS_eq (0) rfl rfl (fun cx h => by
  simp only [breakerCode]
  by_cases c1 : breakerFault (Breaker.mk bState bSince bOut bMarks) = 0
  · by_cases c2 : rulesFault (Rules.mk rWindow rMin rRatio rCool rQuota) = 0
    · have hl := last_any (ms := bMarks) now (breakerFault_ok c1).2.2.2.2.2.1
      rcases Nat.eq_zero_or_pos bMarks.length with hp | hp
      · have hp0 : ¬ (0 : Int) < (bMarks.length : Int) := by omega
        have hl2 : (bMarks.any fun x => decide (now < x.At)) = false := by rw [List.length_eq_zero_iff.1 hp]; rfl
        simp only [go_sem, reduceIte, ↓reduceIte, reduceCtorEq, nA, nS, nM, nB, nE, nL, nT, nN, iL, iT, iE, iA, iM, iS, iG, iB, iN, iZ, h, h0, c1, c2, hp0, hl2]
        cases isTime now <;> by_cases d1 : now < bSince <;> simp [d1]
      · have hp1 : (0 : Int) < (bMarks.length : Int) := by omega
        have w1 : (IntKind.i64).wrap ((bMarks.length : Int) - 1) = ((bMarks.length - 1 : Nat) : Int) := by rw [wrap_id (by have := h0; simp only at this; omega) (by have := h0; simp only at this; omega)]; omega
        rw [getLast_of hp] at hl
        have hk : bMarks.length - 1 < bMarks.length := by omega
        simp only [go_sem, reduceIte, ↓reduceIte, reduceCtorEq, nA, nS, nM, nB, nE, nL, nT, nN, iL, iT, iE, iA, iM, iS, iG, iB, iN, iZ, h, h0, c1, c2, hp1, w1, idx_nt _ _ hk, map_gd (rMark .ro) bMarks _ hk, hl]
        cases isTime now <;> by_cases d1 : now < bSince <;> by_cases d2 : now < bMarks[bMarks.length - 1].At <;> simp [d1, d2]
    · have c2' : (rulesFault (Rules.mk rWindow rMin rRatio rCool rQuota) != 0) = true := by simpa using c2
      simp only [go_sem, reduceIte, ↓reduceIte, reduceCtorEq, nA, nS, nM, nB, nE, nL, nT, nN, iL, iT, iE, iA, iM, iS, iG, iB, iN, iZ, h, h0, c1, c2, c2']
  · have c1' : (breakerFault (Breaker.mk bState bSince bOut bMarks) != 0) = true := by simpa using c1
    simp only [go_sem, reduceIte, ↓reduceIte, reduceCtorEq, nA, nS, nM, nB, nE, nL, nT, nN, iL, iT, iE, iA, iM, iS, iG, iB, iN, iZ, h, h0, c1, c1']) (rfl)
noncomputable def s48 : SP Try.prog := mkS tyA 48 Try.f48 [] { md := [.ro 1], rg := [(0, [0], []), (1, [0, 3], []), (2, [0, 3, 4], []), (3, [0, 3, 4, 8], []), (4, [0, 3, 4], []), (5, [0, 3, 4, 16], []), (6, [0, 3, 4], []), (7, [2], [])], lv := [(0, [0, 3, 4], [])], out := [(0, [3], [])], rets := some ([2], []) } Try.func48 (by kernel_rfl)
@[go_sem] theorem d48 : s48.g = 48 ∧ s48.fs = ⟨[.ro 1], s48.F, false⟩ := ⟨nr rfl, nr rfl⟩
@[go_sem] theorem e48 (xs : List Mark) (hb : xs.length ≤ 1000) : s48.F [.sl .ro 2 (xs.map (rMark .ro))] = some (.i .i64 (badN xs), [.u]) := mkS_eq (xs.length + 1) rfl rfl (fun cx h => by
  have hx := hb
  have hb0 := loopN_eq Try.f48 0 _ _ rfl rfl
  obtain ⟨hI, hr⟩ := loop_fold (cx := cx) (blk := 0) (body := loopN Try.f48 0) xs (fun k (s : Int) => ⟨E [(0, .sl .ro 2 (xs.map (rMark .ro))), (3, .i .i64 s), (4, .i .i64 k)], B []⟩) (fun s => ⟨E [(3, .i .i64 s)], B []⟩) (fun x s => (if x.Good = true then s else s + 1)) (fun k s => 0 ≤ s ∧ s ≤ k)
      (fun s hI G => by simp only [go_sem, reduceIte, ↓reduceIte, reduceCtorEq, nA, nS, nM, nB, nE, nL, nT, nN, iL, iT, iE, iA, iM, iS, iG, iB, iN, iZ, h, Int.lt_irrefl, hb0, hx]) (fun k hk s hI => by
        have h1 : ((k : Int) < (xs.length : Int)) := Int.ofNat_lt.2 hk
        have w1 : (IntKind.i64).wrap (s + 1) = s + 1 := wrap_id (by omega) (by omega)
        cases hg : xs[k].Good
        all_goals exact ⟨by simp <;> omega, _, fun G => by simp only [go_sem, reduceIte, ↓reduceIte, reduceCtorEq, nA, nS, nM, nB, nE, nL, nT, nN, iL, iT, iE, iA, iM, iS, iG, iB, iN, iZ, h, map_gd (rMark .ro) xs k hk, w1, hg, h1, idx_nt _ _ hk, wrap_nat1 (show k < 9223372036854775807 by omega), hb0] <;> with_reducible rfl, by simp only [go_sem, reduceIte, ↓reduceIte, reduceCtorEq, nA, nS, nM, nB, nE, nL, nT, nN, iL, iT, iE, iA, iM, iS, iG, iB, iN, iZ, h, hg]⟩) 0 (by simp) (xs.length + 1) (Nat.le_refl _)
  rw [hb0] at hr
  simp only [go_sem, reduceIte, ↓reduceIte, reduceCtorEq, nA, nS, nM, nB, nE, nL, nT, nN, iL, iT, iE, iA, iM, iS, iG, iB, iN, iZ, h, hr, badN]) (rfl)
noncomputable def s104 : SP Try.prog := mkS tyA 104 Try.f104 [] { md := [.ro 1, .ro 1], rg := [(0, [0, 1], []), (1, [0, 1, 7], []), (2, [4], []), (3, [4], [])], rets := some ([4], []) } Try.func104 (by kernel_rfl)
@[go_sem] theorem d104 : s104.g = 104 ∧ s104.fs = ⟨[.ro 1, .ro 1], s104.F, false⟩ := ⟨nr rfl, nr rfl⟩
@[go_sem] theorem e104 (a : Int) (b : Int) : s104.F [.i .i64 a, .i .i64 b] = some (.i .i64 (if a < b then a else b), [.u, .u]) := mkS_eq (0) rfl rfl (fun cx h => by
  simp only [go_sem, reduceIte, ↓reduceIte, reduceCtorEq, nA, nS, nM, nB, nE, nL, nT, nN, iL, iT, iE, iA, iM, iS, iG, iB, iN, iZ, h, if_i]) (rfl)
noncomputable def s91 : SP Try.prog := mkS tyA 91 Try.f91 [s104] { md := [.ro 1, .ro 1], rets := some ([4], []) } Try.func91 (by kernel_rfl)
@[go_sem] theorem d91 : s91.g = 91 ∧ s91.fs = ⟨[.ro 1, .ro 1], s91.F, false⟩ := ⟨nr rfl, nr rfl⟩
@[go_sem] theorem e91 (a : Int) (b : Int) (h0 : (isTime a = true ∧ 0 ≤ b ∧ b ≤ 1000000000000000)) : s91.F [.i .i64 a, .i .i64 b] = some (.i .i64 (addT a b), [.u, .u]) := mkS_eq (0) rfl rfl (fun cx h => by
  have h1 := isTime_t.1 h0.1
  have h2 : (IntKind.i64).wrap (a + b) = a + b := wrap_id (by omega) (by omega)
  simp only [go_sem, reduceIte, ↓reduceIte, reduceCtorEq, nA, nS, nM, nB, nE, nL, nT, nN, iL, iT, iE, iA, iM, iS, iG, iB, iN, iZ, h, h2, minL, addT]
  try (split <;> first | rfl | (simp only [Option.some.injEq, Prod.mk.injEq, AV.i.injEq, true_and, and_true]; omega))) (rfl)
noncomputable def s45 : SP Try.prog := mkS tyA 45 Try.f45 [s48, s91] { md := [.rw 4, .ro 1, .ro 1, .ro 1], wk := true, rg := [(0, [0, 1, 2, 3, 8, 14], [0]), (1, [0, 1, 2, 3, 8, 14, 15], [0]), (2, [0, 1, 2, 3, 8, 17], [0]), (3, [0, 2, 3, 8], [0]), (4, [0, 2, 8, 23], [0]), (5, [0, 2, 8], [0]), (6, [0, 8], [0]), (7, [0, 8], [0]), (8, [0, 1, 2, 3, 8], [0]), (9, [0, 1, 2, 3, 8, 9], [0]), (10, [0, 1, 2, 3, 8, 9, 41], [0]), (11, [0, 1, 2, 3, 8, 9], [0]), (12, [0, 1, 2, 3, 8, 9, 58], [0]), (13, [0, 1, 2, 3, 8, 9], [0]), (14, [0, 1, 2, 8], [0]), (15, [0, 1, 2, 8, 77], [0]), (16, [0, 1, 2, 8], [0]), (17, [0, 1, 2, 8], [0]), (18, [0, 1, 2, 8, 10], [0]), (19, [0, 2, 8, 103], [0]), (20, [0, 2, 8], [0]), (21, [0, 8], [0]), (22, [0, 8], [0])], lv := [(1, [0, 1, 2, 3, 8, 9], [0])], out := [(1, [0, 1, 2, 3, 8], [0])], rets := some ([0, 8], [0]), plan := [(12, (.take 0 (.take 1 (.take 2 (.take 3 (.take 4 (.take 5 (.take 6 (.take 7 (.take 8 (.take 9 (.take 10 (.take 11 (.take 13 (.one 12 (.take 14 .done)))))))))))))))), (19, (.take 0 (.take 1 (.take 2 (.take 3 (.take 4 (.take 5 (.take 6 (.take 7 (.take 10 (.take 11 (.take 12 (.take 13 (.take 14 (.take 15 (.one 8 (.take 9 (.take 16 (.take 17 .done)))))))))))))))))))], ws := [(0, [(false, 0, 3)]), (8, [(true, 8, 0)]), (22, [(false, 0, 3)])] } Try.func45 (by kernel_rfl)
@[go_sem] theorem d45 : s45.g = 45 ∧ s45.fs = ⟨[.rw 4, .ro 1, .ro 1, .ro 1], s45.F, true⟩ := ⟨nr rfl, nr rfl⟩
@[go_sem] theorem e45 (bState bSince bOut : Int) (bMarks : List Mark) (rWindow rMin rRatio rCool rQuota now : Int) (good : Bool) (hf : breakerFault (Breaker.mk bState bSince bOut bMarks) = 0) (hg : rulesFault (Rules.mk rWindow rMin rRatio rCool rQuota) = 0) : s45.F [.agg [.i .i64 bState, .i .i64 bSince, .i .i64 bOut, .sl .mut 2 (bMarks.map (rMark .mut))], .pr [.i .i64 rWindow, .i .i64 rMin, .i .i64 rRatio, .i .i64 rCool, .i .i64 rQuota], .i .i64 now, .b good] = some (.tup [], [.agg [.i .i64 (noteM (Breaker.mk bState bSince bOut bMarks) (Rules.mk rWindow rMin rRatio rCool rQuota) now good).State, .i .i64 (noteM (Breaker.mk bState bSince bOut bMarks) (Rules.mk rWindow rMin rRatio rCool rQuota) now good).Since, .i .i64 (noteM (Breaker.mk bState bSince bOut bMarks) (Rules.mk rWindow rMin rRatio rCool rQuota) now good).Out, .sl .app 2 ((noteM (Breaker.mk bState bSince bOut bMarks) (Rules.mk rWindow rMin rRatio rCool rQuota) now good).Marks.map (rMark .ro))], .u, .u, .u]) := mkS_eq (bMarks.length + 1) rfl rfl (fun cx h => by
  have hB := breakerFault_ok hf
  have hR := rulesFault_ok hg
  simp only at hB hR
  have hk1 := kept_len (Breaker.mk bState bSince bOut bMarks) (Rules.mk rWindow rMin rRatio rCool rQuota) now
  simp only at hk1
  obtain ⟨K, hK⟩ : ∃ K, kept (Breaker.mk bState bSince bOut bMarks) (Rules.mk rWindow rMin rRatio rCool rQuota) now ++ [Mark.mk now good] = K := ⟨_, rfl⟩
  have hKl : K.length = (kept (Breaker.mk bState bSince bOut bMarks) (Rules.mk rWindow rMin rRatio rCool rQuota) now).length + 1 := by rw [← hK]; simp
  have hA : (kept (Breaker.mk bState bSince bOut bMarks) (Rules.mk rWindow rMin rRatio rCool rQuota) now).map (rMark .ro) ++ [[.i .i64 now, .b good]] = K.map (rMark .ro) := by rw [← hK]; simp [rMark]
  have hs : List.take (K.length - 1) (List.drop 1 (K.map (rMark .ro))) = (K.drop 1).map (rMark .ro) := by rw [List.take_of_length_le (by simp), List.map_drop]
  have hP : ((kept (Breaker.mk bState bSince bOut bMarks) (Rules.mk rWindow rMin rRatio rCool rQuota) now).length + 1) * 16 ≤ 140737488355328 := by omega
  obtain ⟨M, hM⟩ : ∃ M, noteMs (Breaker.mk bState bSince bOut bMarks) (Rules.mk rWindow rMin rRatio rCool rQuota) now good = M := ⟨_, rfl⟩
  have hM2 : M = if 60 < (K.length : Int) then K.drop 1 else K := by rw [← hM]; unfold noteMs; rw [hK]
  have hMl : M.length ≤ 61 := by rw [← hM]; exact noteMs_len _ _ _ _ hB.2.2.2.1
  have hb1 := badN_le M
  have w2 : (IntKind.i64).wrap (1000 * badN M) = 1000 * badN M := wrap_id (by omega) (by omega)
  have w3 : (IntKind.i64).wrap (rRatio * (M.length : Int)) = rRatio * (M.length : Int) := mul_wrap (by omega) (by omega) (by omega) (by omega)
  have hq1 : K.length ≤ 1000 := by omega
  have hq2 : (K.drop 1).length ≤ 1000 := by simp; omega
  have hq3 : (1 : Int) ≤ (K.length : Int) := by omega
  have hq4 : 1 + (K.length - 1) ≤ K.length := by omega
  have hq5 : 1 + (K.length - 1) = K.length := by omega
  by_cases s1 : bState = 1
  · subst s1
    simp only [go_sem, reduceIte, ↓reduceIte, reduceCtorEq, nA, nS, nM, nB, nE, nL, nT, nN, iL, iT, iE, iA, iM, iS, iG, iB, iN, iZ, h, noteM]
  by_cases s2 : bState = 2
  · subst s2
    have hm : bMarks = [] := hB.2.2.2.2.2.2.1 (by decide)
    cases good
    · simp only [go_sem, reduceIte, ↓reduceIte, reduceCtorEq, nA, nS, nM, nB, nE, nL, nT, nN, iL, iT, iE, iA, iM, iS, iG, iB, iN, iZ, h, noteM]
      simp [hm]
    · simp only [go_sem, reduceIte, ↓reduceIte, reduceCtorEq, nA, nS, nM, nB, nE, nL, nT, nN, iL, iT, iE, iA, iM, iS, iG, iB, iN, iZ, h, noteM]
      simp [hm]
  have s0 : bState = 0 := by omega
  subst s0
  have ho : bOut = 0 := hB.2.2.2.2.2.2.2 (by decide)
  have hb0 := loopN_eq Try.f45 0 _ _ rfl rfl
  obtain ⟨hI, hr⟩ := loop_fold (cx := cx) (blk := 1) (body := loopN Try.f45 0) bMarks (fun k (s : List Mark) => ⟨E [(0, .p ⟨false, 0, [], 0⟩), (1, .pr [.i .i64 rWindow, .i .i64 rMin, .i .i64 rRatio, .i .i64 rCool, .i .i64 rQuota]), (2, .i .i64 now), (3, .b good), (8, .sl .app 2 (s.map (rMark .ro))), (9, .i .i64 k)], B [(0, [.i .i64 0, .i .i64 bSince, .i .i64 bOut, .sl .app 2 (bMarks.map (rMark .ro))])]⟩) (fun s => ⟨E [(0, .p ⟨false, 0, [], 0⟩), (1, .pr [.i .i64 rWindow, .i .i64 rMin, .i .i64 rRatio, .i .i64 rCool, .i .i64 rQuota]), (2, .i .i64 now), (3, .b good), (8, .sl .app 2 (s.map (rMark .ro)))], B [(0, [.i .i64 0, .i .i64 bSince, .i .i64 bOut, .sl .app 2 (bMarks.map (rMark .ro))])]⟩) (fun x s => (if decide (addT x.At rWindow ≤ now) = true then s else s ++ [x])) (fun k s => s.length ≤ k)
      (fun s hI G => by simp only [go_sem, reduceIte, ↓reduceIte, reduceCtorEq, nA, nS, nM, nB, nE, nL, nT, nN, iL, iT, iE, iA, iM, iS, iG, iB, iN, iZ, h, Int.lt_irrefl, hb0, show List.take bMarks.length (List.map (rMark .ro) bMarks) = List.map (rMark .ro) bMarks from List.take_of_length_le (by simp)]) (fun k hk s hI => by
        have h1 : ((k : Int) < (bMarks.length : Int)) := Int.ofNat_lt.2 hk
        have t1 := badT_get hB.2.2.2.2.1 (List.getElem_mem hk)
        have t2 : isTime bMarks[k].At = true ∧ 0 ≤ rWindow ∧ rWindow ≤ 1000000000000000 := ⟨t1, by omega, by omega⟩
        have t3 : (s.length + 1) * 16 ≤ 140737488355328 := by omega
        have t4 : s.map (rMark .ro) ++ [[.i .i64 bMarks[k].At, .b bMarks[k].Good]] = (s ++ [bMarks[k]]).map (rMark .ro) := by simp [rMark]
        have t5 : List.take bMarks.length (List.map (rMark .ro) bMarks) = List.map (rMark .ro) bMarks := List.take_of_length_le (by simp)
        by_cases hd : addT bMarks[k].At rWindow ≤ now
        all_goals have hd2 : (now < addT bMarks[k].At rWindow) = ¬ (addT bMarks[k].At rWindow ≤ now) := by simp
        all_goals exact ⟨by split <;> (try simp only [List.length_append, List.length_cons, List.length_nil]) <;> omega, _, fun G => by simp only [go_sem, reduceIte, ↓reduceIte, reduceCtorEq, nA, nS, nM, nB, nE, nL, nT, nN, iL, iT, iE, iA, iM, iS, iG, iB, iN, iZ, h, t2, t3, t4, t5, map_gd (rMark .ro) bMarks k hk, gd_map (rMark .ro) bMarks k hk, hd, hd2, h1, idx_nt _ _ hk, wrap_nat1 (show k < 9223372036854775807 by omega), hb0] <;> with_reducible rfl, by simp only [go_sem, reduceIte, ↓reduceIte, reduceCtorEq, nA, nS, nM, nB, nE, nL, nT, nN, iL, iT, iE, iA, iM, iS, iG, iB, iN, iZ, h, hd]⟩) [] (by simp) (bMarks.length + 1) (Nat.le_refl _)
  rw [hb0] at hr
  have hfold := fold_filter (fun (x : Mark) => decide (addT x.At rWindow ≤ now)) bMarks []
  simp only [List.nil_append] at hfold
  rw [hfold] at hr
  have hkd : (bMarks.filter fun x => !decide (addT x.At rWindow ≤ now)) = kept (Breaker.mk 0 bSince bOut bMarks) (Rules.mk rWindow rMin rRatio rCool rQuota) now := rfl
  rw [hkd] at hr
  by_cases c : 60 < (K.length : Int)
  · rw [if_pos c] at hM2
    by_cases d1 : rMin ≤ (M.length : Int) <;> by_cases d2 : rRatio * (M.length : Int) ≤ 1000 * badN M
    all_goals have hz1 := d1
    all_goals have hz2 := d2
    all_goals rw [hM2] at d1 d2 w2 w3
    all_goals simp only [go_sem, reduceIte, ↓reduceIte, reduceCtorEq, nA, nS, nM, nB, nE, nL, nT, nN, iL, iT, iE, iA, iM, iS, iG, iB, iN, iZ, h, noteM, hr, hA, hP, c, hs, hM, hz1, hz2, d1, d2, w2, w3, hq1, hq2, hq3, hq4, hq5, hM2, s1, s2] <;> simp only [ho]
  · rw [if_neg c] at hM2
    by_cases d1 : rMin ≤ (M.length : Int) <;> by_cases d2 : rRatio * (M.length : Int) ≤ 1000 * badN M
    all_goals have hz1 := d1
    all_goals have hz2 := d2
    all_goals rw [hM2] at d1 d2 w2 w3
    all_goals simp only [go_sem, reduceIte, ↓reduceIte, reduceCtorEq, nA, nS, nM, nB, nE, nL, nT, nN, iL, iT, iE, iA, iM, iS, iG, iB, iN, iZ, h, noteM, hr, hA, hP, c, hs, hM, hz1, hz2, d1, d2, w2, w3, hq1, hq2, hq3, hq4, hq5, hM2, s1, s2] <;> simp only [ho]) (rfl)
@[go_sem] theorem e45a (bState bSince bOut : Int) (bMarks : List Mark) (rWindow rMin rRatio rCool rQuota now : Int) (good : Bool) (hf : breakerFault (Breaker.mk bState bSince bOut bMarks) = 0) (hg : rulesFault (Rules.mk rWindow rMin rRatio rCool rQuota) = 0) : s45.F [.agg [.i .i64 bState, .i .i64 bSince, .i .i64 bOut, .sl .app 2 (bMarks.map (rMark .ro))], .pr [.i .i64 rWindow, .i .i64 rMin, .i .i64 rRatio, .i .i64 rCool, .i .i64 rQuota], .i .i64 now, .b good] = some (.tup [], [.agg [.i .i64 (noteM (Breaker.mk bState bSince bOut bMarks) (Rules.mk rWindow rMin rRatio rCool rQuota) now good).State, .i .i64 (noteM (Breaker.mk bState bSince bOut bMarks) (Rules.mk rWindow rMin rRatio rCool rQuota) now good).Since, .i .i64 (noteM (Breaker.mk bState bSince bOut bMarks) (Rules.mk rWindow rMin rRatio rCool rQuota) now good).Out, .sl .app 2 ((noteM (Breaker.mk bState bSince bOut bMarks) (Rules.mk rWindow rMin rRatio rCool rQuota) now good).Marks.map (rMark .ro))], .u, .u, .u]) := mkS_eq (bMarks.length + 1) rfl rfl (fun cx h => by
  have hB := breakerFault_ok hf
  have hR := rulesFault_ok hg
  simp only at hB hR
  have hk1 := kept_len (Breaker.mk bState bSince bOut bMarks) (Rules.mk rWindow rMin rRatio rCool rQuota) now
  simp only at hk1
  obtain ⟨K, hK⟩ : ∃ K, kept (Breaker.mk bState bSince bOut bMarks) (Rules.mk rWindow rMin rRatio rCool rQuota) now ++ [Mark.mk now good] = K := ⟨_, rfl⟩
  have hKl : K.length = (kept (Breaker.mk bState bSince bOut bMarks) (Rules.mk rWindow rMin rRatio rCool rQuota) now).length + 1 := by rw [← hK]; simp
  have hA : (kept (Breaker.mk bState bSince bOut bMarks) (Rules.mk rWindow rMin rRatio rCool rQuota) now).map (rMark .ro) ++ [[.i .i64 now, .b good]] = K.map (rMark .ro) := by rw [← hK]; simp [rMark]
  have hs : List.take (K.length - 1) (List.drop 1 (K.map (rMark .ro))) = (K.drop 1).map (rMark .ro) := by rw [List.take_of_length_le (by simp), List.map_drop]
  have hP : ((kept (Breaker.mk bState bSince bOut bMarks) (Rules.mk rWindow rMin rRatio rCool rQuota) now).length + 1) * 16 ≤ 140737488355328 := by omega
  obtain ⟨M, hM⟩ : ∃ M, noteMs (Breaker.mk bState bSince bOut bMarks) (Rules.mk rWindow rMin rRatio rCool rQuota) now good = M := ⟨_, rfl⟩
  have hM2 : M = if 60 < (K.length : Int) then K.drop 1 else K := by rw [← hM]; unfold noteMs; rw [hK]
  have hMl : M.length ≤ 61 := by rw [← hM]; exact noteMs_len _ _ _ _ hB.2.2.2.1
  have hb1 := badN_le M
  have w2 : (IntKind.i64).wrap (1000 * badN M) = 1000 * badN M := wrap_id (by omega) (by omega)
  have w3 : (IntKind.i64).wrap (rRatio * (M.length : Int)) = rRatio * (M.length : Int) := mul_wrap (by omega) (by omega) (by omega) (by omega)
  have hq1 : K.length ≤ 1000 := by omega
  have hq2 : (K.drop 1).length ≤ 1000 := by simp; omega
  have hq3 : (1 : Int) ≤ (K.length : Int) := by omega
  have hq4 : 1 + (K.length - 1) ≤ K.length := by omega
  have hq5 : 1 + (K.length - 1) = K.length := by omega
  by_cases s1 : bState = 1
  · subst s1
    simp only [go_sem, reduceIte, ↓reduceIte, reduceCtorEq, nA, nS, nM, nB, nE, nL, nT, nN, iL, iT, iE, iA, iM, iS, iG, iB, iN, iZ, h, noteM]
  by_cases s2 : bState = 2
  · subst s2
    have hm : bMarks = [] := hB.2.2.2.2.2.2.1 (by decide)
    cases good
    · simp only [go_sem, reduceIte, ↓reduceIte, reduceCtorEq, nA, nS, nM, nB, nE, nL, nT, nN, iL, iT, iE, iA, iM, iS, iG, iB, iN, iZ, h, noteM]
      simp [hm]
    · simp only [go_sem, reduceIte, ↓reduceIte, reduceCtorEq, nA, nS, nM, nB, nE, nL, nT, nN, iL, iT, iE, iA, iM, iS, iG, iB, iN, iZ, h, noteM]
      simp [hm]
  have s0 : bState = 0 := by omega
  subst s0
  have ho : bOut = 0 := hB.2.2.2.2.2.2.2 (by decide)
  have hb0 := loopN_eq Try.f45 0 _ _ rfl rfl
  obtain ⟨hI, hr⟩ := loop_fold (cx := cx) (blk := 1) (body := loopN Try.f45 0) bMarks (fun k (s : List Mark) => ⟨E [(0, .p ⟨false, 0, [], 0⟩), (1, .pr [.i .i64 rWindow, .i .i64 rMin, .i .i64 rRatio, .i .i64 rCool, .i .i64 rQuota]), (2, .i .i64 now), (3, .b good), (8, .sl .app 2 (s.map (rMark .ro))), (9, .i .i64 k)], B [(0, [.i .i64 0, .i .i64 bSince, .i .i64 bOut, .sl .app 2 (bMarks.map (rMark .ro))])]⟩) (fun s => ⟨E [(0, .p ⟨false, 0, [], 0⟩), (1, .pr [.i .i64 rWindow, .i .i64 rMin, .i .i64 rRatio, .i .i64 rCool, .i .i64 rQuota]), (2, .i .i64 now), (3, .b good), (8, .sl .app 2 (s.map (rMark .ro)))], B [(0, [.i .i64 0, .i .i64 bSince, .i .i64 bOut, .sl .app 2 (bMarks.map (rMark .ro))])]⟩) (fun x s => (if decide (addT x.At rWindow ≤ now) = true then s else s ++ [x])) (fun k s => s.length ≤ k)
      (fun s hI G => by simp only [go_sem, reduceIte, ↓reduceIte, reduceCtorEq, nA, nS, nM, nB, nE, nL, nT, nN, iL, iT, iE, iA, iM, iS, iG, iB, iN, iZ, h, Int.lt_irrefl, hb0, show List.take bMarks.length (List.map (rMark .ro) bMarks) = List.map (rMark .ro) bMarks from List.take_of_length_le (by simp)]) (fun k hk s hI => by
        have h1 : ((k : Int) < (bMarks.length : Int)) := Int.ofNat_lt.2 hk
        have t1 := badT_get hB.2.2.2.2.1 (List.getElem_mem hk)
        have t2 : isTime bMarks[k].At = true ∧ 0 ≤ rWindow ∧ rWindow ≤ 1000000000000000 := ⟨t1, by omega, by omega⟩
        have t3 : (s.length + 1) * 16 ≤ 140737488355328 := by omega
        have t4 : s.map (rMark .ro) ++ [[.i .i64 bMarks[k].At, .b bMarks[k].Good]] = (s ++ [bMarks[k]]).map (rMark .ro) := by simp [rMark]
        have t5 : List.take bMarks.length (List.map (rMark .ro) bMarks) = List.map (rMark .ro) bMarks := List.take_of_length_le (by simp)
        by_cases hd : addT bMarks[k].At rWindow ≤ now
        all_goals have hd2 : (now < addT bMarks[k].At rWindow) = ¬ (addT bMarks[k].At rWindow ≤ now) := by simp
        all_goals exact ⟨by split <;> (try simp only [List.length_append, List.length_cons, List.length_nil]) <;> omega, _, fun G => by simp only [go_sem, reduceIte, ↓reduceIte, reduceCtorEq, nA, nS, nM, nB, nE, nL, nT, nN, iL, iT, iE, iA, iM, iS, iG, iB, iN, iZ, h, t2, t3, t4, t5, map_gd (rMark .ro) bMarks k hk, gd_map (rMark .ro) bMarks k hk, hd, hd2, h1, idx_nt _ _ hk, wrap_nat1 (show k < 9223372036854775807 by omega), hb0] <;> with_reducible rfl, by simp only [go_sem, reduceIte, ↓reduceIte, reduceCtorEq, nA, nS, nM, nB, nE, nL, nT, nN, iL, iT, iE, iA, iM, iS, iG, iB, iN, iZ, h, hd]⟩) [] (by simp) (bMarks.length + 1) (Nat.le_refl _)
  rw [hb0] at hr
  have hfold := fold_filter (fun (x : Mark) => decide (addT x.At rWindow ≤ now)) bMarks []
  simp only [List.nil_append] at hfold
  rw [hfold] at hr
  have hkd : (bMarks.filter fun x => !decide (addT x.At rWindow ≤ now)) = kept (Breaker.mk 0 bSince bOut bMarks) (Rules.mk rWindow rMin rRatio rCool rQuota) now := rfl
  rw [hkd] at hr
  by_cases c : 60 < (K.length : Int)
  · rw [if_pos c] at hM2
    by_cases d1 : rMin ≤ (M.length : Int) <;> by_cases d2 : rRatio * (M.length : Int) ≤ 1000 * badN M
    all_goals have hz1 := d1
    all_goals have hz2 := d2
    all_goals rw [hM2] at d1 d2 w2 w3
    all_goals simp only [go_sem, reduceIte, ↓reduceIte, reduceCtorEq, nA, nS, nM, nB, nE, nL, nT, nN, iL, iT, iE, iA, iM, iS, iG, iB, iN, iZ, h, noteM, hr, hA, hP, c, hs, hM, hz1, hz2, d1, d2, w2, w3, hq1, hq2, hq3, hq4, hq5, hM2, s1, s2] <;> simp only [ho]
  · rw [if_neg c] at hM2
    by_cases d1 : rMin ≤ (M.length : Int) <;> by_cases d2 : rRatio * (M.length : Int) ≤ 1000 * badN M
    all_goals have hz1 := d1
    all_goals have hz2 := d2
    all_goals rw [hM2] at d1 d2 w2 w3
    all_goals simp only [go_sem, reduceIte, ↓reduceIte, reduceCtorEq, nA, nS, nM, nB, nE, nL, nT, nN, iL, iT, iE, iA, iM, iS, iG, iB, iN, iZ, h, noteM, hr, hA, hP, c, hs, hM, hz1, hz2, d1, d2, w2, w3, hq1, hq2, hq3, hq4, hq5, hM2, s1, s2] <;> simp only [ho]) (rfl)
noncomputable def s62 : SP Try.prog := mkS tyA 62 Try.f62 [] { md := [.rw 4, .ro 1, .ro 1], wk := true, rg := [(0, [0, 1, 2], [0]), (1, [0, 1, 2, 10], [0]), (2, [0, 1, 2, 10, 11], [0]), (3, [0, 6], [0]), (4, [0, 1, 2, 13], [0]), (5, [0, 25], [0]), (6, [0, 6], [0]), (7, [0], [0]), (8, [0], [0]), (9, [0, 6], [0]), (10, [0, 40], [0]), (11, [0, 6], [0]), (12, [0], [0]), (13, [0, 6], [0])], rets := some ([0, 6], [0]), plan := [(5, (.take 0 (.take 1 (.take 2 (.take 3 (.take 4 (.take 5 (.take 6 (.take 7 (.take 8 (.take 9 (.take 10 .done)))))))))))), (10, (.take 0 (.take 1 (.take 2 (.take 3 (.take 4 (.take 5 (.take 6 (.take 7 (.take 8 .done))))))))))] } Try.func62 (by kernel_rfl)
@[go_sem] theorem d62 : s62.g = 62 ∧ s62.fs = ⟨[.rw 4, .ro 1, .ro 1], s62.F, true⟩ := ⟨nr rfl, nr rfl⟩
@[go_sem] theorem e62 (bState bSince bOut : Int) (bMarks : List Mark) (rWindow rMin rRatio rCool rQuota now : Int) (hf : breakerFault (Breaker.mk bState bSince bOut bMarks) = 0) (hg : rulesFault (Rules.mk rWindow rMin rRatio rCool rQuota) = 0) (ht : isTime now = true) : s62.F [.agg [.i .i64 bState, .i .i64 bSince, .i .i64 bOut, .sl .app 2 (bMarks.map (rMark .ro))], .pr [.i .i64 rWindow, .i .i64 rMin, .i .i64 rRatio, .i .i64 rCool, .i .i64 rQuota], .i .i64 now] = some (.b (allowT (Breaker.mk bState bSince bOut bMarks) (Rules.mk rWindow rMin rRatio rCool rQuota) now), [.agg [.i .i64 (allowM (Breaker.mk bState bSince bOut bMarks) (Rules.mk rWindow rMin rRatio rCool rQuota) now).State, .i .i64 (allowM (Breaker.mk bState bSince bOut bMarks) (Rules.mk rWindow rMin rRatio rCool rQuota) now).Since, .i .i64 (allowM (Breaker.mk bState bSince bOut bMarks) (Rules.mk rWindow rMin rRatio rCool rQuota) now).Out, .sl .app 2 ((allowM (Breaker.mk bState bSince bOut bMarks) (Rules.mk rWindow rMin rRatio rCool rQuota) now).Marks.map (rMark .ro))], .u, .u]) := mkS_eq (0) rfl rfl (fun cx h => by
  have hB := breakerFault_ok hf
  have hR := rulesFault_ok hg
  simp only at hB hR
  have hT := isTime_t.1 ht
  have w1 : (IntKind.i64).wrap (now - bSince) = now - bSince := wrap_id (by omega) (by omega)
  have w2 : (IntKind.i64).wrap (bOut + 1) = bOut + 1 := wrap_id (by omega) (by omega)
  by_cases s0 : bState = 0
  · subst s0
    simp only [go_sem, reduceIte, ↓reduceIte, reduceCtorEq, nA, nS, nM, nB, nE, nL, nT, nN, iL, iT, iE, iA, iM, iS, iG, iB, iN, iZ, h, allowM, allowT]
  by_cases s1 : bState = 1
  · subst s1
    by_cases d : rCool ≤ now - bSince
    · have d' : ¬ now - bSince < rCool := by omega
      simp only [go_sem, reduceIte, ↓reduceIte, reduceCtorEq, nA, nS, nM, nB, nE, nL, nT, nN, iL, iT, iE, iA, iM, iS, iG, iB, iN, iZ, h, allowM, allowT, w1, d, d']
    · have d' : now - bSince < rCool := by omega
      simp only [go_sem, reduceIte, ↓reduceIte, reduceCtorEq, nA, nS, nM, nB, nE, nL, nT, nN, iL, iT, iE, iA, iM, iS, iG, iB, iN, iZ, h, allowM, allowT, w1, d, d']
  have s2 : bState = 2 := by omega
  subst s2
  by_cases d : bOut < rQuota
  · have d' : ¬ rQuota ≤ bOut := by omega
    simp only [go_sem, reduceIte, ↓reduceIte, reduceCtorEq, nA, nS, nM, nB, nE, nL, nT, nN, iL, iT, iE, iA, iM, iS, iG, iB, iN, iZ, h, allowM, allowT, w2, d, d']
  · have d' : rQuota ≤ bOut := by omega
    simp only [go_sem, reduceIte, ↓reduceIte, reduceCtorEq, nA, nS, nM, nB, nE, nL, nT, nN, iL, iT, iE, iA, iM, iS, iG, iB, iN, iZ, h, allowM, allowT, w2, d, d']) (rfl)
noncomputable def s17 : SP Try.prog := mkS tyA 17 Try.f17 [s43, s45, s61, s62] { md := [.ro 1, .ro 1], rg := [(0, [1, 2, 4], [2, 4, 7]), (1, [1, 2, 4, 5], [2, 4, 7]), (2, [1, 2, 4, 5, 14], [2, 4, 7]), (3, [4], [4, 7]), (4, [1, 2, 4, 19], [2, 4, 7]), (5, [4], [4, 7]), (6, [1, 2, 4, 6], [2, 4, 6, 7]), (7, [1, 2, 4, 6, 7], [2, 4, 6, 7]), (8, [1, 2, 4, 6, 7, 8], [2, 4, 6, 7]), (9, [1, 2, 4, 6, 7, 8, 26], [2, 4, 6, 7]), (10, [1, 2, 4, 6, 7, 8], [2, 4, 6, 7]), (11, [1, 2, 4, 6, 7, 8, 9], [2, 4, 6, 7]), (12, [1, 2, 4, 6, 7, 8, 9, 36], [2, 4, 6, 7]), (13, [4], [4, 7]), (14, [1, 2, 4, 6, 7, 8, 10], [2, 4, 6, 7]), (15, [1, 2, 4, 6, 7, 8, 10, 43], [2, 4, 6, 7]), (16, [1, 2, 4, 6, 7, 8, 10], [2, 4, 6, 7]), (17, [1, 2, 4, 6, 7, 8, 10], [2, 4, 6, 7]), (18, [1, 2, 4, 6, 7, 8, 10], [2, 4, 6, 7]), (19, [1, 2, 4, 6, 7, 8], [2, 4, 6, 7]), (20, [4], [4, 7])], lv := [(0, [1, 2, 4, 6, 7, 8], [2, 4, 6, 7])], out := [(0, [4, 7], [4, 7])], rets := some ([4], [4, 7]), plan := [(17, (.take 0 (.take 1 (.take 2 (.take 3 (.take 4 (.take 5 (.take 6 (.take 7 (.take 8 (.take 9 (.one 10 .done))))))))))))], fz := [2], ws := [(8, [(false, 6, 3)])] } Try.func17 (by kernel_rfl)
@[go_sem] theorem d17 : s17.g = 17 ∧ s17.fs = ⟨[.ro 1, .ro 1], s17.F, false⟩ := ⟨nr rfl, nr rfl⟩
@[go_sem] theorem e17 (rWindow : Int) (rMin : Int) (rRatio : Int) (rCool : Int) (rQuota : Int) (list : List Trace) : s17.F [.agg [.i .i64 rWindow, .i .i64 rMin, .i .i64 rRatio, .i .i64 rCool, .i .i64 rQuota], .sl .ro 3 (list.map (rTrace .ro))] = some (.agg (rStatesResult .mut (runTraces (Rules.mk rWindow rMin rRatio rCool rQuota) list)), [.u, .u]) := mkS_eq (list.length + 1) rfl rfl (fun cx h => by
  obtain ⟨f, hf⟩ : ∃ f, rulesFault (Rules.mk rWindow rMin rRatio rCool rQuota) = f := ⟨_, rfl⟩
  by_cases c1 : f = 0
  · subst c1
    by_cases c2 : 100 < (list.length : Int)
    · simp only [go_sem, reduceIte, ↓reduceIte, reduceCtorEq, nA, nS, nM, nB, nE, nL, nT, nN, iL, iT, iE, iA, iM, iS, iG, iB, iN, iZ, h, runTraces, hf, c2]
    have hb0 := loopN_eq Try.f17 0 _ _ rfl rfl
    obtain ⟨z, hz, hqz⟩ := loop_list (cx := cx) (blk := 0) (body := loopN Try.f17 0) list (fun k (s : Breaker × List Int × List Bool) => ⟨E [(1, .sl .ro 3 (list.map (rTrace .ro))), (2, .pr [.i .i64 rWindow, .i .i64 rMin, .i .i64 rRatio, .i .i64 rCool, .i .i64 rQuota]), (4, .p ⟨false, 4, [], 0⟩), (6, .p ⟨false, 6, [], 0⟩), (7, .p ⟨false, 7, [], 0⟩), (8, .i .i64 k)], B [(2, []), (4, [.i .i64 0, .sl .mut 1 [], .sl .mut 1 []]), (6, [.i .i64 s.1.State, .i .i64 s.1.Since, .i .i64 s.1.Out, .sl .app 2 (s.1.Marks.map (rMark .ro))]), (7, [.i .i64 0, .sl .mut 1 (s.2.1.map rInt), .sl .mut 1 (s.2.2.map rBool)])]⟩) (fun s => ⟨E [(4, .p ⟨false, 4, [], 0⟩), (7, .p ⟨false, 7, [], 0⟩)], B [(4, [.i .i64 0, .sl .mut 1 [], .sl .mut 1 []]), (7, [.i .i64 0, .sl .mut 1 (s.2.1.map rInt), .sl .mut 1 (s.2.2.map rBool)])]⟩) (fun x s => breakerCode s.1 (Rules.mk rWindow rMin rRatio rCool rQuota) x.At != 0) (fun x s => trStep (Rules.mk rWindow rMin rRatio rCool rQuota) s x) (fun x s => (.ret, ⟨E [(4, .p ⟨false, 4, [], 0⟩)], B [(4, [.i .i64 (breakerCode s.1 (Rules.mk rWindow rMin rRatio rCool rQuota) x.At), .sl .mut 1 [], .sl .mut 1 []]), (7, [.i .i64 0, .sl .mut 1 (s.2.1.map rInt), .sl .mut 1 (s.2.2.map rBool)])]⟩)) (fun k s => TrI k s)
        (fun s hI G => by simp only [go_sem, reduceIte, ↓reduceIte, reduceCtorEq, nA, nS, nM, nB, nE, nL, nT, nN, iL, iT, iE, iA, iM, iS, iG, iB, iN, iZ, h, Int.lt_irrefl, hb0, show List.take list.length (List.map (rTrace .ro) list) = List.map (rTrace .ro) list from List.take_of_length_le (by simp)]) (fun k hk s hI => by
          have h1 : ((k : Int) < (list.length : Int)) := Int.ofNat_lt.2 hk
          rcases s with ⟨⟨bS, bSi, bO, bM⟩, sts, als⟩
          obtain ⟨q1, q2, q3⟩ := hI
          simp only at q1 q2 q3
          have t1 : (sts.length + 1) * 8 ≤ 140737488355328 := by omega
          have t2 : (als.length + 1) * 1 ≤ 140737488355328 := by omega
          have t3 : bM.length ≤ 1048576 := by omega
          have t5 : List.take list.length (List.map (rTrace .ro) list) = List.map (rTrace .ro) list := List.take_of_length_le (by simp)
          have t6 : ∀ z, sts.map rInt ++ [[.i .i64 z]] = (sts ++ [z]).map rInt := fun z => by simp [rInt]
          have t7 : ∀ z, als.map rBool ++ [[.b z]] = (als ++ [z]).map rBool := fun z => by simp [rBool]
          obtain ⟨C, hC⟩ : ∃ C, breakerCode ⟨bS, bSi, bO, bM⟩ ⟨rWindow, rMin, rRatio, rCool, rQuota⟩ list[k].At = C := ⟨_, rfl⟩
          have u1 : C = 0 → breakerFault ⟨bS, bSi, bO, bM⟩ = 0 := fun c0 => (breakerCode_ok (hC.trans c0)).1
          have u2 : C = 0 → rulesFault ⟨rWindow, rMin, rRatio, rCool, rQuota⟩ = 0 := fun c0 => (breakerCode_ok (hC.trans c0)).2.1
          have u3 : C = 0 → isTime list[k].At = true := fun c0 => (breakerCode_ok (hC.trans c0)).2.2.1
          have u4 : C = 0 → TrI (k + 1) (trStep ⟨rWindow, rMin, rRatio, rCool, rQuota⟩ (⟨bS, bSi, bO, bM⟩, sts, als) list[k]) := fun c0 => trI _ _ _ _ ⟨q1, q2, q3⟩ (u1 c0)
          by_cases c0 : C = 0
          · skip
            have v1 := u1 c0
            have v2 := u2 c0
            have v3 := u3 c0
            cases a0 : list[k].Ask
            all_goals exact .inr ⟨by simp [hC, c0], u4 c0, _, fun G => by simp only [go_sem, reduceIte, ↓reduceIte, reduceCtorEq, nA, nS, nM, nB, nE, nL, nT, nN, iL, iT, iE, iA, iM, iS, iG, iB, iN, iZ, h, hC, c0, a0, v1, v2, v3, t1, t2, t3, t5, t6, t7, map_gd (rTrace .ro) list k hk, gd_map (rTrace .ro) list k hk, h1, idx_nt _ _ hk, wrap_nat1 (show k < 9223372036854775807 by omega), hb0] <;> with_reducible rfl, by simp only [go_sem, reduceIte, ↓reduceIte, reduceCtorEq, nA, nS, nM, nB, nE, nL, nT, nN, iL, iT, iE, iA, iM, iS, iG, iB, iN, iZ, h, trStep, a0]⟩
          · have c0' : (C != 0) = true := by simpa using c0
            exact .inl ⟨by simp [hC, c0], fun G => by simp only [go_sem, reduceIte, ↓reduceIte, reduceCtorEq, nA, nS, nM, nB, nE, nL, nT, nN, iL, iT, iE, iA, iM, iS, iG, iB, iN, iZ, h, hC, c0, t1, t2, t3, t5, t6, t7, map_gd (rTrace .ro) list k hk, gd_map (rTrace .ro) list k hk, c0', h1, idx_nt _ _ hk, wrap_nat1 (show k < 9223372036854775807 by omega), hb0]⟩) (⟨0, 0, 0, []⟩, [], []) ⟨Nat.zero_le _, rfl, rfl⟩ (list.length + 1) (Nat.le_refl _)
    rw [hb0] at hz
    rcases hqz with ⟨s', e1, _, e3⟩ | ⟨x, s', e1, e3⟩
    · have e1' : trRun (Rules.mk rWindow rMin rRatio rCool rQuota) list = .inl s' := e1
      simp only [go_sem, reduceIte, ↓reduceIte, reduceCtorEq, nA, nS, nM, nB, nE, nL, nT, nN, iL, iT, iE, iA, iM, iS, iG, iB, iN, iZ, h, runTraces, trFin, hf, c2, hz, e3, e1']
    · have e1' : trRun (Rules.mk rWindow rMin rRatio rCool rQuota) list = .inr (x, s') := e1
      simp only [go_sem, reduceIte, ↓reduceIte, reduceCtorEq, nA, nS, nM, nB, nE, nL, nT, nN, iL, iT, iE, iA, iM, iS, iG, iB, iN, iZ, h, runTraces, trFin, hf, c2, hz, e3, e1']
  · have c1' : (f != 0) = true := by simpa using c1
    simp only [go_sem, reduceIte, ↓reduceIte, reduceCtorEq, nA, nS, nM, nB, nE, nL, nT, nN, iL, iT, iE, iA, iM, iS, iG, iB, iN, iZ, h, runTraces, hf, c1, c1']) (by simp only [go_sem, reduceIte, ↓reduceIte, reduceCtorEq, nA, nS, nM, nB, nE, nL, nT, nN, iL, iT, iE, iA, iM, iS, iG, iB, iN, iZ, okRes, hasRo, hasRoL, hasRoLL])
noncomputable def s18 : SP Try.prog := mkS tyA 18 Try.f18 [] { md := [.ro 1, .ro 1], rg := [(0, [0, 1], []), (1, [0, 1, 10], []), (2, [4], []), (3, [0, 1, 5], []), (4, [0, 1, 5, 14], []), (5, [0, 1, 5], []), (6, [0, 1, 5, 25], []), (7, [4], []), (8, [4], [])], lv := [(0, [0, 1, 5], [])], out := [(0, [], [])], rets := some ([4], []), plan := [(6, (.take 0 (.take 1 (.take 2 (.take 3 (.take 4 (.take 5 (.take 6 (.take 7 (.take 8 .done))))))))))] } Try.func18 (by kernel_rfl)
@[go_sem] theorem d18 : s18.g = 18 ∧ s18.fs = ⟨[.ro 1, .ro 1], s18.F, false⟩ := ⟨nr rfl, nr rfl⟩
@[go_sem] theorem e18 (xs ys : List Int) (h0 : smL smInt xs) : s18.F [.sl .ro 1 (xs.map rInt), .sl .ro 1 (ys.map rInt)] = some (.b (eqv xs ys), [.u, .u]) := mkS_eq (xs.length + 1) rfl rfl (fun cx h => by
  have hx := h0.1
  by_cases hl : xs.length = ys.length
  · have hb0 := loopN_eq Try.f18 0 _ _ rfl rfl
    obtain ⟨r, hr, hq⟩ := loop_srch (cx := cx) (blk := 0) (body := loopN Try.f18 0) (xs.zip ys) (fun k (s : Unit) => ⟨E [(0, .sl .ro 1 (xs.map rInt)), (1, .sl .ro 1 (ys.map rInt)), (5, .i .i64 k)], B []⟩) (fun s => ⟨E [], B []⟩) (fun x s => !eqv x.1 x.2) (fun x s => s) (fun x s => (.ret, ⟨E [(4, .b false)], B []⟩)) (fun k s => True)
        (fun s hI G => by simp only [go_sem, reduceIte, ↓reduceIte, reduceCtorEq, nA, nS, nM, nB, nE, nL, nT, nN, iL, iT, iE, iA, iM, iS, iG, iB, iN, iZ, h, Int.lt_irrefl, hb0, zip_len hl, hl]) (fun k hk s hI => by
          have h1 : ((k : Int) < ((xs.zip ys).length : Int)) := Int.ofNat_lt.2 hk
          have hk' : k < xs.length := by rwa [zip_len hl] at hk
          have h1' : ((k : Int) < (xs.length : Int)) := Int.ofNat_lt.2 hk'
          have h2 := h0.2 _ (List.getElem_mem hk')
          have h3 : (xs.zip ys)[k] = (xs[k], ys[k]'(by omega)) := by simp
          rw [h3]
          exact ⟨_, _, _, fun G => by simp only [go_sem, reduceIte, ↓reduceIte, reduceCtorEq, nA, nS, nM, nB, nE, nL, nT, nN, iL, iT, iE, iA, iM, iS, iG, iB, iN, iZ, h, h1', idx_nt _ _ hk', idx_nt ys.length k (by omega), map_gd rInt xs k hk', map_gd rInt ys k (by omega), wrap_nat1 (show k < 9223372036854775807 by omega), eqv_byte, eqv_intne, eqv_int, eqv_bytes, eqv_boolne, h1, idx_nt _ _ hk, wrap_nat1 (show k < 9223372036854775807 by omega), hb0] <;> with_reducible rfl, Iff.rfl, fun hc => ⟨trivial, by simp only [go_sem, reduceIte, ↓reduceIte, reduceCtorEq, nA, nS, nM, nB, nE, nL, nT, nN, iL, iT, iE, iA, iM, iS, iG, iB, iN, iZ, h]⟩⟩) () trivial (xs.length + 1) (by rw [zip_len hl]; exact Nat.le_refl _)
    rw [hb0] at hr
    have hl2 : ((xs.length : Int) != (ys.length : Int)) = false := by simp [hl]
    rcases hq with ⟨s', e1, _, e3⟩ | ⟨x, s', e1, e3⟩
    · simp only [go_sem, reduceIte, ↓reduceIte, reduceCtorEq, nA, nS, nM, nB, nE, nL, nT, nN, iL, iT, iE, iA, iM, iS, iG, iB, iN, iZ, h, hl2, hr, e3, zip_eqv hl e1]
    · simp only [go_sem, reduceIte, ↓reduceIte, reduceCtorEq, nA, nS, nM, nB, nE, nL, nT, nN, iL, iT, iE, iA, iM, iS, iG, iB, iN, iZ, h, hl2, hr, e3, zip_nev hl e1]
  · have hl2 : ((xs.length : Int) != (ys.length : Int)) = true := by simpa using fun h => hl (Int.ofNat_inj.1 h)
    simp only [go_sem, reduceIte, ↓reduceIte, reduceCtorEq, nA, nS, nM, nB, nE, nL, nT, nN, iL, iT, iE, iA, iM, iS, iG, iB, iN, iZ, h, hl2, len_nev hl]) (rfl)
def allowFetch (b : Breaker) (r : Rules) (now : Int) : AllowResult := if breakerCode b r now = 0 then ⟨0, allowM b r now, allowT b r now⟩ else ⟨breakerCode b r now, ⟨0, 0, 0, []⟩, false⟩
noncomputable def s19 : SP Try.prog := mkS tyA 19 Try.f19 [s40, s41, s60] { md := [.ro 1, .ro 1, .ro 1], rg := [(0, [2, 3, 4, 6, 23], [3, 4, 6, 8]), (1, [2, 3, 4, 6, 7, 23], [3, 4, 6, 8]), (2, [2, 3, 4, 6, 7, 15, 23], [3, 4, 6, 8]), (3, [6, 23], [6, 8]), (4, [2, 4, 6, 8, 23], [4, 6, 8]), (5, [6, 8, 9, 23], [6, 8]), (6, [6, 23], [6, 8])], rets := some ([6, 23], [6, 8]) } Try.func19 (by kernel_rfl)
@[go_sem] theorem d19 : s19.g = 19 ∧ s19.fs = ⟨[.ro 1, .ro 1, .ro 1], s19.F, false⟩ := ⟨nr rfl, nr rfl⟩
@[go_sem] theorem e19 (bState : Int) (bSince : Int) (bOut : Int) (bMarks : List Mark) (rWindow : Int) (rMin : Int) (rRatio : Int) (rCool : Int) (rQuota : Int) (now : Int) (h0 : smL smMark (Breaker.mk bState bSince bOut bMarks).Marks) : s19.F [.agg [.i .i64 bState, .i .i64 bSince, .i .i64 bOut, .sl .ro 2 (bMarks.map (rMark .ro))], .agg [.i .i64 rWindow, .i .i64 rMin, .i .i64 rRatio, .i .i64 rCool, .i .i64 rQuota], .i .i64 now] = some (.agg (rAllowResult .mut (allowFetch (Breaker.mk bState bSince bOut bMarks) (Rules.mk rWindow rMin rRatio rCool rQuota) now)), [.u, .u, .u]) := mkS_eq (0) rfl rfl (fun cx h => by
  have hx := h0.1
  simp only at hx
  by_cases c : breakerCode (Breaker.mk bState bSince bOut bMarks) (Rules.mk rWindow rMin rRatio rCool rQuota) now = 0
  · have c1 := breakerCode_ok c
    simp only [go_sem, reduceIte, ↓reduceIte, reduceCtorEq, nA, nS, nM, nB, nE, nL, nT, nN, iL, iT, iE, iA, iM, iS, iG, iB, iN, iZ, h, allowFetch, c, c1.1, c1.2.1, c1.2.2.1, hx, h0]
  · have c1 : (breakerCode (Breaker.mk bState bSince bOut bMarks) (Rules.mk rWindow rMin rRatio rCool rQuota) now != 0) = true := by simpa using c
    simp only [go_sem, reduceIte, ↓reduceIte, reduceCtorEq, nA, nS, nM, nB, nE, nL, nT, nN, iL, iT, iE, iA, iM, iS, iG, iB, iN, iZ, h, allowFetch, c, c1, hx, h0]) (by simp only [go_sem, reduceIte, ↓reduceIte, reduceCtorEq, nA, nS, nM, nB, nE, nL, nT, nN, iL, iT, iE, iA, iM, iS, iG, iB, iN, iZ, okRes, hasRo, hasRoL, hasRoLL])
theorem tr_pre (r : Rules) : ∀ (xs : List Trace) (s s' : Breaker × List Int × List Bool), runS (fun x s => breakerCode s.1 r x.At != 0) (fun x s => trStep r s x) xs s = .inl s' → (∃ l, s'.2.1 = s.2.1 ++ l) ∧ ∃ l, s'.2.2 = s.2.2 ++ l
  | [], s, s', e => by cases e; exact ⟨⟨[], by simp⟩, ⟨[], by simp⟩⟩
  | x :: xs, s, s', e => by
    rw [runS_cons] at e
    split at e
    · cases e
    · obtain ⟨⟨l1, h1⟩, l2, h2⟩ := tr_pre r xs _ s' e
      unfold trStep at h1 h2
      split at h1 <;> rename_i hc
      · rw [if_pos hc] at h2; exact ⟨⟨_, by rw [h1]; simp only [List.append_assoc]; rfl⟩, ⟨_, by rw [h2]; simp only [List.append_assoc]; rfl⟩⟩
      · rw [if_neg hc] at h2; exact ⟨⟨_, by rw [h1]; simp only [List.append_assoc]; rfl⟩, ⟨_, by rw [h2]; simp only [List.append_assoc]; rfl⟩⟩
def LwI (r : Rules) (T : List Trace) (s' : Breaker × List Int × List Bool) (k : Nat) (s : Breaker × List Int × List Bool) : Prop := runS (fun x s => breakerCode s.1 r x.At != 0) (fun x s => trStep r s x) (T.drop k) s = .inl s' ∧ TrI k s
def okT (x : Trace) (r : Rules) (b : Breaker) : Bool := if x.Ask = true then allowT b r x.At else false
theorem lwI_step {r : Rules} {T : List Trace} {s' : Breaker × List Int × List Bool} {k : Nat} {s : Breaker × List Int × List Bool} (h : LwI r T s' k s) (hk : k < T.length) :
    breakerCode s.1 r T[k].At = 0 ∧ LwI r T s' (k + 1) (trStep r s T[k]) ∧ s'.2.1[k]? = some (trStep r s T[k]).1.State ∧ s'.2.2[k]? = some (okT T[k] r s.1) := by
  obtain ⟨h1, h2⟩ := h
  rw [List.drop_eq_getElem_cons hk, runS_cons] at h1
  split at h1
  · cases h1
  · rename_i hc
    have hc1 : breakerCode s.1 r T[k].At = 0 := by simpa using hc
    obtain ⟨⟨l1, e1⟩, l2, e2⟩ := tr_pre r _ _ s' h1
    obtain ⟨_, q2, q3⟩ := h2
    refine ⟨hc1, ⟨h1, trI r s T[k] k ⟨‹_›, q2, q3⟩ (breakerCode_ok hc1).1⟩, ?_, ?_⟩
    · rw [e1]; unfold trStep; split <;> simp [← q2]
    · rw [e2]; unfold trStep okT; split <;> simp [← q3]
theorem runS_inr {α σ : Type} {c : α → σ → Bool} {g : α → σ → σ} : ∀ {xs : List α} {s : σ} {q : α × σ}, runS c g xs s = .inr q → c q.1 q.2 = true
  | [], s, q, h => by cases h
  | x :: xs, s, q, h => by
    rw [runS_cons] at h
    split at h
    · rename_i hc; injection h with h; subst h; exact hc
    · exact runS_inr h
theorem trRun_ne {r : Rules} {xs : List Trace} {x : Trace} {s' : Breaker × List Int × List Bool} (h : trRun r xs = .inr (x, s')) : breakerCode s'.1 r x.At ≠ 0 := by
  have := runS_inr h
  simpa using this
theorem runTraces_inl {r : Rules} {xs : List Trace} {O : StatesResult} (h : runTraces r xs = O) (hc : O.Code = 0) : ∃ s', trRun r xs = .inl s' ∧ O = ⟨0, s'.2.1, s'.2.2⟩ := by
  unfold runTraces at h
  split at h
  · split at h
    · subst h; cases hc
    · cases hR : trRun r xs with
      | inl s' => rw [hR] at h; exact ⟨s', rfl, h.symm⟩
      | inr q =>
        exfalso
        obtain ⟨x, s'⟩ := q
        rw [hR] at h
        subst h
        exact trRun_ne hR hc
  · rename_i hn; subst h; exact absurd hc hn
theorem drFold_I (code : List UInt8) : ∀ (n k : Nat) (s : Int × Int × List Trace), DrI k s → k + n ≤ 200 → DrI (k + n) ((List.range n).foldl (fun s _ => drStep code s) s)
  | 0, k, s, h, _ => h
  | n + 1, k, s, h, hk => by
    rw [List.range_succ, List.foldl_append]
    exact drI code (k + n) _ (drFold_I code n k s h (by omega)) (by omega)
theorem drRun_len (code : List UInt8) : (drRun code).2.2.length ≤ 101 := by
  have h1 := drK_le code
  have h2 := drFold_I code (drK code).toNat 0 _ (drS0_I code) (by omega)
  have h3 := h2.2.2.2.2
  unfold drRun
  omega
noncomputable def s4 : SP Try.prog := mkS tyA 4 Try.f4 [s7, s9, s15, s16, s17, s18, s19] { md := [.ro 1], rg := [(0, [0], []), (1, [0, 12], []), (2, [2], []), (3, [3, 4], [3]), (4, [3, 4, 5], [3, 5]), (5, [3, 4, 5, 6], [3, 5, 6]), (6, [3, 4, 5, 45], [3, 5]), (7, [2], []), (8, [3, 4, 5, 48], [3, 5]), (9, [2], []), (10, [3, 4, 5, 7], [3, 5, 7]), (11, [3, 4, 5, 7, 8], [3, 5, 7]), (12, [3, 4, 5, 7, 8, 53], [3, 5, 7]), (13, [3, 4, 5, 7, 8], [3, 5, 7]), (14, [3, 4, 5, 7, 8, 60], [3, 5, 7]), (15, [3, 4, 5, 7, 8, 9], [3, 5, 7, 9]), (16, [3, 4, 5, 7, 8, 9, 81], [3, 5, 7, 9]), (17, [2], []), (18, [3, 4, 5, 7, 8], [3, 5, 7]), (19, [3, 4, 5, 7, 8, 10], [3, 5, 7, 10]), (20, [3, 4, 5, 7, 8, 10, 99], [3, 5, 7, 10]), (21, [2], []), (22, [3, 4, 5, 7, 8], [3, 5, 7]), (23, [3, 4, 5, 7, 8, 109], [3, 5, 7]), (24, [2], []), (25, [2], [])], lv := [(0, [3, 4, 5, 7, 8], [3, 5, 7])], out := [(0, [4, 5], [5])], rets := some ([2], []), al := [13], plan := [(15, (.take 0 (.take 1 (.take 2 (.take 3 (.take 4 (.take 5 (.take 6 (.alt 7 (.one 8 (.one 9 .done)) (.one 8 (.one 7 (.one 9 .done)))))))))))), (16, (.take 0 (.take 1 (.take 2 (.take 3 (.take 4 (.take 5 (.take 6 (.take 7 (.take 8 (.take 9 (.take 10 (.take 11 (.take 12 .done)))))))))))))), (19, (.take 0 (.take 1 (.take 2 (.take 3 (.take 4 (.take 5 (.take 6 (.take 7 (.take 8 (.take 9 (.take 10 (.take 11 (.alt 12 (.one 13 (.one 14 .done)) (.one 13 (.one 12 (.one 14 .done))))))))))))))))), (23, (.take 0 (.take 1 (.take 2 (.take 3 (.take 4 (.take 5 (.take 6 (.take 7 .done)))))))))] } Try.func4 (by kernel_rfl)
@[go_sem] theorem d4 : s4.g = 4 ∧ s4.fs = ⟨[.ro 1], s4.F, false⟩ := ⟨nr rfl, nr rfl⟩
theorem e4 (code : List UInt8) (h0 : okL okByte code) : s4.F [.sl .ro 1 (code.map rByte)] = some (.b true, [.u]) := mkS_eq (200) rfl rfl (fun cx h => by
  by_cases hb : 1048576 < (code.length : Int)
  · simp only [go_sem, reduceIte, ↓reduceIte, reduceCtorEq, nA, nS, nM, nB, nE, nL, nT, nN, iL, iT, iE, iA, iM, iS, iG, iB, iN, iZ, h, hb]
  obtain ⟨R, hR⟩ : ∃ R, drawRules code = R := ⟨_, rfl⟩
  obtain ⟨T, hT⟩ : ∃ T, (drRun code).2.2 = T := ⟨_, rfl⟩
  obtain ⟨O, hO⟩ : ∃ O, runTraces R T = O := ⟨_, rfl⟩
  have hsm := runTraces_sm R T
  rw [hO] at hsm
  have hs1 := hsm.2.1
  by_cases hc : O.Code = 0
  · obtain ⟨s', e1, hO2⟩ : ∃ s', trRun R T = .inl s' ∧ O = ⟨0, s'.2.1, s'.2.2⟩ := runTraces_inl hO hc
    subst hO2
    have hTr := trRun_len R T 0 _ s' ⟨Nat.zero_le _, rfl, rfl⟩ e1
    obtain ⟨_, z1, z2⟩ := hTr
    have hx : T.length ≤ 101 := by rw [← hT]; exact drRun_len code
    rw [Nat.zero_add] at z1 z2
    have w1 : (s'.2.1.map rInt).take T.length = s'.2.1.map rInt := List.take_of_length_le (by simp [z1])
    have w2 : (s'.2.2.map rBool).take T.length = s'.2.2.map rBool := List.take_of_length_le (by simp [z2])
    have hb0 := loopN_eq Try.f4 0 _ _ rfl rfl
    obtain ⟨hI, hr⟩ := loop_fold (cx := cx) (blk := 0) (body := loopN Try.f4 0) T (fun k (s : Breaker × List Int × List Bool) => ⟨E [(3, .p ⟨false, 3, [], 0⟩), (4, .sl .mut 3 (T.map (rTrace .mut))), (5, .p ⟨false, 5, [], 0⟩), (7, .p ⟨false, 7, [], 0⟩), (8, .i .i64 k)], B [(3, [.i .i64 R.Window, .i .i64 R.Min, .i .i64 R.Ratio, .i .i64 R.Cool, .i .i64 R.Quota]), (5, [.i .i64 0, .sl .mut 1 (s'.2.1.map rInt), .sl .mut 1 (s'.2.2.map rBool)]), (7, [.i .i64 s.1.State, .i .i64 s.1.Since, .i .i64 s.1.Out, .sl .mut 2 (s.1.Marks.map (rMark .mut))])]⟩) (fun s => ⟨E [(4, .sl .mut 3 (T.map (rTrace .mut))), (5, .p ⟨false, 5, [], 0⟩)], B [(5, [.i .i64 0, .sl .mut 1 (s'.2.1.map rInt), .sl .mut 1 (s'.2.2.map rBool)])]⟩) (fun x s => trStep R s x) (fun k s => LwI R T s' k s)
        (fun s hI G => by simp only [go_sem, reduceIte, ↓reduceIte, reduceCtorEq, nA, nS, nM, nB, nE, nL, nT, nN, iL, iT, iE, iA, iM, iS, iG, iB, iN, iZ, h, Int.lt_irrefl, hb0, List.length_map]) (fun k hk s hI => by
          have h1 : ((k : Int) < (T.length : Int)) := Int.ofNat_lt.2 hk
          have hJ := lwI_step hI hk
          have t1 : smL smMark s.1.Marks := marks_sm _ (Nat.le_trans hI.2.1 (by decide))
          have t2 := hJ.1
          have t3 := hJ.2.2.1
          have t4 := hJ.2.2.2
          have l1 : k < s'.2.1.length := by omega
          have l2 : k < s'.2.2.length := by omega
          simp only [okT] at t4
          cases a0 : T[k].Ask
          all_goals exact ⟨hJ.2.1, _, fun G => by simp only [go_sem, reduceIte, ↓reduceIte, reduceCtorEq, nA, nS, nM, nB, nE, nL, nT, nN, iL, iT, iE, iA, iM, iS, iG, iB, iN, iZ, h, t1, t2, t3, t4, a0, List.getElem?_map, Option.map_some, trStep, allowFetch, noteOutcome, idx_nt _ _ l1, idx_nt _ _ l2, map_gd (rTrace .mut) T k hk, map_gd (rTrace .ro) T k hk, gd_map (rTrace .mut) T k hk, h1, idx_nt _ _ hk, wrap_nat1 (show k < 9223372036854775807 by omega), hb0] <;> with_reducible rfl, by simp only [go_sem, reduceIte, ↓reduceIte, reduceCtorEq, nA, nS, nM, nB, nE, nL, nT, nN, iL, iT, iE, iA, iM, iS, iG, iB, iN, iZ, h, trStep, a0]⟩) (⟨0, 0, 0, []⟩, [], []) ⟨e1, Nat.zero_le _, rfl, rfl⟩ 200 (by omega)
    rw [hb0] at hr
    simp only [go_sem, reduceIte, ↓reduceIte, reduceCtorEq, nA, nS, nM, nB, nE, nL, nT, nN, iL, iT, iE, iA, iM, iS, iG, iB, iN, iZ, h, hb, hR, hT, hO, hs1, eqv_self, hr, z1, z2, w1, w2]
  · have hc' : (O.Code != 0) = true := by simpa using hc
    simp only [go_sem, reduceIte, ↓reduceIte, reduceCtorEq, nA, nS, nM, nB, nE, nL, nT, nN, iL, iT, iE, iA, iM, iS, iG, iB, iN, iZ, h, hb, hR, hT, hO, hs1, eqv_self, hc, hc']) (rfl)
end Go.Vm.A
