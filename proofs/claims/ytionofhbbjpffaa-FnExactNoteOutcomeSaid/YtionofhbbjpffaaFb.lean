/- Functions of the program, walked by the evaluator. -/
import Derived.Test.YtionofhbbjpffaaFa
set_option autoImplicit false
set_option maxRecDepth 100000
set_option maxHeartbeats 4000000
set_option linter.unusedVariables false
set_option linter.unusedSimpArgs false
namespace Go.Vm.A
open Go.Proofs
open Nat renaming reduceAdd → nA, reduceSub → nS, reduceMul → nM, reduceBEq → nB, reduceEqDiff → nE, reduceLeDiff → nL, reduceLT → nT, reduceBneDiff → nN
open Int renaming reduceLE → iL, reduceLT → iT, reduceEq → iE, reduceAdd → iA, reduceMul → iM, reduceSub → iS, reduceNeg → iG, reduceBEq → iB, reduceBNe → iN, reduceToNat → iZ

noncomputable def s31 : SP Try.prog := mkS tyA 31 Try.f31 [s30] { md := [.mv, .ro 1], rg := [(0, [0, 1, 2], [2]), (1, [0, 1], []), (2, [0, 4], [])], rets := some ([0, 4], []), al := [2] } Try.func31 (by kernel_rfl)
@[go_sem] theorem d31 : s31.g = 31 ∧ s31.fs = ⟨[.mv, .ro 1], s31.F, false⟩ := ⟨nr rfl, nr rfl⟩
@[go_sem] theorem e31 (xCode : Int) (xBreakerState : Int) (xBreakerSince : Int) (xBreakerOut : Int) (xBreakerMarks : List Mark) (k : Int) (h1 : 0 ≤ k) (h0 : (mkBreakerResultV (BreakerResult.mk xCode (Breaker.mk xBreakerState xBreakerSince xBreakerOut xBreakerMarks)) k).2 ≤ 9223372036854775807) : s31.F [.agg [.i .i64 xCode, .i .i64 xBreakerState, .i .i64 xBreakerSince, .i .i64 xBreakerOut, .sl .mut 2 (xBreakerMarks.map (rMark .mut))], .i .i64 k] = some (.i .i64 (mkBreakerResultV (BreakerResult.mk xCode (Breaker.mk xBreakerState xBreakerSince xBreakerOut xBreakerMarks)) k).2, [.agg (rBreakerResult .mut (mkBreakerResultV (BreakerResult.mk xCode (Breaker.mk xBreakerState xBreakerSince xBreakerOut xBreakerMarks)) k).1), .u]) := mkS_eq (0) rfl rfl (fun cx h => by
  obtain ⟨q0, hq0⟩ : ∃ q, (mkBreakerV (Breaker.mk xBreakerState xBreakerSince xBreakerOut xBreakerMarks) k).2 = q := ⟨_, rfl⟩
  have b0 := mkBreakerV_ge (Breaker.mk xBreakerState xBreakerSince xBreakerOut xBreakerMarks) k
  rw [hq0] at b0
  have p0 : 0 ≤ k := by omega
  simp only [mkBreakerResultV_eq, hq0] at h0
  have c0 : q0 ≤ 9223372036854775807 := by omega
  have d0 : ¬ (q0 < 0) := by omega
  simp only [go_sem, reduceIte, ↓reduceIte, reduceCtorEq, nA, nS, nM, nB, nE, nL, nT, nN, iL, iT, iE, iA, iM, iS, iG, iB, iN, iZ, h, p0, c0, d0, hq0, mkBreakerResultV_eq]
  simp only [mkBreakerV_eq]) (by simp only [go_sem, reduceIte, ↓reduceIte, reduceCtorEq, nA, nS, nM, nB, nE, nL, nT, nN, iL, iT, iE, iA, iM, iS, iG, iB, iN, iZ, mkBreakerResultV_eq, okRes, hasRo, hasRoL, hasRoLL])
noncomputable def s95 : SP Try.prog := mkS tyA 95 Try.f95 [] { md := [.ro 1, .ro 1], rg := [(0, [0, 1], []), (1, [0, 1, 5], []), (2, [0, 1, 5, 9], []), (3, [0, 1, 5], []), (4, [0, 1, 5, 18], []), (5, [4], []), (6, [0, 1, 5], []), (7, [0, 1, 5, 29], []), (8, [4], []), (9, [0, 1, 5], []), (10, [4], [])], lv := [(0, [0, 1, 5], [])], out := [(0, [1], [])], rets := some ([4], []) } Try.func95 (by kernel_rfl)
@[go_sem] theorem d95 : s95.g = 95 ∧ s95.fs = ⟨[.ro 1, .ro 1], s95.F, false⟩ := ⟨nr rfl, nr rfl⟩
@[go_sem] theorem e95 (xs : List Mark) (k : Int) (h1 : 0 ≤ k) (h0 : (mkL mkMarkE xs k).2 ≤ 9223372036854775807) : s95.F [.sl .ro 2 ((mkL mkMarkE xs k).1.map (rMark .ro)), .i .i64 k] = some (.i .i64 (mkL mkMarkE xs k).2, [.u, .u]) := mkS_eq (xs.length + 1) rfl rfl (fun cx h => by
  have hb := loopN_eq Try.f95 0 _ _ rfl rfl
  have hx := mkL_cnt mkMarkE_ge xs k
  have hr := (loop_fold (cx := cx) (blk := 0) (body := loopN Try.f95 0) xs (fun i (s : Int) => ⟨E [(0, .sl .ro 2 ((mkL mkMarkE xs k).1.map (rMark .ro))), (1, .i .i64 s), (5, .i .i64 i)], B []⟩) (fun _ => ⟨E [(1, .i .i64 (mkL mkMarkE xs k).2)], B []⟩) (fun x s => (mkMarkE x s).2) (fun i s => s = mkAt mkMarkE xs k i)
    (fun s hI G => by simp only [go_sem, reduceIte, ↓reduceIte, reduceCtorEq, nA, nS, nM, nB, nE, nL, nT, nN, iL, iT, iE, iA, iM, iS, iG, iB, iN, iZ, h, Int.lt_irrefl, hb, mkL_len, hI, mkAt_end]) (fun i hk s hI => by
      have h2 : ((i : Int) < (xs.length : Int)) := Int.ofNat_lt.2 hk
      have g1 := mkAt_ge mkMarkE_ge xs k i
      have g2 := mkAt_le mkMarkE_ge xs k i hk
      rw [← hI] at g1 g2

      have h3 := mkL_gd (f := mkMarkE) (rMark .ro) xs k i hk
      rw [← hI] at h3
      simp only [mkMarkE, rMark] at h3 g2
      have v0 : (IntKind.i64).wrap (s) = s := wrap_id (by omega) (by omega)
      have v1 : (IntKind.i64).wrap (s + 1) = s + 1 := wrap_id (by omega) (by omega)
      have v2 : (IntKind.i64).wrap (s + 1 + 1) = s + 1 + 1 := wrap_id (by omega) (by omega)
      refine ⟨by rw [mkAt_succ xs k i hk, ← hI], _, fun G => by simp only [go_sem, reduceIte, ↓reduceIte, reduceCtorEq, nA, nS, nM, nB, nE, nL, nT, nN, iL, iT, iE, iA, iM, iS, iG, iB, iN, iZ, h, h3, mkL_len, mkB_def, v0, v1, v2, h2, idx_nt _ _ hk, wrap_nat1 (show i < 9223372036854775807 by omega), hb] <;> with_reducible rfl, by simp only [go_sem, reduceIte, ↓reduceIte, reduceCtorEq, nA, nS, nM, nB, nE, nL, nT, nN, iL, iT, iE, iA, iM, iS, iG, iB, iN, iZ, h, mkMarkE]⟩) k rfl (xs.length + 1) (Nat.le_refl _)).2
  rw [hb] at hr
  simp only [go_sem, reduceIte, ↓reduceIte, reduceCtorEq, nA, nS, nM, nB, nE, nL, nT, nN, iL, iT, iE, iA, iM, iS, iG, iB, iN, iZ, h, hr]) (rfl)
noncomputable def s62 : SP Try.prog := mkS tyA 62 Try.f62 [s95] { md := [.ro 1, .ro 1], rg := [(0, [1, 2], [2]), (1, [1], []), (2, [1, 10], []), (3, [4], []), (4, [4], [])], rets := some ([4], []) } Try.func62 (by kernel_rfl)
@[go_sem] theorem d62 : s62.g = 62 ∧ s62.fs = ⟨[.ro 1, .ro 1], s62.F, false⟩ := ⟨nr rfl, nr rfl⟩
@[go_sem] theorem e62 (xState : Int) (xSince : Int) (xOut : Int) (xMarks : List Mark) (k : Int) (h1 : 0 ≤ k) (h0 : (mkBreakerV (Breaker.mk xState xSince xOut xMarks) k).2 ≤ 9223372036854775807) : s62.F [.agg [.i .i64 xState, .i .i64 xSince, .i .i64 xOut, .sl .ro 2 ((mkL mkMarkE xMarks k).1.map (rMark .ro))], .i .i64 k] = some (.i .i64 (mkBreakerV (Breaker.mk xState xSince xOut xMarks) k).2, [.u, .u]) := mkS_eq (0) rfl rfl (fun cx h => by
  obtain ⟨q0, hq0⟩ : ∃ q, (mkL mkMarkE xMarks k).2 = q := ⟨_, rfl⟩
  have b0 := mkL_ge mkMarkE_ge xMarks k
  rw [hq0] at b0
  have p0 : 0 ≤ k := by omega
  simp only [mkBreakerV_eq, hq0] at h0
  have c0 : q0 ≤ 9223372036854775807 := by omega
  have d0 : ¬ (q0 < 0) := by omega
  simp only [go_sem, reduceIte, ↓reduceIte, reduceCtorEq, nA, nS, nM, nB, nE, nL, nT, nN, iL, iT, iE, iA, iM, iS, iG, iB, iN, iZ, h, p0, c0, d0, hq0, mkBreakerV_eq]) (rfl)
noncomputable def s32 : SP Try.prog := mkS tyA 32 Try.f32 [s62] { md := [.ro 1, .ro 1], rg := [(0, [1, 2], [2]), (1, [1], []), (2, [1, 10], []), (3, [4], []), (4, [4], [])], rets := some ([4], []) } Try.func32 (by kernel_rfl)
@[go_sem] theorem d32 : s32.g = 32 ∧ s32.fs = ⟨[.ro 1, .ro 1], s32.F, false⟩ := ⟨nr rfl, nr rfl⟩
@[go_sem] theorem e32 (xCode : Int) (xBreakerState : Int) (xBreakerSince : Int) (xBreakerOut : Int) (xBreakerMarks : List Mark) (k : Int) (h1 : 0 ≤ k) (h0 : (mkBreakerResultV (BreakerResult.mk xCode (Breaker.mk xBreakerState xBreakerSince xBreakerOut xBreakerMarks)) k).2 ≤ 9223372036854775807) : s32.F [.agg [.i .i64 xCode, .i .i64 xBreakerState, .i .i64 xBreakerSince, .i .i64 xBreakerOut, .sl .ro 2 ((mkL mkMarkE xBreakerMarks k).1.map (rMark .ro))], .i .i64 k] = some (.i .i64 (mkBreakerResultV (BreakerResult.mk xCode (Breaker.mk xBreakerState xBreakerSince xBreakerOut xBreakerMarks)) k).2, [.u, .u]) := mkS_eq (0) rfl rfl (fun cx h => by
  obtain ⟨q0, hq0⟩ : ∃ q, (mkBreakerV (Breaker.mk xBreakerState xBreakerSince xBreakerOut xBreakerMarks) k).2 = q := ⟨_, rfl⟩
  have b0 := mkBreakerV_ge (Breaker.mk xBreakerState xBreakerSince xBreakerOut xBreakerMarks) k
  rw [hq0] at b0
  have p0 : 0 ≤ k := by omega
  simp only [mkBreakerResultV_eq, hq0] at h0
  have c0 : q0 ≤ 9223372036854775807 := by omega
  have d0 : ¬ (q0 < 0) := by omega
  simp only [mkBreakerV_eq] at hq0
  simp only [go_sem, reduceIte, ↓reduceIte, reduceCtorEq, nA, nS, nM, nB, nE, nL, nT, nN, iL, iT, iE, iA, iM, iS, iG, iB, iN, iZ, h, p0, c0, d0, hq0, mkBreakerV_eq, mkBreakerResultV_eq]) (rfl)
noncomputable def s7 : SP Try.prog := mkS tyA 7 Try.f7 [s23, s24, s25, s26, s27, s28, s29, s30, s31, s32] { md := [.ro 1, .ro 1, .ro 1, .ro 1], rg := [(0, [2, 3, 4, 5], [4, 5]), (1, [2, 3, 4, 5, 9], [4, 5]), (2, [2, 3, 4, 5, 9], [4, 5]), (3, [2, 3, 4, 5, 21], [4, 5]), (4, [8], []), (5, [2, 3, 4, 5, 10], [4, 5, 10]), (6, [2, 3, 4, 5, 10, 11], [4, 5, 10, 11]), (7, [2, 3, 4, 5, 10, 11, 12], [4, 5, 10, 11, 12]), (8, [2, 3, 4, 5, 10, 11, 12, 40], [4, 5, 10, 11, 12]), (9, [8], []), (10, [2, 3, 4, 5, 10, 11, 12, 45], [4, 5, 10, 11, 12]), (11, [8], []), (12, [2, 3, 4, 5, 10, 11, 12, 13], [4, 5, 10, 11, 12]), (13, [2, 3, 4, 5, 10, 12, 13], [4, 5, 10, 12]), (14, [2, 3, 4, 5, 10, 12, 56], [4, 5, 10, 12]), (15, [8], []), (16, [2, 3, 4, 5, 10, 12, 14], [4, 5, 10, 12]), (17, [2, 3, 4, 5, 10, 12, 14], [4, 5, 10, 12]), (18, [2, 3, 4, 5, 10, 12, 14, 15], [4, 5, 10, 12]), (19, [2, 3, 4, 5, 10, 12, 14, 15], [4, 5, 10, 12]), (20, [2, 3, 4, 5, 10, 12, 14, 15, 64], [4, 5, 10, 12]), (21, [8], []), (22, [2, 3, 4, 5, 10, 12, 14, 67], [4, 5, 10, 12]), (23, [8], []), (24, [10, 12, 14, 16], [10, 12, 16]), (25, [12, 14, 78], [12]), (26, [8], []), (27, [12, 14, 15], [12]), (28, [14, 15], []), (29, [14, 15, 83], []), (30, [8], []), (31, [86], []), (32, [8], []), (33, [8], [])], rets := some ([8], []), plan := [(5, (.take 0 (.take 2 (.take 4 (.take 5 (.alt 1 (.alt 3 (.alt 6 (.one 7 (.one 8 .done)) (.one 7 (.one 6 (.one 8 .done)))) (.one 7 (.one 3 (.one 6 (.one 8 .done))))) (.one 7 (.one 1 (.one 3 (.one 6 (.one 8 .done))))))))))), (7, (.take 0 (.take 1 (.take 3 (.take 4 (.alt 2 (.alt 5 (.one 6 (.one 7 .done)) (.one 6 (.one 5 (.one 7 .done)))) (.one 6 (.one 2 (.one 5 (.one 7 .done)))))))))), (10, (.take 0 (.take 1 (.one 2 (.one 3 (.take 4 .done)))))), (24, (.take 0 (.take 2 (.take 4 (.take 5 (.alt 1 (.alt 3 (.alt 6 (.one 7 (.one 8 .done)) (.one 7 (.one 6 (.one 8 .done)))) (.one 7 (.one 3 (.one 6 (.one 8 .done))))) (.one 7 (.one 1 (.one 3 (.one 6 (.one 8 .done)))))))))))] } Try.func7 (by kernel_rfl)
@[go_sem] theorem d7 : s7.g = 7 ∧ s7.fs = ⟨[.ro 1, .ro 1, .ro 1, .ro 1], s7.F, false⟩ := ⟨nr rfl, nr rfl⟩
theorem e7 (bState : Int) (bSince : Int) (bOut : Int) (bMarks : List Mark) (rWindow : Int) (rMin : Int) (rRatio : Int) (rCool : Int) (rQuota : Int) (now : Int) (good : Bool) (h0 : okBreaker (Breaker.mk bState bSince bOut bMarks) ∧ okRules (Rules.mk rWindow rMin rRatio rCool rQuota) ∧ okInt now ∧ okBool good) : s7.F [.agg [.i .i64 bState, .i .i64 bSince, .i .i64 bOut, .sl .ro 2 (bMarks.map (rMark .ro))], .agg [.i .i64 rWindow, .i .i64 rMin, .i .i64 rRatio, .i .i64 rCool, .i .i64 rQuota], .i .i64 now, .b good] = some (.b true, [.u, .u, .u, .u]) := mkS_eq (0) rfl rfl (fun cx h => by
  have h0_0 := h0.1
  by_cases hc0 : szBreaker (Breaker.mk bState bSince bOut bMarks) 1048576 < 0
  · simp only [go_sem, reduceIte, ↓reduceIte, reduceCtorEq, nA, nS, nM, nB, nE, nL, nT, nN, iL, iT, iE, iA, iM, iS, iG, iB, iN, iZ, h, hc0, h0_0]
  obtain ⟨hs0, hl0⟩ := szBreaker_fact _ _ h0_0 (by decide) (by decide) (show 0 ≤ szBreaker (Breaker.mk bState bSince bOut bMarks) 1048576 by omega)
  have hs1 := sm_trivRules (Rules.mk rWindow rMin rRatio rCool rQuota)
  obtain ⟨R, hR⟩ : ∃ R, noteOutcome (Breaker.mk bState bSince bOut bMarks) (Rules.mk rWindow rMin rRatio rCool rQuota) now good = R := ⟨_, rfl⟩
  have hsm := noteOutcome_sm (Breaker.mk bState bSince bOut bMarks) (Rules.mk rWindow rMin rRatio rCool rQuota) now good
  rw [hR] at hsm
  have f0 := mkBreakerV_le (Breaker.mk bState bSince bOut bMarks) 1 hs0
  have g0 := mkBreakerV_ge (Breaker.mk bState bSince bOut bMarks) 1
  have f0' := Int.le_trans f0 (show _ ≤ (9223372036854775807 : Int) by decide)
  have g0' := Int.not_lt.2 (Int.le_trans (show (0 : Int) ≤ 1 by decide) g0)
  have f1 := mkBreakerResultV_le R 1 hsm
  have g1 := mkBreakerResultV_ge R 1
  have f1' := Int.le_trans f1 (show _ ≤ (9223372036854775807 : Int) by decide)
  have g1' := Int.not_lt.2 (Int.le_trans (show (0 : Int) ≤ 1 by decide) g1)
  simp only [mkBreakerResultV_eq, mkBreakerV_eq] at f0' g0' f1' g1'
  simp only [go_sem, reduceIte, ↓reduceIte, reduceCtorEq, nA, nS, nM, nB, nE, nL, nT, nN, iL, iT, iE, iA, iM, iS, iG, iB, iN, iZ, h, hc0, hs0, h0_0, hs1, hR, hsm, f0', g0', f1', g1', eqv_self, hs0.2.2.2, mkBreakerResultV_eq, mkBreakerV_eq]) (rfl)
end Go.Vm.A
