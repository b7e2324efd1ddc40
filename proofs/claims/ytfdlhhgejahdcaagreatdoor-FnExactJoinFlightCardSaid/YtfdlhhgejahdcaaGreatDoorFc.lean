/- Functions of the program, walked by the evaluator. -/
import Derived.Test.YtfdlhhgejahdcaaGreatDoorFb
set_option autoImplicit false
set_option maxRecDepth 100000
set_option maxHeartbeats 4000000
set_option linter.unusedVariables false
set_option linter.unusedSimpArgs false
namespace Go.Vm.A
open Go.Proofs
open Nat renaming reduceAdd → nA, reduceSub → nS, reduceMul → nM, reduceBEq → nB, reduceEqDiff → nE, reduceLeDiff → nL, reduceLT → nT, reduceBneDiff → nN
open Int renaming reduceLE → iL, reduceLT → iT, reduceEq → iE, reduceAdd → iA, reduceMul → iM, reduceSub → iS, reduceNeg → iG, reduceBEq → iB, reduceBNe → iN, reduceToNat → iZ

noncomputable def s132 : SP Tryz.prog := mkS tyA 132 Tryz.f132 [s131] { md := [.ro 1, .ro 1], rg := [(0, [0, 1], []), (1, [0, 1, 5], []), (2, [0, 1, 5, 9], []), (3, [0, 1, 5], []), (4, [0, 1, 5, 19], []), (5, [4], []), (6, [0, 1, 5], []), (7, [0, 1, 5, 29], []), (8, [4], []), (9, [0, 1, 5], []), (10, [4], [])], lv := [(0, [0, 1, 5], [])], out := [(0, [1], [])], rets := some ([4], []), plan := [(4, (.take 0 (.take 1 (.take 2 (.take 3 (.take 4 (.take 5 (.one 6 (.take 7 .done))))))))), (7, (.take 0 (.take 1 (.take 2 (.take 3 (.take 4 (.take 5 (.one 6 (.take 7 .done)))))))))] } Tryz.func132 (by kernel_rfl)
@[go_sem] theorem d132 : s132.g = 132 ∧ s132.fs = ⟨[.ro 1, .ro 1], s132.F, false⟩ := ⟨nr rfl, nr rfl⟩
@[go_sem] theorem e132 (xs : List Header) (k : Int) (h1 : 0 ≤ k) (h0 : (mkL mkHeaderE xs k).2 ≤ 9223372036854775807) : s132.F [.sl .ro 2 ((mkL mkHeaderE xs k).1.map (rHeader .ro)), .i .i64 k] = some (.i .i64 (mkL mkHeaderE xs k).2, [.u, .u]) := mkS_eq (xs.length + 1) rfl rfl (fun cx h => by
  have hb := loopN_eq Tryz.f132 0 _ _ rfl rfl
  have hx := mkL_cnt mkHeaderE_ge xs k
  have hr := (loop_fold (cx := cx) (blk := 0) (body := loopN Tryz.f132 0) xs (fun i (s : Int) => ⟨E [(0, .sl .ro 2 ((mkL mkHeaderE xs k).1.map (rHeader .ro))), (1, .i .i64 s), (5, .i .i64 i)], B []⟩) (fun _ => ⟨E [(1, .i .i64 (mkL mkHeaderE xs k).2)], B []⟩) (fun x s => (mkHeaderE x s).2) (fun i s => s = mkAt mkHeaderE xs k i)
    (fun s hI G => by simp only [go_sem, reduceIte, ↓reduceIte, reduceCtorEq, nA, nS, nM, nB, nE, nL, nT, nN, iL, iT, iE, iA, iM, iS, iG, iB, iN, iZ, h, Int.lt_irrefl, hb, mkL_len, hI, mkAt_end]) (fun i hk s hI => by
      have h2 : ((i : Int) < (xs.length : Int)) := Int.ofNat_lt.2 hk
      have g1 := mkAt_ge mkHeaderE_ge xs k i
      have g2 := mkAt_le mkHeaderE_ge xs k i hk
      rw [← hI] at g1 g2

      have h3 := mkL_gd (f := mkHeaderE) (rHeader .ro) xs k i hk
      rw [← hI] at h3
      simp only [mkHeaderE, rHeader] at h3 g2
      have v0 : (IntKind.i64).wrap (s) = s := wrap_id (by omega) (by omega)
      have t1 : s + 1 ≤ 9223372036854775807 := by omega
      have v1 : (IntKind.i64).wrap (s + 1) = s + 1 := wrap_id (by omega) (by omega)
      have t2 : s + 1 + 1 ≤ 9223372036854775807 := by omega
      have v2 : (IntKind.i64).wrap (s + 1 + 1) = s + 1 + 1 := wrap_id (by omega) (by omega)
      refine ⟨by rw [mkAt_succ xs k i hk, ← hI], _, fun G => by simp only [go_sem, reduceIte, ↓reduceIte, reduceCtorEq, nA, nS, nM, nB, nE, nL, nT, nN, iL, iT, iE, iA, iM, iS, iG, iB, iN, iZ, h, h3, mkL_len, mkB_def, v0, t1, v1, t2, v2, h2, idx_nt _ _ hk, wrap_nat1 (show i < 9223372036854775807 by omega), hb] <;> with_reducible rfl, by simp only [go_sem, reduceIte, ↓reduceIte, reduceCtorEq, nA, nS, nM, nB, nE, nL, nT, nN, iL, iT, iE, iA, iM, iS, iG, iB, iN, iZ, h, mkHeaderE]⟩) k rfl (xs.length + 1) (Nat.le_refl _)).2
  rw [hb] at hr
  simp only [go_sem, reduceIte, ↓reduceIte, reduceCtorEq, nA, nS, nM, nB, nE, nL, nT, nN, iL, iT, iE, iA, iM, iS, iG, iB, iN, iZ, h, hr]) (rfl)
noncomputable def s83 : SP Tryz.prog := mkS tyA 83 Tryz.f83 [s132] { md := [.ro 1, .ro 1], rg := [(0, [1, 2], [2]), (1, [1], []), (2, [1, 10], []), (3, [4], []), (4, [4], [])], rets := some ([4], []) } Tryz.func83 (by kernel_rfl)
@[go_sem] theorem d83 : s83.g = 83 ∧ s83.fs = ⟨[.ro 1, .ro 1], s83.F, false⟩ := ⟨nr rfl, nr rfl⟩
@[go_sem] theorem e83 (xMethod : ByteArray) (xHost : ByteArray) (xPath : ByteArray) (xHeaders : List Header) (k : Int) (h1 : 0 ≤ k) (h0 : (mkRequestV (Request.mk xMethod xHost xPath xHeaders) k).2 ≤ 9223372036854775807) : s83.F [.agg [.s xMethod, .s xHost, .s xPath, .sl .ro 2 ((mkL mkHeaderE xHeaders k).1.map (rHeader .ro))], .i .i64 k] = some (.i .i64 (mkRequestV (Request.mk xMethod xHost xPath xHeaders) k).2, [.u, .u]) := mkS_eq (0) rfl rfl (fun cx h => by
  obtain ⟨q0, hq0⟩ : ∃ q, (mkL mkHeaderE xHeaders k).2 = q := ⟨_, rfl⟩
  have b0 := mkL_ge mkHeaderE_ge xHeaders k
  rw [hq0] at b0
  have p0 : 0 ≤ k := by omega
  simp only [mkRequestV_eq, hq0] at h0
  have c0 : q0 ≤ 9223372036854775807 := by omega
  have d0 : ¬ (q0 < 0) := by omega
  simp only [go_sem, reduceIte, ↓reduceIte, reduceCtorEq, nA, nS, nM, nB, nE, nL, nT, nN, iL, iT, iE, iA, iM, iS, iG, iB, iN, iZ, h, p0, c0, d0, hq0, mkRequestV_eq]) (rfl)
noncomputable def s100 : SP Tryz.prog := mkS tyA 100 Tryz.f100 [] { md := [.ro 1, .ro 1], rg := [(0, [0, 1], []), (1, [0, 1, 5], []), (2, [0, 1, 5, 9], []), (3, [0, 1, 5], []), (4, [0, 1, 5, 18], []), (5, [4], []), (6, [0, 1, 5], []), (7, [0, 1, 5, 29], []), (8, [4], []), (9, [0, 1, 5], []), (10, [0, 1, 5, 38], []), (11, [4], []), (12, [0, 1, 5], []), (13, [0, 1, 5, 49], []), (14, [4], []), (15, [0, 1, 5], []), (16, [4], [])], lv := [(0, [0, 1, 5], [])], out := [(0, [1], [])], rets := some ([4], []) } Tryz.func100 (by kernel_rfl)
@[go_sem] theorem d100 : s100.g = 100 ∧ s100.fs = ⟨[.ro 1, .ro 1], s100.F, false⟩ := ⟨nr rfl, nr rfl⟩
@[go_sem] theorem e100 (xs : List Waiter) (k : Int) (h1 : 0 ≤ k) (h0 : (mkL mkWaiterE xs k).2 ≤ 9223372036854775807) : s100.F [.sl .ro 4 ((mkL mkWaiterE xs k).1.map (rWaiter .ro)), .i .i64 k] = some (.i .i64 (mkL mkWaiterE xs k).2, [.u, .u]) := mkS_eq (xs.length + 1) rfl rfl (fun cx h => by
  have hb := loopN_eq Tryz.f100 0 _ _ rfl rfl
  have hx := mkL_cnt mkWaiterE_ge xs k
  have hr := (loop_fold (cx := cx) (blk := 0) (body := loopN Tryz.f100 0) xs (fun i (s : Int) => ⟨E [(0, .sl .ro 4 ((mkL mkWaiterE xs k).1.map (rWaiter .ro))), (1, .i .i64 s), (5, .i .i64 i)], B []⟩) (fun _ => ⟨E [(1, .i .i64 (mkL mkWaiterE xs k).2)], B []⟩) (fun x s => (mkWaiterE x s).2) (fun i s => s = mkAt mkWaiterE xs k i)
    (fun s hI G => by simp only [go_sem, reduceIte, ↓reduceIte, reduceCtorEq, nA, nS, nM, nB, nE, nL, nT, nN, iL, iT, iE, iA, iM, iS, iG, iB, iN, iZ, h, Int.lt_irrefl, hb, mkL_len, hI, mkAt_end]) (fun i hk s hI => by
      have h2 : ((i : Int) < (xs.length : Int)) := Int.ofNat_lt.2 hk
      have g1 := mkAt_ge mkWaiterE_ge xs k i
      have g2 := mkAt_le mkWaiterE_ge xs k i hk
      rw [← hI] at g1 g2

      have h3 := mkL_gd (f := mkWaiterE) (rWaiter .ro) xs k i hk
      rw [← hI] at h3
      simp only [mkWaiterE, rWaiter] at h3 g2
      have v0 : (IntKind.i64).wrap (s) = s := wrap_id (by omega) (by omega)
      have v1 : (IntKind.i64).wrap (s + 1) = s + 1 := wrap_id (by omega) (by omega)
      have v2 : (IntKind.i64).wrap (s + 1 + 1) = s + 1 + 1 := wrap_id (by omega) (by omega)
      have v3 : (IntKind.i64).wrap (s + 1 + 1 + 1) = s + 1 + 1 + 1 := wrap_id (by omega) (by omega)
      have v4 : (IntKind.i64).wrap (s + 1 + 1 + 1 + 1) = s + 1 + 1 + 1 + 1 := wrap_id (by omega) (by omega)
      refine ⟨by rw [mkAt_succ xs k i hk, ← hI], _, fun G => by simp only [go_sem, reduceIte, ↓reduceIte, reduceCtorEq, nA, nS, nM, nB, nE, nL, nT, nN, iL, iT, iE, iA, iM, iS, iG, iB, iN, iZ, h, h3, mkL_len, mkB_def, v0, v1, v2, v3, v4, h2, idx_nt _ _ hk, wrap_nat1 (show i < 9223372036854775807 by omega), hb] <;> with_reducible rfl, by simp only [go_sem, reduceIte, ↓reduceIte, reduceCtorEq, nA, nS, nM, nB, nE, nL, nT, nN, iL, iT, iE, iA, iM, iS, iG, iB, iN, iZ, h, mkWaiterE]⟩) k rfl (xs.length + 1) (Nat.le_refl _)).2
  rw [hb] at hr
  simp only [go_sem, reduceIte, ↓reduceIte, reduceCtorEq, nA, nS, nM, nB, nE, nL, nT, nN, iL, iT, iE, iA, iM, iS, iG, iB, iN, iZ, h, hr]) (rfl)
noncomputable def s96 : SP Tryz.prog := mkS tyA 96 Tryz.f96 [s83, s100] { md := [.ro 1, .ro 1], rg := [(0, [1, 2], [2]), (1, [1, 2], [2]), (2, [1, 2, 10], [2]), (3, [4], []), (4, [1], []), (5, [1, 16], []), (6, [4], []), (7, [4], [])], rets := some ([4], []) } Tryz.func96 (by kernel_rfl)
@[go_sem] theorem d96 : s96.g = 96 ∧ s96.fs = ⟨[.ro 1, .ro 1], s96.F, false⟩ := ⟨nr rfl, nr rfl⟩
@[go_sem] theorem e96 (xId : Int) (xKey : ByteArray) (xBack : Bool) (xOut : Bool) (xDue : Int) (xDoomed : Bool) (xGetMethod : ByteArray) (xGetHost : ByteArray) (xGetPath : ByteArray) (xGetHeaders : List Header) (xWaiters : List Waiter) (k : Int) (h1 : 0 ≤ k) (h0 : (mkFlightV (Flight.mk xId xKey xBack xOut xDue xDoomed (Request.mk xGetMethod xGetHost xGetPath xGetHeaders) xWaiters) k).2 ≤ 9223372036854775807) : s96.F [.agg [.i .i64 xId, .s xKey, .b xBack, .b xOut, .i .i64 xDue, .b xDoomed, .s xGetMethod, .s xGetHost, .s xGetPath, .sl .ro 2 ((mkL mkHeaderE xGetHeaders k).1.map (rHeader .ro)), .sl .ro 4 ((mkL mkWaiterE xWaiters (mkL mkHeaderE xGetHeaders k).2).1.map (rWaiter .ro))], .i .i64 k] = some (.i .i64 (mkFlightV (Flight.mk xId xKey xBack xOut xDue xDoomed (Request.mk xGetMethod xGetHost xGetPath xGetHeaders) xWaiters) k).2, [.u, .u]) := mkS_eq (0) rfl rfl (fun cx h => by
  obtain ⟨q0, hq0⟩ : ∃ q, (mkRequestV (Request.mk xGetMethod xGetHost xGetPath xGetHeaders) k).2 = q := ⟨_, rfl⟩
  have b0 := mkRequestV_ge (Request.mk xGetMethod xGetHost xGetPath xGetHeaders) k
  rw [hq0] at b0
  have p0 : 0 ≤ k := by omega
  obtain ⟨q1, hq1⟩ : ∃ q, (mkL mkWaiterE xWaiters q0).2 = q := ⟨_, rfl⟩
  have b1 := mkL_ge mkWaiterE_ge xWaiters q0
  rw [hq1] at b1
  have p1 : 0 ≤ q0 := by omega
  simp only [mkFlightV_eq, hq0, hq1] at h0
  have c0 : q0 ≤ 9223372036854775807 := by omega
  have d0 : ¬ (q0 < 0) := by omega
  have c1 : q1 ≤ 9223372036854775807 := by omega
  have d1 : ¬ (q1 < 0) := by omega
  simp only [mkRequestV_eq] at hq0
  simp only [go_sem, reduceIte, ↓reduceIte, reduceCtorEq, nA, nS, nM, nB, nE, nL, nT, nN, iL, iT, iE, iA, iM, iS, iG, iB, iN, iZ, h, p0, p1, c0, d0, c1, d1, hq0, hq1, mkRequestV_eq, mkFlightV_eq]) (rfl)
noncomputable def s39 : SP Tryz.prog := mkS tyA 39 Tryz.f39 [s96] { md := [.ro 1, .ro 1], rg := [(0, [1, 2], [2]), (1, [1], []), (2, [1, 10], []), (3, [4], []), (4, [4], [])], rets := some ([4], []) } Tryz.func39 (by kernel_rfl)
@[go_sem] theorem d39 : s39.g = 39 ∧ s39.fs = ⟨[.ro 1, .ro 1], s39.F, false⟩ := ⟨nr rfl, nr rfl⟩
@[go_sem] theorem e39 (xCode : Int) (xFlightId : Int) (xFlightKey : ByteArray) (xFlightBack : Bool) (xFlightOut : Bool) (xFlightDue : Int) (xFlightDoomed : Bool) (xFlightGetMethod : ByteArray) (xFlightGetHost : ByteArray) (xFlightGetPath : ByteArray) (xFlightGetHeaders : List Header) (xFlightWaiters : List Waiter) (k : Int) (h1 : 0 ≤ k) (h0 : (mkFlightResultV (FlightResult.mk xCode (Flight.mk xFlightId xFlightKey xFlightBack xFlightOut xFlightDue xFlightDoomed (Request.mk xFlightGetMethod xFlightGetHost xFlightGetPath xFlightGetHeaders) xFlightWaiters)) k).2 ≤ 9223372036854775807) : s39.F [.agg [.i .i64 xCode, .i .i64 xFlightId, .s xFlightKey, .b xFlightBack, .b xFlightOut, .i .i64 xFlightDue, .b xFlightDoomed, .s xFlightGetMethod, .s xFlightGetHost, .s xFlightGetPath, .sl .ro 2 ((mkL mkHeaderE xFlightGetHeaders k).1.map (rHeader .ro)), .sl .ro 4 ((mkL mkWaiterE xFlightWaiters (mkL mkHeaderE xFlightGetHeaders k).2).1.map (rWaiter .ro))], .i .i64 k] = some (.i .i64 (mkFlightResultV (FlightResult.mk xCode (Flight.mk xFlightId xFlightKey xFlightBack xFlightOut xFlightDue xFlightDoomed (Request.mk xFlightGetMethod xFlightGetHost xFlightGetPath xFlightGetHeaders) xFlightWaiters)) k).2, [.u, .u]) := mkS_eq (0) rfl rfl (fun cx h => by
  obtain ⟨q0, hq0⟩ : ∃ q, (mkFlightV (Flight.mk xFlightId xFlightKey xFlightBack xFlightOut xFlightDue xFlightDoomed (Request.mk xFlightGetMethod xFlightGetHost xFlightGetPath xFlightGetHeaders) xFlightWaiters) k).2 = q := ⟨_, rfl⟩
  have b0 := mkFlightV_ge (Flight.mk xFlightId xFlightKey xFlightBack xFlightOut xFlightDue xFlightDoomed (Request.mk xFlightGetMethod xFlightGetHost xFlightGetPath xFlightGetHeaders) xFlightWaiters) k
  rw [hq0] at b0
  have p0 : 0 ≤ k := by omega
  simp only [mkFlightResultV_eq, hq0] at h0
  have c0 : q0 ≤ 9223372036854775807 := by omega
  have d0 : ¬ (q0 < 0) := by omega
  simp only [mkFlightV_eq, mkRequestV_eq] at hq0
  simp only [go_sem, reduceIte, ↓reduceIte, reduceCtorEq, nA, nS, nM, nB, nE, nL, nT, nN, iL, iT, iE, iA, iM, iS, iG, iB, iN, iZ, h, p0, c0, d0, hq0, mkFlightV_eq, mkRequestV_eq, mkFlightResultV_eq]) (rfl)
noncomputable def s5 : SP Tryz.prog := mkS tyA 5 Tryz.f5 [s30, s31, s32, s33, s34, s35, s36, s37, s38, s39] { md := [.ro 1, .ro 1, .ro 1], rg := [(0, [2, 3, 4], [3, 4]), (1, [2, 3, 4, 7], [3, 4]), (2, [2, 3, 4, 7], [3, 4]), (3, [2, 3, 4, 19], [3, 4]), (4, [6], []), (5, [2, 3, 4, 8], [3, 4, 8]), (6, [2, 3, 4, 8, 9], [3, 4, 8, 9]), (7, [2, 3, 4, 8, 9, 10], [3, 4, 8, 9, 10]), (8, [2, 3, 4, 8, 9, 10, 36], [3, 4, 8, 9, 10]), (9, [6], []), (10, [2, 3, 4, 8, 9, 10, 41], [3, 4, 8, 9, 10]), (11, [6], []), (12, [2, 3, 4, 8, 9, 10, 11], [3, 4, 8, 9, 10]), (13, [2, 3, 4, 8, 10, 11], [3, 4, 8, 10]), (14, [2, 3, 4, 8, 10, 52], [3, 4, 8, 10]), (15, [6], []), (16, [2, 3, 4, 8, 10, 12], [3, 4, 8, 10]), (17, [2, 3, 4, 8, 10, 12], [3, 4, 8, 10]), (18, [2, 3, 4, 8, 10, 12, 13], [3, 4, 8, 10]), (19, [2, 3, 4, 8, 10, 12, 13], [3, 4, 8, 10]), (20, [2, 3, 4, 8, 10, 12, 13, 60], [3, 4, 8, 10]), (21, [6], []), (22, [2, 3, 4, 8, 10, 12, 63], [3, 4, 8, 10]), (23, [6], []), (24, [8, 10, 12, 14], [8, 10, 14]), (25, [10, 12, 73], [10]), (26, [6], []), (27, [10, 12, 13], [10]), (28, [12, 13], []), (29, [12, 13, 78], []), (30, [6], []), (31, [81], []), (32, [6], []), (33, [6], [])], rets := some ([6], []), plan := [(5, (.take 0 (.take 2 (.take 4 (.alt 1 (.alt 3 (.alt 5 (.one 6 (.one 7 .done)) (.one 6 (.one 5 (.one 7 .done)))) (.one 6 (.one 3 (.one 5 (.one 7 .done))))) (.one 6 (.one 1 (.one 3 (.one 5 (.one 7 .done)))))))))), (7, (.take 0 (.take 1 (.take 3 (.alt 2 (.alt 4 (.one 5 (.one 6 .done)) (.one 5 (.one 4 (.one 6 .done)))) (.one 5 (.one 2 (.one 4 (.one 6 .done))))))))), (10, (.take 0 (.take 1 (.one 2 (.one 3 (.take 4 .done)))))), (24, (.take 0 (.take 2 (.take 4 (.alt 1 (.alt 3 (.alt 5 (.one 6 (.one 7 .done)) (.one 6 (.one 5 (.one 7 .done)))) (.one 6 (.one 3 (.one 5 (.one 7 .done))))) (.one 6 (.one 1 (.one 3 (.one 5 (.one 7 .done))))))))))] } Tryz.func5 (by kernel_rfl)
@[go_sem] theorem d5 : s5.g = 5 ∧ s5.fs = ⟨[.ro 1, .ro 1, .ro 1], s5.F, false⟩ := ⟨nr rfl, nr rfl⟩
theorem e5 (fId : Int) (fKey : ByteArray) (fBack : Bool) (fOut : Bool) (fDue : Int) (fDoomed : Bool) (fGetMethod : ByteArray) (fGetHost : ByteArray) (fGetPath : ByteArray) (fGetHeaders : List Header) (fWaiters : List Waiter) (wReq : Int) (wHead : Bool) (wDue : Int) (wLate : Bool) (room : Int) (h0 : okFlight (Flight.mk fId fKey fBack fOut fDue fDoomed (Request.mk fGetMethod fGetHost fGetPath fGetHeaders) fWaiters) ∧ okWaiter (Waiter.mk wReq wHead wDue wLate) ∧ okInt room) : s5.F [.agg [.i .i64 fId, .s fKey, .b fBack, .b fOut, .i .i64 fDue, .b fDoomed, .s fGetMethod, .s fGetHost, .s fGetPath, .sl .ro 2 (fGetHeaders.map (rHeader .ro)), .sl .ro 4 (fWaiters.map (rWaiter .ro))], .agg [.i .i64 wReq, .b wHead, .i .i64 wDue, .b wLate], .i .i64 room] = some (.b true, [.u, .u, .u]) := mkS_eq (0) rfl rfl (fun cx h => by
  have h0_0 := h0.1
  by_cases hc0 : szFlight (Flight.mk fId fKey fBack fOut fDue fDoomed (Request.mk fGetMethod fGetHost fGetPath fGetHeaders) fWaiters) 1048576 < 0
  · simp only [go_sem, reduceIte, ↓reduceIte, reduceCtorEq, nA, nS, nM, nB, nE, nL, nT, nN, iL, iT, iE, iA, iM, iS, iG, iB, iN, iZ, h, hc0, h0_0]
  obtain ⟨hs0, hl0⟩ := szFlight_fact _ _ h0_0 (by decide) (by decide) (show 0 ≤ szFlight (Flight.mk fId fKey fBack fOut fDue fDoomed (Request.mk fGetMethod fGetHost fGetPath fGetHeaders) fWaiters) 1048576 by omega)
  have hs1 := sm_trivWaiter (Waiter.mk wReq wHead wDue wLate)
  obtain ⟨R, hR⟩ : ∃ R, joinFlight (Flight.mk fId fKey fBack fOut fDue fDoomed (Request.mk fGetMethod fGetHost fGetPath fGetHeaders) fWaiters) (Waiter.mk wReq wHead wDue wLate) room = R := ⟨_, rfl⟩
  have hsm := joinFlight_sm (Flight.mk fId fKey fBack fOut fDue fDoomed (Request.mk fGetMethod fGetHost fGetPath fGetHeaders) fWaiters) (Waiter.mk wReq wHead wDue wLate) room hs0
  rw [hR] at hsm
  have f0 := mkFlightV_le (Flight.mk fId fKey fBack fOut fDue fDoomed (Request.mk fGetMethod fGetHost fGetPath fGetHeaders) fWaiters) 1 hs0
  have g0 := mkFlightV_ge (Flight.mk fId fKey fBack fOut fDue fDoomed (Request.mk fGetMethod fGetHost fGetPath fGetHeaders) fWaiters) 1
  have f0' := Int.le_trans f0 (show _ ≤ (9223372036854775807 : Int) by decide)
  have g0' := Int.not_lt.2 (Int.le_trans (show (0 : Int) ≤ 1 by decide) g0)
  have f1 := mkFlightResultV_le R 1 hsm
  have g1 := mkFlightResultV_ge R 1
  have f1' := Int.le_trans f1 (show _ ≤ (9223372036854775807 : Int) by decide)
  have g1' := Int.not_lt.2 (Int.le_trans (show (0 : Int) ≤ 1 by decide) g1)
  simp only [mkFlightResultV_eq, mkFlightV_eq, mkRequestV_eq] at f0' g0' f1' g1'
  simp only [go_sem, reduceIte, ↓reduceIte, reduceCtorEq, nA, nS, nM, nB, nE, nL, nT, nN, iL, iT, iE, iA, iM, iS, iG, iB, iN, iZ, h, hc0, hs0, h0_0, hs1, hR, hsm, f0', g0', f1', g1', eqv_self, mkFlightResultV_eq, mkFlightV_eq, mkRequestV_eq]) (rfl)
end Go.Vm.A
