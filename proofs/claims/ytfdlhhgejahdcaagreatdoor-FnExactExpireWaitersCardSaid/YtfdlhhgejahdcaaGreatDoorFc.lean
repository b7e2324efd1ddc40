/- Functions of the program, walked by the evaluator. -/
import Derived.Test.YtfdlhhgejahdcaaGreatDoorFb
set_option autoImplicit false
set_option maxRecDepth 100000
set_option maxHeartbeats 4000000
set_option linter.unusedVariables false
set_option linter.unusedSimpArgs false
namespace Go.Vm.A
open Go.Proofs
open Nat renaming reduceAdd → nA, reduceSub → nS, reduceMul → nM, reduceBEq → nB, reduceEqDiff → nE, reduceLeDiff → nL, reduceLT → nT, reduceBneDiff → nN
open Int renaming reduceLE → iL, reduceLT → iT, reduceEq → iE, reduceAdd → iA, reduceMul → iM, reduceSub → iS, reduceNeg → iG, reduceBEq → iB, reduceBNe → iN, reduceToNat → iZ

noncomputable def s42 : SP Tryz.prog := mkS tyA 42 Tryz.f42 [s36, s94] { md := [.ro 1, .ro 1], rg := [(0, [2, 3], [2, 3]), (1, [2, 3, 9], [2, 3]), (2, [4], []), (3, [2, 3, 15], [2, 3]), (4, [4], []), (5, [21], []), (6, [4], []), (7, [4], [])], rets := some ([4], []) } Tryz.func42 (by kernel_rfl)
@[go_sem] theorem d42 : s42.g = 42 ∧ s42.fs = ⟨[.ro 1, .ro 1], s42.F, false⟩ := ⟨nr rfl, nr rfl⟩
@[go_sem] theorem e42 (xCode : Int) (xFlightId : Int) (xFlightKey : ByteArray) (xFlightBack : Bool) (xFlightOut : Bool) (xFlightDue : Int) (xFlightDoomed : Bool) (xFlightGetMethod : ByteArray) (xFlightGetHost : ByteArray) (xFlightGetPath : ByteArray) (xFlightGetHeaders : List Header) (xFlightWaiters : List Waiter) (xWaiters : List Waiter) (yCode : Int) (yFlightId : Int) (yFlightKey : ByteArray) (yFlightBack : Bool) (yFlightOut : Bool) (yFlightDue : Int) (yFlightDoomed : Bool) (yFlightGetMethod : ByteArray) (yFlightGetHost : ByteArray) (yFlightGetPath : ByteArray) (yFlightGetHeaders : List Header) (yFlightWaiters : List Waiter) (yWaiters : List Waiter) (h0 : smWaitersResult (WaitersResult.mk xCode (Flight.mk xFlightId xFlightKey xFlightBack xFlightOut xFlightDue xFlightDoomed (Request.mk xFlightGetMethod xFlightGetHost xFlightGetPath xFlightGetHeaders) xFlightWaiters) xWaiters)) : s42.F [.agg [.i .i64 xCode, .i .i64 xFlightId, .s xFlightKey, .b xFlightBack, .b xFlightOut, .i .i64 xFlightDue, .b xFlightDoomed, .s xFlightGetMethod, .s xFlightGetHost, .s xFlightGetPath, .sl .ro 2 (xFlightGetHeaders.map (rHeader .ro)), .sl .ro 4 (xFlightWaiters.map (rWaiter .ro)), .sl .ro 4 (xWaiters.map (rWaiter .ro))], .agg [.i .i64 yCode, .i .i64 yFlightId, .s yFlightKey, .b yFlightBack, .b yFlightOut, .i .i64 yFlightDue, .b yFlightDoomed, .s yFlightGetMethod, .s yFlightGetHost, .s yFlightGetPath, .sl .ro 2 (yFlightGetHeaders.map (rHeader .ro)), .sl .ro 4 (yFlightWaiters.map (rWaiter .ro)), .sl .ro 4 (yWaiters.map (rWaiter .ro))]] = some (.b (eqv (WaitersResult.mk xCode (Flight.mk xFlightId xFlightKey xFlightBack xFlightOut xFlightDue xFlightDoomed (Request.mk xFlightGetMethod xFlightGetHost xFlightGetPath xFlightGetHeaders) xFlightWaiters) xWaiters) (WaitersResult.mk yCode (Flight.mk yFlightId yFlightKey yFlightBack yFlightOut yFlightDue yFlightDoomed (Request.mk yFlightGetMethod yFlightGetHost yFlightGetPath yFlightGetHeaders) yFlightWaiters) yWaiters)), [.u, .u]) := mkS_eq (0) rfl rfl (fun cx h => by
  obtain ⟨q0, q1, q2⟩ := h0
  simp only [go_sem, reduceIte, ↓reduceIte, reduceCtorEq, nA, nS, nM, nB, nE, nL, nT, nN, iL, iT, iE, iA, iM, iS, iG, iB, iN, iZ, h, eqv_intne, eqv_bytes, eqv_boolne, q0, q1, q2]
  simp only [eqv_bool, eqv_int, WaitersResult.eqv (WaitersResult.mk xCode (Flight.mk xFlightId xFlightKey xFlightBack xFlightOut xFlightDue xFlightDoomed (Request.mk xFlightGetMethod xFlightGetHost xFlightGetPath xFlightGetHeaders) xFlightWaiters) xWaiters) (WaitersResult.mk yCode (Flight.mk yFlightId yFlightKey yFlightBack yFlightOut yFlightDue yFlightDoomed (Request.mk yFlightGetMethod yFlightGetHost yFlightGetPath yFlightGetHeaders) yFlightWaiters) yWaiters), if_b, not_eq_t, if_nb, Bool.and_true]) (rfl)
noncomputable def s43 : SP Tryz.prog := mkS tyA 43 Tryz.f43 [s37, s95] { md := [.mv, .ro 1], rg := [(0, [0, 1, 2], [2]), (1, [0, 1, 2], [2]), (2, [0, 1], []), (3, [0, 4], [])], rets := some ([0, 4], []), al := [2] } Tryz.func43 (by kernel_rfl)
@[go_sem] theorem d43 : s43.g = 43 ∧ s43.fs = ⟨[.mv, .ro 1], s43.F, false⟩ := ⟨nr rfl, nr rfl⟩
@[go_sem] theorem e43 (xCode : Int) (xFlightId : Int) (xFlightKey : ByteArray) (xFlightBack : Bool) (xFlightOut : Bool) (xFlightDue : Int) (xFlightDoomed : Bool) (xFlightGetMethod : ByteArray) (xFlightGetHost : ByteArray) (xFlightGetPath : ByteArray) (xFlightGetHeaders : List Header) (xFlightWaiters : List Waiter) (xWaiters : List Waiter) (k : Int) (h1 : 0 ≤ k) (h0 : (mkWaitersResultV (WaitersResult.mk xCode (Flight.mk xFlightId xFlightKey xFlightBack xFlightOut xFlightDue xFlightDoomed (Request.mk xFlightGetMethod xFlightGetHost xFlightGetPath xFlightGetHeaders) xFlightWaiters) xWaiters) k).2 ≤ 9223372036854775807) : s43.F [.agg [.i .i64 xCode, .i .i64 xFlightId, .s xFlightKey, .b xFlightBack, .b xFlightOut, .i .i64 xFlightDue, .b xFlightDoomed, .s xFlightGetMethod, .s xFlightGetHost, .s xFlightGetPath, .sl .mut 2 (xFlightGetHeaders.map (rHeader .mut)), .sl .mut 4 (xFlightWaiters.map (rWaiter .mut)), .sl .mut 4 (xWaiters.map (rWaiter .mut))], .i .i64 k] = some (.i .i64 (mkWaitersResultV (WaitersResult.mk xCode (Flight.mk xFlightId xFlightKey xFlightBack xFlightOut xFlightDue xFlightDoomed (Request.mk xFlightGetMethod xFlightGetHost xFlightGetPath xFlightGetHeaders) xFlightWaiters) xWaiters) k).2, [.agg (rWaitersResult .mut (mkWaitersResultV (WaitersResult.mk xCode (Flight.mk xFlightId xFlightKey xFlightBack xFlightOut xFlightDue xFlightDoomed (Request.mk xFlightGetMethod xFlightGetHost xFlightGetPath xFlightGetHeaders) xFlightWaiters) xWaiters) k).1), .u]) := mkS_eq (0) rfl rfl (fun cx h => by
  obtain ⟨q0, hq0⟩ : ∃ q, (mkFlightV (Flight.mk xFlightId xFlightKey xFlightBack xFlightOut xFlightDue xFlightDoomed (Request.mk xFlightGetMethod xFlightGetHost xFlightGetPath xFlightGetHeaders) xFlightWaiters) k).2 = q := ⟨_, rfl⟩
  have b0 := mkFlightV_ge (Flight.mk xFlightId xFlightKey xFlightBack xFlightOut xFlightDue xFlightDoomed (Request.mk xFlightGetMethod xFlightGetHost xFlightGetPath xFlightGetHeaders) xFlightWaiters) k
  rw [hq0] at b0
  have p0 : 0 ≤ k := by omega
  obtain ⟨q1, hq1⟩ : ∃ q, (mkL mkWaiterE xWaiters q0).2 = q := ⟨_, rfl⟩
  have b1 := mkL_ge mkWaiterE_ge xWaiters q0
  rw [hq1] at b1
  have p1 : 0 ≤ q0 := by omega
  simp only [mkWaitersResultV_eq, hq0, hq1] at h0
  have c0 : q0 ≤ 9223372036854775807 := by omega
  have d0 : ¬ (q0 < 0) := by omega
  have c1 : q1 ≤ 9223372036854775807 := by omega
  have d1 : ¬ (q1 < 0) := by omega
  simp only [go_sem, reduceIte, ↓reduceIte, reduceCtorEq, nA, nS, nM, nB, nE, nL, nT, nN, iL, iT, iE, iA, iM, iS, iG, iB, iN, iZ, h, p0, p1, c0, d0, c1, d1, hq0, hq1, mkWaitersResultV_eq]
  simp only [mkFlightV_eq, mkRequestV_eq]) (by simp only [go_sem, reduceIte, ↓reduceIte, reduceCtorEq, nA, nS, nM, nB, nE, nL, nT, nN, iL, iT, iE, iA, iM, iS, iG, iB, iN, iZ, mkWaitersResultV_eq, okRes, hasRo, hasRoL, hasRoLL])
noncomputable def s132 : SP Tryz.prog := mkS tyA 132 Tryz.f132 [s131] { md := [.ro 1, .ro 1], rg := [(0, [0, 1], []), (1, [0, 1, 5], []), (2, [0, 1, 5, 9], []), (3, [0, 1, 5], []), (4, [0, 1, 5, 19], []), (5, [4], []), (6, [0, 1, 5], []), (7, [0, 1, 5, 29], []), (8, [4], []), (9, [0, 1, 5], []), (10, [4], [])], lv := [(0, [0, 1, 5], [])], out := [(0, [1], [])], rets := some ([4], []), plan := [(4, (.take 0 (.take 1 (.take 2 (.take 3 (.take 4 (.take 5 (.one 6 (.take 7 .done))))))))), (7, (.take 0 (.take 1 (.take 2 (.take 3 (.take 4 (.take 5 (.one 6 (.take 7 .done)))))))))] } Tryz.func132 (by kernel_rfl)
@[go_sem] theorem d132 : s132.g = 132 ∧ s132.fs = ⟨[.ro 1, .ro 1], s132.F, false⟩ := ⟨nr rfl, nr rfl⟩
@[go_sem] theorem e132 (xs : List Header) (k : Int) (h1 : 0 ≤ k) (h0 : (mkL mkHeaderE xs k).2 ≤ 9223372036854775807) : s132.F [.sl .ro 2 ((mkL mkHeaderE xs k).1.map (rHeader .ro)), .i .i64 k] = some (.i .i64 (mkL mkHeaderE xs k).2, [.u, .u]) := mkS_eq (xs.length + 1) rfl rfl (fun cx h => by
  have hb := loopN_eq Tryz.f132 0 _ _ rfl rfl
  have hx := mkL_cnt mkHeaderE_ge xs k
  have hr := (loop_fold (cx := cx) (blk := 0) (body := loopN Tryz.f132 0) xs (fun i (s : Int) => ⟨E [(0, .sl .ro 2 ((mkL mkHeaderE xs k).1.map (rHeader .ro))), (1, .i .i64 s), (5, .i .i64 i)], B []⟩) (fun _ => ⟨E [(1, .i .i64 (mkL mkHeaderE xs k).2)], B []⟩) (fun x s => (mkHeaderE x s).2) (fun i s => s = mkAt mkHeaderE xs k i)
    (fun s hI G => by simp only [go_sem, reduceIte, ↓reduceIte, reduceCtorEq, nA, nS, nM, nB, nE, nL, nT, nN, iL, iT, iE, iA, iM, iS, iG, iB, iN, iZ, h, Int.lt_irrefl, hb, mkL_len, hI, mkAt_end]) (fun i hk s hI => by
      have h2 : ((i : Int) < (xs.length : Int)) := Int.ofNat_lt.2 hk
      have g1 := mkAt_ge mkHeaderE_ge xs k i
      have g2 := mkAt_le mkHeaderE_ge xs k i hk
      rw [← hI] at g1 g2

      have h3 := mkL_gd (f := mkHeaderE) (rHeader .ro) xs k i hk
      rw [← hI] at h3
      simp only [mkHeaderE, rHeader] at h3 g2
      have v0 : (IntKind.i64).wrap (s) = s := wrap_id (by omega) (by omega)
      have t1 : s + 1 ≤ 9223372036854775807 := by omega
      have v1 : (IntKind.i64).wrap (s + 1) = s + 1 := wrap_id (by omega) (by omega)
      have t2 : s + 1 + 1 ≤ 9223372036854775807 := by omega
      have v2 : (IntKind.i64).wrap (s + 1 + 1) = s + 1 + 1 := wrap_id (by omega) (by omega)
      refine ⟨by rw [mkAt_succ xs k i hk, ← hI], _, fun G => by simp only [go_sem, reduceIte, ↓reduceIte, reduceCtorEq, nA, nS, nM, nB, nE, nL, nT, nN, iL, iT, iE, iA, iM, iS, iG, iB, iN, iZ, h, h3, mkL_len, mkB_def, v0, t1, v1, t2, v2, h2, idx_nt _ _ hk, wrap_nat1 (show i < 9223372036854775807 by omega), hb] <;> with_reducible rfl, by simp only [go_sem, reduceIte, ↓reduceIte, reduceCtorEq, nA, nS, nM, nB, nE, nL, nT, nN, iL, iT, iE, iA, iM, iS, iG, iB, iN, iZ, h, mkHeaderE]⟩) k rfl (xs.length + 1) (Nat.le_refl _)).2
  rw [hb] at hr
  simp only [go_sem, reduceIte, ↓reduceIte, reduceCtorEq, nA, nS, nM, nB, nE, nL, nT, nN, iL, iT, iE, iA, iM, iS, iG, iB, iN, iZ, h, hr]) (rfl)
noncomputable def s83 : SP Tryz.prog := mkS tyA 83 Tryz.f83 [s132] { md := [.ro 1, .ro 1], rg := [(0, [1, 2], [2]), (1, [1], []), (2, [1, 10], []), (3, [4], []), (4, [4], [])], rets := some ([4], []) } Tryz.func83 (by kernel_rfl)
@[go_sem] theorem d83 : s83.g = 83 ∧ s83.fs = ⟨[.ro 1, .ro 1], s83.F, false⟩ := ⟨nr rfl, nr rfl⟩
@[go_sem] theorem e83 (xMethod : ByteArray) (xHost : ByteArray) (xPath : ByteArray) (xHeaders : List Header) (k : Int) (h1 : 0 ≤ k) (h0 : (mkRequestV (Request.mk xMethod xHost xPath xHeaders) k).2 ≤ 9223372036854775807) : s83.F [.agg [.s xMethod, .s xHost, .s xPath, .sl .ro 2 ((mkL mkHeaderE xHeaders k).1.map (rHeader .ro))], .i .i64 k] = some (.i .i64 (mkRequestV (Request.mk xMethod xHost xPath xHeaders) k).2, [.u, .u]) := mkS_eq (0) rfl rfl (fun cx h => by
  obtain ⟨q0, hq0⟩ : ∃ q, (mkL mkHeaderE xHeaders k).2 = q := ⟨_, rfl⟩
  have b0 := mkL_ge mkHeaderE_ge xHeaders k
  rw [hq0] at b0
  have p0 : 0 ≤ k := by omega
  simp only [mkRequestV_eq, hq0] at h0
  have c0 : q0 ≤ 9223372036854775807 := by omega
  have d0 : ¬ (q0 < 0) := by omega
  simp only [go_sem, reduceIte, ↓reduceIte, reduceCtorEq, nA, nS, nM, nB, nE, nL, nT, nN, iL, iT, iE, iA, iM, iS, iG, iB, iN, iZ, h, p0, c0, d0, hq0, mkRequestV_eq]) (rfl)
noncomputable def s100 : SP Tryz.prog := mkS tyA 100 Tryz.f100 [] { md := [.ro 1, .ro 1], rg := [(0, [0, 1], []), (1, [0, 1, 5], []), (2, [0, 1, 5, 9], []), (3, [0, 1, 5], []), (4, [0, 1, 5, 18], []), (5, [4], []), (6, [0, 1, 5], []), (7, [0, 1, 5, 29], []), (8, [4], []), (9, [0, 1, 5], []), (10, [0, 1, 5, 38], []), (11, [4], []), (12, [0, 1, 5], []), (13, [0, 1, 5, 49], []), (14, [4], []), (15, [0, 1, 5], []), (16, [4], [])], lv := [(0, [0, 1, 5], [])], out := [(0, [1], [])], rets := some ([4], []) } Tryz.func100 (by kernel_rfl)
@[go_sem] theorem d100 : s100.g = 100 ∧ s100.fs = ⟨[.ro 1, .ro 1], s100.F, false⟩ := ⟨nr rfl, nr rfl⟩
@[go_sem] theorem e100 (xs : List Waiter) (k : Int) (h1 : 0 ≤ k) (h0 : (mkL mkWaiterE xs k).2 ≤ 9223372036854775807) : s100.F [.sl .ro 4 ((mkL mkWaiterE xs k).1.map (rWaiter .ro)), .i .i64 k] = some (.i .i64 (mkL mkWaiterE xs k).2, [.u, .u]) := mkS_eq (xs.length + 1) rfl rfl (fun cx h => by
  have hb := loopN_eq Tryz.f100 0 _ _ rfl rfl
  have hx := mkL_cnt mkWaiterE_ge xs k
  have hr := (loop_fold (cx := cx) (blk := 0) (body := loopN Tryz.f100 0) xs (fun i (s : Int) => ⟨E [(0, .sl .ro 4 ((mkL mkWaiterE xs k).1.map (rWaiter .ro))), (1, .i .i64 s), (5, .i .i64 i)], B []⟩) (fun _ => ⟨E [(1, .i .i64 (mkL mkWaiterE xs k).2)], B []⟩) (fun x s => (mkWaiterE x s).2) (fun i s => s = mkAt mkWaiterE xs k i)
    (fun s hI G => by simp only [go_sem, reduceIte, ↓reduceIte, reduceCtorEq, nA, nS, nM, nB, nE, nL, nT, nN, iL, iT, iE, iA, iM, iS, iG, iB, iN, iZ, h, Int.lt_irrefl, hb, mkL_len, hI, mkAt_end]) (fun i hk s hI => by
      have h2 : ((i : Int) < (xs.length : Int)) := Int.ofNat_lt.2 hk
      have g1 := mkAt_ge mkWaiterE_ge xs k i
      have g2 := mkAt_le mkWaiterE_ge xs k i hk
      rw [← hI] at g1 g2

      have h3 := mkL_gd (f := mkWaiterE) (rWaiter .ro) xs k i hk
      rw [← hI] at h3
      simp only [mkWaiterE, rWaiter] at h3 g2
      have v0 : (IntKind.i64).wrap (s) = s := wrap_id (by omega) (by omega)
      have v1 : (IntKind.i64).wrap (s + 1) = s + 1 := wrap_id (by omega) (by omega)
      have v2 : (IntKind.i64).wrap (s + 1 + 1) = s + 1 + 1 := wrap_id (by omega) (by omega)
      have v3 : (IntKind.i64).wrap (s + 1 + 1 + 1) = s + 1 + 1 + 1 := wrap_id (by omega) (by omega)
      have v4 : (IntKind.i64).wrap (s + 1 + 1 + 1 + 1) = s + 1 + 1 + 1 + 1 := wrap_id (by omega) (by omega)
      refine ⟨by rw [mkAt_succ xs k i hk, ← hI], _, fun G => by simp only [go_sem, reduceIte, ↓reduceIte, reduceCtorEq, nA, nS, nM, nB, nE, nL, nT, nN, iL, iT, iE, iA, iM, iS, iG, iB, iN, iZ, h, h3, mkL_len, mkB_def, v0, v1, v2, v3, v4, h2, idx_nt _ _ hk, wrap_nat1 (show i < 9223372036854775807 by omega), hb] <;> with_reducible rfl, by simp only [go_sem, reduceIte, ↓reduceIte, reduceCtorEq, nA, nS, nM, nB, nE, nL, nT, nN, iL, iT, iE, iA, iM, iS, iG, iB, iN, iZ, h, mkWaiterE]⟩) k rfl (xs.length + 1) (Nat.le_refl _)).2
  rw [hb] at hr
  simp only [go_sem, reduceIte, ↓reduceIte, reduceCtorEq, nA, nS, nM, nB, nE, nL, nT, nN, iL, iT, iE, iA, iM, iS, iG, iB, iN, iZ, h, hr]) (rfl)
noncomputable def s96 : SP Tryz.prog := mkS tyA 96 Tryz.f96 [s83, s100] { md := [.ro 1, .ro 1], rg := [(0, [1, 2], [2]), (1, [1, 2], [2]), (2, [1, 2, 10], [2]), (3, [4], []), (4, [1], []), (5, [1, 16], []), (6, [4], []), (7, [4], [])], rets := some ([4], []) } Tryz.func96 (by kernel_rfl)
@[go_sem] theorem d96 : s96.g = 96 ∧ s96.fs = ⟨[.ro 1, .ro 1], s96.F, false⟩ := ⟨nr rfl, nr rfl⟩
@[go_sem] theorem e96 (xId : Int) (xKey : ByteArray) (xBack : Bool) (xOut : Bool) (xDue : Int) (xDoomed : Bool) (xGetMethod : ByteArray) (xGetHost : ByteArray) (xGetPath : ByteArray) (xGetHeaders : List Header) (xWaiters : List Waiter) (k : Int) (h1 : 0 ≤ k) (h0 : (mkFlightV (Flight.mk xId xKey xBack xOut xDue xDoomed (Request.mk xGetMethod xGetHost xGetPath xGetHeaders) xWaiters) k).2 ≤ 9223372036854775807) : s96.F [.agg [.i .i64 xId, .s xKey, .b xBack, .b xOut, .i .i64 xDue, .b xDoomed, .s xGetMethod, .s xGetHost, .s xGetPath, .sl .ro 2 ((mkL mkHeaderE xGetHeaders k).1.map (rHeader .ro)), .sl .ro 4 ((mkL mkWaiterE xWaiters (mkL mkHeaderE xGetHeaders k).2).1.map (rWaiter .ro))], .i .i64 k] = some (.i .i64 (mkFlightV (Flight.mk xId xKey xBack xOut xDue xDoomed (Request.mk xGetMethod xGetHost xGetPath xGetHeaders) xWaiters) k).2, [.u, .u]) := mkS_eq (0) rfl rfl (fun cx h => by
  obtain ⟨q0, hq0⟩ : ∃ q, (mkRequestV (Request.mk xGetMethod xGetHost xGetPath xGetHeaders) k).2 = q := ⟨_, rfl⟩
  have b0 := mkRequestV_ge (Request.mk xGetMethod xGetHost xGetPath xGetHeaders) k
  rw [hq0] at b0
  have p0 : 0 ≤ k := by omega
  obtain ⟨q1, hq1⟩ : ∃ q, (mkL mkWaiterE xWaiters q0).2 = q := ⟨_, rfl⟩
  have b1 := mkL_ge mkWaiterE_ge xWaiters q0
  rw [hq1] at b1
  have p1 : 0 ≤ q0 := by omega
  simp only [mkFlightV_eq, hq0, hq1] at h0
  have c0 : q0 ≤ 9223372036854775807 := by omega
  have d0 : ¬ (q0 < 0) := by omega
  have c1 : q1 ≤ 9223372036854775807 := by omega
  have d1 : ¬ (q1 < 0) := by omega
  simp only [mkRequestV_eq] at hq0
  simp only [go_sem, reduceIte, ↓reduceIte, reduceCtorEq, nA, nS, nM, nB, nE, nL, nT, nN, iL, iT, iE, iA, iM, iS, iG, iB, iN, iZ, h, p0, p1, c0, d0, c1, d1, hq0, hq1, mkRequestV_eq, mkFlightV_eq]) (rfl)
noncomputable def s44 : SP Tryz.prog := mkS tyA 44 Tryz.f44 [s96, s100] { md := [.ro 1, .ro 1], rg := [(0, [1, 2], [2]), (1, [1, 2], [2]), (2, [1, 2, 10], [2]), (3, [4], []), (4, [1], []), (5, [1, 16], []), (6, [4], []), (7, [4], [])], rets := some ([4], []) } Tryz.func44 (by kernel_rfl)
@[go_sem] theorem d44 : s44.g = 44 ∧ s44.fs = ⟨[.ro 1, .ro 1], s44.F, false⟩ := ⟨nr rfl, nr rfl⟩
@[go_sem] theorem e44 (xCode : Int) (xFlightId : Int) (xFlightKey : ByteArray) (xFlightBack : Bool) (xFlightOut : Bool) (xFlightDue : Int) (xFlightDoomed : Bool) (xFlightGetMethod : ByteArray) (xFlightGetHost : ByteArray) (xFlightGetPath : ByteArray) (xFlightGetHeaders : List Header) (xFlightWaiters : List Waiter) (xWaiters : List Waiter) (k : Int) (h1 : 0 ≤ k) (h0 : (mkWaitersResultV (WaitersResult.mk xCode (Flight.mk xFlightId xFlightKey xFlightBack xFlightOut xFlightDue xFlightDoomed (Request.mk xFlightGetMethod xFlightGetHost xFlightGetPath xFlightGetHeaders) xFlightWaiters) xWaiters) k).2 ≤ 9223372036854775807) : s44.F [.agg [.i .i64 xCode, .i .i64 xFlightId, .s xFlightKey, .b xFlightBack, .b xFlightOut, .i .i64 xFlightDue, .b xFlightDoomed, .s xFlightGetMethod, .s xFlightGetHost, .s xFlightGetPath, .sl .ro 2 ((mkL mkHeaderE xFlightGetHeaders k).1.map (rHeader .ro)), .sl .ro 4 ((mkL mkWaiterE xFlightWaiters (mkL mkHeaderE xFlightGetHeaders k).2).1.map (rWaiter .ro)), .sl .ro 4 ((mkL mkWaiterE xWaiters (mkL mkWaiterE xFlightWaiters (mkL mkHeaderE xFlightGetHeaders k).2).2).1.map (rWaiter .ro))], .i .i64 k] = some (.i .i64 (mkWaitersResultV (WaitersResult.mk xCode (Flight.mk xFlightId xFlightKey xFlightBack xFlightOut xFlightDue xFlightDoomed (Request.mk xFlightGetMethod xFlightGetHost xFlightGetPath xFlightGetHeaders) xFlightWaiters) xWaiters) k).2, [.u, .u]) := mkS_eq (0) rfl rfl (fun cx h => by
  obtain ⟨q0, hq0⟩ : ∃ q, (mkFlightV (Flight.mk xFlightId xFlightKey xFlightBack xFlightOut xFlightDue xFlightDoomed (Request.mk xFlightGetMethod xFlightGetHost xFlightGetPath xFlightGetHeaders) xFlightWaiters) k).2 = q := ⟨_, rfl⟩
  have b0 := mkFlightV_ge (Flight.mk xFlightId xFlightKey xFlightBack xFlightOut xFlightDue xFlightDoomed (Request.mk xFlightGetMethod xFlightGetHost xFlightGetPath xFlightGetHeaders) xFlightWaiters) k
  rw [hq0] at b0
  have p0 : 0 ≤ k := by omega
  obtain ⟨q1, hq1⟩ : ∃ q, (mkL mkWaiterE xWaiters q0).2 = q := ⟨_, rfl⟩
  have b1 := mkL_ge mkWaiterE_ge xWaiters q0
  rw [hq1] at b1
  have p1 : 0 ≤ q0 := by omega
  simp only [mkWaitersResultV_eq, hq0, hq1] at h0
  have c0 : q0 ≤ 9223372036854775807 := by omega
  have d0 : ¬ (q0 < 0) := by omega
  have c1 : q1 ≤ 9223372036854775807 := by omega
  have d1 : ¬ (q1 < 0) := by omega
  simp only [mkFlightV_eq, mkRequestV_eq] at hq0
  simp only [go_sem, reduceIte, ↓reduceIte, reduceCtorEq, nA, nS, nM, nB, nE, nL, nT, nN, iL, iT, iE, iA, iM, iS, iG, iB, iN, iZ, h, p0, p1, c0, d0, c1, d1, hq0, hq1, mkFlightV_eq, mkRequestV_eq, mkWaitersResultV_eq]) (rfl)
noncomputable def s6 : SP Tryz.prog := mkS tyA 6 Tryz.f6 [s30, s32, s36, s37, s40, s41, s42, s43, s44] { md := [.ro 1, .ro 1], rg := [(0, [1, 2], [2]), (1, [1, 2, 5], [2]), (2, [1, 2, 5], [2]), (3, [1, 2, 17], [2]), (4, [4], []), (5, [1, 2, 6], [2, 6]), (6, [1, 2, 6, 7], [2, 6, 7]), (7, [1, 2, 6, 7, 8], [2, 6, 7, 8]), (8, [1, 2, 6, 7, 8, 30], [2, 6, 7, 8]), (9, [4], []), (10, [1, 2, 6, 7, 8, 35], [2, 6, 7, 8]), (11, [4], []), (12, [1, 2, 6, 7, 8, 9], [2, 6, 7, 8]), (13, [1, 2, 6, 8, 9], [2, 6, 8]), (14, [1, 2, 6, 8, 46], [2, 6, 8]), (15, [4], []), (16, [1, 2, 6, 8, 10], [2, 6, 8]), (17, [1, 2, 6, 8, 10], [2, 6, 8]), (18, [1, 2, 6, 8, 10, 11], [2, 6, 8]), (19, [1, 2, 6, 8, 10, 11], [2, 6, 8]), (20, [1, 2, 6, 8, 10, 11, 54], [2, 6, 8]), (21, [4], []), (22, [1, 2, 6, 8, 10, 57], [2, 6, 8]), (23, [4], []), (24, [6, 8, 10, 12], [6, 8, 12]), (25, [8, 10, 65], [8]), (26, [4], []), (27, [8, 10, 11], [8]), (28, [10, 11], []), (29, [10, 11, 70], []), (30, [4], []), (31, [73], []), (32, [4], []), (33, [4], [])], rets := some ([4], []), plan := [(10, (.take 0 (.take 1 (.one 2 (.one 3 (.take 4 .done))))))] } Tryz.func6 (by kernel_rfl)
@[go_sem] theorem d6 : s6.g = 6 ∧ s6.fs = ⟨[.ro 1, .ro 1], s6.F, false⟩ := ⟨nr rfl, nr rfl⟩
theorem e6 (fId : Int) (fKey : ByteArray) (fBack : Bool) (fOut : Bool) (fDue : Int) (fDoomed : Bool) (fGetMethod : ByteArray) (fGetHost : ByteArray) (fGetPath : ByteArray) (fGetHeaders : List Header) (fWaiters : List Waiter) (now : Int) (h0 : okFlight (Flight.mk fId fKey fBack fOut fDue fDoomed (Request.mk fGetMethod fGetHost fGetPath fGetHeaders) fWaiters) ∧ okInt now) : s6.F [.agg [.i .i64 fId, .s fKey, .b fBack, .b fOut, .i .i64 fDue, .b fDoomed, .s fGetMethod, .s fGetHost, .s fGetPath, .sl .ro 2 (fGetHeaders.map (rHeader .ro)), .sl .ro 4 (fWaiters.map (rWaiter .ro))], .i .i64 now] = some (.b true, [.u, .u]) := mkS_eq (0) rfl rfl (fun cx h => by
  have h0_0 := h0.1
  by_cases hc0 : szFlight (Flight.mk fId fKey fBack fOut fDue fDoomed (Request.mk fGetMethod fGetHost fGetPath fGetHeaders) fWaiters) 1048576 < 0
  · simp only [go_sem, reduceIte, ↓reduceIte, reduceCtorEq, nA, nS, nM, nB, nE, nL, nT, nN, iL, iT, iE, iA, iM, iS, iG, iB, iN, iZ, h, hc0, h0_0]
  obtain ⟨hs0, hl0⟩ := szFlight_fact _ _ h0_0 (by decide) (by decide) (show 0 ≤ szFlight (Flight.mk fId fKey fBack fOut fDue fDoomed (Request.mk fGetMethod fGetHost fGetPath fGetHeaders) fWaiters) 1048576 by omega)
  obtain ⟨R, hR⟩ : ∃ R, expireWaiters (Flight.mk fId fKey fBack fOut fDue fDoomed (Request.mk fGetMethod fGetHost fGetPath fGetHeaders) fWaiters) now = R := ⟨_, rfl⟩
  have hsm := expireWaiters_sm (Flight.mk fId fKey fBack fOut fDue fDoomed (Request.mk fGetMethod fGetHost fGetPath fGetHeaders) fWaiters) now hs0
  rw [hR] at hsm
  have f0 := mkFlightV_le (Flight.mk fId fKey fBack fOut fDue fDoomed (Request.mk fGetMethod fGetHost fGetPath fGetHeaders) fWaiters) 1 hs0
  have g0 := mkFlightV_ge (Flight.mk fId fKey fBack fOut fDue fDoomed (Request.mk fGetMethod fGetHost fGetPath fGetHeaders) fWaiters) 1
  have f0' := Int.le_trans f0 (show _ ≤ (9223372036854775807 : Int) by decide)
  have g0' := Int.not_lt.2 (Int.le_trans (show (0 : Int) ≤ 1 by decide) g0)
  have f1 := mkWaitersResultV_le R 1 hsm
  have g1 := mkWaitersResultV_ge R 1
  have f1' := Int.le_trans f1 (show _ ≤ (9223372036854775807 : Int) by decide)
  have g1' := Int.not_lt.2 (Int.le_trans (show (0 : Int) ≤ 1 by decide) g1)
  simp only [mkFlightV_eq, mkRequestV_eq, mkWaitersResultV_eq] at f0' g0' f1' g1'
  simp only [go_sem, reduceIte, ↓reduceIte, reduceCtorEq, nA, nS, nM, nB, nE, nL, nT, nN, iL, iT, iE, iA, iM, iS, iG, iB, iN, iZ, h, hc0, hs0, h0_0, hR, hsm, f0', g0', f1', g1', eqv_self, mkFlightV_eq, mkRequestV_eq, mkWaitersResultV_eq]) (rfl)
end Go.Vm.A
