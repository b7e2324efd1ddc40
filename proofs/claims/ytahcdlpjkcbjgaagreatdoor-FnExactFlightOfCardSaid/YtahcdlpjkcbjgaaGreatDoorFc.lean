/- Functions of the program, walked by the evaluator. -/
import Derived.Test.YtahcdlpjkcbjgaaGreatDoorFb
set_option autoImplicit false
set_option maxRecDepth 100000
set_option maxHeartbeats 4000000
set_option linter.unusedVariables false
set_option linter.unusedSimpArgs false
namespace Go.Vm.A
open Go.Proofs
open Nat renaming reduceAdd → nA, reduceSub → nS, reduceMul → nM, reduceBEq → nB, reduceEqDiff → nE, reduceLeDiff → nL, reduceLT → nT, reduceBneDiff → nN
open Int renaming reduceLE → iL, reduceLT → iT, reduceEq → iE, reduceAdd → iA, reduceMul → iM, reduceSub → iS, reduceNeg → iG, reduceBEq → iB, reduceBNe → iN, reduceToNat → iZ

noncomputable def s50 : SP Tryz.prog := mkS tyA 50 Tryz.f50 [s68, s69] { md := [.ro 1, .ro 1], rg := [(0, [2, 3], [2, 3]), (1, [2, 3, 9], [2, 3]), (2, [4], []), (3, [2, 3, 14], [2, 3]), (4, [4], []), (5, [2, 3, 19], [2, 3]), (6, [4], []), (7, [2, 3, 24], [2, 3]), (8, [4], []), (9, [2, 3, 29], [2, 3]), (10, [4], []), (11, [2, 3, 34], [2, 3]), (12, [4], []), (13, [2, 3, 40], [2, 3]), (14, [4], []), (15, [46], []), (16, [4], []), (17, [4], [])], rets := some ([4], []) } Tryz.func50 (by kernel_rfl)
@[go_sem] theorem d50 : s50.g = 50 ∧ s50.fs = ⟨[.ro 1, .ro 1], s50.F, false⟩ := ⟨nr rfl, nr rfl⟩
@[go_sem] theorem e50 (xId : Int) (xKey : ByteArray) (xBack : Bool) (xOut : Bool) (xDue : Int) (xDoomed : Bool) (xGetMethod : ByteArray) (xGetHost : ByteArray) (xGetPath : ByteArray) (xGetHeaders : List Header) (xWaiters : List Waiter) (yId : Int) (yKey : ByteArray) (yBack : Bool) (yOut : Bool) (yDue : Int) (yDoomed : Bool) (yGetMethod : ByteArray) (yGetHost : ByteArray) (yGetPath : ByteArray) (yGetHeaders : List Header) (yWaiters : List Waiter) (h0 : smFlight (Flight.mk xId xKey xBack xOut xDue xDoomed (Request.mk xGetMethod xGetHost xGetPath xGetHeaders) xWaiters)) : s50.F [.agg [.i .i64 xId, .s xKey, .b xBack, .b xOut, .i .i64 xDue, .b xDoomed, .s xGetMethod, .s xGetHost, .s xGetPath, .sl .ro 2 (xGetHeaders.map (rHeader .ro)), .sl .ro 4 (xWaiters.map (rWaiter .ro))], .agg [.i .i64 yId, .s yKey, .b yBack, .b yOut, .i .i64 yDue, .b yDoomed, .s yGetMethod, .s yGetHost, .s yGetPath, .sl .ro 2 (yGetHeaders.map (rHeader .ro)), .sl .ro 4 (yWaiters.map (rWaiter .ro))]] = some (.b (eqv (Flight.mk xId xKey xBack xOut xDue xDoomed (Request.mk xGetMethod xGetHost xGetPath xGetHeaders) xWaiters) (Flight.mk yId yKey yBack yOut yDue yDoomed (Request.mk yGetMethod yGetHost yGetPath yGetHeaders) yWaiters)), [.u, .u]) := mkS_eq (0) rfl rfl (fun cx h => by
  obtain ⟨q0, q1, q2, q3, q4, q5, q6, q7⟩ := h0
  simp only [go_sem, reduceIte, ↓reduceIte, reduceCtorEq, nA, nS, nM, nB, nE, nL, nT, nN, iL, iT, iE, iA, iM, iS, iG, iB, iN, iZ, h, eqv_intne, eqv_bytes, eqv_boolne, q0, q1, q2, q3, q4, q5, q6, q7]
  simp only [eqv_bool, eqv_int, Flight.eqv (Flight.mk xId xKey xBack xOut xDue xDoomed (Request.mk xGetMethod xGetHost xGetPath xGetHeaders) xWaiters) (Flight.mk yId yKey yBack yOut yDue yDoomed (Request.mk yGetMethod yGetHost yGetPath yGetHeaders) yWaiters), if_b, not_eq_t, if_nb, Bool.and_true]) (rfl)
noncomputable def s16 : SP Tryz.prog := mkS tyA 16 Tryz.f16 [s50] { md := [.ro 1, .ro 1], rg := [(0, [0, 1], []), (1, [0, 1, 10], []), (2, [4], []), (3, [0, 1, 5], []), (4, [0, 1, 5, 14], []), (5, [0, 1, 5], []), (6, [0, 1, 5, 26], []), (7, [4], []), (8, [4], [])], lv := [(0, [0, 1, 5], [])], out := [(0, [], [])], rets := some ([4], []), plan := [(6, (.take 0 (.take 1 (.take 2 (.take 3 (.take 4 (.take 5 (.take 6 (.take 7 (.one 8 (.take 9 .done)))))))))))] } Tryz.func16 (by kernel_rfl)
@[go_sem] theorem d16 : s16.g = 16 ∧ s16.fs = ⟨[.ro 1, .ro 1], s16.F, false⟩ := ⟨nr rfl, nr rfl⟩
@[go_sem] theorem e16 (xs ys : List Flight) (h0 : smL smFlight xs) : s16.F [.sl .ro 11 (xs.map (rFlight .ro)), .sl .ro 11 (ys.map (rFlight .ro))] = some (.b (eqv xs ys), [.u, .u]) := mkS_eq (xs.length + 1) rfl rfl (fun cx h => by
  have hb := loopN_eq Tryz.f16 0 _ _ rfl rfl
  have hx := h0.1
  by_cases hl : xs.length = ys.length
  · obtain ⟨r, hr, hq⟩ := loop_list (cx := cx) (blk := 0) (body := loopN Tryz.f16 0) (xs.zip ys) (fun k (_ : Unit) => ⟨E [(0, .sl .ro 11 (xs.map (rFlight .ro))), (1, .sl .ro 11 (ys.map (rFlight .ro))), (5, .i .i64 k)], B []⟩) (fun _ => ⟨E [], B []⟩) (fun x _ => !eqv x.1 x.2) (fun _ _ => ()) (fun _ _ => (.ret, ⟨E [(4, .b false)], B []⟩)) (fun _ _ => True)
      (fun l _ G => by simp only [go_sem, reduceIte, ↓reduceIte, reduceCtorEq, nA, nS, nM, nB, nE, nL, nT, nN, iL, iT, iE, iA, iM, iS, iG, iB, iN, iZ, h, zip_len hl, hl, Int.lt_irrefl, hb]) (fun k hk l _ => by
        have hk : k < xs.length := by rwa [zip_len hl] at hk
        have h1 : ((k : Int) < (xs.length : Int)) := Int.ofNat_lt.2 hk
        have h2 := h0.2 _ (List.getElem_mem hk)
        have h3 : (xs.zip ys)[k] = (xs[k], ys[k]'(by omega)) := by simp
        rw [h3]
        cases hc : eqv xs[k] (ys[k]'(by omega))
        · exact .inl ⟨rfl, fun G => by simp only [go_sem, reduceIte, ↓reduceIte, reduceCtorEq, nA, nS, nM, nB, nE, nL, nT, nN, iL, iT, iE, iA, iM, iS, iG, iB, iN, iZ, h, hc, map_gd (rFlight .ro) xs k hk, map_gd (rFlight .ro) ys k (by omega), idx_nt ys.length k (by omega), h2, h1, idx_nt _ _ hk, wrap_nat1 (show k < 9223372036854775807 by omega), hb]⟩
        · exact .inr ⟨rfl, trivial, _, fun G => by simp only [go_sem, reduceIte, ↓reduceIte, reduceCtorEq, nA, nS, nM, nB, nE, nL, nT, nN, iL, iT, iE, iA, iM, iS, iG, iB, iN, iZ, h, hc, map_gd (rFlight .ro) xs k hk, map_gd (rFlight .ro) ys k (by omega), idx_nt ys.length k (by omega), h2, h1, idx_nt _ _ hk, wrap_nat1 (show k < 9223372036854775807 by omega), hb] <;> with_reducible rfl, by simp only [go_sem, reduceIte, ↓reduceIte, reduceCtorEq, nA, nS, nM, nB, nE, nL, nT, nN, iL, iT, iE, iA, iM, iS, iG, iB, iN, iZ, h]⟩) () trivial (xs.length + 1) (by rw [zip_len hl]; exact Nat.le_refl _)
    rw [hb] at hr
    have hl2 : ((xs.length : Int) != (ys.length : Int)) = false := by simp [hl]
    rcases hq with ⟨s', e1, e2, e3⟩ | ⟨x, s', e1, e3⟩
    · simp only [go_sem, reduceIte, ↓reduceIte, reduceCtorEq, nA, nS, nM, nB, nE, nL, nT, nN, iL, iT, iE, iA, iM, iS, iG, iB, iN, iZ, h, hl2, hr, e3, zip_eqv hl e1]
    · simp only [go_sem, reduceIte, ↓reduceIte, reduceCtorEq, nA, nS, nM, nB, nE, nL, nT, nN, iL, iT, iE, iA, iM, iS, iG, iB, iN, iZ, h, hl2, hr, e3, zip_nev hl e1]
  · have hl2 : ((xs.length : Int) != (ys.length : Int)) = true := by simpa using fun h => hl (Int.ofNat_inj.1 h)
    simp only [go_sem, reduceIte, ↓reduceIte, reduceCtorEq, nA, nS, nM, nB, nE, nL, nT, nN, iL, iT, iE, iA, iM, iS, iG, iB, iN, iZ, h, hl2, len_nev hl]) (rfl)
noncomputable def s4 : SP Tryz.prog := mkS tyA 4 Tryz.f4 [s11, s12, s13, s14, s15, s16] { md := [.ro 1, .ro 1], rg := [(0, [0, 1], []), (1, [0, 1, 11], []), (2, [4], []), (3, [0, 1, 5], []), (4, [0, 1, 5], []), (5, [0, 1, 16], []), (6, [4], []), (7, [0, 1, 6], [6]), (8, [0, 1, 6, 7], [6]), (9, [0, 6, 7, 8], [6, 8]), (10, [0, 7, 29], []), (11, [4], []), (12, [34], []), (13, [4], []), (14, [4], [])], rets := some ([4], []) } Tryz.func4 (by kernel_rfl)
@[go_sem] theorem d4 : s4.g = 4 ∧ s4.fs = ⟨[.ro 1, .ro 1], s4.F, false⟩ := ⟨nr rfl, nr rfl⟩
theorem e4 (fs : List Flight) (key : ByteArray) (h0 : (okL okFlight) fs ∧ okStr key) : s4.F [.sl .ro 11 (fs.map (rFlight .ro)), .s key] = some (.b true, [.u, .u]) := mkS_eq (0) rfl rfl (fun cx h => by
  by_cases hc1 : (1048576 : Int) < key.size
  · simp only [go_sem, reduceIte, ↓reduceIte, reduceCtorEq, nA, nS, nM, nB, nE, nL, nT, nN, iL, iT, iE, iA, iM, iS, iG, iB, iN, iZ, h, hc1]
  have hs1 : key.size ≤ 1048576 := by omega
  have h0_0 := h0.1
  by_cases hc0 : szL szFlight fs 1048576 < 0
  · simp only [go_sem, reduceIte, ↓reduceIte, reduceCtorEq, nA, nS, nM, nB, nE, nL, nT, nN, iL, iT, iE, iA, iM, iS, iG, iB, iN, iZ, h, hc0, h0_0, hc1]
  obtain ⟨hs0, hl0⟩ := (szL_fact szFlight_fact) _ _ h0_0 (by decide) (by decide) (show 0 ≤ szL szFlight fs 1048576 by omega)
  obtain ⟨R, hR⟩ : ∃ R, placeR fs (idxP (fun x => eqv x.Key key) fs 0) = R := ⟨_, rfl⟩
  have hsm := sm_trivIntResult (placeR fs (idxP (fun x => eqv x.Key key) fs 0))
  rw [hR] at hsm
  simp only [go_sem, reduceIte, ↓reduceIte, reduceCtorEq, nA, nS, nM, nB, nE, nL, nT, nN, iL, iT, iE, iA, iM, iS, iG, iB, iN, iZ, h, hc1, hc0, hs1, hs0, h0_0, hR, hsm, eqv_self]) (rfl)
end Go.Vm.A
