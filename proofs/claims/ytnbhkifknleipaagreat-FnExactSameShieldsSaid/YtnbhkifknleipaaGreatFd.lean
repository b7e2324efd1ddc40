/- Functions of the program, walked by the evaluator. -/
import Derived.Test.YtnbhkifknleipaaGreatWb
import Derived.Test.YtnbhkifknleipaaGreatWa
import Derived.Test.YtnbhkifknleipaaGreatFb
import Derived.Test.YtnbhkifknleipaaGreatFc
set_option autoImplicit false
set_option maxRecDepth 100000
set_option maxHeartbeats 4000000
set_option linter.unusedVariables false
set_option linter.unusedSimpArgs false
namespace Go.Vm.A
open Go.Proofs
open Nat renaming reduceAdd → nA, reduceSub → nS, reduceMul → nM, reduceBEq → nB, reduceEqDiff → nE, reduceLeDiff → nL, reduceLT → nT, reduceBneDiff → nN
open Int renaming reduceLE → iL, reduceLT → iT, reduceEq → iE, reduceAdd → iA, reduceMul → iM, reduceSub → iS, reduceNeg → iG, reduceBEq → iB, reduceBNe → iN, reduceToNat → iZ

noncomputable def s16 : SP Tryz.prog := mkS tyA 16 Tryz.f16 [] { md := [.ro 1, .ro 1], rg := [(0, [2, 3], [2, 3]), (1, [2, 3, 19], [2, 3]), (2, [4], []), (3, [2, 3, 5], [2, 3]), (4, [2, 3, 5, 24], [2, 3]), (5, [2, 3, 5], [2, 3]), (6, [2, 3, 5, 37], [2, 3]), (7, [4], []), (8, [4], [])], lv := [(0, [2, 3, 5], [2, 3])], out := [(0, [], [])], rets := some ([4], []), plan := [(6, (.take 0 (.take 1 (.take 2 (.take 3 (.take 4 (.take 5 (.take 6 (.take 7 (.take 8 (.take 9 (.take 10 .done))))))))))))] } Tryz.func16 (by kernel_rfl)
@[go_sem] theorem d16 : s16.g = 16 ∧ s16.fs = ⟨[.ro 1, .ro 1], s16.F, false⟩ := ⟨nr rfl, nr rfl⟩
@[go_sem] theorem e16 (xBusy : Int) (xQueue : List Wait) (yBusy : Int) (yQueue : List Wait) (h0 : smBulk (Bulk.mk xBusy xQueue)) : s16.F [.agg [.i .i64 xBusy, .sl .ro 2 (xQueue.map (rWait .ro))], .agg [.i .i64 yBusy, .sl .ro 2 (yQueue.map (rWait .ro))]] = some (.b (eqv (Bulk.mk xBusy xQueue) (Bulk.mk yBusy yQueue)), [.u, .u]) := mkS_eq (xQueue.length + 1) rfl rfl (fun cx h => by
  obtain ⟨q0, q1⟩ := h0
  have hx := q1.1
  simp only at hx
  have hE := Bulk.eqv (Bulk.mk xBusy xQueue) (Bulk.mk yBusy yQueue)
  simp only [Bool.and_true] at hE
  cases c0 : eqv xBusy yBusy
  · simp only [c0, Bool.false_and] at hE
    simp only [go_sem, reduceIte, ↓reduceIte, reduceCtorEq, nA, nS, nM, nB, nE, nL, nT, nN, iL, iT, iE, iA, iM, iS, iG, iB, iN, iZ, h, hE, c0, eqv_intne, eqv_int]
  simp only [c0, Bool.true_and] at hE
  by_cases hl : xQueue.length = yQueue.length
  rotate_left
  · have hl2 : ((xQueue.length : Int) != (yQueue.length : Int)) = true := by simpa using fun h => hl (Int.ofNat_inj.1 h)
    have hl3 : eqv xQueue.length yQueue.length = false := by rw [Bool.eq_false_iff]; exact fun h => hl (eqv_iff.1 h)
    have hl4 : eqv (xQueue.length : Int) (yQueue.length : Int) = false := by rw [Bool.eq_false_iff]; exact fun h => hl (Int.ofNat_inj.1 (eqv_iff.1 h))
    simp only [go_sem, reduceIte, ↓reduceIte, reduceCtorEq, nA, nS, nM, nB, nE, nL, nT, nN, iL, iT, iE, iA, iM, iS, iG, iB, iN, iZ, h, hE, c0, eqv_intne, hl2, hl4, len_nev hl]
  have hl4 : eqv (xQueue.length : Int) (yQueue.length : Int) = true := eqv_iff.2 (by rw [hl])
  have hb0 := loopN_eq Tryz.f16 0 _ _ rfl rfl
  obtain ⟨r, hr, hq⟩ := loop_srch (cx := cx) (blk := 0) (body := loopN Tryz.f16 0) (xQueue.zip yQueue) (fun k (s : Unit) => ⟨E [(2, .p ⟨false, 2, [], 0⟩), (3, .p ⟨false, 3, [], 0⟩), (5, .i .i64 k)], B [(2, [.i .i64 xBusy, .sl .ro 2 (xQueue.map (rWait .ro))]), (3, [.i .i64 yBusy, .sl .ro 2 (yQueue.map (rWait .ro))])]⟩) (fun s => ⟨E [], B []⟩) (fun x s => !eqv x.1 x.2) (fun x s => ()) (fun x s => (.ret, ⟨E [(4, .b false)], B []⟩)) (fun k s => True)
      (fun s hI G => by simp only [go_sem, reduceIte, ↓reduceIte, reduceCtorEq, nA, nS, nM, nB, nE, nL, nT, nN, iL, iT, iE, iA, iM, iS, iG, iB, iN, iZ, h, Int.lt_irrefl, hb0, zip_len hl, hl]) (fun k hk s hI => by
        have h1 : ((k : Int) < ((xQueue.zip yQueue).length : Int)) := Int.ofNat_lt.2 hk
        have hk' : k < xQueue.length := by rwa [zip_len hl] at hk
        have h1' : ((k : Int) < (xQueue.length : Int)) := Int.ofNat_lt.2 hk'
        have h3 : (xQueue.zip yQueue)[k] = (xQueue[k], yQueue[k]'(by omega)) := by simp
        rw [h3]
        exact ⟨_, _, _, fun G => by simp only [go_sem, reduceIte, ↓reduceIte, reduceCtorEq, nA, nS, nM, nB, nE, nL, nT, nN, iL, iT, iE, iA, iM, iS, iG, iB, iN, iZ, h, h1', idx_nt _ _ hk', idx_nt yQueue.length k (by omega), map_gd (rWait .ro) xQueue k hk', map_gd (rWait .ro) yQueue k (by omega), wrap_nat1 (show k < 9223372036854775807 by omega), if_oret, eqv_intne, eqv_bytes, eqv_boolne, h1, idx_nt _ _ hk, wrap_nat1 (show k < 9223372036854775807 by omega), hb0] <;> with_reducible rfl, by first | exact Iff.rfl | ((simp only [Wait.eqv xQueue[k] (yQueue[k]'(by omega))] <;> simp) <;> done) | (simp only [Wait.eqv xQueue[k] (yQueue[k]'(by omega))] <;> simp [eqv]), fun hc => ⟨trivial, by simp only [go_sem, reduceIte, ↓reduceIte, reduceCtorEq, nA, nS, nM, nB, nE, nL, nT, nN, iL, iT, iE, iA, iM, iS, iG, iB, iN, iZ, h]⟩⟩) () trivial (xQueue.length + 1) (by rw [zip_len hl]; exact Nat.le_refl _)
  rw [hb0] at hr
  rcases hq with ⟨s', e1, _, e3⟩ | ⟨x, s', e1, e3⟩
  · simp only [go_sem, reduceIte, ↓reduceIte, reduceCtorEq, nA, nS, nM, nB, nE, nL, nT, nN, iL, iT, iE, iA, iM, iS, iG, iB, iN, iZ, h, hE, c0, eqv_intne, hl4, hr, e3, zip_eqv hl e1]
  · simp only [go_sem, reduceIte, ↓reduceIte, reduceCtorEq, nA, nS, nM, nB, nE, nL, nT, nN, iL, iT, iE, iA, iM, iS, iG, iB, iN, iZ, h, hE, c0, eqv_intne, hl4, hr, e3, zip_nev hl e1]) (rfl)
noncomputable def s39 : SP Tryz.prog := mkS tyA 39 Tryz.f39 [] { md := [.ro 1, .ro 1], rg := [(0, [0, 1], []), (1, [0, 1, 10], []), (2, [4], []), (3, [0, 1, 5], []), (4, [0, 1, 5, 14], []), (5, [0, 1, 5], []), (6, [0, 1, 5, 25], []), (7, [4], []), (8, [4], [])], lv := [(0, [0, 1, 5], [])], out := [(0, [], [])], rets := some ([4], []), plan := [(6, (.take 0 (.take 1 (.take 2 (.take 3 (.take 4 (.take 5 (.take 6 (.take 7 (.take 8 .done))))))))))] } Tryz.func39 (by kernel_rfl)
@[go_sem] theorem d39 : s39.g = 39 ∧ s39.fs = ⟨[.ro 1, .ro 1], s39.F, false⟩ := ⟨nr rfl, nr rfl⟩
@[go_sem] theorem e39 (xs ys : List Mark) (h0 : smL smMark xs) : s39.F [.sl .ro 2 (xs.map (rMark .ro)), .sl .ro 2 (ys.map (rMark .ro))] = some (.b (eqv xs ys), [.u, .u]) := mkS_eq (xs.length + 1) rfl rfl (fun cx h => by
  have hx := h0.1
  by_cases hl : xs.length = ys.length
  · have hb0 := loopN_eq Tryz.f39 0 _ _ rfl rfl
    obtain ⟨r, hr, hq⟩ := loop_srch (cx := cx) (blk := 0) (body := loopN Tryz.f39 0) (xs.zip ys) (fun k (s : Unit) => ⟨E [(0, .sl .ro 2 (xs.map (rMark .ro))), (1, .sl .ro 2 (ys.map (rMark .ro))), (5, .i .i64 k)], B []⟩) (fun s => ⟨E [], B []⟩) (fun x s => !eqv x.1 x.2) (fun x s => s) (fun x s => (.ret, ⟨E [(4, .b false)], B []⟩)) (fun k s => True)
        (fun s hI G => by simp only [go_sem, reduceIte, ↓reduceIte, reduceCtorEq, nA, nS, nM, nB, nE, nL, nT, nN, iL, iT, iE, iA, iM, iS, iG, iB, iN, iZ, h, Int.lt_irrefl, hb0, zip_len hl, hl]) (fun k hk s hI => by
          have h1 : ((k : Int) < ((xs.zip ys).length : Int)) := Int.ofNat_lt.2 hk
          have hk' : k < xs.length := by rwa [zip_len hl] at hk
          have h1' : ((k : Int) < (xs.length : Int)) := Int.ofNat_lt.2 hk'
          have h2 := h0.2 _ (List.getElem_mem hk')
          have h3 : (xs.zip ys)[k] = (xs[k], ys[k]'(by omega)) := by simp
          rw [h3]
          have h4 := h2
          obtain ⟨u0, u1⟩ := h2
          exact ⟨_, _, _, fun G => by simp only [go_sem, reduceIte, ↓reduceIte, reduceCtorEq, nA, nS, nM, nB, nE, nL, nT, nN, iL, iT, iE, iA, iM, iS, iG, iB, iN, iZ, h, h1', idx_nt _ _ hk', idx_nt ys.length k (by omega), map_gd (rMark .ro) xs k hk', map_gd (rMark .ro) ys k (by omega), wrap_nat1 (show k < 9223372036854775807 by omega), h4, if_oret, Mark.eqv xs[k] (ys[k]'(by omega)), u0, u1, eqv_byte, eqv_intne, eqv_int, eqv_bytes, eqv_boolne, h1, idx_nt _ _ hk, wrap_nat1 (show k < 9223372036854775807 by omega), hb0] <;> with_reducible rfl, by first | exact Iff.rfl | ((simp only [Mark.eqv xs[k] (ys[k]'(by omega))] <;> simp) <;> done) | ((simp only [Mark.eqv xs[k] (ys[k]'(by omega))] <;> simp [eqv]) <;> done) | (simp only [Mark.eqv xs[k] (ys[k]'(by omega))] <;> simp [eqv] <;> (by_cases g : xs[k].Get = (ys[k]'(by omega)).Get <;> simp [g])), fun hc => ⟨trivial, by simp only [go_sem, reduceIte, ↓reduceIte, reduceCtorEq, nA, nS, nM, nB, nE, nL, nT, nN, iL, iT, iE, iA, iM, iS, iG, iB, iN, iZ, h]⟩⟩) () trivial (xs.length + 1) (by rw [zip_len hl]; exact Nat.le_refl _)
    rw [hb0] at hr
    have hl2 : ((xs.length : Int) != (ys.length : Int)) = false := by simp [hl]
    rcases hq with ⟨s', e1, _, e3⟩ | ⟨x, s', e1, e3⟩
    · simp only [go_sem, reduceIte, ↓reduceIte, reduceCtorEq, nA, nS, nM, nB, nE, nL, nT, nN, iL, iT, iE, iA, iM, iS, iG, iB, iN, iZ, h, hl2, hr, e3, zip_eqv hl e1]
    · simp only [go_sem, reduceIte, ↓reduceIte, reduceCtorEq, nA, nS, nM, nB, nE, nL, nT, nN, iL, iT, iE, iA, iM, iS, iG, iB, iN, iZ, h, hl2, hr, e3, zip_nev hl e1]
  · have hl2 : ((xs.length : Int) != (ys.length : Int)) = true := by simpa using fun h => hl (Int.ofNat_inj.1 h)
    simp only [go_sem, reduceIte, ↓reduceIte, reduceCtorEq, nA, nS, nM, nB, nE, nL, nT, nN, iL, iT, iE, iA, iM, iS, iG, iB, iN, iZ, h, hl2, len_nev hl]) (rfl)
noncomputable def s17 : SP Tryz.prog := mkS tyA 17 Tryz.f17 [s39] { md := [.ro 1, .ro 1], rets := some ([4], []) } Tryz.func17 (by kernel_rfl)
@[go_sem] theorem d17 : s17.g = 17 ∧ s17.fs = ⟨[.ro 1, .ro 1], s17.F, false⟩ := ⟨nr rfl, nr rfl⟩
@[go_sem] theorem e17 (xState : Int) (xSince : Int) (xOut : Int) (xMarks : List Mark) (yState : Int) (ySince : Int) (yOut : Int) (yMarks : List Mark) (h0 : smBreaker (Breaker.mk xState xSince xOut xMarks)) : s17.F [.agg [.i .i64 xState, .i .i64 xSince, .i .i64 xOut, .sl .ro 2 (xMarks.map (rMark .ro))], .agg [.i .i64 yState, .i .i64 ySince, .i .i64 yOut, .sl .ro 2 (yMarks.map (rMark .ro))]] = some (.b (eqv (Breaker.mk xState xSince xOut xMarks) (Breaker.mk yState ySince yOut yMarks)), [.u, .u]) := mkS_eq (0) rfl rfl (fun cx h => by
  obtain ⟨q0, q1, q2, q3⟩ := h0
  simp only [go_sem, reduceIte, ↓reduceIte, reduceCtorEq, nA, nS, nM, nB, nE, nL, nT, nN, iL, iT, iE, iA, iM, iS, iG, iB, iN, iZ, h, eqv_intne, eqv_int, eqv_bytes, eqv_boolne, eqv_bool, eqv_mk, q0, q1, q2, q3]
  simp only [Breaker.eqv (Breaker.mk xState xSince xOut xMarks) (Breaker.mk yState ySince yOut yMarks), if_sb, if_and', if_or', Bool.and_true, Bool.and_assoc]) (rfl)
theorem eqv_bytesne (a b : ByteArray) : (a.toList != b.toList) = !eqv a b := by rw [bne, eqv_bytes]
noncomputable def s5 : SP Tryz.prog := mkS tyA 5 Tryz.f5 [s13, s14, s15, s16, s17] { md := [.ro 1, .ro 1], rg := [(0, [2, 3], [2, 3]), (1, [2, 3, 48], [2, 3]), (2, [4], []), (3, [2, 3, 5], [2, 3]), (4, [2, 3, 5, 53], [2, 3]), (5, [2, 3, 5], [2, 3]), (6, [2, 3, 5, 100], [2, 3]), (7, [4], []), (8, [4], [])], lv := [(0, [2, 3, 5], [2, 3])], out := [(0, [], [])], rets := some ([4], []), plan := [(6, (.take 0 (.take 1 (.take 2 (.take 3 (.take 4 (.take 5 (.take 6 (.take 7 (.take 8 (.take 9 (.take 10 (.take 11 (.take 12 (.take 13 (.take 14 (.take 15 (.take 16 (.take 17 (.take 18 (.take 19 (.take 20 (.take 21 (.take 22 (.take 23 (.take 24 (.take 25 (.one 26 (.take 27 (.take 28 (.take 29 (.take 30 (.take 31 (.take 32 (.take 33 (.take 34 (.take 35 (.take 36 (.take 37 (.take 38 (.take 39 (.take 40 (.take 41 (.one 42 (.take 43 (.take 44 .done))))))))))))))))))))))))))))))))))))))))))))))] } Tryz.func5 (by kernel_rfl)
@[go_sem] theorem d5 : s5.g = 5 ∧ s5.fs = ⟨[.ro 1, .ro 1], s5.F, false⟩ := ⟨nr rfl, nr rfl⟩
@[go_sem] theorem e5 (xConfigBudget : Int) (xConfigGuard : Int) (xConfigObjCost : Int) (xConfigNeg : Int) (xConfigEarly : Int) (xConfigFetchTime : Int) (xConfigWaitTime : Int) (xConfigWaitCap : Int) (xConfigNames : List ByteArray) (xConfigLanesSlots : Int) (xConfigLanesCap : Int) (xConfigLanesTime : Int) (xConfigRulesWindow : Int) (xConfigRulesMin : Int) (xConfigRulesRatio : Int) (xConfigRulesCool : Int) (xConfigRulesQuota : Int) (xNow : Int) (xNext : Int) (xStoreBudget : Int) (xStoreGuard : Int) (xStoreTrial : List Entry) (xStoreKept : List Entry) (xOrigins : List Origin) (xFlights : List Flight) (yConfigBudget : Int) (yConfigGuard : Int) (yConfigObjCost : Int) (yConfigNeg : Int) (yConfigEarly : Int) (yConfigFetchTime : Int) (yConfigWaitTime : Int) (yConfigWaitCap : Int) (yConfigNames : List ByteArray) (yConfigLanesSlots : Int) (yConfigLanesCap : Int) (yConfigLanesTime : Int) (yConfigRulesWindow : Int) (yConfigRulesMin : Int) (yConfigRulesRatio : Int) (yConfigRulesCool : Int) (yConfigRulesQuota : Int) (yNow : Int) (yNext : Int) (yStoreBudget : Int) (yStoreGuard : Int) (yStoreTrial : List Entry) (yStoreKept : List Entry) (yOrigins : List Origin) (yFlights : List Flight) (h0 : smShield (Shield.mk (Config.mk xConfigBudget xConfigGuard xConfigObjCost xConfigNeg xConfigEarly xConfigFetchTime xConfigWaitTime xConfigWaitCap xConfigNames (Lanes.mk xConfigLanesSlots xConfigLanesCap xConfigLanesTime) (Rules.mk xConfigRulesWindow xConfigRulesMin xConfigRulesRatio xConfigRulesCool xConfigRulesQuota)) xNow xNext (Store.mk xStoreBudget xStoreGuard xStoreTrial xStoreKept) xOrigins xFlights)) : s5.F [.agg [.i .i64 xConfigBudget, .i .i64 xConfigGuard, .i .i64 xConfigObjCost, .i .i64 xConfigNeg, .i .i64 xConfigEarly, .i .i64 xConfigFetchTime, .i .i64 xConfigWaitTime, .i .i64 xConfigWaitCap, .sl .ro 1 (xConfigNames.map rStr), .i .i64 xConfigLanesSlots, .i .i64 xConfigLanesCap, .i .i64 xConfigLanesTime, .i .i64 xConfigRulesWindow, .i .i64 xConfigRulesMin, .i .i64 xConfigRulesRatio, .i .i64 xConfigRulesCool, .i .i64 xConfigRulesQuota, .i .i64 xNow, .i .i64 xNext, .i .i64 xStoreBudget, .i .i64 xStoreGuard, .sl .ro 13 (xStoreTrial.map (rEntry .ro)), .sl .ro 13 (xStoreKept.map (rEntry .ro)), .sl .ro 7 (xOrigins.map (rOrigin .ro)), .sl .ro 11 (xFlights.map (rFlight .ro))], .agg [.i .i64 yConfigBudget, .i .i64 yConfigGuard, .i .i64 yConfigObjCost, .i .i64 yConfigNeg, .i .i64 yConfigEarly, .i .i64 yConfigFetchTime, .i .i64 yConfigWaitTime, .i .i64 yConfigWaitCap, .sl .ro 1 (yConfigNames.map rStr), .i .i64 yConfigLanesSlots, .i .i64 yConfigLanesCap, .i .i64 yConfigLanesTime, .i .i64 yConfigRulesWindow, .i .i64 yConfigRulesMin, .i .i64 yConfigRulesRatio, .i .i64 yConfigRulesCool, .i .i64 yConfigRulesQuota, .i .i64 yNow, .i .i64 yNext, .i .i64 yStoreBudget, .i .i64 yStoreGuard, .sl .ro 13 (yStoreTrial.map (rEntry .ro)), .sl .ro 13 (yStoreKept.map (rEntry .ro)), .sl .ro 7 (yOrigins.map (rOrigin .ro)), .sl .ro 11 (yFlights.map (rFlight .ro))]] = some (.b (eqv (Shield.mk (Config.mk xConfigBudget xConfigGuard xConfigObjCost xConfigNeg xConfigEarly xConfigFetchTime xConfigWaitTime xConfigWaitCap xConfigNames (Lanes.mk xConfigLanesSlots xConfigLanesCap xConfigLanesTime) (Rules.mk xConfigRulesWindow xConfigRulesMin xConfigRulesRatio xConfigRulesCool xConfigRulesQuota)) xNow xNext (Store.mk xStoreBudget xStoreGuard xStoreTrial xStoreKept) xOrigins xFlights) (Shield.mk (Config.mk yConfigBudget yConfigGuard yConfigObjCost yConfigNeg yConfigEarly yConfigFetchTime yConfigWaitTime yConfigWaitCap yConfigNames (Lanes.mk yConfigLanesSlots yConfigLanesCap yConfigLanesTime) (Rules.mk yConfigRulesWindow yConfigRulesMin yConfigRulesRatio yConfigRulesCool yConfigRulesQuota)) yNow yNext (Store.mk yStoreBudget yStoreGuard yStoreTrial yStoreKept) yOrigins yFlights)), [.u, .u]) := mkS_eq (xOrigins.length + 1) rfl rfl (fun cx h => by
  obtain ⟨q0, q1, q2, q3, q4, q5⟩ := h0
  have hc : smL smStr xConfigNames := q0.2.2.2.2.2.2.2.2.1
  have hx := q4.1
  simp only at hx
  have hE := Shield.eqv (Shield.mk (Config.mk xConfigBudget xConfigGuard xConfigObjCost xConfigNeg xConfigEarly xConfigFetchTime xConfigWaitTime xConfigWaitCap xConfigNames (Lanes.mk xConfigLanesSlots xConfigLanesCap xConfigLanesTime) (Rules.mk xConfigRulesWindow xConfigRulesMin xConfigRulesRatio xConfigRulesCool xConfigRulesQuota)) xNow xNext (Store.mk xStoreBudget xStoreGuard xStoreTrial xStoreKept) xOrigins xFlights) (Shield.mk (Config.mk yConfigBudget yConfigGuard yConfigObjCost yConfigNeg yConfigEarly yConfigFetchTime yConfigWaitTime yConfigWaitCap yConfigNames (Lanes.mk yConfigLanesSlots yConfigLanesCap yConfigLanesTime) (Rules.mk yConfigRulesWindow yConfigRulesMin yConfigRulesRatio yConfigRulesCool yConfigRulesQuota)) yNow yNext (Store.mk yStoreBudget yStoreGuard yStoreTrial yStoreKept) yOrigins yFlights)
  simp only [Bool.and_true] at hE
  cases b0 : eqv (Config.mk xConfigBudget xConfigGuard xConfigObjCost xConfigNeg xConfigEarly xConfigFetchTime xConfigWaitTime xConfigWaitCap xConfigNames (Lanes.mk xConfigLanesSlots xConfigLanesCap xConfigLanesTime) (Rules.mk xConfigRulesWindow xConfigRulesMin xConfigRulesRatio xConfigRulesCool xConfigRulesQuota)) (Config.mk yConfigBudget yConfigGuard yConfigObjCost yConfigNeg yConfigEarly yConfigFetchTime yConfigWaitTime yConfigWaitCap yConfigNames (Lanes.mk yConfigLanesSlots yConfigLanesCap yConfigLanesTime) (Rules.mk yConfigRulesWindow yConfigRulesMin yConfigRulesRatio yConfigRulesCool yConfigRulesQuota))
  · simp only [b0, Bool.false_and, Bool.true_and, Bool.and_false] at hE
    simp only [go_sem, reduceIte, ↓reduceIte, reduceCtorEq, nA, nS, nM, nB, nE, nL, nT, nN, iL, iT, iE, iA, iM, iS, iG, iB, iN, iZ, h, hE, hc, q3, q5, eqv_intne, eqv_int, b0]
  cases b1 : eqv xNow yNow
  · simp only [b0, b1, Bool.false_and, Bool.true_and, Bool.and_false] at hE
    simp only [go_sem, reduceIte, ↓reduceIte, reduceCtorEq, nA, nS, nM, nB, nE, nL, nT, nN, iL, iT, iE, iA, iM, iS, iG, iB, iN, iZ, h, hE, hc, q3, q5, eqv_intne, eqv_int, b0, b1]
  cases b2 : eqv xNext yNext
  · simp only [b0, b1, b2, Bool.false_and, Bool.true_and, Bool.and_false] at hE
    simp only [go_sem, reduceIte, ↓reduceIte, reduceCtorEq, nA, nS, nM, nB, nE, nL, nT, nN, iL, iT, iE, iA, iM, iS, iG, iB, iN, iZ, h, hE, hc, q3, q5, eqv_intne, eqv_int, b0, b1, b2]
  cases b3 : eqv (Store.mk xStoreBudget xStoreGuard xStoreTrial xStoreKept) (Store.mk yStoreBudget yStoreGuard yStoreTrial yStoreKept)
  · simp only [b0, b1, b2, b3, Bool.false_and, Bool.true_and, Bool.and_false] at hE
    simp only [go_sem, reduceIte, ↓reduceIte, reduceCtorEq, nA, nS, nM, nB, nE, nL, nT, nN, iL, iT, iE, iA, iM, iS, iG, iB, iN, iZ, h, hE, hc, q3, q5, eqv_intne, eqv_int, b0, b1, b2, b3]
  cases b5 : eqv xFlights yFlights
  · simp only [b0, b1, b2, b3, b5, Bool.false_and, Bool.true_and, Bool.and_false] at hE
    simp only [go_sem, reduceIte, ↓reduceIte, reduceCtorEq, nA, nS, nM, nB, nE, nL, nT, nN, iL, iT, iE, iA, iM, iS, iG, iB, iN, iZ, h, hE, hc, q3, q5, eqv_intne, eqv_int, b0, b1, b2, b3, b5]
  simp only [b0, b1, b2, b3, b5, Bool.true_and, Bool.and_true] at hE
  by_cases hl : xOrigins.length = yOrigins.length
  rotate_left
  · have hl4 : eqv (xOrigins.length : Int) (yOrigins.length : Int) = false := by rw [Bool.eq_false_iff]; exact fun h => hl (Int.ofNat_inj.1 (eqv_iff.1 h))
    simp only [go_sem, reduceIte, ↓reduceIte, reduceCtorEq, nA, nS, nM, nB, nE, nL, nT, nN, iL, iT, iE, iA, iM, iS, iG, iB, iN, iZ, h, hE, hc, q3, q5, eqv_intne, b0, b1, b2, b3, b5, hl4, len_nev hl]
  have hl4 : eqv (xOrigins.length : Int) (yOrigins.length : Int) = true := eqv_iff.2 (by rw [hl])
  have hb0 := loopN_eq Tryz.f5 0 _ _ rfl rfl
  obtain ⟨r, hr, hq⟩ := loop_srch (cx := cx) (blk := 0) (body := loopN Tryz.f5 0) (xOrigins.zip yOrigins) (fun k (s : Unit) => ⟨E [(2, .p ⟨false, 2, [], 0⟩), (3, .p ⟨false, 3, [], 0⟩), (5, .i .i64 k)], B [(2, [.i .i64 xConfigBudget, .i .i64 xConfigGuard, .i .i64 xConfigObjCost, .i .i64 xConfigNeg, .i .i64 xConfigEarly, .i .i64 xConfigFetchTime, .i .i64 xConfigWaitTime, .i .i64 xConfigWaitCap, .sl .ro 1 (xConfigNames.map rStr), .i .i64 xConfigLanesSlots, .i .i64 xConfigLanesCap, .i .i64 xConfigLanesTime, .i .i64 xConfigRulesWindow, .i .i64 xConfigRulesMin, .i .i64 xConfigRulesRatio, .i .i64 xConfigRulesCool, .i .i64 xConfigRulesQuota, .i .i64 xNow, .i .i64 xNext, .i .i64 xStoreBudget, .i .i64 xStoreGuard, .sl .ro 13 (xStoreTrial.map (rEntry .ro)), .sl .ro 13 (xStoreKept.map (rEntry .ro)), .sl .ro 7 (xOrigins.map (rOrigin .ro)), .sl .ro 11 (xFlights.map (rFlight .ro))]), (3, [.i .i64 yConfigBudget, .i .i64 yConfigGuard, .i .i64 yConfigObjCost, .i .i64 yConfigNeg, .i .i64 yConfigEarly, .i .i64 yConfigFetchTime, .i .i64 yConfigWaitTime, .i .i64 yConfigWaitCap, .sl .ro 1 (yConfigNames.map rStr), .i .i64 yConfigLanesSlots, .i .i64 yConfigLanesCap, .i .i64 yConfigLanesTime, .i .i64 yConfigRulesWindow, .i .i64 yConfigRulesMin, .i .i64 yConfigRulesRatio, .i .i64 yConfigRulesCool, .i .i64 yConfigRulesQuota, .i .i64 yNow, .i .i64 yNext, .i .i64 yStoreBudget, .i .i64 yStoreGuard, .sl .ro 13 (yStoreTrial.map (rEntry .ro)), .sl .ro 13 (yStoreKept.map (rEntry .ro)), .sl .ro 7 (yOrigins.map (rOrigin .ro)), .sl .ro 11 (yFlights.map (rFlight .ro))])]⟩) (fun s => ⟨E [], B []⟩) (fun x s => !eqv x.1 x.2) (fun x s => ()) (fun x s => (.ret, ⟨E [(4, .b false)], B []⟩)) (fun k s => True)
      (fun s hI G => by simp only [go_sem, reduceIte, ↓reduceIte, reduceCtorEq, nA, nS, nM, nB, nE, nL, nT, nN, iL, iT, iE, iA, iM, iS, iG, iB, iN, iZ, h, Int.lt_irrefl, hb0, zip_len hl, hl]) (fun k hk s hI => by
        have h1 : ((k : Int) < ((xOrigins.zip yOrigins).length : Int)) := Int.ofNat_lt.2 hk
        have hk' : k < xOrigins.length := by rwa [zip_len hl] at hk
        have h1' : ((k : Int) < (xOrigins.length : Int)) := Int.ofNat_lt.2 hk'
        have h3 : (xOrigins.zip yOrigins)[k] = (xOrigins[k], yOrigins[k]'(by omega)) := by simp
        rw [h3]
        obtain ⟨p0, p1, p2⟩ := q4.2 _ (List.getElem_mem hk')
        have hC : (!eqv xOrigins[k] (yOrigins[k]'(by omega))) = (!(eqv xOrigins[k].Host (yOrigins[k]'(by omega)).Host && eqv xOrigins[k].Bulk (yOrigins[k]'(by omega)).Bulk && eqv xOrigins[k].Breaker (yOrigins[k]'(by omega)).Breaker)) := by rw [Origin.eqv xOrigins[k] (yOrigins[k]'(by omega))]; simp only [Bool.and_true, Bool.and_assoc]
        cases a1 : eqv xOrigins[k].Host (yOrigins[k]'(by omega)).Host <;> cases a2 : eqv xOrigins[k].Bulk (yOrigins[k]'(by omega)).Bulk <;> cases a3 : eqv xOrigins[k].Breaker (yOrigins[k]'(by omega)).Breaker
        rotate_left 7
        · exact ⟨False, inferInstance, _, fun G => by rw [if_neg (fun h => h)]; simp only [go_sem, reduceIte, ↓reduceIte, reduceCtorEq, nA, nS, nM, nB, nE, nL, nT, nN, iL, iT, iE, iA, iM, iS, iG, iB, iN, iZ, h, h1', idx_nt _ _ hk', idx_nt yOrigins.length k (by omega), map_gd (rOrigin .ro) xOrigins k hk', map_gd (rOrigin .ro) yOrigins k (by omega), wrap_nat1 (show k < 9223372036854775807 by omega), p1, p2, a1, a2, a3, eqv_intne, eqv_bytes, eqv_bytesne, eqv_boolne, h1, idx_nt _ _ hk, wrap_nat1 (show k < 9223372036854775807 by omega), hb0] <;> with_reducible rfl, (show False ↔ _ from by rw [hC, a1, a2, a3]; simp), fun hc => ⟨trivial, by simp only [go_sem, reduceIte, ↓reduceIte, reduceCtorEq, nA, nS, nM, nB, nE, nL, nT, nN, iL, iT, iE, iA, iM, iS, iG, iB, iN, iZ, h]⟩⟩
        all_goals exact ⟨True, inferInstance, ⟨E [], B []⟩, fun G => by rw [if_pos trivial]; simp only [go_sem, reduceIte, ↓reduceIte, reduceCtorEq, nA, nS, nM, nB, nE, nL, nT, nN, iL, iT, iE, iA, iM, iS, iG, iB, iN, iZ, h, h1', idx_nt _ _ hk', idx_nt yOrigins.length k (by omega), map_gd (rOrigin .ro) xOrigins k hk', map_gd (rOrigin .ro) yOrigins k (by omega), wrap_nat1 (show k < 9223372036854775807 by omega), p1, p2, a1, a2, a3, eqv_intne, eqv_bytes, eqv_bytesne, eqv_boolne, h1, idx_nt _ _ hk, wrap_nat1 (show k < 9223372036854775807 by omega), hb0], (show True ↔ _ from by rw [hC, a1, a2, a3]; simp), fun hc => absurd hc (by rw [hC, a1, a2, a3]; simp)⟩) () trivial (xOrigins.length + 1) (by rw [zip_len hl]; exact Nat.le_refl _)
  rw [hb0] at hr
  rcases hq with ⟨s', e1, _, e3⟩ | ⟨x, s', e1, e3⟩
  · simp only [go_sem, reduceIte, ↓reduceIte, reduceCtorEq, nA, nS, nM, nB, nE, nL, nT, nN, iL, iT, iE, iA, iM, iS, iG, iB, iN, iZ, h, hE, hc, q3, q5, eqv_intne, b0, b1, b2, b3, b5, hl4, hr, e3, zip_eqv hl e1]
  · simp only [go_sem, reduceIte, ↓reduceIte, reduceCtorEq, nA, nS, nM, nB, nE, nL, nT, nN, iL, iT, iE, iA, iM, iS, iG, iB, iN, iZ, h, hE, hc, q3, q5, eqv_intne, b0, b1, b2, b3, b5, hl4, hr, e3, zip_nev hl e1]) (rfl)
noncomputable def s40 : SP Tryz.prog := mkS tyA 40 Tryz.f40 [] { md := [.ro 1], rg := [(0, [0], []), (1, [0, 3], []), (2, [0, 3, 4], []), (3, [0, 3, 4, 11], []), (4, [0, 3, 4], []), (5, [0, 3, 4], []), (6, [2], [])], lv := [(0, [0, 3, 4], [])], out := [(0, [3], [])], rets := some ([2], []) } Tryz.func40 (by kernel_rfl)
@[go_sem] theorem d40 : s40.g = 40 ∧ s40.fs = ⟨[.ro 1], s40.F, false⟩ := ⟨nr rfl, nr rfl⟩
@[go_sem] theorem e40 (xs : List ByteArray) (h0 : smL smStr xs) : s40.F [.sl .ro 1 (xs.map rStr)] = some (.sl .mut 1 (xs.map rStr), [.u]) := mkS_eq (xs.length + 1) rfl rfl (fun cx h => by
  have hb := loopN_eq Tryz.f40 0 _ _ rfl rfl
  have hx := h0.1
  have c1 : ((xs.length : Int) * (16 : Nat) ≤ 140737488355328) := by omega
  have c2 : 0 ≤ (xs.length : Int) := by omega
  have hr := (loop_fold (cx := cx) (blk := 0) (body := loopN Tryz.f40 0) xs (fun k (_ : Unit) => ⟨E [(0, .sl .ro 1 (xs.map rStr)), (3, .sl .mut 1 (fillUp rStr [.s ⟨#[]⟩] xs k)), (4, .i .i64 k)], B []⟩) (fun _ => ⟨E [(3, .sl .mut 1 (xs.map rStr))], B []⟩) (fun _ _ => ()) (fun _ _ => True)
    (fun l _ G => by simp only [go_sem, reduceIte, ↓reduceIte, reduceCtorEq, nA, nS, nM, nB, nE, nL, nT, nN, iL, iT, iE, iA, iM, iS, iG, iB, iN, iZ, h, Int.lt_irrefl, hb, fillUp_all]) (fun k hk l _ => by
      have h1 : ((k : Int) < (xs.length : Int)) := Int.ofNat_lt.2 hk
      have h2 := h0.2 _ (List.getElem_mem hk)
      have h3 : (fillUp rStr [.s ⟨#[]⟩] xs k).set k [.s xs[k]] = fillUp rStr [.s ⟨#[]⟩] xs (k + 1) := fillUp_set rStr [.s ⟨#[]⟩] xs k hk
      exact ⟨trivial, _, fun G => by simp only [go_sem, reduceIte, ↓reduceIte, reduceCtorEq, nA, nS, nM, nB, nE, nL, nT, nN, iL, iT, iE, iA, iM, iS, iG, iB, iN, iZ, h, h2, h3, map_gd rStr xs k hk, fillUp_get rStr [.s ⟨#[]⟩] xs k hk, fillUp_getD rStr [.s ⟨#[]⟩] xs k hk, fillUp_len rStr [.s ⟨#[]⟩] xs k (Nat.le_of_lt hk), h1, idx_nt _ _ hk, wrap_nat1 (show k < 9223372036854775807 by omega), hb] <;> with_reducible rfl, by simp only [go_sem, reduceIte, ↓reduceIte, reduceCtorEq, nA, nS, nM, nB, nE, nL, nT, nN, iL, iT, iE, iA, iM, iS, iG, iB, iN, iZ, h]⟩) () trivial (xs.length + 1) (Nat.le_refl _)).2
  rw [hb] at hr
  simp only [go_sem, reduceIte, ↓reduceIte, reduceCtorEq, nA, nS, nM, nB, nE, nL, nT, nN, iL, iT, iE, iA, iM, iS, iG, iB, iN, iZ, h, c1, c2, Int.toNat_natCast, fillUp_zero rStr [.s ⟨#[]⟩], hr]) (by simp only [go_sem, reduceIte, ↓reduceIte, reduceCtorEq, nA, nS, nM, nB, nE, nL, nT, nN, iL, iT, iE, iA, iM, iS, iG, iB, iN, iZ, okRes, hasRo])
end Go.Vm.A
