/- Functions of the program, walked by the evaluator. -/
import Derived.Test.YtnbhkifknleipaaGreatWb
import Derived.Test.YtnbhkifknleipaaGreatWa
set_option autoImplicit false
set_option maxRecDepth 100000
set_option maxHeartbeats 4000000
set_option linter.unusedVariables false
set_option linter.unusedSimpArgs false
namespace Go.Vm.A
open Go.Proofs
open Nat renaming reduceAdd → nA, reduceSub → nS, reduceMul → nM, reduceBEq → nB, reduceEqDiff → nE, reduceLeDiff → nL, reduceLT → nT, reduceBneDiff → nN
open Int renaming reduceLE → iL, reduceLT → iT, reduceEq → iE, reduceAdd → iA, reduceMul → iM, reduceSub → iS, reduceNeg → iG, reduceBEq → iB, reduceBNe → iN, reduceToNat → iZ

noncomputable def s31 : SP Tryz.prog := mkS tyA 31 Tryz.f31 [] { md := [.ro 1, .ro 1], rg := [(0, [0, 1], []), (1, [0, 1], []), (2, [0, 1, 11], []), (3, [4], []), (4, [0, 1, 5], []), (5, [0, 1, 5, 15], []), (6, [0, 1, 5], []), (7, [0, 1, 5], []), (8, [0, 1, 5, 26], []), (9, [4], []), (10, [4], [])], lv := [(0, [0, 1, 5], [])], out := [(0, [1], [])], rets := some ([4], []) } Tryz.func31 (by kernel_rfl)
@[go_sem] theorem d31 : s31.g = 31 ∧ s31.fs = ⟨[.ro 1, .ro 1], s31.F, false⟩ := ⟨nr rfl, nr rfl⟩
@[go_sem] theorem e31 (xs : List ByteArray) (l : Int) (h0 : okL okStr xs) : s31.F [.sl .ro 1 (xs.map rStr), .i .i64 l] = some (.i .i64 (szL szStr xs l), [.u, .u]) := mkS_eq (xs.length + 1) rfl rfl (fun cx h => by
  have hb := loopN_eq Tryz.f31 0 _ _ rfl rfl
  have hx := h0.1
  obtain ⟨r, hr, hq⟩ := loop_list (cx := cx) (blk := 0) (body := loopN Tryz.f31 0) xs (fun k l => ⟨E [(0, .sl .ro 1 (xs.map rStr)), (1, .i .i64 l), (5, .i .i64 k)], B []⟩) (fun l => ⟨E [(1, .i .i64 l)], B []⟩) (fun x l => decide (szStr x l < 0)) (fun x l => szStr x l) (fun _ _ => (.ret, ⟨E [(4, .i .i64 (-1))], B []⟩)) (fun _ _ => True)
    (fun l _ G => by simp only [go_sem, reduceIte, ↓reduceIte, reduceCtorEq, nA, nS, nM, nB, nE, nL, nT, nN, iL, iT, iE, iA, iM, iS, iG, iB, iN, iZ, h, Int.lt_irrefl, hb]) (fun k hk l _ => by
      have h1 : ((k : Int) < (xs.length : Int)) := Int.ofNat_lt.2 hk
      have h2 := h0.2 _ (List.getElem_mem hk)
      by_cases hc : (IntKind.i64).wrap (l - (xs[k].size : Int)) < 0
      · have hs : szStr xs[k] l = -1 := by simp only [szStr, szs]; rw [if_pos hc]
        exact .inl ⟨by rw [hs]; rfl, fun G => by simp only [go_sem, reduceIte, ↓reduceIte, reduceCtorEq, nA, nS, nM, nB, nE, nL, nT, nN, iL, iT, iE, iA, iM, iS, iG, iB, iN, iZ, h, h2, hc, map_gd rStr xs k hk, h1, idx_nt _ _ hk, wrap_nat1 (show k < 9223372036854775807 by omega), hb]⟩
      · have hs : szStr xs[k] l = (IntKind.i64).wrap (l - (xs[k].size : Int)) := by simp only [szStr, szs]; rw [if_neg hc]
        exact .inr ⟨decide_eq_false (by rw [hs]; exact hc), trivial, _, fun G => by simp only [go_sem, reduceIte, ↓reduceIte, reduceCtorEq, nA, nS, nM, nB, nE, nL, nT, nN, iL, iT, iE, iA, iM, iS, iG, iB, iN, iZ, h, h2, hc, map_gd rStr xs k hk, h1, idx_nt _ _ hk, wrap_nat1 (show k < 9223372036854775807 by omega), hb] <;> with_reducible rfl, by simp only [go_sem, reduceIte, ↓reduceIte, reduceCtorEq, nA, nS, nM, nB, nE, nL, nT, nN, iL, iT, iE, iA, iM, iS, iG, iB, iN, iZ, h, hs]⟩) ((IntKind.i64).wrap (l - (xs.length : Int))) trivial (xs.length + 1) (Nat.le_refl _)
  rw [hb] at hr
  unfold szL szs
  by_cases hc : (IntKind.i64).wrap (l - (xs.length : Int)) < 0
  · simp only [go_sem, reduceIte, ↓reduceIte, reduceCtorEq, nA, nS, nM, nB, nE, nL, nT, nN, iL, iT, iE, iA, iM, iS, iG, iB, iN, iZ, h, hc]
  · rcases hq with ⟨s', e1, e2, e3⟩ | ⟨x, s', e1, e3⟩
    · simp only [go_sem, reduceIte, ↓reduceIte, reduceCtorEq, nA, nS, nM, nB, nE, nL, nT, nN, iL, iT, iE, iA, iM, iS, iG, iB, iN, iZ, h, hc, hr, e3, szO_inl e1, Option.getD_some]
    · simp only [go_sem, reduceIte, ↓reduceIte, reduceCtorEq, nA, nS, nM, nB, nE, nL, nT, nN, iL, iT, iE, iA, iM, iS, iG, iB, iN, iZ, h, hc, hr, e3, szO_inr e1, Option.getD_none]) (rfl)
noncomputable def s9 : SP Tryz.prog := mkS tyA 9 Tryz.f9 [s31] { md := [.ro 1, .ro 1], rg := [(0, [1, 2], [2]), (1, [1], []), (2, [1, 10], []), (3, [4], []), (4, [4], [])], rets := some ([4], []) } Tryz.func9 (by kernel_rfl)
@[go_sem] theorem d9 : s9.g = 9 ∧ s9.fs = ⟨[.ro 1, .ro 1], s9.F, false⟩ := ⟨nr rfl, nr rfl⟩
@[go_sem] theorem e9 (xBudget : Int) (xGuard : Int) (xObjCost : Int) (xNeg : Int) (xEarly : Int) (xFetchTime : Int) (xWaitTime : Int) (xWaitCap : Int) (xNames : List ByteArray) (xLanesSlots : Int) (xLanesCap : Int) (xLanesTime : Int) (xRulesWindow : Int) (xRulesMin : Int) (xRulesRatio : Int) (xRulesCool : Int) (xRulesQuota : Int) (l : Int) (h0 : okConfig (Config.mk xBudget xGuard xObjCost xNeg xEarly xFetchTime xWaitTime xWaitCap xNames (Lanes.mk xLanesSlots xLanesCap xLanesTime) (Rules.mk xRulesWindow xRulesMin xRulesRatio xRulesCool xRulesQuota))) : s9.F [.agg [.i .i64 xBudget, .i .i64 xGuard, .i .i64 xObjCost, .i .i64 xNeg, .i .i64 xEarly, .i .i64 xFetchTime, .i .i64 xWaitTime, .i .i64 xWaitCap, .sl .ro 1 (xNames.map rStr), .i .i64 xLanesSlots, .i .i64 xLanesCap, .i .i64 xLanesTime, .i .i64 xRulesWindow, .i .i64 xRulesMin, .i .i64 xRulesRatio, .i .i64 xRulesCool, .i .i64 xRulesQuota], .i .i64 l] = some (.i .i64 (szConfig (Config.mk xBudget xGuard xObjCost xNeg xEarly xFetchTime xWaitTime xWaitCap xNames (Lanes.mk xLanesSlots xLanesCap xLanesTime) (Rules.mk xRulesWindow xRulesMin xRulesRatio xRulesCool xRulesQuota)) l), [.u, .u]) := mkS_eq (0) rfl rfl (fun cx h => by
  obtain ⟨q0, q1, q2, q3, q4, q5, q6, q7, q8, q9, q10⟩ := h0
  simp only [go_sem, reduceIte, ↓reduceIte, reduceCtorEq, nA, nS, nM, nB, nE, nL, nT, nN, iL, iT, iE, iA, iM, iS, iG, iB, iN, iZ, h, q0, q1, q2, q3, q4, q5, q6, q7, q8, q9, q10]
  simp only [szConfig, szs, szn, if_i, decide_eq_true_eq]) (rfl)
noncomputable def s98 : SP Tryz.prog := mkS tyA 98 Tryz.f98 [] { md := [.ro 1, .ro 1], rg := [(0, [1, 2], [2]), (1, [1, 2], [2]), (2, [1, 2, 11], [2]), (3, [4], []), (4, [1], []), (5, [1, 18], []), (6, [4], []), (7, [4], [])], rets := some ([4], []) } Tryz.func98 (by kernel_rfl)
@[go_sem] theorem d98 : s98.g = 98 ∧ s98.fs = ⟨[.ro 1, .ro 1], s98.F, false⟩ := ⟨nr rfl, nr rfl⟩
@[go_sem] theorem e98 (xName : ByteArray) (xValue : ByteArray) (l : Int) (h0 : okHeader (Header.mk xName xValue)) : s98.F [.agg [.s xName, .s xValue], .i .i64 l] = some (.i .i64 (szHeader (Header.mk xName xValue) l), [.u, .u]) := mkS_eq (0) rfl rfl (fun cx h => by
  obtain ⟨q0, q1⟩ := h0
  simp only [go_sem, reduceIte, ↓reduceIte, reduceCtorEq, nA, nS, nM, nB, nE, nL, nT, nN, iL, iT, iE, iA, iM, iS, iG, iB, iN, iZ, h, q0, q1]
  simp only [szHeader, szs, szn, if_i, decide_eq_true_eq]) (rfl)
noncomputable def s82 : SP Tryz.prog := mkS tyA 82 Tryz.f82 [s98] { md := [.ro 1, .ro 1], rg := [(0, [0, 1], []), (1, [0, 1], []), (2, [0, 1, 11], []), (3, [4], []), (4, [0, 1, 5], []), (5, [0, 1, 5, 15], []), (6, [0, 1, 5], []), (7, [0, 1, 5], []), (8, [0, 1, 5, 25], []), (9, [4], []), (10, [4], [])], lv := [(0, [0, 1, 5], [])], out := [(0, [1], [])], rets := some ([4], []) } Tryz.func82 (by kernel_rfl)
@[go_sem] theorem d82 : s82.g = 82 ∧ s82.fs = ⟨[.ro 1, .ro 1], s82.F, false⟩ := ⟨nr rfl, nr rfl⟩
@[go_sem] theorem e82 (xs : List Header) (l : Int) (h0 : okL okHeader xs) : s82.F [.sl .ro 2 (xs.map (rHeader .ro)), .i .i64 l] = some (.i .i64 (szL szHeader xs l), [.u, .u]) := mkS_eq (xs.length + 1) rfl rfl (fun cx h => by
  have hb := loopN_eq Tryz.f82 0 _ _ rfl rfl
  have hx := h0.1
  obtain ⟨r, hr, hq⟩ := loop_list (cx := cx) (blk := 0) (body := loopN Tryz.f82 0) xs (fun k l => ⟨E [(0, .sl .ro 2 (xs.map (rHeader .ro))), (1, .i .i64 l), (5, .i .i64 k)], B []⟩) (fun l => ⟨E [(1, .i .i64 l)], B []⟩) (fun x l => decide (szHeader x l < 0)) (fun x l => szHeader x l) (fun _ _ => (.ret, ⟨E [(4, .i .i64 (-1))], B []⟩)) (fun _ _ => True)
    (fun l _ G => by simp only [go_sem, reduceIte, ↓reduceIte, reduceCtorEq, nA, nS, nM, nB, nE, nL, nT, nN, iL, iT, iE, iA, iM, iS, iG, iB, iN, iZ, h, Int.lt_irrefl, hb]) (fun k hk l _ => by
      have h1 : ((k : Int) < (xs.length : Int)) := Int.ofNat_lt.2 hk
      have h2 := h0.2 _ (List.getElem_mem hk)
      by_cases hc : szHeader xs[k] l < 0
      · exact .inl ⟨decide_eq_true hc, fun G => by simp only [go_sem, reduceIte, ↓reduceIte, reduceCtorEq, nA, nS, nM, nB, nE, nL, nT, nN, iL, iT, iE, iA, iM, iS, iG, iB, iN, iZ, h, h2, hc, map_gd (rHeader .ro) xs k hk, h1, idx_nt _ _ hk, wrap_nat1 (show k < 9223372036854775807 by omega), hb]⟩
      · exact .inr ⟨decide_eq_false hc, trivial, _, fun G => by simp only [go_sem, reduceIte, ↓reduceIte, reduceCtorEq, nA, nS, nM, nB, nE, nL, nT, nN, iL, iT, iE, iA, iM, iS, iG, iB, iN, iZ, h, h2, hc, map_gd (rHeader .ro) xs k hk, h1, idx_nt _ _ hk, wrap_nat1 (show k < 9223372036854775807 by omega), hb] <;> with_reducible rfl, by simp only [go_sem, reduceIte, ↓reduceIte, reduceCtorEq, nA, nS, nM, nB, nE, nL, nT, nN, iL, iT, iE, iA, iM, iS, iG, iB, iN, iZ, h]⟩) ((IntKind.i64).wrap (l - (xs.length : Int))) trivial (xs.length + 1) (Nat.le_refl _)
  rw [hb] at hr
  unfold szL szs
  by_cases hc : (IntKind.i64).wrap (l - (xs.length : Int)) < 0
  · simp only [go_sem, reduceIte, ↓reduceIte, reduceCtorEq, nA, nS, nM, nB, nE, nL, nT, nN, iL, iT, iE, iA, iM, iS, iG, iB, iN, iZ, h, hc]
  · rcases hq with ⟨s', e1, e2, e3⟩ | ⟨x, s', e1, e3⟩
    · simp only [go_sem, reduceIte, ↓reduceIte, reduceCtorEq, nA, nS, nM, nB, nE, nL, nT, nN, iL, iT, iE, iA, iM, iS, iG, iB, iN, iZ, h, hc, hr, e3, szO_inl e1, Option.getD_some]
    · simp only [go_sem, reduceIte, ↓reduceIte, reduceCtorEq, nA, nS, nM, nB, nE, nL, nT, nN, iL, iT, iE, iA, iM, iS, iG, iB, iN, iZ, h, hc, hr, e3, szO_inr e1, Option.getD_none]) (rfl)
noncomputable def s83 : SP Tryz.prog := mkS tyA 83 Tryz.f83 [] { md := [.ro 1, .ro 1], rg := [(0, [0, 1], []), (1, [1], []), (2, [1, 10], []), (3, [4], []), (4, [4], [])], rets := some ([4], []) } Tryz.func83 (by kernel_rfl)
@[go_sem] theorem d83 : s83.g = 83 ∧ s83.fs = ⟨[.ro 1, .ro 1], s83.F, false⟩ := ⟨nr rfl, nr rfl⟩
@[go_sem] theorem e83 (xs : List UInt8) (l : Int) : s83.F [.sl .ro 1 (xs.map rByte), .i .i64 l] = some (.i .i64 (szByteS xs l), [.u, .u]) := mkS_eq (0) rfl rfl (fun cx h => by
  simp only [go_sem, reduceIte, ↓reduceIte, reduceCtorEq, nA, nS, nM, nB, nE, nL, nT, nN, iL, iT, iE, iA, iM, iS, iG, iB, iN, iZ, h]
  simp only [szByteS, szF, szs, szn, if_i, decide_eq_true_eq]) (rfl)
noncomputable def s59 : SP Tryz.prog := mkS tyA 59 Tryz.f59 [s31, s82, s83] { md := [.ro 1, .ro 1], rg := [(0, [1, 2], [2]), (1, [1, 2], [2]), (2, [1, 2, 11], [2]), (3, [4], []), (4, [1, 2], [2]), (5, [1, 2, 17], [2]), (6, [4], []), (7, [1, 2], [2]), (8, [1, 2, 23], [2]), (9, [4], []), (10, [1], []), (11, [1, 29], []), (12, [4], []), (13, [4], [])], rets := some ([4], []) } Tryz.func59 (by kernel_rfl)
@[go_sem] theorem d59 : s59.g = 59 ∧ s59.fs = ⟨[.ro 1, .ro 1], s59.F, false⟩ := ⟨nr rfl, nr rfl⟩
@[go_sem] theorem e59 (xKey : ByteArray) (xStatus : Int) (xHeaders : List Header) (xBody : List UInt8) (xMetaAt : Int) (xMetaAge : Int) (xMetaLife : Int) (xMetaSwr : Int) (xMetaSie : Int) (xMetaSoft : Bool) (xMetaNoCache : Bool) (xTags : List ByteArray) (xPins : Int) (l : Int) (h0 : okEntry (Entry.mk xKey xStatus xHeaders xBody (Meta.mk xMetaAt xMetaAge xMetaLife xMetaSwr xMetaSie xMetaSoft xMetaNoCache) xTags xPins)) : s59.F [.agg [.s xKey, .i .i64 xStatus, .sl .ro 2 (xHeaders.map (rHeader .ro)), .sl .ro 1 (xBody.map rByte), .i .i64 xMetaAt, .i .i64 xMetaAge, .i .i64 xMetaLife, .i .i64 xMetaSwr, .i .i64 xMetaSie, .b xMetaSoft, .b xMetaNoCache, .sl .ro 1 (xTags.map rStr), .i .i64 xPins], .i .i64 l] = some (.i .i64 (szEntry (Entry.mk xKey xStatus xHeaders xBody (Meta.mk xMetaAt xMetaAge xMetaLife xMetaSwr xMetaSie xMetaSoft xMetaNoCache) xTags xPins) l), [.u, .u]) := mkS_eq (0) rfl rfl (fun cx h => by
  obtain ⟨q0, q1, q2, q3, q4, q5, q6⟩ := h0
  simp only [go_sem, reduceIte, ↓reduceIte, reduceCtorEq, nA, nS, nM, nB, nE, nL, nT, nN, iL, iT, iE, iA, iM, iS, iG, iB, iN, iZ, h, q0, q1, q2, q3, q4, q5, q6]
  simp only [szEntry, szs, szn, if_i, decide_eq_true_eq]) (rfl)
noncomputable def s32 : SP Tryz.prog := mkS tyA 32 Tryz.f32 [s59] { md := [.ro 1, .ro 1], rg := [(0, [0, 1], []), (1, [0, 1], []), (2, [0, 1, 11], []), (3, [4], []), (4, [0, 1, 5], []), (5, [0, 1, 5, 15], []), (6, [0, 1, 5], []), (7, [0, 1, 5], []), (8, [0, 1, 5, 25], []), (9, [4], []), (10, [4], [])], lv := [(0, [0, 1, 5], [])], out := [(0, [1], [])], rets := some ([4], []) } Tryz.func32 (by kernel_rfl)
@[go_sem] theorem d32 : s32.g = 32 ∧ s32.fs = ⟨[.ro 1, .ro 1], s32.F, false⟩ := ⟨nr rfl, nr rfl⟩
@[go_sem] theorem e32 (xs : List Entry) (l : Int) (h0 : okL okEntry xs) : s32.F [.sl .ro 13 (xs.map (rEntry .ro)), .i .i64 l] = some (.i .i64 (szL szEntry xs l), [.u, .u]) := mkS_eq (xs.length + 1) rfl rfl (fun cx h => by
  have hb := loopN_eq Tryz.f32 0 _ _ rfl rfl
  have hx := h0.1
  obtain ⟨r, hr, hq⟩ := loop_list (cx := cx) (blk := 0) (body := loopN Tryz.f32 0) xs (fun k l => ⟨E [(0, .sl .ro 13 (xs.map (rEntry .ro))), (1, .i .i64 l), (5, .i .i64 k)], B []⟩) (fun l => ⟨E [(1, .i .i64 l)], B []⟩) (fun x l => decide (szEntry x l < 0)) (fun x l => szEntry x l) (fun _ _ => (.ret, ⟨E [(4, .i .i64 (-1))], B []⟩)) (fun _ _ => True)
    (fun l _ G => by simp only [go_sem, reduceIte, ↓reduceIte, reduceCtorEq, nA, nS, nM, nB, nE, nL, nT, nN, iL, iT, iE, iA, iM, iS, iG, iB, iN, iZ, h, Int.lt_irrefl, hb]) (fun k hk l _ => by
      have h1 : ((k : Int) < (xs.length : Int)) := Int.ofNat_lt.2 hk
      have h2 := h0.2 _ (List.getElem_mem hk)
      by_cases hc : szEntry xs[k] l < 0
      · exact .inl ⟨decide_eq_true hc, fun G => by simp only [go_sem, reduceIte, ↓reduceIte, reduceCtorEq, nA, nS, nM, nB, nE, nL, nT, nN, iL, iT, iE, iA, iM, iS, iG, iB, iN, iZ, h, h2, hc, map_gd (rEntry .ro) xs k hk, h1, idx_nt _ _ hk, wrap_nat1 (show k < 9223372036854775807 by omega), hb]⟩
      · exact .inr ⟨decide_eq_false hc, trivial, _, fun G => by simp only [go_sem, reduceIte, ↓reduceIte, reduceCtorEq, nA, nS, nM, nB, nE, nL, nT, nN, iL, iT, iE, iA, iM, iS, iG, iB, iN, iZ, h, h2, hc, map_gd (rEntry .ro) xs k hk, h1, idx_nt _ _ hk, wrap_nat1 (show k < 9223372036854775807 by omega), hb] <;> with_reducible rfl, by simp only [go_sem, reduceIte, ↓reduceIte, reduceCtorEq, nA, nS, nM, nB, nE, nL, nT, nN, iL, iT, iE, iA, iM, iS, iG, iB, iN, iZ, h]⟩) ((IntKind.i64).wrap (l - (xs.length : Int))) trivial (xs.length + 1) (Nat.le_refl _)
  rw [hb] at hr
  unfold szL szs
  by_cases hc : (IntKind.i64).wrap (l - (xs.length : Int)) < 0
  · simp only [go_sem, reduceIte, ↓reduceIte, reduceCtorEq, nA, nS, nM, nB, nE, nL, nT, nN, iL, iT, iE, iA, iM, iS, iG, iB, iN, iZ, h, hc]
  · rcases hq with ⟨s', e1, e2, e3⟩ | ⟨x, s', e1, e3⟩
    · simp only [go_sem, reduceIte, ↓reduceIte, reduceCtorEq, nA, nS, nM, nB, nE, nL, nT, nN, iL, iT, iE, iA, iM, iS, iG, iB, iN, iZ, h, hc, hr, e3, szO_inl e1, Option.getD_some]
    · simp only [go_sem, reduceIte, ↓reduceIte, reduceCtorEq, nA, nS, nM, nB, nE, nL, nT, nN, iL, iT, iE, iA, iM, iS, iG, iB, iN, iZ, h, hc, hr, e3, szO_inr e1, Option.getD_none]) (rfl)
noncomputable def s10 : SP Tryz.prog := mkS tyA 10 Tryz.f10 [s32] { md := [.ro 1, .ro 1], rg := [(0, [1, 2], [2]), (1, [1, 2], [2]), (2, [1, 2, 10], [2]), (3, [4], []), (4, [1], []), (5, [1, 16], []), (6, [4], []), (7, [4], [])], rets := some ([4], []) } Tryz.func10 (by kernel_rfl)
@[go_sem] theorem d10 : s10.g = 10 ∧ s10.fs = ⟨[.ro 1, .ro 1], s10.F, false⟩ := ⟨nr rfl, nr rfl⟩
@[go_sem] theorem e10 (xBudget : Int) (xGuard : Int) (xTrial : List Entry) (xKept : List Entry) (l : Int) (h0 : okStore (Store.mk xBudget xGuard xTrial xKept)) : s10.F [.agg [.i .i64 xBudget, .i .i64 xGuard, .sl .ro 13 (xTrial.map (rEntry .ro)), .sl .ro 13 (xKept.map (rEntry .ro))], .i .i64 l] = some (.i .i64 (szStore (Store.mk xBudget xGuard xTrial xKept) l), [.u, .u]) := mkS_eq (0) rfl rfl (fun cx h => by
  obtain ⟨q0, q1, q2, q3⟩ := h0
  simp only [go_sem, reduceIte, ↓reduceIte, reduceCtorEq, nA, nS, nM, nB, nE, nL, nT, nN, iL, iT, iE, iA, iM, iS, iG, iB, iN, iZ, h, q0, q1, q2, q3]
  simp only [szStore, szs, szn, if_i, decide_eq_true_eq]) (rfl)
noncomputable def s84 : SP Tryz.prog := mkS tyA 84 Tryz.f84 [] { md := [.ro 1, .ro 1], rg := [(0, [0, 1], []), (1, [1], []), (2, [1, 10], []), (3, [4], []), (4, [4], [])], rets := some ([4], []) } Tryz.func84 (by kernel_rfl)
@[go_sem] theorem d84 : s84.g = 84 ∧ s84.fs = ⟨[.ro 1, .ro 1], s84.F, false⟩ := ⟨nr rfl, nr rfl⟩
@[go_sem] theorem e84 (xs : List Wait) (l : Int) : s84.F [.sl .ro 2 (xs.map (rWait .ro)), .i .i64 l] = some (.i .i64 (szF xs.length l), [.u, .u]) := mkS_eq (0) rfl rfl (fun cx h => by
  simp only [go_sem, reduceIte, ↓reduceIte, reduceCtorEq, nA, nS, nM, nB, nE, nL, nT, nN, iL, iT, iE, iA, iM, iS, iG, iB, iN, iZ, h]
  simp only [szByteS, szF, szs, szn, if_i, decide_eq_true_eq]) (rfl)
noncomputable def s60 : SP Tryz.prog := mkS tyA 60 Tryz.f60 [s84] { md := [.ro 1, .ro 1], rg := [(0, [1, 2], [2]), (1, [1], []), (2, [1, 10], []), (3, [4], []), (4, [4], [])], rets := some ([4], []) } Tryz.func60 (by kernel_rfl)
@[go_sem] theorem d60 : s60.g = 60 ∧ s60.fs = ⟨[.ro 1, .ro 1], s60.F, false⟩ := ⟨nr rfl, nr rfl⟩
@[go_sem] theorem e60 (xBusy : Int) (xQueue : List Wait) (l : Int) (h0 : okBulk (Bulk.mk xBusy xQueue)) : s60.F [.agg [.i .i64 xBusy, .sl .ro 2 (xQueue.map (rWait .ro))], .i .i64 l] = some (.i .i64 (szBulk (Bulk.mk xBusy xQueue) l), [.u, .u]) := mkS_eq (0) rfl rfl (fun cx h => by
  obtain ⟨q0, q1⟩ := h0
  simp only [go_sem, reduceIte, ↓reduceIte, reduceCtorEq, nA, nS, nM, nB, nE, nL, nT, nN, iL, iT, iE, iA, iM, iS, iG, iB, iN, iZ, h, q0, q1]
  simp only [szBulk, szs, szn, if_i, decide_eq_true_eq]) (rfl)
noncomputable def s85 : SP Tryz.prog := mkS tyA 85 Tryz.f85 [] { md := [.ro 1, .ro 1], rg := [(0, [0, 1], []), (1, [1], []), (2, [1, 10], []), (3, [4], []), (4, [4], [])], rets := some ([4], []) } Tryz.func85 (by kernel_rfl)
@[go_sem] theorem d85 : s85.g = 85 ∧ s85.fs = ⟨[.ro 1, .ro 1], s85.F, false⟩ := ⟨nr rfl, nr rfl⟩
@[go_sem] theorem e85 (xs : List Mark) (l : Int) : s85.F [.sl .ro 2 (xs.map (rMark .ro)), .i .i64 l] = some (.i .i64 (szF xs.length l), [.u, .u]) := mkS_eq (0) rfl rfl (fun cx h => by
  simp only [go_sem, reduceIte, ↓reduceIte, reduceCtorEq, nA, nS, nM, nB, nE, nL, nT, nN, iL, iT, iE, iA, iM, iS, iG, iB, iN, iZ, h]
  simp only [szByteS, szF, szs, szn, if_i, decide_eq_true_eq]) (rfl)
noncomputable def s61 : SP Tryz.prog := mkS tyA 61 Tryz.f61 [s85] { md := [.ro 1, .ro 1], rg := [(0, [1, 2], [2]), (1, [1], []), (2, [1, 10], []), (3, [4], []), (4, [4], [])], rets := some ([4], []) } Tryz.func61 (by kernel_rfl)
@[go_sem] theorem d61 : s61.g = 61 ∧ s61.fs = ⟨[.ro 1, .ro 1], s61.F, false⟩ := ⟨nr rfl, nr rfl⟩
@[go_sem] theorem e61 (xState : Int) (xSince : Int) (xOut : Int) (xMarks : List Mark) (l : Int) (h0 : okBreaker (Breaker.mk xState xSince xOut xMarks)) : s61.F [.agg [.i .i64 xState, .i .i64 xSince, .i .i64 xOut, .sl .ro 2 (xMarks.map (rMark .ro))], .i .i64 l] = some (.i .i64 (szBreaker (Breaker.mk xState xSince xOut xMarks) l), [.u, .u]) := mkS_eq (0) rfl rfl (fun cx h => by
  obtain ⟨q0, q1, q2, q3⟩ := h0
  simp only [go_sem, reduceIte, ↓reduceIte, reduceCtorEq, nA, nS, nM, nB, nE, nL, nT, nN, iL, iT, iE, iA, iM, iS, iG, iB, iN, iZ, h, q0, q1, q2, q3]
  simp only [szBreaker, szs, szn, if_i, decide_eq_true_eq]) (rfl)
noncomputable def s33 : SP Tryz.prog := mkS tyA 33 Tryz.f33 [s60, s61] { md := [.ro 1, .ro 1], rg := [(0, [1, 2], [2]), (1, [1, 2], [2]), (2, [1, 2, 11], [2]), (3, [4], []), (4, [1, 2], [2]), (5, [1, 2, 17], [2]), (6, [4], []), (7, [1], []), (8, [1, 23], []), (9, [4], []), (10, [4], [])], rets := some ([4], []) } Tryz.func33 (by kernel_rfl)
@[go_sem] theorem d33 : s33.g = 33 ∧ s33.fs = ⟨[.ro 1, .ro 1], s33.F, false⟩ := ⟨nr rfl, nr rfl⟩
@[go_sem] theorem e33 (xHost : ByteArray) (xBulkBusy : Int) (xBulkQueue : List Wait) (xBreakerState : Int) (xBreakerSince : Int) (xBreakerOut : Int) (xBreakerMarks : List Mark) (l : Int) (h0 : okOrigin (Origin.mk xHost (Bulk.mk xBulkBusy xBulkQueue) (Breaker.mk xBreakerState xBreakerSince xBreakerOut xBreakerMarks))) : s33.F [.agg [.s xHost, .i .i64 xBulkBusy, .sl .ro 2 (xBulkQueue.map (rWait .ro)), .i .i64 xBreakerState, .i .i64 xBreakerSince, .i .i64 xBreakerOut, .sl .ro 2 (xBreakerMarks.map (rMark .ro))], .i .i64 l] = some (.i .i64 (szOrigin (Origin.mk xHost (Bulk.mk xBulkBusy xBulkQueue) (Breaker.mk xBreakerState xBreakerSince xBreakerOut xBreakerMarks)) l), [.u, .u]) := mkS_eq (0) rfl rfl (fun cx h => by
  obtain ⟨q0, q1, q2⟩ := h0
  simp only [go_sem, reduceIte, ↓reduceIte, reduceCtorEq, nA, nS, nM, nB, nE, nL, nT, nN, iL, iT, iE, iA, iM, iS, iG, iB, iN, iZ, h, q0, q1, q2]
  simp only [szOrigin, szs, szn, if_i, decide_eq_true_eq]) (rfl)
noncomputable def s11 : SP Tryz.prog := mkS tyA 11 Tryz.f11 [s33] { md := [.ro 1, .ro 1], rg := [(0, [0, 1], []), (1, [0, 1], []), (2, [0, 1, 11], []), (3, [4], []), (4, [0, 1, 5], []), (5, [0, 1, 5, 15], []), (6, [0, 1, 5], []), (7, [0, 1, 5], []), (8, [0, 1, 5, 25], []), (9, [4], []), (10, [4], [])], lv := [(0, [0, 1, 5], [])], out := [(0, [1], [])], rets := some ([4], []) } Tryz.func11 (by kernel_rfl)
@[go_sem] theorem d11 : s11.g = 11 ∧ s11.fs = ⟨[.ro 1, .ro 1], s11.F, false⟩ := ⟨nr rfl, nr rfl⟩
@[go_sem] theorem e11 (xs : List Origin) (l : Int) (h0 : okL okOrigin xs) : s11.F [.sl .ro 7 (xs.map (rOrigin .ro)), .i .i64 l] = some (.i .i64 (szL szOrigin xs l), [.u, .u]) := mkS_eq (xs.length + 1) rfl rfl (fun cx h => by
  have hb := loopN_eq Tryz.f11 0 _ _ rfl rfl
  have hx := h0.1
  obtain ⟨r, hr, hq⟩ := loop_list (cx := cx) (blk := 0) (body := loopN Tryz.f11 0) xs (fun k l => ⟨E [(0, .sl .ro 7 (xs.map (rOrigin .ro))), (1, .i .i64 l), (5, .i .i64 k)], B []⟩) (fun l => ⟨E [(1, .i .i64 l)], B []⟩) (fun x l => decide (szOrigin x l < 0)) (fun x l => szOrigin x l) (fun _ _ => (.ret, ⟨E [(4, .i .i64 (-1))], B []⟩)) (fun _ _ => True)
    (fun l _ G => by simp only [go_sem, reduceIte, ↓reduceIte, reduceCtorEq, nA, nS, nM, nB, nE, nL, nT, nN, iL, iT, iE, iA, iM, iS, iG, iB, iN, iZ, h, Int.lt_irrefl, hb]) (fun k hk l _ => by
      have h1 : ((k : Int) < (xs.length : Int)) := Int.ofNat_lt.2 hk
      have h2 := h0.2 _ (List.getElem_mem hk)
      by_cases hc : szOrigin xs[k] l < 0
      · exact .inl ⟨decide_eq_true hc, fun G => by simp only [go_sem, reduceIte, ↓reduceIte, reduceCtorEq, nA, nS, nM, nB, nE, nL, nT, nN, iL, iT, iE, iA, iM, iS, iG, iB, iN, iZ, h, h2, hc, map_gd (rOrigin .ro) xs k hk, h1, idx_nt _ _ hk, wrap_nat1 (show k < 9223372036854775807 by omega), hb]⟩
      · exact .inr ⟨decide_eq_false hc, trivial, _, fun G => by simp only [go_sem, reduceIte, ↓reduceIte, reduceCtorEq, nA, nS, nM, nB, nE, nL, nT, nN, iL, iT, iE, iA, iM, iS, iG, iB, iN, iZ, h, h2, hc, map_gd (rOrigin .ro) xs k hk, h1, idx_nt _ _ hk, wrap_nat1 (show k < 9223372036854775807 by omega), hb] <;> with_reducible rfl, by simp only [go_sem, reduceIte, ↓reduceIte, reduceCtorEq, nA, nS, nM, nB, nE, nL, nT, nN, iL, iT, iE, iA, iM, iS, iG, iB, iN, iZ, h]⟩) ((IntKind.i64).wrap (l - (xs.length : Int))) trivial (xs.length + 1) (Nat.le_refl _)
  rw [hb] at hr
  unfold szL szs
  by_cases hc : (IntKind.i64).wrap (l - (xs.length : Int)) < 0
  · simp only [go_sem, reduceIte, ↓reduceIte, reduceCtorEq, nA, nS, nM, nB, nE, nL, nT, nN, iL, iT, iE, iA, iM, iS, iG, iB, iN, iZ, h, hc]
  · rcases hq with ⟨s', e1, e2, e3⟩ | ⟨x, s', e1, e3⟩
    · simp only [go_sem, reduceIte, ↓reduceIte, reduceCtorEq, nA, nS, nM, nB, nE, nL, nT, nN, iL, iT, iE, iA, iM, iS, iG, iB, iN, iZ, h, hc, hr, e3, szO_inl e1, Option.getD_some]
    · simp only [go_sem, reduceIte, ↓reduceIte, reduceCtorEq, nA, nS, nM, nB, nE, nL, nT, nN, iL, iT, iE, iA, iM, iS, iG, iB, iN, iZ, h, hc, hr, e3, szO_inr e1, Option.getD_none]) (rfl)
noncomputable def s62 : SP Tryz.prog := mkS tyA 62 Tryz.f62 [s82] { md := [.ro 1, .ro 1], rg := [(0, [1, 2], [2]), (1, [1, 2], [2]), (2, [1, 2, 11], [2]), (3, [4], []), (4, [1, 2], [2]), (5, [1, 2, 18], [2]), (6, [4], []), (7, [1, 2], [2]), (8, [1, 2, 25], [2]), (9, [4], []), (10, [1], []), (11, [1, 31], []), (12, [4], []), (13, [4], [])], rets := some ([4], []) } Tryz.func62 (by kernel_rfl)
@[go_sem] theorem d62 : s62.g = 62 ∧ s62.fs = ⟨[.ro 1, .ro 1], s62.F, false⟩ := ⟨nr rfl, nr rfl⟩
@[go_sem] theorem e62 (xMethod : ByteArray) (xHost : ByteArray) (xPath : ByteArray) (xHeaders : List Header) (l : Int) (h0 : okRequest (Request.mk xMethod xHost xPath xHeaders)) : s62.F [.agg [.s xMethod, .s xHost, .s xPath, .sl .ro 2 (xHeaders.map (rHeader .ro))], .i .i64 l] = some (.i .i64 (szRequest (Request.mk xMethod xHost xPath xHeaders) l), [.u, .u]) := mkS_eq (0) rfl rfl (fun cx h => by
  obtain ⟨q0, q1, q2, q3⟩ := h0
  simp only [go_sem, reduceIte, ↓reduceIte, reduceCtorEq, nA, nS, nM, nB, nE, nL, nT, nN, iL, iT, iE, iA, iM, iS, iG, iB, iN, iZ, h, q0, q1, q2, q3]
  simp only [szRequest, szs, szn, if_i, decide_eq_true_eq]) (rfl)
noncomputable def s63 : SP Tryz.prog := mkS tyA 63 Tryz.f63 [] { md := [.ro 1, .ro 1], rg := [(0, [0, 1], []), (1, [1], []), (2, [1, 10], []), (3, [4], []), (4, [4], [])], rets := some ([4], []) } Tryz.func63 (by kernel_rfl)
@[go_sem] theorem d63 : s63.g = 63 ∧ s63.fs = ⟨[.ro 1, .ro 1], s63.F, false⟩ := ⟨nr rfl, nr rfl⟩
@[go_sem] theorem e63 (xs : List Waiter) (l : Int) : s63.F [.sl .ro 4 (xs.map (rWaiter .ro)), .i .i64 l] = some (.i .i64 (szF xs.length l), [.u, .u]) := mkS_eq (0) rfl rfl (fun cx h => by
  simp only [go_sem, reduceIte, ↓reduceIte, reduceCtorEq, nA, nS, nM, nB, nE, nL, nT, nN, iL, iT, iE, iA, iM, iS, iG, iB, iN, iZ, h]
  simp only [szByteS, szF, szs, szn, if_i, decide_eq_true_eq]) (rfl)
noncomputable def s34 : SP Tryz.prog := mkS tyA 34 Tryz.f34 [s62, s63] { md := [.ro 1, .ro 1], rg := [(0, [1, 2], [2]), (1, [1, 2], [2]), (2, [1, 2, 11], [2]), (3, [4], []), (4, [1, 2], [2]), (5, [1, 2, 17], [2]), (6, [4], []), (7, [1], []), (8, [1, 23], []), (9, [4], []), (10, [4], [])], rets := some ([4], []) } Tryz.func34 (by kernel_rfl)
@[go_sem] theorem d34 : s34.g = 34 ∧ s34.fs = ⟨[.ro 1, .ro 1], s34.F, false⟩ := ⟨nr rfl, nr rfl⟩
@[go_sem] theorem e34 (xId : Int) (xKey : ByteArray) (xBack : Bool) (xOut : Bool) (xDue : Int) (xDoomed : Bool) (xGetMethod : ByteArray) (xGetHost : ByteArray) (xGetPath : ByteArray) (xGetHeaders : List Header) (xWaiters : List Waiter) (l : Int) (h0 : okFlight (Flight.mk xId xKey xBack xOut xDue xDoomed (Request.mk xGetMethod xGetHost xGetPath xGetHeaders) xWaiters)) : s34.F [.agg [.i .i64 xId, .s xKey, .b xBack, .b xOut, .i .i64 xDue, .b xDoomed, .s xGetMethod, .s xGetHost, .s xGetPath, .sl .ro 2 (xGetHeaders.map (rHeader .ro)), .sl .ro 4 (xWaiters.map (rWaiter .ro))], .i .i64 l] = some (.i .i64 (szFlight (Flight.mk xId xKey xBack xOut xDue xDoomed (Request.mk xGetMethod xGetHost xGetPath xGetHeaders) xWaiters) l), [.u, .u]) := mkS_eq (0) rfl rfl (fun cx h => by
  obtain ⟨q0, q1, q2, q3, q4, q5, q6, q7⟩ := h0
  simp only [go_sem, reduceIte, ↓reduceIte, reduceCtorEq, nA, nS, nM, nB, nE, nL, nT, nN, iL, iT, iE, iA, iM, iS, iG, iB, iN, iZ, h, q0, q1, q2, q3, q4, q5, q6, q7]
  simp only [szFlight, szs, szn, if_i, decide_eq_true_eq]) (rfl)
end Go.Vm.A
