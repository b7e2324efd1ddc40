/- Functions of the program, walked by the evaluator. -/
import Derived.Test.YtahcdlpjkcbjgaaGreatDoorWb
import Derived.Test.YtahcdlpjkcbjgaaGreatDoorWa
set_option autoImplicit false
set_option maxRecDepth 100000
set_option maxHeartbeats 4000000
set_option linter.unusedVariables false
set_option linter.unusedSimpArgs false
namespace Go.Vm.A
open Go.Proofs
open Nat renaming reduceAdd → nA, reduceSub → nS, reduceMul → nM, reduceBEq → nB, reduceEqDiff → nE, reduceLeDiff → nL, reduceLT → nT, reduceBneDiff → nN
open Int renaming reduceLE → iL, reduceLT → iT, reduceEq → iE, reduceAdd → iA, reduceMul → iM, reduceSub → iS, reduceNeg → iG, reduceBEq → iB, reduceBNe → iN, reduceToNat → iZ

noncomputable def s19 : SP Tryz.prog := mkS tyA 19 Tryz.f19 [] { md := [.ro 1, .ro 1], rg := [(0, [0, 1], []), (1, [0, 1], []), (2, [0, 1, 11], []), (3, [4], []), (4, [0, 1, 5], []), (5, [0, 1, 5, 15], []), (6, [0, 1, 5], []), (7, [0, 1, 5], []), (8, [0, 1, 5, 26], []), (9, [4], []), (10, [4], [])], lv := [(0, [0, 1, 5], [])], out := [(0, [1], [])], rets := some ([4], []) } Tryz.func19 (by kernel_rfl)
@[go_sem] theorem d19 : s19.g = 19 ∧ s19.fs = ⟨[.ro 1, .ro 1], s19.F, false⟩ := ⟨nr rfl, nr rfl⟩
@[go_sem] theorem e19 (xs : List ByteArray) (l : Int) (h0 : okL okStr xs) : s19.F [.sl .ro 1 (xs.map rStr), .i .i64 l] = some (.i .i64 (szL szStr xs l), [.u, .u]) := mkS_eq (xs.length + 1) rfl rfl (fun cx h => by
  have hb := loopN_eq Tryz.f19 0 _ _ rfl rfl
  have hx := h0.1
  obtain ⟨r, hr, hq⟩ := loop_list (cx := cx) (blk := 0) (body := loopN Tryz.f19 0) xs (fun k l => ⟨E [(0, .sl .ro 1 (xs.map rStr)), (1, .i .i64 l), (5, .i .i64 k)], B []⟩) (fun l => ⟨E [(1, .i .i64 l)], B []⟩) (fun x l => decide (szStr x l < 0)) (fun x l => szStr x l) (fun _ _ => (.ret, ⟨E [(4, .i .i64 (-1))], B []⟩)) (fun _ _ => True)
    (fun l _ G => by simp only [go_sem, reduceIte, ↓reduceIte, reduceCtorEq, nA, nS, nM, nB, nE, nL, nT, nN, iL, iT, iE, iA, iM, iS, iG, iB, iN, iZ, h, Int.lt_irrefl, hb]) (fun k hk l _ => by
      have h1 : ((k : Int) < (xs.length : Int)) := Int.ofNat_lt.2 hk
      have h2 := h0.2 _ (List.getElem_mem hk)
      by_cases hc : (IntKind.i64).wrap (l - (xs[k].size : Int)) < 0
      · have hs : szStr xs[k] l = -1 := by simp only [szStr, szs]; rw [if_pos hc]
        exact .inl ⟨by rw [hs]; rfl, fun G => by simp only [go_sem, reduceIte, ↓reduceIte, reduceCtorEq, nA, nS, nM, nB, nE, nL, nT, nN, iL, iT, iE, iA, iM, iS, iG, iB, iN, iZ, h, h2, hc, map_gd rStr xs k hk, h1, idx_nt _ _ hk, wrap_nat1 (show k < 9223372036854775807 by omega), hb]⟩
      · have hs : szStr xs[k] l = (IntKind.i64).wrap (l - (xs[k].size : Int)) := by simp only [szStr, szs]; rw [if_neg hc]
        exact .inr ⟨decide_eq_false (by rw [hs]; exact hc), trivial, _, fun G => by simp only [go_sem, reduceIte, ↓reduceIte, reduceCtorEq, nA, nS, nM, nB, nE, nL, nT, nN, iL, iT, iE, iA, iM, iS, iG, iB, iN, iZ, h, h2, hc, map_gd rStr xs k hk, h1, idx_nt _ _ hk, wrap_nat1 (show k < 9223372036854775807 by omega), hb] <;> with_reducible rfl, by simp only [go_sem, reduceIte, ↓reduceIte, reduceCtorEq, nA, nS, nM, nB, nE, nL, nT, nN, iL, iT, iE, iA, iM, iS, iG, iB, iN, iZ, h, hs]⟩) ((IntKind.i64).wrap (l - (xs.length : Int))) trivial (xs.length + 1) (Nat.le_refl _)
  rw [hb] at hr
  unfold szL szs
  by_cases hc : (IntKind.i64).wrap (l - (xs.length : Int)) < 0
  · simp only [go_sem, reduceIte, ↓reduceIte, reduceCtorEq, nA, nS, nM, nB, nE, nL, nT, nN, iL, iT, iE, iA, iM, iS, iG, iB, iN, iZ, h, hc]
  · rcases hq with ⟨s', e1, e2, e3⟩ | ⟨x, s', e1, e3⟩
    · simp only [go_sem, reduceIte, ↓reduceIte, reduceCtorEq, nA, nS, nM, nB, nE, nL, nT, nN, iL, iT, iE, iA, iM, iS, iG, iB, iN, iZ, h, hc, hr, e3, szO_inl e1, Option.getD_some]
    · simp only [go_sem, reduceIte, ↓reduceIte, reduceCtorEq, nA, nS, nM, nB, nE, nL, nT, nN, iL, iT, iE, iA, iM, iS, iG, iB, iN, iZ, h, hc, hr, e3, szO_inr e1, Option.getD_none]) (rfl)
noncomputable def s6 : SP Tryz.prog := mkS tyA 6 Tryz.f6 [s19] { md := [.ro 1, .ro 1], rg := [(0, [1, 2], [2]), (1, [1], []), (2, [1, 10], []), (3, [4], []), (4, [4], [])], rets := some ([4], []) } Tryz.func6 (by kernel_rfl)
@[go_sem] theorem d6 : s6.g = 6 ∧ s6.fs = ⟨[.ro 1, .ro 1], s6.F, false⟩ := ⟨nr rfl, nr rfl⟩
@[go_sem] theorem e6 (xBudget : Int) (xGuard : Int) (xObjCost : Int) (xNeg : Int) (xEarly : Int) (xFetchTime : Int) (xWaitTime : Int) (xWaitCap : Int) (xNames : List ByteArray) (xLanesSlots : Int) (xLanesCap : Int) (xLanesTime : Int) (xRulesWindow : Int) (xRulesMin : Int) (xRulesRatio : Int) (xRulesCool : Int) (xRulesQuota : Int) (l : Int) (h0 : okConfig (Config.mk xBudget xGuard xObjCost xNeg xEarly xFetchTime xWaitTime xWaitCap xNames (Lanes.mk xLanesSlots xLanesCap xLanesTime) (Rules.mk xRulesWindow xRulesMin xRulesRatio xRulesCool xRulesQuota))) : s6.F [.agg [.i .i64 xBudget, .i .i64 xGuard, .i .i64 xObjCost, .i .i64 xNeg, .i .i64 xEarly, .i .i64 xFetchTime, .i .i64 xWaitTime, .i .i64 xWaitCap, .sl .ro 1 (xNames.map rStr), .i .i64 xLanesSlots, .i .i64 xLanesCap, .i .i64 xLanesTime, .i .i64 xRulesWindow, .i .i64 xRulesMin, .i .i64 xRulesRatio, .i .i64 xRulesCool, .i .i64 xRulesQuota], .i .i64 l] = some (.i .i64 (szConfig (Config.mk xBudget xGuard xObjCost xNeg xEarly xFetchTime xWaitTime xWaitCap xNames (Lanes.mk xLanesSlots xLanesCap xLanesTime) (Rules.mk xRulesWindow xRulesMin xRulesRatio xRulesCool xRulesQuota)) l), [.u, .u]) := mkS_eq (0) rfl rfl (fun cx h => by
  obtain ⟨q0, q1, q2, q3, q4, q5, q6, q7, q8, q9, q10⟩ := h0
  simp only [go_sem, reduceIte, ↓reduceIte, reduceCtorEq, nA, nS, nM, nB, nE, nL, nT, nN, iL, iT, iE, iA, iM, iS, iG, iB, iN, iZ, h, q0, q1, q2, q3, q4, q5, q6, q7, q8, q9, q10]
  simp only [szConfig, szs, szn, if_i, decide_eq_true_eq]) (rfl)
def within (a b c : Int) : Bool := decide (b ≤ a) && decide (a ≤ c)
theorem within_t {a b c : Int} : within a b c = true ↔ b ≤ a ∧ a ≤ c := by simp [within]
theorem within_f {a b c : Int} : within a b c = false ↔ ¬ (b ≤ a ∧ a ≤ c) := by rw [← within_t]; simp
noncomputable def s21 : SP Tryz.prog := mkS tyA 21 Tryz.f21 [] { md := [.ro 1, .ro 1, .ro 1], rets := some ([6], []) } Tryz.func21 (by kernel_rfl)
@[go_sem] theorem d21 : s21.g = 21 ∧ s21.fs = ⟨[.ro 1, .ro 1, .ro 1], s21.F, false⟩ := ⟨nr rfl, nr rfl⟩
@[go_sem] theorem e21 (a : Int) (b : Int) (c : Int) : s21.F [.i .i64 a, .i .i64 b, .i .i64 c] = some (.b (within a b c), [.u, .u, .u]) := mkS_eq (0) rfl rfl (fun cx h => by
  simp only [go_sem, reduceIte, ↓reduceIte, reduceCtorEq, nA, nS, nM, nB, nE, nL, nT, nN, iL, iT, iE, iA, iM, iS, iG, iB, iN, iZ, h, within]
  by_cases h : b ≤ a <;> simp [h]) (rfl)
noncomputable def s71 : SP Tryz.prog := mkS tyA 71 Tryz.f71 [] { md := [.ro 1], rg := [(0, [0], []), (1, [2], [])], rets := some ([2], []), plan := [(1, (.take 1 (.take 2 (.take 3 (.take 4 (.take 6 (.alt 0 (.alt 5 (.one 7 (.take 8 (.one 9 (.one 10 (.one 11 .done))))) (.one 7 (.take 8 (.alt 5 (.one 9 (.one 10 (.one 11 .done))) (.one 9 (.one 5 (.one 10 (.one 11 .done)))))))) (.one 7 (.take 8 (.alt 0 (.alt 5 (.one 9 (.one 10 (.one 11 .done))) (.one 9 (.one 5 (.one 10 (.one 11 .done))))) (.one 9 (.one 0 (.one 5 (.one 10 (.one 11 .done)))))))))))))))] } Tryz.func71 (by kernel_rfl)
@[go_sem] theorem d71 : s71.g = 71 ∧ s71.fs = ⟨[.ro 1], s71.F, false⟩ := ⟨nr rfl, nr rfl⟩
@[go_sem] theorem e71 (b g : Int) : s71.F [.pr [.i .i64 b, .i .i64 g, .sl .ro 13 [], .sl .ro 13 []]] = some (.sl .mut 13 [], [.u]) := mkS_eq (0) rfl rfl (fun cx h => by
  simp only [go_sem, reduceIte, ↓reduceIte, reduceCtorEq, nA, nS, nM, nB, nE, nL, nT, nN, iL, iT, iE, iA, iM, iS, iG, iB, iN, iZ, h]) (rfl)
noncomputable def s73 : SP Tryz.prog := mkS tyA 73 Tryz.f73 [] { md := [.ro 1], rg := [(0, [0], []), (1, [0, 3], []), (2, [0, 3, 4], []), (3, [0, 3, 4, 8], []), (4, [0, 3, 4], []), (5, [0, 3, 4], []), (6, [2], [])], lv := [(0, [0, 3, 4], [])], out := [(0, [3], [])], rets := some ([2], []) } Tryz.func73 (by kernel_rfl)
@[go_sem] theorem d73 : s73.g = 73 ∧ s73.fs = ⟨[.ro 1], s73.F, false⟩ := ⟨nr rfl, nr rfl⟩
@[go_sem] theorem e73  : s73.F [.sl .ro 13 []] = some (.i .i64 0, [.u]) := mkS_eq (1) rfl rfl (fun cx h => by
  simp only [go_sem, reduceIte, ↓reduceIte, reduceCtorEq, nA, nS, nM, nB, nE, nL, nT, nN, iL, iT, iE, iA, iM, iS, iG, iB, iN, iZ, h, loopE_1]) (rfl)
def storeCode (b g : Int) : Int := if (within b 0 1000000 && within g 0 b) = true then 0 else 3
theorem within_nn {a b c : Int} (h : within a b c = true) : ¬ (a < b) := by
  have := within_t.1 h
  omega
noncomputable def s53 : SP Tryz.prog := mkS tyA 53 Tryz.f53 [s21, s71, s73] { md := [.ro 1], rg := [(0, [1], [1]), (1, [1, 19], [1]), (2, [2], []), (3, [1, 27], [1]), (4, [2], []), (5, [1, 3], [1]), (6, [1, 3, 4], [1]), (7, [1, 3, 4, 32], [1]), (8, [1, 3, 4], [1]), (9, [1, 3, 4, 5], [1]), (10, [1, 3, 4, 5, 41], [1]), (11, [2], []), (12, [1, 3, 6], [1]), (13, [1, 3, 6, 46], [1]), (14, [1, 3, 6], [1]), (15, [1, 3, 6, 7], [1]), (16, [1, 3, 6, 7, 51], [1]), (17, [1, 3, 6, 7], [1]), (18, [1, 3, 6, 7, 64], [1]), (19, [2], []), (20, [77], []), (21, [2], []), (22, [2], [])], lv := [(0, [1, 3, 4], [1]), (2, [1, 3, 6], [1]), (4, [1, 3, 6, 7], [1])], out := [(0, [1, 3], [1]), (2, [1, 3], [1]), (4, [1, 3, 6], [1])], rets := some ([2], []), plan := [(18, (.take 0 (.take 1 (.take 2 (.take 3 (.take 4 (.take 5 (.take 6 (.take 7 (.take 8 (.take 9 (.take 10 .done)))))))))))), (20, (.take 0 (.take 2 (.take 3 (.one 1 (.take 4 (.take 5 (.take 6 (.take 7 (.take 9 (.take 10 (.one 8 (.take 11 (.take 12 .done))))))))))))))] } Tryz.func53 (by kernel_rfl)
@[go_sem] theorem d53 : s53.g = 53 ∧ s53.fs = ⟨[.ro 1], s53.F, false⟩ := ⟨nr rfl, nr rfl⟩
@[go_sem] theorem e53 (b g : Int) : s53.F [.agg [.i .i64 b, .i .i64 g, .sl .ro 13 [], .sl .ro 13 []]] = some (.i .i64 (storeCode b g), [.u]) := mkS_eq (1) rfl rfl (fun cx h => by
  cases h1 : within b 0 1000000
  · simp only [go_sem, reduceIte, ↓reduceIte, reduceCtorEq, nA, nS, nM, nB, nE, nL, nT, nN, iL, iT, iE, iA, iM, iS, iG, iB, iN, iZ, h, h1, storeCode]
  cases h2 : within g 0 b
  · simp only [go_sem, reduceIte, ↓reduceIte, reduceCtorEq, nA, nS, nM, nB, nE, nL, nT, nN, iL, iT, iE, iA, iM, iS, iG, iB, iN, iZ, h, h1, h2, storeCode]
  have h3 := within_nn h1
  have h4 := within_nn h2
  simp only [go_sem, reduceIte, ↓reduceIte, reduceCtorEq, nA, nS, nM, nB, nE, nL, nT, nN, iL, iT, iE, iA, iM, iS, iG, iB, iN, iZ, h, h1, h2, h3, h4, storeCode, loopE_1, wrap_0]) (rfl)
noncomputable def s20 : SP Tryz.prog := mkS tyA 20 Tryz.f20 [s53] { md := [.ro 1, .ro 1], rg := [(0, [0, 1, 4, 16], [4, 5]), (1, [4, 5, 16], [4, 5]), (2, [4, 5, 6, 16], [4, 5]), (3, [4, 5, 6, 13, 16], [4, 5]), (4, [4, 16], [4, 5]), (5, [4, 16], [4, 5])], rets := some ([4, 16], [4, 5]) } Tryz.func20 (by kernel_rfl)
@[go_sem] theorem d20 : s20.g = 20 ∧ s20.fs = ⟨[.ro 1, .ro 1], s20.F, false⟩ := ⟨nr rfl, nr rfl⟩
@[go_sem] theorem e20 (b g : Int) : s20.F [.i .i64 b, .i .i64 g] = some (.agg [.i .i64 (storeCode b g), .i .i64 (if storeCode b g = 0 then b else 0), .i .i64 (if storeCode b g = 0 then g else 0), .sl .mut 13 [], .sl .mut 13 []], [.u, .u]) := mkS_eq (0) rfl rfl (fun cx h => by
  by_cases h1 : storeCode b g = 0
  · simp only [go_sem, reduceIte, ↓reduceIte, reduceCtorEq, nA, nS, nM, nB, nE, nL, nT, nN, iL, iT, iE, iA, iM, iS, iG, iB, iN, iZ, h, h1]
  · have h2 : (storeCode b g != 0) = true := by simpa using h1
    simp only [go_sem, reduceIte, ↓reduceIte, reduceCtorEq, nA, nS, nM, nB, nE, nL, nT, nN, iL, iT, iE, iA, iM, iS, iG, iB, iN, iZ, h, h1, h2]) (by simp only [go_sem, reduceIte, ↓reduceIte, reduceCtorEq, nA, nS, nM, nB, nE, nL, nT, nN, iL, iT, iE, iA, iM, iS, iG, iB, iN, iZ, okRes, hasRo, hasRoL, hasRoLL])
def isTime (a : Int) : Bool := within a 0 1000000000000000
theorem isTime_t {a : Int} : isTime a = true ↔ 0 ≤ a ∧ a ≤ 1000000000000000 := within_t
noncomputable def s22 : SP Tryz.prog := mkS tyA 22 Tryz.f22 [s21] { md := [.ro 1], rets := some ([2], []) } Tryz.func22 (by kernel_rfl)
@[go_sem] theorem d22 : s22.g = 22 ∧ s22.fs = ⟨[.ro 1], s22.F, false⟩ := ⟨nr rfl, nr rfl⟩
@[go_sem] theorem e22 (a : Int) : s22.F [.i .i64 a] = some (.b (isTime a), [.u]) := mkS_eq (0) rfl rfl (fun cx h => by
  simp only [go_sem, reduceIte, ↓reduceIte, reduceCtorEq, nA, nS, nM, nB, nE, nL, nT, nN, iL, iT, iE, iA, iM, iS, iG, iB, iN, iZ, h, isTime]) (rfl)
theorem byne {c v : UInt8} (h : c ≠ v) : ((c.toNat : Int) == (v.toNat : Int)) = false := by
  simp only [beq_eq_false_iff_ne, ne_eq, Int.ofNat_inj]
  exact fun e => h (UInt8.toNat_inj.1 e)
def letterB (c : UInt8) : Bool := (decide (97 ≤ (c.toNat : Int)) && decide ((c.toNat : Int) ≤ 122)) || (decide (65 ≤ (c.toNat : Int)) && decide ((c.toNat : Int) ≤ 90))
def digitB (c : UInt8) : Bool := decide (48 ≤ (c.toNat : Int)) && decide ((c.toNat : Int) ≤ 57)
theorem index_ge (l : List UInt8) (c : UInt8) : 0 ≤ Lib.indexByte l c ↔ c ∈ l := by
  induction l with
  | nil => simp [Lib.indexByte]
  | cons b l ih =>
    have := Lib.indexByte_ge l c
    unfold Lib.indexByte
    by_cases hb : b = c
    · simp [hb]
    · by_cases hx : Lib.indexByte l c = -1
      · have hn : ¬ c ∈ l := fun h => by have := ih.2 h; omega
        simp [hx, hn, hb, Ne.symm hb]
      · have h2 : 0 ≤ Lib.indexByte l c := by omega
        simp [hb, hx, ih.1 h2]; omega
def ixB (s : ByteArray) (c : UInt8) : Int := Lib.indexByte s.data.toList c
theorem ixB_ge (l : List UInt8) (c : UInt8) : decide (0 ≤ ixB ⟨l.toArray⟩ c) = l.contains c := by
  rw [Bool.eq_iff_iff, decide_eq_true_eq, List.contains_iff_mem]
  exact index_ge l c
theorem int_u8 (c : UInt8) : ((c.toNat : Int)).toNat.toUInt8 = c := by simp
noncomputable def s96 : SP Tryz.prog := mkS tyA 96 Tryz.f96 [] { md := [.ro 1], rets := some ([2], []) } Tryz.func96 (by kernel_rfl)
@[go_sem] theorem d96 : s96.g = 96 ∧ s96.fs = ⟨[.ro 1], s96.F, false⟩ := ⟨nr rfl, nr rfl⟩
@[go_sem] theorem e96 (c : UInt8) : s96.F [.i .u8 c.toNat] = some (.b (letterB c), [.u]) := mkS_eq (0) rfl rfl (fun cx h => by
  by_cases h1 : 97 ≤ (c.toNat : Int) <;> by_cases h2 : (c.toNat : Int) ≤ 122 <;> by_cases h3 : 65 ≤ (c.toNat : Int) <;> by_cases h4 : (c.toNat : Int) ≤ 90 <;> simp only [go_sem, reduceIte, ↓reduceIte, reduceCtorEq, nA, nS, nM, nB, nE, nL, nT, nN, iL, iT, iE, iA, iM, iS, iG, iB, iN, iZ, h, h1, h2, h3, h4, letterB]) (rfl)
noncomputable def s97 : SP Tryz.prog := mkS tyA 97 Tryz.f97 [] { md := [.ro 1], rets := some ([2], []) } Tryz.func97 (by kernel_rfl)
@[go_sem] theorem d97 : s97.g = 97 ∧ s97.fs = ⟨[.ro 1], s97.F, false⟩ := ⟨nr rfl, nr rfl⟩
@[go_sem] theorem e97 (c : UInt8) : s97.F [.i .u8 c.toNat] = some (.b (digitB c), [.u]) := mkS_eq (0) rfl rfl (fun cx h => by
  by_cases h1 : 48 ≤ (c.toNat : Int) <;> by_cases h2 : (c.toNat : Int) ≤ 57 <;> simp only [go_sem, reduceIte, ↓reduceIte, reduceCtorEq, nA, nS, nM, nB, nE, nL, nT, nN, iL, iT, iE, iA, iM, iS, iG, iB, iN, iZ, h, h1, h2, digitB]) (rfl)
def symB : List UInt8 := [33, 35, 36, 37, 38, 39, 42, 43, 45, 46, 94, 95, 124, 126]
def wordB (c : UInt8) : Bool := letterB c || digitB c || symB.contains c
theorem wordB_sym {c : UInt8} (h : c ∈ symB) : wordB c = true := by
  have : symB.contains c = true := List.contains_iff_mem.2 h
  simp [wordB, this, -List.contains_eq_mem]
theorem wordB_not {c : UInt8} (h : ¬ c ∈ symB) : wordB c = (letterB c || digitB c) := by
  have : symB.contains c = false := by rw [Bool.eq_false_iff]; exact fun e => h (List.contains_iff_mem.1 e)
  simp [wordB, this, -List.contains_eq_mem]
theorem ixB_sym (c : UInt8) : decide (0 ≤ ixB ⟨#[33, 35, 36, 37, 38, 39, 42, 43, 45, 46, 94, 95, 124, 126]⟩ c) = symB.contains c := ixB_ge symB c
@[go_sem] theorem ixB_symI (c : UInt8) : decide (ixB ⟨#[33, 35, 36, 37, 38, 39, 42, 43, 45, 46, 94, 95, 124, 126]⟩ c ≥ 0) = symB.contains c := ixB_ge symB c
theorem wx : (1 : Int) = 1 := rfl
noncomputable def s74 : SP Tryz.prog := mkS tyA 74 Tryz.f74 [s96, s97] { md := [.ro 1], rg := [(0, [0], []), (1, [0, 3], []), (2, [0, 3, 4], []), (3, [0, 3, 4], []), (4, [0, 3, 4], []), (5, [0, 3, 4], []), (6, [0, 3, 4], []), (7, [0, 3, 4], []), (8, [0, 3, 4], []), (9, [0, 3, 4], []), (10, [0, 3, 4], []), (11, [0, 3, 4], []), (12, [0, 3, 4], []), (13, [0, 3, 4], []), (14, [0, 3, 4], []), (15, [0, 4], []), (16, [2], []), (17, [2], [])], rets := some ([2], []) } Tryz.func74 (by kernel_rfl)
@[go_sem] theorem d74 : s74.g = 74 ∧ s74.fs = ⟨[.ro 1], s74.F, false⟩ := ⟨nr rfl, nr rfl⟩
@[go_sem] theorem e74 (c : UInt8) : s74.F [.i .u8 c.toNat] = some (.b (wordB c), [.u]) := mkS_eq (0) rfl rfl (fun cx h => by
  by_cases m : c ∈ symB
  · have hw := wordB_sym m
    simp only [symB, List.mem_cons, List.not_mem_nil, or_false] at m
    have u33 : (((33 : UInt8).toNat : Nat) : Int) = 33 := rfl
    have u35 : (((35 : UInt8).toNat : Nat) : Int) = 35 := rfl
    have u36 : (((36 : UInt8).toNat : Nat) : Int) = 36 := rfl
    have u37 : (((37 : UInt8).toNat : Nat) : Int) = 37 := rfl
    have u38 : (((38 : UInt8).toNat : Nat) : Int) = 38 := rfl
    have u39 : (((39 : UInt8).toNat : Nat) : Int) = 39 := rfl
    have u42 : (((42 : UInt8).toNat : Nat) : Int) = 42 := rfl
    have u43 : (((43 : UInt8).toNat : Nat) : Int) = 43 := rfl
    have u45 : (((45 : UInt8).toNat : Nat) : Int) = 45 := rfl
    have u46 : (((46 : UInt8).toNat : Nat) : Int) = 46 := rfl
    have u94 : (((94 : UInt8).toNat : Nat) : Int) = 94 := rfl
    have u95 : (((95 : UInt8).toNat : Nat) : Int) = 95 := rfl
    have u124 : (((124 : UInt8).toNat : Nat) : Int) = 124 := rfl
    have u126 : (((126 : UInt8).toNat : Nat) : Int) = 126 := rfl
    rcases m with rfl | rfl | rfl | rfl | rfl | rfl | rfl | rfl | rfl | rfl | rfl | rfl | rfl | rfl <;> simp only [go_sem, reduceIte, ↓reduceIte, reduceCtorEq, nA, nS, nM, nB, nE, nL, nT, nN, iL, iT, iE, iA, iM, iS, iG, iB, iN, iZ, h, hw, wx, u33, u35, u36, u37, u38, u39, u42, u43, u45, u46, u94, u95, u124, u126]
  · have hw := wordB_not m
    have q33 : ((c.toNat : Int) == 33) = false := byne (v := 33) (fun e => m (by subst e; decide))
    have q35 : ((c.toNat : Int) == 35) = false := byne (v := 35) (fun e => m (by subst e; decide))
    have q36 : ((c.toNat : Int) == 36) = false := byne (v := 36) (fun e => m (by subst e; decide))
    have q37 : ((c.toNat : Int) == 37) = false := byne (v := 37) (fun e => m (by subst e; decide))
    have q38 : ((c.toNat : Int) == 38) = false := byne (v := 38) (fun e => m (by subst e; decide))
    have q39 : ((c.toNat : Int) == 39) = false := byne (v := 39) (fun e => m (by subst e; decide))
    have q42 : ((c.toNat : Int) == 42) = false := byne (v := 42) (fun e => m (by subst e; decide))
    have q43 : ((c.toNat : Int) == 43) = false := byne (v := 43) (fun e => m (by subst e; decide))
    have q45 : ((c.toNat : Int) == 45) = false := byne (v := 45) (fun e => m (by subst e; decide))
    have q46 : ((c.toNat : Int) == 46) = false := byne (v := 46) (fun e => m (by subst e; decide))
    have q94 : ((c.toNat : Int) == 94) = false := byne (v := 94) (fun e => m (by subst e; decide))
    have q95 : ((c.toNat : Int) == 95) = false := byne (v := 95) (fun e => m (by subst e; decide))
    have q124 : ((c.toNat : Int) == 124) = false := byne (v := 124) (fun e => m (by subst e; decide))
    have q126 : ((c.toNat : Int) == 126) = false := byne (v := 126) (fun e => m (by subst e; decide))
    cases h1 : letterB c <;> cases h2 : digitB c <;> simp only [go_sem, reduceIte, ↓reduceIte, reduceCtorEq, nA, nS, nM, nB, nE, nL, nT, nN, iL, iT, iE, iA, iM, iS, iG, iB, iN, iZ, h, hw, h1, h2, q33, q35, q36, q37, q38, q39, q42, q43, q45, q46, q94, q95, q124, q126]) (rfl)
def areB (p : UInt8 → Bool) (lo hi : Int) (t : ByteArray) : Bool := decide (lo ≤ (t.size : Int)) && decide ((t.size : Int) ≤ hi) && t.data.toList.all p
theorem areB_short {p : UInt8 → Bool} {lo hi : Int} {t : ByteArray} (h : (t.size : Int) < lo) : areB p lo hi t = false := by
  have : ¬ lo ≤ (t.size : Int) := by omega
  simp [areB, this]
theorem areB_long {p : UInt8 → Bool} {lo hi : Int} {t : ByteArray} (h : hi < (t.size : Int)) : areB p lo hi t = false := by
  have : ¬ (t.size : Int) ≤ hi := by omega
  simp [areB, this]
theorem areB_all {p : UInt8 → Bool} {lo hi : Int} {t : ByteArray} (h : ¬ (t.size : Int) < lo) (h' : ¬ hi < (t.size : Int)) : areB p lo hi t = t.data.toList.all p := by
  have h1 : lo ≤ (t.size : Int) := by omega
  have h2 : (t.size : Int) ≤ hi := by omega
  simp [areB, h1, h2]
theorem runS_all {α : Type} {p : α → Bool} : ∀ {xs : List α} {u u' : Unit}, runS (fun x _ => !p x) (fun _ _ => ()) xs u = .inl u' → xs.all p = true
  | [], _, _, _ => rfl
  | x :: xs, u, u', h => by
    rw [runS_cons] at h
    split at h
    · cases h
    · rename_i hc
      simp only [List.all_cons, runS_all h, Bool.and_true]
      simpa using hc
theorem runS_all' {α : Type} {p : α → Bool} : ∀ {xs : List α} {u : Unit} {q : α × Unit}, runS (fun x _ => !p x) (fun _ _ => ()) xs u = .inr q → xs.all p = false
  | [], _, _, h => by cases h
  | x :: xs, u, q, h => by
    rw [runS_cons] at h
    split at h
    · rename_i hc
      have : p x = false := by simpa using hc
      simp [this]
    · simp only [List.all_cons, runS_all' h, Bool.and_false]
theorem str_at (t : ByteArray) (k : Nat) (h : k < t.data.toList.length) : t.data[k]?.getD 0 = t.data.toList[k] := by
  have h' : k < t.data.size := by simpa using h
  rw [Array.getElem?_eq_getElem h']
  simp
theorem str_size (t : ByteArray) : t.size = t.data.toList.length := by
  show t.data.size = _
  simp
def isWord (t : ByteArray) : Bool := areB wordB 1 64 t
noncomputable def s54 : SP Tryz.prog := mkS tyA 54 Tryz.f54 [s74] { md := [.ro 1], rg := [(0, [0], []), (1, [0, 11], []), (2, [2], []), (3, [0, 3], []), (4, [0, 3, 15], []), (5, [0, 3], []), (6, [0, 3, 22], []), (7, [2], []), (8, [2], [])], lv := [(0, [0, 3], [])], out := [(0, [], [])], rets := some ([2], []) } Tryz.func54 (by kernel_rfl)
@[go_sem] theorem d54 : s54.g = 54 ∧ s54.fs = ⟨[.ro 1], s54.F, false⟩ := ⟨nr rfl, nr rfl⟩
@[go_sem] theorem e54 (t : ByteArray) : s54.F [.s t] = some (.b (isWord t), [.u]) := mkS_eq (t.data.toList.length + 1) rfl rfl (fun cx h => by
  have hu : isWord t = areB wordB 1 64 t := rfl
  by_cases h1 : (t.size : Int) < 1
  · simp only [go_sem, reduceIte, ↓reduceIte, reduceCtorEq, nA, nS, nM, nB, nE, nL, nT, nN, iL, iT, iE, iA, iM, iS, iG, iB, iN, iZ, h, h1, hu, areB_short h1]
  by_cases h2 : 64 < (t.size : Int)
  · simp only [go_sem, reduceIte, ↓reduceIte, reduceCtorEq, nA, nS, nM, nB, nE, nL, nT, nN, iL, iT, iE, iA, iM, iS, iG, iB, iN, iZ, h, h1, h2, hu, areB_long h2]
  have hx : t.data.toList.length ≤ 9223372036854775806 := by rw [← str_size]; omega
  have ha := areB_all (p := wordB) h1 h2
  rw [str_size t] at h1 h2
  · have hb0 := loopN_eq Tryz.f54 0 _ _ rfl rfl
    obtain ⟨r, hr, hq⟩ := loop_srch (cx := cx) (blk := 0) (body := loopN Tryz.f54 0) t.data.toList (fun k (s : Unit) => ⟨E [(0, .s t), (3, .i .i64 k)], B []⟩) (fun s => ⟨E [], B []⟩) (fun x s => !wordB x) (fun x s => ()) (fun x s => (.ret, ⟨E [(2, .b false)], B []⟩)) (fun k s => True)
        (fun s hI G => by simp only [go_sem, reduceIte, ↓reduceIte, reduceCtorEq, nA, nS, nM, nB, nE, nL, nT, nN, iL, iT, iE, iA, iM, iS, iG, iB, iN, iZ, h, Int.lt_irrefl, hb0, str_size t]) (fun k hk s hI => by
          have h1 : ((k : Int) < (t.data.toList.length : Int)) := Int.ofNat_lt.2 hk
          have hz := str_at t k hk
          exact ⟨_, _, _, fun G => by simp only [go_sem, reduceIte, ↓reduceIte, reduceCtorEq, nA, nS, nM, nB, nE, nL, nT, nN, iL, iT, iE, iA, iM, iS, iG, iB, iN, iZ, h, hz, str_size t, h1, idx_nt _ _ hk, wrap_nat1 (show k < 9223372036854775807 by omega), hb0] <;> with_reducible rfl, Iff.rfl, fun hc => ⟨trivial, by simp only [go_sem, reduceIte, ↓reduceIte, reduceCtorEq, nA, nS, nM, nB, nE, nL, nT, nN, iL, iT, iE, iA, iM, iS, iG, iB, iN, iZ, h, str_size t]⟩⟩) () trivial (t.data.toList.length + 1) (Nat.le_refl _)
    rw [hb0] at hr
    rcases hq with ⟨s', e1, _, e3⟩ | ⟨x, s', e1, e3⟩
    · simp only [go_sem, reduceIte, ↓reduceIte, reduceCtorEq, nA, nS, nM, nB, nE, nL, nT, nN, iL, iT, iE, iA, iM, iS, iG, iB, iN, iZ, h, h1, h2, str_size t, hr, e3, hu, ha, runS_all e1]
    · simp only [go_sem, reduceIte, ↓reduceIte, reduceCtorEq, nA, nS, nM, nB, nE, nL, nT, nN, iL, iT, iE, iA, iM, iS, iG, iB, iN, iZ, h, h1, h2, str_size t, hr, e3, hu, ha, runS_all' e1]) (rfl)
def namesCode (xs : List ByteArray) : Int := if 4 < (xs.length : Int) then 2 else if (xs.any fun x => !isWord x) = true then 5 else 0
theorem any_not {α : Type} (p : α → Bool) : ∀ xs : List α, (xs.any fun x => !p x) = !xs.all p
  | [] => rfl
  | x :: xs => by rw [List.any_cons, List.all_cons, any_not p xs]; cases p x <;> rfl
noncomputable def s23 : SP Tryz.prog := mkS tyA 23 Tryz.f23 [s54] { md := [.ro 1], rg := [(0, [0], []), (1, [0, 6], []), (2, [2], []), (3, [0, 3], []), (4, [0, 3, 10], []), (5, [0, 3], []), (6, [0, 3, 18], []), (7, [2], []), (8, [2], [])], lv := [(0, [0, 3], [])], out := [(0, [], [])], rets := some ([2], []) } Tryz.func23 (by kernel_rfl)
@[go_sem] theorem d23 : s23.g = 23 ∧ s23.fs = ⟨[.ro 1], s23.F, false⟩ := ⟨nr rfl, nr rfl⟩
@[go_sem] theorem e23 (xs : List ByteArray) : s23.F [.sl .ro 1 (xs.map rStr)] = some (.i .i64 (namesCode xs), [.u]) := mkS_eq (xs.length + 1) rfl rfl (fun cx h => by
  by_cases h1 : 4 < (xs.length : Int)
  · simp only [go_sem, reduceIte, ↓reduceIte, reduceCtorEq, nA, nS, nM, nB, nE, nL, nT, nN, iL, iT, iE, iA, iM, iS, iG, iB, iN, iZ, h, h1, namesCode]
  have hx : xs.length ≤ 9223372036854775806 := by omega
  have hb0 := loopN_eq Tryz.f23 0 _ _ rfl rfl
  obtain ⟨r, hr, hq⟩ := loop_srch (cx := cx) (blk := 0) (body := loopN Tryz.f23 0) xs (fun k (s : Unit) => ⟨E [(0, .sl .ro 1 (xs.map rStr)), (3, .i .i64 k)], B []⟩) (fun s => ⟨E [], B []⟩) (fun x s => !isWord x) (fun x s => ()) (fun x s => (.ret, ⟨E [(2, .i .i64 5)], B []⟩)) (fun k s => True)
      (fun s hI G => by simp only [go_sem, reduceIte, ↓reduceIte, reduceCtorEq, nA, nS, nM, nB, nE, nL, nT, nN, iL, iT, iE, iA, iM, iS, iG, iB, iN, iZ, h, Int.lt_irrefl, hb0, hx]) (fun k hk s hI => by
        have h1 : ((k : Int) < (xs.length : Int)) := Int.ofNat_lt.2 hk
        exact ⟨_, _, _, fun G => by simp only [go_sem, reduceIte, ↓reduceIte, reduceCtorEq, nA, nS, nM, nB, nE, nL, nT, nN, iL, iT, iE, iA, iM, iS, iG, iB, iN, iZ, h, map_gd rStr xs _ hk, h1, idx_nt _ _ hk, wrap_nat1 (show k < 9223372036854775807 by omega), hb0] <;> with_reducible rfl, Iff.rfl, fun hc => ⟨trivial, by simp only [go_sem, reduceIte, ↓reduceIte, reduceCtorEq, nA, nS, nM, nB, nE, nL, nT, nN, iL, iT, iE, iA, iM, iS, iG, iB, iN, iZ, h]⟩⟩) () trivial (xs.length + 1) (Nat.le_refl _)
  rw [hb0] at hr
  rcases hq with ⟨s', e1, _, e3⟩ | ⟨x, s', e1, e3⟩
  · simp only [go_sem, reduceIte, ↓reduceIte, reduceCtorEq, nA, nS, nM, nB, nE, nL, nT, nN, iL, iT, iE, iA, iM, iS, iG, iB, iN, iZ, h, h1, hr, e3, namesCode, any_not, runS_all e1]
  · simp only [go_sem, reduceIte, ↓reduceIte, reduceCtorEq, nA, nS, nM, nB, nE, nL, nT, nN, iL, iT, iE, iA, iM, iS, iG, iB, iN, iZ, h, h1, hr, e3, namesCode, any_not, runS_all' e1]) (rfl)
def lanesFault (l : Lanes) : Int := if (within l.Slots 1 8 && within l.Cap 0 8 && within l.Time 0 1000000) = true then 0 else 3
noncomputable def s24 : SP Tryz.prog := mkS tyA 24 Tryz.f24 [s21] { md := [.ro 1], rg := [(0, [1], [1]), (1, [18], []), (2, [2], []), (3, [2], [])], rets := some ([2], []) } Tryz.func24 (by kernel_rfl)
@[go_sem] theorem d24 : s24.g = 24 ∧ s24.fs = ⟨[.ro 1], s24.F, false⟩ := ⟨nr rfl, nr rfl⟩
@[go_sem] theorem e24 (lSlots : Int) (lCap : Int) (lTime : Int) : s24.F [.agg [.i .i64 lSlots, .i .i64 lCap, .i .i64 lTime]] = some (.i .i64 (lanesFault (Lanes.mk lSlots lCap lTime)), [.u]) := mkS_eq (0) rfl rfl (fun cx h => by
  simp only [go_sem, reduceIte, ↓reduceIte, reduceCtorEq, nA, nS, nM, nB, nE, nL, nT, nN, iL, iT, iE, iA, iM, iS, iG, iB, iN, iZ, h]
  simp only [lanesFault]
  cases within lSlots 1 8 <;> cases within lCap 0 8 <;> cases within lTime 0 1000000 <;> rfl) (rfl)
def rulesFault (r : Rules) : Int := if (within r.Window 1 1000000 && within r.Min 1 50 && within r.Ratio 1 1000 && within r.Cool 0 1000000 && within r.Quota 1 5) = true then 0 else 3
theorem rulesFault_ok {r : Rules} (h : rulesFault r = 0) : 1 ≤ r.Window ∧ r.Window ≤ 1000000 ∧ 1 ≤ r.Min ∧ r.Min ≤ 50 ∧ 1 ≤ r.Ratio ∧ r.Ratio ≤ 1000 ∧ 0 ≤ r.Cool ∧ r.Cool ≤ 1000000 ∧ 1 ≤ r.Quota ∧ r.Quota ≤ 5 := by
  unfold rulesFault at h
  split at h
  · rename_i hc
    simp only [Bool.and_eq_true, within_t] at hc
    omega
  · cases h
noncomputable def s25 : SP Tryz.prog := mkS tyA 25 Tryz.f25 [s21] { md := [.ro 1], rg := [(0, [1], [1]), (1, [30], []), (2, [2], []), (3, [2], [])], rets := some ([2], []) } Tryz.func25 (by kernel_rfl)
@[go_sem] theorem d25 : s25.g = 25 ∧ s25.fs = ⟨[.ro 1], s25.F, false⟩ := ⟨nr rfl, nr rfl⟩
@[go_sem] theorem e25 (rWindow : Int) (rMin : Int) (rRatio : Int) (rCool : Int) (rQuota : Int) : s25.F [.agg [.i .i64 rWindow, .i .i64 rMin, .i .i64 rRatio, .i .i64 rCool, .i .i64 rQuota]] = some (.i .i64 (rulesFault (Rules.mk rWindow rMin rRatio rCool rQuota)), [.u]) := mkS_eq (0) rfl rfl (fun cx h => by
  simp only [go_sem, reduceIte, ↓reduceIte, reduceCtorEq, nA, nS, nM, nB, nE, nL, nT, nN, iL, iT, iE, iA, iM, iS, iG, iB, iN, iZ, h]
  simp only [rulesFault]
  cases within rWindow 1 1000000 <;> cases within rMin 1 50 <;> cases within rRatio 1 1000 <;> cases within rCool 0 1000000 <;> cases within rQuota 1 5 <;> rfl) (rfl)
def rangeOk (c : Config) : Bool := within c.ObjCost 0 c.Budget && isTime c.Neg && within c.Early 0 1000000 && within c.FetchTime 1 1000000 && within c.WaitTime 0 1000000 && within c.WaitCap 1 10
def configFault (c : Config) : Int := firstI [storeCode c.Budget c.Guard, if rangeOk c = true then 0 else 3, namesCode c.Names, lanesFault c.Lanes, rulesFault c.Rules]
noncomputable def s7 : SP Tryz.prog := mkS tyA 7 Tryz.f7 [s20, s21, s22, s23, s24, s25] { md := [.ro 1], rg := [(0, [1], [1]), (1, [1, 3], [1]), (2, [1, 3, 13], [1]), (3, [2], []), (4, [1, 50], [1]), (5, [2], []), (6, [1, 4], [1]), (7, [1, 4, 55], [1]), (8, [2], []), (9, [1, 5], [1]), (10, [1, 5, 61], [1]), (11, [2], []), (12, [2], [])], rets := some ([2], []) } Tryz.func7 (by kernel_rfl)
@[go_sem] theorem d7 : s7.g = 7 ∧ s7.fs = ⟨[.ro 1], s7.F, false⟩ := ⟨nr rfl, nr rfl⟩
@[go_sem] theorem e7 (cBudget : Int) (cGuard : Int) (cObjCost : Int) (cNeg : Int) (cEarly : Int) (cFetchTime : Int) (cWaitTime : Int) (cWaitCap : Int) (cNames : List ByteArray) (cLanesSlots : Int) (cLanesCap : Int) (cLanesTime : Int) (cRulesWindow : Int) (cRulesMin : Int) (cRulesRatio : Int) (cRulesCool : Int) (cRulesQuota : Int) : s7.F [.agg [.i .i64 cBudget, .i .i64 cGuard, .i .i64 cObjCost, .i .i64 cNeg, .i .i64 cEarly, .i .i64 cFetchTime, .i .i64 cWaitTime, .i .i64 cWaitCap, .sl .ro 1 (cNames.map rStr), .i .i64 cLanesSlots, .i .i64 cLanesCap, .i .i64 cLanesTime, .i .i64 cRulesWindow, .i .i64 cRulesMin, .i .i64 cRulesRatio, .i .i64 cRulesCool, .i .i64 cRulesQuota]] = some (.i .i64 (configFault (Config.mk cBudget cGuard cObjCost cNeg cEarly cFetchTime cWaitTime cWaitCap cNames (Lanes.mk cLanesSlots cLanesCap cLanesTime) (Rules.mk cRulesWindow cRulesMin cRulesRatio cRulesCool cRulesQuota))), [.u]) := mkS_eq (0) rfl rfl (fun cx h => by
  by_cases z0 : storeCode cBudget cGuard = 0
  rotate_left
  · have y0 : (storeCode cBudget cGuard != 0) = true := by simpa using z0
    simp only [go_sem, reduceIte, ↓reduceIte, reduceCtorEq, nA, nS, nM, nB, nE, nL, nT, nN, iL, iT, iE, iA, iM, iS, iG, iB, iN, iZ, h, y0, configFault, rangeOk, firstI_cons, firstI_nil]
  have y0 : (storeCode cBudget cGuard != 0) = false := by simpa using z0
  cases h0 : within cObjCost 0 cBudget
  · simp only [go_sem, reduceIte, ↓reduceIte, reduceCtorEq, nA, nS, nM, nB, nE, nL, nT, nN, iL, iT, iE, iA, iM, iS, iG, iB, iN, iZ, h, y0, h0, configFault, rangeOk, firstI_cons, firstI_nil]
  cases h1 : isTime cNeg
  · simp only [go_sem, reduceIte, ↓reduceIte, reduceCtorEq, nA, nS, nM, nB, nE, nL, nT, nN, iL, iT, iE, iA, iM, iS, iG, iB, iN, iZ, h, y0, h0, h1, configFault, rangeOk, firstI_cons, firstI_nil]
  cases h2 : within cEarly 0 1000000
  · simp only [go_sem, reduceIte, ↓reduceIte, reduceCtorEq, nA, nS, nM, nB, nE, nL, nT, nN, iL, iT, iE, iA, iM, iS, iG, iB, iN, iZ, h, y0, h0, h1, h2, configFault, rangeOk, firstI_cons, firstI_nil]
  cases h3 : within cFetchTime 1 1000000
  · simp only [go_sem, reduceIte, ↓reduceIte, reduceCtorEq, nA, nS, nM, nB, nE, nL, nT, nN, iL, iT, iE, iA, iM, iS, iG, iB, iN, iZ, h, y0, h0, h1, h2, h3, configFault, rangeOk, firstI_cons, firstI_nil]
  cases h4 : within cWaitTime 0 1000000
  · simp only [go_sem, reduceIte, ↓reduceIte, reduceCtorEq, nA, nS, nM, nB, nE, nL, nT, nN, iL, iT, iE, iA, iM, iS, iG, iB, iN, iZ, h, y0, h0, h1, h2, h3, h4, configFault, rangeOk, firstI_cons, firstI_nil]
  cases h5 : within cWaitCap 1 10
  · simp only [go_sem, reduceIte, ↓reduceIte, reduceCtorEq, nA, nS, nM, nB, nE, nL, nT, nN, iL, iT, iE, iA, iM, iS, iG, iB, iN, iZ, h, y0, h0, h1, h2, h3, h4, h5, configFault, rangeOk, firstI_cons, firstI_nil]
  by_cases x0 : namesCode cNames = 0
  rotate_left
  · have w0 : (namesCode cNames != 0) = true := by simpa using x0
    simp only [go_sem, reduceIte, ↓reduceIte, reduceCtorEq, nA, nS, nM, nB, nE, nL, nT, nN, iL, iT, iE, iA, iM, iS, iG, iB, iN, iZ, h, y0, h0, h1, h2, h3, h4, h5, w0, configFault, rangeOk, firstI_cons, firstI_nil]
  have w0 : (namesCode cNames != 0) = false := by simpa using x0
  by_cases x1 : lanesFault ⟨cLanesSlots, cLanesCap, cLanesTime⟩ = 0
  rotate_left
  · have w1 : (lanesFault ⟨cLanesSlots, cLanesCap, cLanesTime⟩ != 0) = true := by simpa using x1
    simp only [go_sem, reduceIte, ↓reduceIte, reduceCtorEq, nA, nS, nM, nB, nE, nL, nT, nN, iL, iT, iE, iA, iM, iS, iG, iB, iN, iZ, h, y0, h0, h1, h2, h3, h4, h5, w0, w1, configFault, rangeOk, firstI_cons, firstI_nil]
  have w1 : (lanesFault ⟨cLanesSlots, cLanesCap, cLanesTime⟩ != 0) = false := by simpa using x1
  by_cases v : rulesFault ⟨cRulesWindow, cRulesMin, cRulesRatio, cRulesCool, cRulesQuota⟩ = 0
  · simp only [go_sem, reduceIte, ↓reduceIte, reduceCtorEq, nA, nS, nM, nB, nE, nL, nT, nN, iL, iT, iE, iA, iM, iS, iG, iB, iN, iZ, h, y0, h0, h1, h2, h3, h4, h5, w0, w1, v, configFault, rangeOk, firstI_cons, firstI_nil]
  · have v' : (rulesFault ⟨cRulesWindow, cRulesMin, cRulesRatio, cRulesCool, cRulesQuota⟩ != 0) = true := by simpa using v
    simp only [go_sem, reduceIte, ↓reduceIte, reduceCtorEq, nA, nS, nM, nB, nE, nL, nT, nN, iL, iT, iE, iA, iM, iS, iG, iB, iN, iZ, h, y0, h0, h1, h2, h3, h4, h5, w0, w1, v', configFault, rangeOk, firstI_cons, firstI_nil]) (rfl)
noncomputable def s26 : SP Tryz.prog := mkS tyA 26 Tryz.f26 [] { md := [.ro 1], rg := [(0, [0], []), (1, [0, 3], []), (2, [0, 3, 4], []), (3, [0, 3, 4, 11], []), (4, [0, 3, 4], []), (5, [0, 3, 4], []), (6, [2], [])], lv := [(0, [0, 3, 4], [])], out := [(0, [3], [])], rets := some ([2], []) } Tryz.func26 (by kernel_rfl)
@[go_sem] theorem d26 : s26.g = 26 ∧ s26.fs = ⟨[.ro 1], s26.F, false⟩ := ⟨nr rfl, nr rfl⟩
@[go_sem] theorem e26 (xs : List ByteArray) (h0 : smL smStr xs) : s26.F [.sl .ro 1 (xs.map rStr)] = some (.sl .mut 1 (xs.map rStr), [.u]) := mkS_eq (xs.length + 1) rfl rfl (fun cx h => by
  have hb := loopN_eq Tryz.f26 0 _ _ rfl rfl
  have hx := h0.1
  have c1 : ((xs.length : Int) * (16 : Nat) ≤ 140737488355328) := by omega
  have c2 : 0 ≤ (xs.length : Int) := by omega
  have hr := (loop_fold (cx := cx) (blk := 0) (body := loopN Tryz.f26 0) xs (fun k (_ : Unit) => ⟨E [(0, .sl .ro 1 (xs.map rStr)), (3, .sl .mut 1 (fillUp rStr [.s ⟨#[]⟩] xs k)), (4, .i .i64 k)], B []⟩) (fun _ => ⟨E [(3, .sl .mut 1 (xs.map rStr))], B []⟩) (fun _ _ => ()) (fun _ _ => True)
    (fun l _ G => by simp only [go_sem, reduceIte, ↓reduceIte, reduceCtorEq, nA, nS, nM, nB, nE, nL, nT, nN, iL, iT, iE, iA, iM, iS, iG, iB, iN, iZ, h, Int.lt_irrefl, hb, fillUp_all]) (fun k hk l _ => by
      have h1 : ((k : Int) < (xs.length : Int)) := Int.ofNat_lt.2 hk
      have h2 := h0.2 _ (List.getElem_mem hk)
      have h3 : (fillUp rStr [.s ⟨#[]⟩] xs k).set k [.s xs[k]] = fillUp rStr [.s ⟨#[]⟩] xs (k + 1) := fillUp_set rStr [.s ⟨#[]⟩] xs k hk
      exact ⟨trivial, _, fun G => by simp only [go_sem, reduceIte, ↓reduceIte, reduceCtorEq, nA, nS, nM, nB, nE, nL, nT, nN, iL, iT, iE, iA, iM, iS, iG, iB, iN, iZ, h, h2, h3, map_gd rStr xs k hk, fillUp_get rStr [.s ⟨#[]⟩] xs k hk, fillUp_getD rStr [.s ⟨#[]⟩] xs k hk, fillUp_len rStr [.s ⟨#[]⟩] xs k (Nat.le_of_lt hk), h1, idx_nt _ _ hk, wrap_nat1 (show k < 9223372036854775807 by omega), hb] <;> with_reducible rfl, by simp only [go_sem, reduceIte, ↓reduceIte, reduceCtorEq, nA, nS, nM, nB, nE, nL, nT, nN, iL, iT, iE, iA, iM, iS, iG, iB, iN, iZ, h]⟩) () trivial (xs.length + 1) (Nat.le_refl _)).2
  rw [hb] at hr
  simp only [go_sem, reduceIte, ↓reduceIte, reduceCtorEq, nA, nS, nM, nB, nE, nL, nT, nN, iL, iT, iE, iA, iM, iS, iG, iB, iN, iZ, h, c1, c2, Int.toNat_natCast, fillUp_zero rStr [.s ⟨#[]⟩], hr]) (by simp only [go_sem, reduceIte, ↓reduceIte, reduceCtorEq, nA, nS, nM, nB, nE, nL, nT, nN, iL, iT, iE, iA, iM, iS, iG, iB, iN, iZ, okRes, hasRo])
noncomputable def s27 : SP Tryz.prog := mkS tyA 27 Tryz.f27 [] { md := [.ro 1], rg := [(0, [1, 2], [1, 2, 3]), (1, [1, 2, 3], [1, 2, 3]), (2, [1, 2, 3], [1, 2, 3]), (3, [1, 2, 3], [1, 2, 3]), (4, [2, 3], [2, 3]), (5, [2], [2, 3])], rets := some ([2], [2, 3]) } Tryz.func27 (by kernel_rfl)
@[go_sem] theorem d27 : s27.g = 27 ∧ s27.fs = ⟨[.ro 1], s27.F, false⟩ := ⟨nr rfl, nr rfl⟩
@[go_sem] theorem e27 (xSlots : Int) (xCap : Int) (xTime : Int) (h0 : smLanes (Lanes.mk xSlots xCap xTime)) : s27.F [.agg [.i .i64 xSlots, .i .i64 xCap, .i .i64 xTime]] = some (.agg (rLanes .mut (Lanes.mk xSlots xCap xTime)), [.u]) := mkS_eq (0) rfl rfl (fun cx h => by
  obtain ⟨q0, q1, q2⟩ := h0
  simp only [go_sem, reduceIte, ↓reduceIte, reduceCtorEq, nA, nS, nM, nB, nE, nL, nT, nN, iL, iT, iE, iA, iM, iS, iG, iB, iN, iZ, h, q0, q1, q2]) (by simp only [go_sem, reduceIte, ↓reduceIte, reduceCtorEq, nA, nS, nM, nB, nE, nL, nT, nN, iL, iT, iE, iA, iM, iS, iG, iB, iN, iZ, okRes, hasRo, hasRoL, hasRoLL])
noncomputable def s28 : SP Tryz.prog := mkS tyA 28 Tryz.f28 [] { md := [.ro 1], rg := [(0, [1, 2], [1, 2, 3]), (1, [1, 2, 3], [1, 2, 3]), (2, [1, 2, 3], [1, 2, 3]), (3, [1, 2, 3], [1, 2, 3]), (4, [1, 2, 3], [1, 2, 3]), (5, [1, 2, 3], [1, 2, 3]), (6, [2, 3], [2, 3]), (7, [2], [2, 3])], rets := some ([2], [2, 3]) } Tryz.func28 (by kernel_rfl)
@[go_sem] theorem d28 : s28.g = 28 ∧ s28.fs = ⟨[.ro 1], s28.F, false⟩ := ⟨nr rfl, nr rfl⟩
@[go_sem] theorem e28 (xWindow : Int) (xMin : Int) (xRatio : Int) (xCool : Int) (xQuota : Int) (h0 : smRules (Rules.mk xWindow xMin xRatio xCool xQuota)) : s28.F [.agg [.i .i64 xWindow, .i .i64 xMin, .i .i64 xRatio, .i .i64 xCool, .i .i64 xQuota]] = some (.agg (rRules .mut (Rules.mk xWindow xMin xRatio xCool xQuota)), [.u]) := mkS_eq (0) rfl rfl (fun cx h => by
  obtain ⟨q0, q1, q2, q3, q4⟩ := h0
  simp only [go_sem, reduceIte, ↓reduceIte, reduceCtorEq, nA, nS, nM, nB, nE, nL, nT, nN, iL, iT, iE, iA, iM, iS, iG, iB, iN, iZ, h, q0, q1, q2, q3, q4]) (by simp only [go_sem, reduceIte, ↓reduceIte, reduceCtorEq, nA, nS, nM, nB, nE, nL, nT, nN, iL, iT, iE, iA, iM, iS, iG, iB, iN, iZ, okRes, hasRo, hasRoL, hasRoLL])
noncomputable def s8 : SP Tryz.prog := mkS tyA 8 Tryz.f8 [s26, s27, s28] { md := [.ro 1], rg := [(0, [1, 2], [1, 2, 3]), (1, [1, 2, 3], [1, 2, 3]), (2, [1, 2, 3], [1, 2, 3]), (3, [1, 2, 3], [1, 2, 3]), (4, [1, 2, 3], [1, 2, 3]), (5, [1, 2, 3], [1, 2, 3]), (6, [1, 2, 3], [1, 2, 3]), (7, [1, 2, 3], [1, 2, 3]), (8, [1, 2, 3], [1, 2, 3]), (9, [1, 2, 3], [1, 2, 3]), (10, [1, 2, 3], [1, 2, 3]), (11, [1, 2, 3], [1, 2, 3]), (12, [2, 3], [2, 3]), (13, [2], [2, 3])], rets := some ([2], [2, 3]) } Tryz.func8 (by kernel_rfl)
@[go_sem] theorem d8 : s8.g = 8 ∧ s8.fs = ⟨[.ro 1], s8.F, false⟩ := ⟨nr rfl, nr rfl⟩
@[go_sem] theorem e8 (xBudget : Int) (xGuard : Int) (xObjCost : Int) (xNeg : Int) (xEarly : Int) (xFetchTime : Int) (xWaitTime : Int) (xWaitCap : Int) (xNames : List ByteArray) (xLanesSlots : Int) (xLanesCap : Int) (xLanesTime : Int) (xRulesWindow : Int) (xRulesMin : Int) (xRulesRatio : Int) (xRulesCool : Int) (xRulesQuota : Int) (h0 : smConfig (Config.mk xBudget xGuard xObjCost xNeg xEarly xFetchTime xWaitTime xWaitCap xNames (Lanes.mk xLanesSlots xLanesCap xLanesTime) (Rules.mk xRulesWindow xRulesMin xRulesRatio xRulesCool xRulesQuota))) : s8.F [.agg [.i .i64 xBudget, .i .i64 xGuard, .i .i64 xObjCost, .i .i64 xNeg, .i .i64 xEarly, .i .i64 xFetchTime, .i .i64 xWaitTime, .i .i64 xWaitCap, .sl .ro 1 (xNames.map rStr), .i .i64 xLanesSlots, .i .i64 xLanesCap, .i .i64 xLanesTime, .i .i64 xRulesWindow, .i .i64 xRulesMin, .i .i64 xRulesRatio, .i .i64 xRulesCool, .i .i64 xRulesQuota]] = some (.agg (rConfig .mut (Config.mk xBudget xGuard xObjCost xNeg xEarly xFetchTime xWaitTime xWaitCap xNames (Lanes.mk xLanesSlots xLanesCap xLanesTime) (Rules.mk xRulesWindow xRulesMin xRulesRatio xRulesCool xRulesQuota))), [.u]) := mkS_eq (0) rfl rfl (fun cx h => by
  obtain ⟨q0, q1, q2, q3, q4, q5, q6, q7, q8, q9, q10⟩ := h0
  simp only [go_sem, reduceIte, ↓reduceIte, reduceCtorEq, nA, nS, nM, nB, nE, nL, nT, nN, iL, iT, iE, iA, iM, iS, iG, iB, iN, iZ, h, q0, q1, q2, q3, q4, q5, q6, q7, q8, q9, q10]) (by simp only [go_sem, reduceIte, ↓reduceIte, reduceCtorEq, nA, nS, nM, nB, nE, nL, nT, nN, iL, iT, iE, iA, iM, iS, iG, iB, iN, iZ, okRes, hasRo, hasRoL, hasRoLL])
noncomputable def s56 : SP Tryz.prog := mkS tyA 56 Tryz.f56 [] { md := [.ro 1, .ro 1], rg := [(0, [0, 1], []), (1, [1, 3], []), (2, [2], []), (3, [2], [])], rets := some ([2], []) } Tryz.func56 (by kernel_rfl)
@[go_sem] theorem d56 : s56.g = 56 ∧ s56.fs = ⟨[.ro 1, .ro 1], s56.F, false⟩ := ⟨nr rfl, nr rfl⟩
@[go_sem] theorem e56 (x : Bool) (c : Int) : s56.F [.pr [.b x], .pr [.i .i64 c]] = some (.i .i64 (if x = true then c else 0), [.u, .u]) := mkS_eq (0) rfl rfl (fun cx h => by
  simp only [go_sem, reduceIte, ↓reduceIte, reduceCtorEq, nA, nS, nM, nB, nE, nL, nT, nN, iL, iT, iE, iA, iM, iS, iG, iB, iN, iZ, h, if_i]) (rfl)
noncomputable def s33 : SP Tryz.prog := mkS tyA 33 Tryz.f33 [] { md := [.ro 1, .ro 1, .ro 1], rets := some ([6], []) } Tryz.func33 (by kernel_rfl)
@[go_sem] theorem d33 : s33.g = 33 ∧ s33.fs = ⟨[.ro 1, .ro 1, .ro 1], s33.F, false⟩ := ⟨nr rfl, nr rfl⟩
@[go_sem] theorem e33 (a : Int) (b : Int) (c : Int) : s33.F [.i .i64 a, .i .i64 b, .i .i64 c] = some (.b (within a b c), [.u, .u, .u]) := mkS_eq (0) rfl rfl (fun cx h => by
  simp only [go_sem, reduceIte, ↓reduceIte, reduceCtorEq, nA, nS, nM, nB, nE, nL, nT, nN, iL, iT, iE, iA, iM, iS, iG, iB, iN, iZ, h, within]
  by_cases h : b ≤ a <;> simp [h]) (rfl)
theorem grow118 (w : World) : Calls Tryz.prog 118 #[.slice none 0 0, .int .i64 0] w fun e w' => e = .returned (.slice none 0 0) ∧ w' = w := by
  go_enter Tryz.func118, Tryz.ntmps118
  go_wp2
  all_goals go_ret
  all_goals exact ⟨rfl, rfl⟩
noncomputable def s118 : SP Tryz.prog := ⟨118, ⟨[.ro 1, .ro 1], growF, false⟩, grow_ok (fun w => callFunc_enter Tryz.func118 (by kernel_rfl) rfl w) grow118⟩
@[go_sem] theorem d118 : s118.g = 118 ∧ s118.fs = ⟨[.ro 1, .ro 1], s118.F, false⟩ := ⟨nr rfl, nr rfl⟩
@[go_sem] theorem e118 : s118.F [.nil, .i .i64 0] = some (.nil, [.u, .u]) := growF_eq
noncomputable def s98 : SP Tryz.prog := mkS tyA 98 Tryz.f98 [s118] { md := [.ro 1], rg := [(0, [0], []), (1, [0, 3], []), (2, [0, 3, 9, 10, 11], []), (3, [0, 3, 9, 10, 11, 12], []), (4, [0, 3, 5, 9, 10, 11], []), (5, [0, 3, 9, 10, 11], []), (6, [0, 3, 9, 10, 11, 20], []), (7, [0, 3, 9, 10, 11], []), (8, [0, 3, 9, 10, 11], []), (9, [0, 6], []), (10, [0, 6, 25, 26, 27], []), (11, [0, 6, 25, 26, 27, 28], []), (12, [0, 6, 8, 25, 26, 27], []), (13, [0, 6, 25, 26, 27], []), (14, [0, 6, 25, 26, 27], []), (15, [2], [])], lv := [(0, [0, 3, 9, 10, 11], []), (2, [0, 6, 25, 26, 27], [])], out := [(0, [0, 3], []), (2, [6], [])], rets := some ([2], []) } Tryz.func98 (by kernel_rfl)
@[go_sem] theorem d98 : s98.g = 98 ∧ s98.fs = ⟨[.ro 1], s98.F, false⟩ := ⟨nr rfl, nr rfl⟩
@[go_sem] theorem e98  : s98.F [.sl .ro 1 [[.sl .ro 13 []], [.sl .ro 13 []]]] = some (.sl .mut 13 [], [.u]) := mkS_eq (3) rfl rfl (fun cx h => by
  simp only [go_sem, reduceIte, ↓reduceIte, reduceCtorEq, nA, nS, nM, nB, nE, nL, nT, nN, iL, iT, iE, iA, iM, iS, iG, iB, iN, iZ, h, loopE_1, loopE_2, loopE_3, wrap_0, wrap_1, wrap_2, wrap_01, wrap_11]) (rfl)
noncomputable def s75 : SP Tryz.prog := mkS tyA 75 Tryz.f75 [s98] { md := [.ro 1], rets := some ([2], []) } Tryz.func75 (by kernel_rfl)
@[go_sem] theorem d75 : s75.g = 75 ∧ s75.fs = ⟨[.ro 1], s75.F, false⟩ := ⟨nr rfl, nr rfl⟩
@[go_sem] theorem e75 (b g : Int) : s75.F [.agg [.i .i64 b, .i .i64 g, .sl .ro 13 [], .sl .ro 13 []]] = some (.sl .mut 13 [], [.u]) := mkS_eq (0) rfl rfl (fun cx h => by
  simp only [go_sem, reduceIte, ↓reduceIte, reduceCtorEq, nA, nS, nM, nB, nE, nL, nT, nN, iL, iT, iE, iA, iM, iS, iG, iB, iN, iZ, h]) (rfl)
noncomputable def s80 : SP Tryz.prog := mkS tyA 80 Tryz.f80 [] { md := [.ro 1], rg := [(0, [0], []), (1, [0, 3], []), (2, [0, 3, 6, 7, 8], []), (3, [0, 3, 6, 7, 8, 9], []), (4, [0, 3, 5, 6, 7, 8], [5]), (5, [0, 3, 6, 7, 8], []), (6, [0, 3, 6, 7, 8], []), (7, [2], [])], lv := [(0, [0, 3, 6, 7, 8], [])], out := [(0, [3], [])], rets := some ([2], []) } Tryz.func80 (by kernel_rfl)
@[go_sem] theorem d80 : s80.g = 80 ∧ s80.fs = ⟨[.ro 1], s80.F, false⟩ := ⟨nr rfl, nr rfl⟩
@[go_sem] theorem e80  : s80.F [.sl .ro 13 []] = some (.i .i64 0, [.u]) := mkS_eq (1) rfl rfl (fun cx h => by
  simp only [go_sem, reduceIte, ↓reduceIte, reduceCtorEq, nA, nS, nM, nB, nE, nL, nT, nN, iL, iT, iE, iA, iM, iS, iG, iB, iN, iZ, h, loopE_1]) (rfl)
noncomputable def s79 : SP Tryz.prog := mkS tyA 79 Tryz.f79 [s80] { md := [.ro 1], rets := some ([2], []), plan := [(1, (.take 0 (.take 1 (.take 3 (.take 4 (.one 2 (.one 5 (.take 6 (.one 7 .done)))))))))] } Tryz.func79 (by kernel_rfl)
@[go_sem] theorem d79 : s79.g = 79 ∧ s79.fs = ⟨[.ro 1], s79.F, false⟩ := ⟨nr rfl, nr rfl⟩
@[go_sem] theorem e79 (b g : Int) : s79.F [.agg [.i .i64 b, .i .i64 g, .sl .ro 13 [], .sl .ro 13 []]] = some (.i .i64 0, [.u]) := mkS_eq (0) rfl rfl (fun cx h => by
  simp only [go_sem, reduceIte, ↓reduceIte, reduceCtorEq, nA, nS, nM, nB, nE, nL, nT, nN, iL, iT, iE, iA, iM, iS, iG, iB, iN, iZ, h, wrap_0]) (rfl)
noncomputable def s55 : SP Tryz.prog := mkS tyA 55 Tryz.f55 [s33, s75, s79, s80] { md := [.ro 1], rg := [(0, [1], [1]), (1, [1, 3], [1]), (2, [1, 3, 11], [1]), (3, [2], []), (4, [1, 3, 24], [1]), (5, [2], []), (6, [1, 3, 28, 29, 30], [1]), (7, [1, 3, 28, 29, 30, 31], [1]), (8, [1, 3, 5, 28, 29, 30], [1, 5]), (9, [1, 3, 6, 28, 29, 30], [1]), (10, [1, 3, 6, 28, 29, 30, 37], [1]), (11, [2], []), (12, [1, 3, 28, 29, 30], [1]), (13, [1, 3, 40, 41, 42], [1]), (14, [1, 3, 40, 41, 42, 43], [1]), (15, [1, 3, 7, 8, 40, 41, 42], [1, 8]), (16, [1, 3, 40, 41, 42, 51], [1]), (17, [2], []), (18, [1, 3, 40, 41, 42], [1]), (19, [65], []), (20, [2], []), (21, [2], [])], lv := [(1, [1, 3, 28, 29, 30], [1]), (3, [1, 3, 40, 41, 42], [1])], out := [(1, [1, 3], [1]), (3, [1], [1])], rets := some ([2], []), plan := [(19, (.take 0 (.take 2 (.take 3 (.one 1 (.take 4 (.take 5 (.take 6 (.take 7 (.take 9 (.take 10 (.one 8 (.take 11 (.take 12 .done))))))))))))))] } Tryz.func55 (by kernel_rfl)
@[go_sem] theorem d55 : s55.g = 55 ∧ s55.fs = ⟨[.ro 1], s55.F, false⟩ := ⟨nr rfl, nr rfl⟩
@[go_sem] theorem e55 (b g : Int) : s55.F [.agg [.i .i64 b, .i .i64 g, .sl .ro 13 [], .sl .ro 13 []]] = some (.i .i64 (storeCode b g), [.u]) := mkS_eq (1) rfl rfl (fun cx h => by
  cases h1 : within b 0 1000000
  · simp only [go_sem, reduceIte, ↓reduceIte, reduceCtorEq, nA, nS, nM, nB, nE, nL, nT, nN, iL, iT, iE, iA, iM, iS, iG, iB, iN, iZ, h, h1, storeCode]
  cases h2 : within g 0 b
  · simp only [go_sem, reduceIte, ↓reduceIte, reduceCtorEq, nA, nS, nM, nB, nE, nL, nT, nN, iL, iT, iE, iA, iM, iS, iG, iB, iN, iZ, h, h1, h2, storeCode]
  have h3 := within_nn h1
  have h4 := within_nn h2
  simp only [go_sem, reduceIte, ↓reduceIte, reduceCtorEq, nA, nS, nM, nB, nE, nL, nT, nN, iL, iT, iE, iA, iM, iS, iG, iB, iN, iZ, h, h1, h2, h3, h4, storeCode, loopE_1, wrap_0]) (rfl)
noncomputable def s31 : SP Tryz.prog := mkS tyA 31 Tryz.f31 [s55] { md := [.ro 1, .ro 1], rg := [(0, [0, 1, 4, 16], [4, 5]), (1, [4, 5, 16], [4, 5]), (2, [4, 5, 6, 16], [4, 5]), (3, [4, 5, 6, 13, 16], [4, 5]), (4, [4, 16], [4, 5]), (5, [4, 16], [4, 5])], rets := some ([4, 16], [4, 5]) } Tryz.func31 (by kernel_rfl)
@[go_sem] theorem d31 : s31.g = 31 ∧ s31.fs = ⟨[.ro 1, .ro 1], s31.F, false⟩ := ⟨nr rfl, nr rfl⟩
@[go_sem] theorem e31 (b g : Int) : s31.F [.i .i64 b, .i .i64 g] = some (.agg [.i .i64 (storeCode b g), .i .i64 (if storeCode b g = 0 then b else 0), .i .i64 (if storeCode b g = 0 then g else 0), .sl .mut 13 [], .sl .mut 13 []], [.u, .u]) := mkS_eq (0) rfl rfl (fun cx h => by
  by_cases h1 : storeCode b g = 0
  · simp only [go_sem, reduceIte, ↓reduceIte, reduceCtorEq, nA, nS, nM, nB, nE, nL, nT, nN, iL, iT, iE, iA, iM, iS, iG, iB, iN, iZ, h, h1]
  · have h2 : (storeCode b g != 0) = true := by simpa using h1
    simp only [go_sem, reduceIte, ↓reduceIte, reduceCtorEq, nA, nS, nM, nB, nE, nL, nT, nN, iL, iT, iE, iA, iM, iS, iG, iB, iN, iZ, h, h1, h2]) (by simp only [go_sem, reduceIte, ↓reduceIte, reduceCtorEq, nA, nS, nM, nB, nE, nL, nT, nN, iL, iT, iE, iA, iM, iS, iG, iB, iN, iZ, okRes, hasRo, hasRoL, hasRoLL])
noncomputable def s30 : SP Tryz.prog := mkS tyA 30 Tryz.f30 [s31] { md := [.ro 1], rets := some ([1], []) } Tryz.func30 (by kernel_rfl)
@[go_sem] theorem d30 : s30.g = 30 ∧ s30.fs = ⟨[.ro 1], s30.F, false⟩ := ⟨nr rfl, nr rfl⟩
@[go_sem] theorem e30 (cBudget : Int) (cGuard : Int) (cObjCost : Int) (cNeg : Int) (cEarly : Int) (cFetchTime : Int) (cWaitTime : Int) (cWaitCap : Int) (cNames : List ByteArray) (cLanesSlots : Int) (cLanesCap : Int) (cLanesTime : Int) (cRulesWindow : Int) (cRulesMin : Int) (cRulesRatio : Int) (cRulesCool : Int) (cRulesQuota : Int) : s30.F [.pr [.i .i64 cBudget, .i .i64 cGuard, .i .i64 cObjCost, .i .i64 cNeg, .i .i64 cEarly, .i .i64 cFetchTime, .i .i64 cWaitTime, .i .i64 cWaitCap, .sl .ro 1 (cNames.map rStr), .i .i64 cLanesSlots, .i .i64 cLanesCap, .i .i64 cLanesTime, .i .i64 cRulesWindow, .i .i64 cRulesMin, .i .i64 cRulesRatio, .i .i64 cRulesCool, .i .i64 cRulesQuota]] = some (.i .i64 (storeCode cBudget cGuard), [.u]) := mkS_eq (0) rfl rfl (fun cx h => by
  simp only [go_sem, reduceIte, ↓reduceIte, reduceCtorEq, nA, nS, nM, nB, nE, nL, nT, nN, iL, iT, iE, iA, iM, iS, iG, iB, iN, iZ, h]) (rfl)
noncomputable def s104 : SP Tryz.prog := mkS tyA 104 Tryz.f104 [] { md := [.ro 1], rets := some ([2], []) } Tryz.func104 (by kernel_rfl)
@[go_sem] theorem d104 : s104.g = 104 ∧ s104.fs = ⟨[.ro 1], s104.F, false⟩ := ⟨nr rfl, nr rfl⟩
@[go_sem] theorem e104 (c : UInt8) : s104.F [.i .u8 c.toNat] = some (.b (letterB c), [.u]) := mkS_eq (0) rfl rfl (fun cx h => by
  by_cases h1 : 97 ≤ (c.toNat : Int) <;> by_cases h2 : (c.toNat : Int) ≤ 122 <;> by_cases h3 : 65 ≤ (c.toNat : Int) <;> by_cases h4 : (c.toNat : Int) ≤ 90 <;> simp only [go_sem, reduceIte, ↓reduceIte, reduceCtorEq, nA, nS, nM, nB, nE, nL, nT, nN, iL, iT, iE, iA, iM, iS, iG, iB, iN, iZ, h, h1, h2, h3, h4, letterB]) (rfl)
noncomputable def s105 : SP Tryz.prog := mkS tyA 105 Tryz.f105 [] { md := [.ro 1], rets := some ([2], []) } Tryz.func105 (by kernel_rfl)
@[go_sem] theorem d105 : s105.g = 105 ∧ s105.fs = ⟨[.ro 1], s105.F, false⟩ := ⟨nr rfl, nr rfl⟩
@[go_sem] theorem e105 (c : UInt8) : s105.F [.i .u8 c.toNat] = some (.b (digitB c), [.u]) := mkS_eq (0) rfl rfl (fun cx h => by
  by_cases h1 : 48 ≤ (c.toNat : Int) <;> by_cases h2 : (c.toNat : Int) ≤ 57 <;> simp only [go_sem, reduceIte, ↓reduceIte, reduceCtorEq, nA, nS, nM, nB, nE, nL, nT, nN, iL, iT, iE, iA, iM, iS, iG, iB, iN, iZ, h, h1, h2, digitB]) (rfl)
noncomputable def s138 : SP Tryz.prog := ⟨138, ⟨[.ro 1, .ro 1], idxF, false⟩, idx_ok Tryz.func138 (by kernel_rfl) (by kernel_rfl) (by kernel_rfl) (by kernel_rfl)⟩
@[go_sem] theorem d138 : s138.g = 138 ∧ s138.fs = ⟨[.ro 1, .ro 1], s138.F, false⟩ := ⟨nr rfl, nr rfl⟩
@[go_sem] theorem e138 (s : ByteArray) (c : UInt8) : s138.F [.s s, .i .u8 c.toNat] = some (.i .i64 (ixB s c), [.u, .u]) := by
  show idxF [.s s, .i .u8 c.toNat] = _
  rw [idxF_eq, int_u8]
  rfl
noncomputable def s121 : SP Tryz.prog := mkS tyA 121 Tryz.f121 [s138] { md := [.ro 1, .ro 1], rets := some ([4], []) } Tryz.func121 (by kernel_rfl)
@[go_sem] theorem d121 : s121.g = 121 ∧ s121.fs = ⟨[.ro 1, .ro 1], s121.F, false⟩ := ⟨nr rfl, nr rfl⟩
@[go_sem] theorem e121 (s : ByteArray) (c : UInt8) : s121.F [.s s, .i .u8 c.toNat] = some (.i .i64 (ixB s c), [.u, .u]) := mkS_eq (0) rfl rfl (fun cx h => by
  simp only [go_sem, reduceIte, ↓reduceIte, reduceCtorEq, nA, nS, nM, nB, nE, nL, nT, nN, iL, iT, iE, iA, iM, iS, iG, iB, iN, iZ, h]) (rfl)
noncomputable def s106 : SP Tryz.prog := mkS tyA 106 Tryz.f106 [s121] { md := [.ro 1, .ro 1], rets := some ([4], []) } Tryz.func106 (by kernel_rfl)
@[go_sem] theorem d106 : s106.g = 106 ∧ s106.fs = ⟨[.ro 1, .ro 1], s106.F, false⟩ := ⟨nr rfl, nr rfl⟩
@[go_sem] theorem e106 (s : ByteArray) (c : UInt8) : s106.F [.s s, .i .u8 c.toNat] = some (.i .i64 (ixB s c), [.u, .u]) := mkS_eq (0) rfl rfl (fun cx h => by
  simp only [go_sem, reduceIte, ↓reduceIte, reduceCtorEq, nA, nS, nM, nB, nE, nL, nT, nN, iL, iT, iE, iA, iM, iS, iG, iB, iN, iZ, h]) (rfl)
noncomputable def s83 : SP Tryz.prog := mkS tyA 83 Tryz.f83 [s104, s105, s106] { md := [.ro 1], rets := some ([2], []) } Tryz.func83 (by kernel_rfl)
@[go_sem] theorem d83 : s83.g = 83 ∧ s83.fs = ⟨[.ro 1], s83.F, false⟩ := ⟨nr rfl, nr rfl⟩
@[go_sem] theorem e83 (c : UInt8) : s83.F [.i .u8 c.toNat] = some (.b (wordB c), [.u]) := mkS_eq (0) rfl rfl (fun cx h => by
  have hix := ixB_sym c
  have hu : wordB c = (letterB c || digitB c || symB.contains c) := rfl
  cases h1 : letterB c <;> cases h2 : digitB c <;> cases h3 : symB.contains c <;> simp only [go_sem, reduceIte, ↓reduceIte, reduceCtorEq, nA, nS, nM, nB, nE, nL, nT, nN, iL, iT, iE, iA, iM, iS, iG, iB, iN, iZ, h, h1, h2, h3, hu, hix]) (rfl)
noncomputable def s82 : SP Tryz.prog := mkS tyA 82 Tryz.f82 [s83] { md := [.ro 1, .ro 1, .ro 1, .ro 1], rg := [(0, [0, 1, 2, 3], []), (1, [0, 3, 19], []), (2, [8], []), (3, [0, 3, 21, 22], []), (4, [0, 3, 21, 22, 23], []), (5, [0, 3, 9, 21, 22], []), (6, [0, 3, 21, 22, 30], []), (7, [8], []), (8, [0, 3, 21, 22], []), (9, [8], [])], lv := [(0, [0, 3, 21, 22], [])], out := [(0, [], [])], rets := some ([8], []) } Tryz.func82 (by kernel_rfl)
@[go_sem] theorem d82 : s82.g = 82 ∧ s82.fs = ⟨[.ro 1, .ro 1, .ro 1, .ro 1], s82.F, false⟩ := ⟨nr rfl, nr rfl⟩
@[go_sem] theorem e82_83 (t : ByteArray) (lo hi : Int) (hb : hi ≤ 1000000) : s82.F [.s t, .i .i64 lo, .i .i64 hi, .fn 83 []] = some (.b (areB wordB lo hi t), [.u, .u, .u, .u]) := mkS_eq (t.data.toList.length + 1) rfl rfl (fun cx h => by
  by_cases h1 : (t.size : Int) < lo
  · simp only [go_sem, reduceIte, ↓reduceIte, reduceCtorEq, nA, nS, nM, nB, nE, nL, nT, nN, iL, iT, iE, iA, iM, iS, iG, iB, iN, iZ, h, h1, areB_short h1]
  by_cases h2 : hi < (t.size : Int)
  · simp only [go_sem, reduceIte, ↓reduceIte, reduceCtorEq, nA, nS, nM, nB, nE, nL, nT, nN, iL, iT, iE, iA, iM, iS, iG, iB, iN, iZ, h, h1, h2, areB_long h2]
  have hx : t.data.toList.length ≤ 9223372036854775806 := by rw [← str_size]; omega
  have ha := areB_all (p := wordB) h1 h2
  rw [str_size t] at h1 h2
  · have hb0 := loopN_eq Tryz.f82 0 _ _ rfl rfl
    obtain ⟨r, hr, hq⟩ := loop_srch (cx := cx) (blk := 0) (body := loopN Tryz.f82 0) t.data.toList (fun k (s : Unit) => ⟨E [(0, .s t), (3, .fn 83 []), (21, .i .i64 t.size), (22, .i .i64 k)], B []⟩) (fun s => ⟨E [], B []⟩) (fun x s => !wordB x) (fun x s => ()) (fun x s => (.ret, ⟨E [(8, .b false)], B []⟩)) (fun k s => True)
        (fun s hI G => by simp only [go_sem, reduceIte, ↓reduceIte, reduceCtorEq, nA, nS, nM, nB, nE, nL, nT, nN, iL, iT, iE, iA, iM, iS, iG, iB, iN, iZ, h, Int.lt_irrefl, hb0, str_size t]) (fun k hk s hI => by
          have h1 : ((k : Int) < (t.data.toList.length : Int)) := Int.ofNat_lt.2 hk
          have hz := str_at t k hk
          exact ⟨_, _, _, fun G => by simp only [go_sem, reduceIte, ↓reduceIte, reduceCtorEq, nA, nS, nM, nB, nE, nL, nT, nN, iL, iT, iE, iA, iM, iS, iG, iB, iN, iZ, h, hz, str_size t, h1, idx_nt _ _ hk, wrap_nat1 (show k < 9223372036854775807 by omega), hb0] <;> with_reducible rfl, Iff.rfl, fun hc => ⟨trivial, by simp only [go_sem, reduceIte, ↓reduceIte, reduceCtorEq, nA, nS, nM, nB, nE, nL, nT, nN, iL, iT, iE, iA, iM, iS, iG, iB, iN, iZ, h, str_size t]⟩⟩) () trivial (t.data.toList.length + 1) (Nat.le_refl _)
    rw [hb0] at hr
    rcases hq with ⟨s', e1, _, e3⟩ | ⟨x, s', e1, e3⟩
    · simp only [go_sem, reduceIte, ↓reduceIte, reduceCtorEq, nA, nS, nM, nB, nE, nL, nT, nN, iL, iT, iE, iA, iM, iS, iG, iB, iN, iZ, h, h1, h2, str_size t, hr, e3, ha, runS_all e1]
    · simp only [go_sem, reduceIte, ↓reduceIte, reduceCtorEq, nA, nS, nM, nB, nE, nL, nT, nN, iL, iT, iE, iA, iM, iS, iG, iB, iN, iZ, h, h1, h2, str_size t, hr, e3, ha, runS_all' e1]) (rfl)
noncomputable def s59 : SP Tryz.prog := mkS tyA 59 Tryz.f59 [s82, s83] { md := [.ro 1], rets := some ([2], []) } Tryz.func59 (by kernel_rfl)
@[go_sem] theorem d59 : s59.g = 59 ∧ s59.fs = ⟨[.ro 1], s59.F, false⟩ := ⟨nr rfl, nr rfl⟩
@[go_sem] theorem e59 (t : ByteArray) : s59.F [.s t] = some (.b (isWord t), [.u]) := mkS_eq (0) rfl rfl (fun cx h => by
  simp only [go_sem, reduceIte, ↓reduceIte, reduceCtorEq, nA, nS, nM, nB, nE, nL, nT, nN, iL, iT, iE, iA, iM, iS, iG, iB, iN, iZ, h, isWord]) (rfl)
noncomputable def s58 : SP Tryz.prog := mkS tyA 58 Tryz.f58 [s59] { md := [.ro 1], rets := some ([2], []) } Tryz.func58 (by kernel_rfl)
@[go_sem] theorem d58 : s58.g = 58 ∧ s58.fs = ⟨[.ro 1], s58.F, false⟩ := ⟨nr rfl, nr rfl⟩
@[go_sem] theorem e58 (t : ByteArray) : s58.F [.s t] = some (.b (!isWord t), [.u]) := mkS_eq (0) rfl rfl (fun cx h => by
  simp only [go_sem, reduceIte, ↓reduceIte, reduceCtorEq, nA, nS, nM, nB, nE, nL, nT, nN, iL, iT, iE, iA, iM, iS, iG, iB, iN, iZ, h]) (rfl)
noncomputable def s81 : SP Tryz.prog := mkS tyA 81 Tryz.f81 [s58] { md := [.ro 1, .ro 1], rg := [(0, [0, 1], []), (1, [0, 1, 7, 8], []), (2, [0, 1, 7, 8, 9], []), (3, [0, 1, 5, 7, 8], []), (4, [0, 1, 5, 7, 8, 16], []), (5, [4], []), (6, [0, 1, 7, 8], []), (7, [4], [])], lv := [(0, [0, 1, 7, 8], [])], out := [(0, [], [])], rets := some ([4], []) } Tryz.func81 (by kernel_rfl)
@[go_sem] theorem d81 : s81.g = 81 ∧ s81.fs = ⟨[.ro 1, .ro 1], s81.F, false⟩ := ⟨nr rfl, nr rfl⟩
@[go_sem] theorem e81_58 (xs : List ByteArray)  (hb : xs.length ≤ 9223372036854775806) : s81.F [.sl .ro 1 (xs.map rStr), .fn 58 []] = some (.i .i64 (idxP (fun x => !isWord x) xs 0), [.u, .u]) := mkS_eq (xs.length + 1) rfl rfl (fun cx h => by
  have hx := hb
  have hb0 := loopN_eq Tryz.f81 0 _ _ rfl rfl
  obtain ⟨r, hr, hq⟩ := loop_srch (cx := cx) (blk := 0) (body := loopN Tryz.f81 0) xs (fun k (s : Nat) => ⟨E [(0, .sl .ro 1 (xs.map rStr)), (1, .fn 58 []), (7, .i .i64 xs.length), (8, .i .i64 k)], B []⟩) (fun s => ⟨E [], B []⟩) (fun x s => !isWord x) (fun x s => s + 1) (fun x s => (.ret, ⟨E [(4, .i .i64 s)], B []⟩)) (fun k s => k = s)
      (fun s hI G => by simp only [go_sem, reduceIte, ↓reduceIte, reduceCtorEq, nA, nS, nM, nB, nE, nL, nT, nN, iL, iT, iE, iA, iM, iS, iG, iB, iN, iZ, h, Int.lt_irrefl, hb0, hI]) (fun k hk s hI => by
        have h1 : ((k : Int) < (xs.length : Int)) := Int.ofNat_lt.2 hk
        obtain rfl := hI
        exact ⟨_, _, _, fun G => by simp only [go_sem, reduceIte, ↓reduceIte, reduceCtorEq, nA, nS, nM, nB, nE, nL, nT, nN, iL, iT, iE, iA, iM, iS, iG, iB, iN, iZ, h, map_gd rStr xs _ hk, decide_eq_true_eq, h1, idx_nt _ _ hk, wrap_nat1 (show k < 9223372036854775807 by omega), hb0] <;> with_reducible rfl, by first | exact Iff.rfl | simp, fun hc => ⟨rfl, by simp only [go_sem, reduceIte, ↓reduceIte, reduceCtorEq, nA, nS, nM, nB, nE, nL, nT, nN, iL, iT, iE, iA, iM, iS, iG, iB, iN, iZ, h]⟩⟩) 0 rfl (xs.length + 1) (Nat.le_refl _)
  rw [hb0] at hr
  rcases hq with ⟨s', e1, _, e3⟩ | ⟨x, s', e1, e3⟩
  · simp only [go_sem, reduceIte, ↓reduceIte, reduceCtorEq, nA, nS, nM, nB, nE, nL, nT, nN, iL, iT, iE, iA, iM, iS, iG, iB, iN, iZ, h, hr, e3, runS_idx e1]
  · simp only [go_sem, reduceIte, ↓reduceIte, reduceCtorEq, nA, nS, nM, nB, nE, nL, nT, nN, iL, iT, iE, iA, iM, iS, iG, iB, iN, iZ, h, hr, e3, runS_idx' e1]) (rfl)
noncomputable def s57 : SP Tryz.prog := mkS tyA 57 Tryz.f57 [s81] { md := [.ro 1, .ro 1], rets := some ([4], []) } Tryz.func57 (by kernel_rfl)
@[go_sem] theorem d57 : s57.g = 57 ∧ s57.fs = ⟨[.ro 1, .ro 1], s57.F, false⟩ := ⟨nr rfl, nr rfl⟩
@[go_sem] theorem e57_58 (xs : List ByteArray)  (hb : xs.length ≤ 9223372036854775806) : s57.F [.sl .ro 1 (xs.map rStr), .fn 58 []] = some (.b (xs.any (fun x => !isWord x)), [.u, .u]) := mkS_eq (0) rfl rfl (fun cx h => by
  simp only [go_sem, reduceIte, ↓reduceIte, reduceCtorEq, nA, nS, nM, nB, nE, nL, nT, nN, iL, iT, iE, iA, iM, iS, iG, iB, iN, iZ, h, hb, idxP_any]) (rfl)
noncomputable def s36 : SP Tryz.prog := mkS tyA 36 Tryz.f36 [s57, s58] { md := [.ro 1], rg := [(0, [0], []), (1, [0, 5], []), (2, [2], []), (3, [7], []), (4, [2], []), (5, [2], [])], rets := some ([2], []) } Tryz.func36 (by kernel_rfl)
@[go_sem] theorem d36 : s36.g = 36 ∧ s36.fs = ⟨[.ro 1], s36.F, false⟩ := ⟨nr rfl, nr rfl⟩
@[go_sem] theorem e36 (xs : List ByteArray) : s36.F [.sl .ro 1 (xs.map rStr)] = some (.i .i64 (namesCode xs), [.u]) := mkS_eq (0) rfl rfl (fun cx h => by
  by_cases h1 : 4 < (xs.length : Int)
  · simp only [go_sem, reduceIte, ↓reduceIte, reduceCtorEq, nA, nS, nM, nB, nE, nL, nT, nN, iL, iT, iE, iA, iM, iS, iG, iB, iN, iZ, h, h1, namesCode]
  have hx : xs.length ≤ 9223372036854775806 := by omega
  cases h2 : (xs.any fun x => !isWord x) <;> simp only [go_sem, reduceIte, ↓reduceIte, reduceCtorEq, nA, nS, nM, nB, nE, nL, nT, nN, iL, iT, iE, iA, iM, iS, iG, iB, iN, iZ, h, h1, h2, hx, namesCode]) (rfl)
noncomputable def s35 : SP Tryz.prog := mkS tyA 35 Tryz.f35 [s36] { md := [.ro 1], rets := some ([1], []) } Tryz.func35 (by kernel_rfl)
@[go_sem] theorem d35 : s35.g = 35 ∧ s35.fs = ⟨[.ro 1], s35.F, false⟩ := ⟨nr rfl, nr rfl⟩
@[go_sem] theorem e35 (cBudget : Int) (cGuard : Int) (cObjCost : Int) (cNeg : Int) (cEarly : Int) (cFetchTime : Int) (cWaitTime : Int) (cWaitCap : Int) (cNames : List ByteArray) (cLanesSlots : Int) (cLanesCap : Int) (cLanesTime : Int) (cRulesWindow : Int) (cRulesMin : Int) (cRulesRatio : Int) (cRulesCool : Int) (cRulesQuota : Int) : s35.F [.pr [.i .i64 cBudget, .i .i64 cGuard, .i .i64 cObjCost, .i .i64 cNeg, .i .i64 cEarly, .i .i64 cFetchTime, .i .i64 cWaitTime, .i .i64 cWaitCap, .sl .ro 1 (cNames.map rStr), .i .i64 cLanesSlots, .i .i64 cLanesCap, .i .i64 cLanesTime, .i .i64 cRulesWindow, .i .i64 cRulesMin, .i .i64 cRulesRatio, .i .i64 cRulesCool, .i .i64 cRulesQuota]] = some (.i .i64 (namesCode cNames), [.u]) := mkS_eq (0) rfl rfl (fun cx h => by
  simp only [go_sem, reduceIte, ↓reduceIte, reduceCtorEq, nA, nS, nM, nB, nE, nL, nT, nN, iL, iT, iE, iA, iM, iS, iG, iB, iN, iZ, h]) (rfl)
noncomputable def s38 : SP Tryz.prog := mkS tyA 38 Tryz.f38 [s33] { md := [.ro 1], rg := [(0, [1], [1]), (1, [18], []), (2, [2], []), (3, [2], [])], rets := some ([2], []) } Tryz.func38 (by kernel_rfl)
@[go_sem] theorem d38 : s38.g = 38 ∧ s38.fs = ⟨[.ro 1], s38.F, false⟩ := ⟨nr rfl, nr rfl⟩
@[go_sem] theorem e38 (lSlots : Int) (lCap : Int) (lTime : Int) : s38.F [.agg [.i .i64 lSlots, .i .i64 lCap, .i .i64 lTime]] = some (.i .i64 (lanesFault (Lanes.mk lSlots lCap lTime)), [.u]) := mkS_eq (0) rfl rfl (fun cx h => by
  simp only [go_sem, reduceIte, ↓reduceIte, reduceCtorEq, nA, nS, nM, nB, nE, nL, nT, nN, iL, iT, iE, iA, iM, iS, iG, iB, iN, iZ, h]
  simp only [lanesFault]
  cases within lSlots 1 8 <;> cases within lCap 0 8 <;> cases within lTime 0 1000000 <;> rfl) (rfl)
noncomputable def s37 : SP Tryz.prog := mkS tyA 37 Tryz.f37 [s38] { md := [.ro 1], rets := some ([1], []) } Tryz.func37 (by kernel_rfl)
@[go_sem] theorem d37 : s37.g = 37 ∧ s37.fs = ⟨[.ro 1], s37.F, false⟩ := ⟨nr rfl, nr rfl⟩
@[go_sem] theorem e37 (cBudget : Int) (cGuard : Int) (cObjCost : Int) (cNeg : Int) (cEarly : Int) (cFetchTime : Int) (cWaitTime : Int) (cWaitCap : Int) (cNames : List ByteArray) (cLanesSlots : Int) (cLanesCap : Int) (cLanesTime : Int) (cRulesWindow : Int) (cRulesMin : Int) (cRulesRatio : Int) (cRulesCool : Int) (cRulesQuota : Int) : s37.F [.pr [.i .i64 cBudget, .i .i64 cGuard, .i .i64 cObjCost, .i .i64 cNeg, .i .i64 cEarly, .i .i64 cFetchTime, .i .i64 cWaitTime, .i .i64 cWaitCap, .sl .ro 1 (cNames.map rStr), .i .i64 cLanesSlots, .i .i64 cLanesCap, .i .i64 cLanesTime, .i .i64 cRulesWindow, .i .i64 cRulesMin, .i .i64 cRulesRatio, .i .i64 cRulesCool, .i .i64 cRulesQuota]] = some (.i .i64 (lanesFault ⟨cLanesSlots, cLanesCap, cLanesTime⟩), [.u]) := mkS_eq (0) rfl rfl (fun cx h => by
  simp only [go_sem, reduceIte, ↓reduceIte, reduceCtorEq, nA, nS, nM, nB, nE, nL, nT, nN, iL, iT, iE, iA, iM, iS, iG, iB, iN, iZ, h]) (rfl)
noncomputable def s40 : SP Tryz.prog := mkS tyA 40 Tryz.f40 [s33] { md := [.ro 1], rg := [(0, [1], [1]), (1, [30], []), (2, [2], []), (3, [2], [])], rets := some ([2], []) } Tryz.func40 (by kernel_rfl)
@[go_sem] theorem d40 : s40.g = 40 ∧ s40.fs = ⟨[.ro 1], s40.F, false⟩ := ⟨nr rfl, nr rfl⟩
@[go_sem] theorem e40 (rWindow : Int) (rMin : Int) (rRatio : Int) (rCool : Int) (rQuota : Int) : s40.F [.agg [.i .i64 rWindow, .i .i64 rMin, .i .i64 rRatio, .i .i64 rCool, .i .i64 rQuota]] = some (.i .i64 (rulesFault (Rules.mk rWindow rMin rRatio rCool rQuota)), [.u]) := mkS_eq (0) rfl rfl (fun cx h => by
  simp only [go_sem, reduceIte, ↓reduceIte, reduceCtorEq, nA, nS, nM, nB, nE, nL, nT, nN, iL, iT, iE, iA, iM, iS, iG, iB, iN, iZ, h]
  simp only [rulesFault]
  cases within rWindow 1 1000000 <;> cases within rMin 1 50 <;> cases within rRatio 1 1000 <;> cases within rCool 0 1000000 <;> cases within rQuota 1 5 <;> rfl) (rfl)
noncomputable def s39 : SP Tryz.prog := mkS tyA 39 Tryz.f39 [s40] { md := [.ro 1], rets := some ([1], []) } Tryz.func39 (by kernel_rfl)
@[go_sem] theorem d39 : s39.g = 39 ∧ s39.fs = ⟨[.ro 1], s39.F, false⟩ := ⟨nr rfl, nr rfl⟩
@[go_sem] theorem e39 (cBudget : Int) (cGuard : Int) (cObjCost : Int) (cNeg : Int) (cEarly : Int) (cFetchTime : Int) (cWaitTime : Int) (cWaitCap : Int) (cNames : List ByteArray) (cLanesSlots : Int) (cLanesCap : Int) (cLanesTime : Int) (cRulesWindow : Int) (cRulesMin : Int) (cRulesRatio : Int) (cRulesCool : Int) (cRulesQuota : Int) : s39.F [.pr [.i .i64 cBudget, .i .i64 cGuard, .i .i64 cObjCost, .i .i64 cNeg, .i .i64 cEarly, .i .i64 cFetchTime, .i .i64 cWaitTime, .i .i64 cWaitCap, .sl .ro 1 (cNames.map rStr), .i .i64 cLanesSlots, .i .i64 cLanesCap, .i .i64 cLanesTime, .i .i64 cRulesWindow, .i .i64 cRulesMin, .i .i64 cRulesRatio, .i .i64 cRulesCool, .i .i64 cRulesQuota]] = some (.i .i64 (rulesFault ⟨cRulesWindow, cRulesMin, cRulesRatio, cRulesCool, cRulesQuota⟩), [.u]) := mkS_eq (0) rfl rfl (fun cx h => by
  simp only [go_sem, reduceIte, ↓reduceIte, reduceCtorEq, nA, nS, nM, nB, nE, nL, nT, nN, iL, iT, iE, iA, iM, iS, iG, iB, iN, iZ, h]) (rfl)
/-! functions that tell a code if something is so -/
def cl (p : Bool × Int) : AV := .fn 56 [.pr [.b p.1], .pr [.i .i64 p.2]]
@[go_sem] theorem cl_def (p : Bool × Int) : cl p = .fn 56 [.pr [.b p.1], .pr [.i .i64 p.2]] := nr rfl
@[go_sem] theorem cl_filt (kp kr : Pl → Bool) : ∀ xs : List (Bool × Int), filtL kp kr (xs.map cl) = xs.map cl
  | [] => rfl
  | x :: xs => by simp only [List.map_cons, filtL, cl_filt kp kr xs, cl, filt]
def clv (p : Bool × Int) : Int := if p.1 = true then p.2 else 0
def firstC : List (Bool × Int) → Int
  | [] => 0
  | p :: r => if (clv p != 0) = true then clv p else firstC r
theorem firstC_inl : ∀ {xs : List (Bool × Int)} {u u' : Unit}, runS (fun x _ => clv x != 0) (fun _ _ => ()) xs u = .inl u' → firstC xs = 0
  | [], _, _, _ => rfl
  | x :: xs, u, u', h => by
    rw [runS_cons] at h
    split at h
    · cases h
    · rename_i hc; rw [firstC, if_neg hc]; exact firstC_inl h
theorem firstC_inr : ∀ {xs : List (Bool × Int)} {u : Unit} {q : (Bool × Int) × Unit}, runS (fun x _ => clv x != 0) (fun _ _ => ()) xs u = .inr q → firstC xs = clv q.1
  | [], _, _, h => by cases h
  | x :: xs, u, q, h => by
    rw [runS_cons] at h
    split at h
    · rename_i hc; injection h with h; subst h; rw [firstC, if_pos hc]
    · rename_i hc; rw [firstC, if_neg hc]; exact firstC_inr h
theorem map_gdA {α : Type} (f : α → AV) (xs : List α) (k : Nat) (h : k < xs.length) : (xs.map f).getD k .u = f xs[k] := by simp [List.getD, h]
noncomputable def s29 : SP Tryz.prog := mkS tyA 29 Tryz.f29 [s30, s35, s37, s39, s56] { md := [.ro 1], rg := [(0, [0], []), (1, [0, 6, 7, 8], []), (2, [0, 6, 7, 8, 9], []), (3, [0, 4, 6, 7, 8], []), (4, [0, 5, 6, 7, 8], []), (5, [0, 5, 6, 7, 8, 15], []), (6, [2], []), (7, [0, 6, 7, 8], []), (8, [2], [])], lv := [(0, [0, 6, 7, 8], [])], out := [(0, [], [])], rets := some ([2], []) } Tryz.func29 (by kernel_rfl)
@[go_sem] theorem d29 : s29.g = 29 ∧ s29.fs = ⟨[.ro 1], s29.F, false⟩ := ⟨nr rfl, nr rfl⟩
theorem e29 (xs : List (Bool × Int)) (hb : xs.length ≤ 1000) : s29.F [.fs (xs.map cl)] = some (.i .i64 (firstC xs), [.u]) := mkS_eq (xs.length + 1) rfl rfl (fun cx h => by
  have hx := hb
  have hb0 := loopN_eq Tryz.f29 0 _ _ rfl rfl
  obtain ⟨r, hr, hq⟩ := loop_srch (cx := cx) (blk := 0) (body := loopN Tryz.f29 0) xs (fun k (s : Unit) => ⟨E [(0, .fs (xs.map cl)), (6, .fs (xs.map cl)), (7, .i .i64 xs.length), (8, .i .i64 k)], B []⟩) (fun s => ⟨E [], B []⟩) (fun x s => clv x != 0) (fun x s => ()) (fun x s => (.ret, ⟨E [(2, .i .i64 (clv x))], B []⟩)) (fun k s => True)
      (fun s hI G => by simp only [go_sem, reduceIte, ↓reduceIte, reduceCtorEq, nA, nS, nM, nB, nE, nL, nT, nN, iL, iT, iE, iA, iM, iS, iG, iB, iN, iZ, h, Int.lt_irrefl, hb0, hx]) (fun k hk s hI => by
        have h1 : ((k : Int) < (xs.length : Int)) := Int.ofNat_lt.2 hk
        have h3 : clv xs[k] = (if xs[k].1 = true then xs[k].2 else 0) := rfl
        exact ⟨_, _, _, fun G => by simp only [go_sem, reduceIte, ↓reduceIte, reduceCtorEq, nA, nS, nM, nB, nE, nL, nT, nN, iL, iT, iE, iA, iM, iS, iG, iB, iN, iZ, h, map_gdA cl xs k hk, h3, h1, idx_nt _ _ hk, wrap_nat1 (show k < 9223372036854775807 by omega), hb0] <;> with_reducible rfl, by simp [h3], fun hc => ⟨trivial, by simp only [go_sem, reduceIte, ↓reduceIte, reduceCtorEq, nA, nS, nM, nB, nE, nL, nT, nN, iL, iT, iE, iA, iM, iS, iG, iB, iN, iZ, h]⟩⟩) () trivial (xs.length + 1) (Nat.le_refl _)
  rw [hb0] at hr
  rcases hq with ⟨s', e1, _, e3⟩ | ⟨x, s', e1, e3⟩
  · simp only [go_sem, reduceIte, ↓reduceIte, reduceCtorEq, nA, nS, nM, nB, nE, nL, nT, nN, iL, iT, iE, iA, iM, iS, iG, iB, iN, iZ, h, hr, e3, firstC_inl e1]
  · simp only [go_sem, reduceIte, ↓reduceIte, reduceCtorEq, nA, nS, nM, nB, nE, nL, nT, nN, iL, iT, iE, iA, iM, iS, iG, iB, iN, iZ, h, hr, e3, firstC_inr e1]) (rfl)
@[go_sem] theorem e29_1 (a0 : Bool) (x0 : Int) : s29.F [.fs [.fn 56 [.pr [.b a0], .pr [.i .i64 x0]]]] = some (.i .i64 (firstC [(a0, x0)]), [.u]) := e29 [(a0, x0)] (by simp)
@[go_sem] theorem e29_2 (a0 : Bool) (x0 : Int) (a1 : Bool) (x1 : Int) : s29.F [.fs [.fn 56 [.pr [.b a0], .pr [.i .i64 x0]], .fn 56 [.pr [.b a1], .pr [.i .i64 x1]]]] = some (.i .i64 (firstC [(a0, x0), (a1, x1)]), [.u]) := e29 [(a0, x0), (a1, x1)] (by simp)
@[go_sem] theorem e29_3 (a0 : Bool) (x0 : Int) (a1 : Bool) (x1 : Int) (a2 : Bool) (x2 : Int) : s29.F [.fs [.fn 56 [.pr [.b a0], .pr [.i .i64 x0]], .fn 56 [.pr [.b a1], .pr [.i .i64 x1]], .fn 56 [.pr [.b a2], .pr [.i .i64 x2]]]] = some (.i .i64 (firstC [(a0, x0), (a1, x1), (a2, x2)]), [.u]) := e29 [(a0, x0), (a1, x1), (a2, x2)] (by simp)
@[go_sem] theorem e29_4 (a0 : Bool) (x0 : Int) (a1 : Bool) (x1 : Int) (a2 : Bool) (x2 : Int) (a3 : Bool) (x3 : Int) : s29.F [.fs [.fn 56 [.pr [.b a0], .pr [.i .i64 x0]], .fn 56 [.pr [.b a1], .pr [.i .i64 x1]], .fn 56 [.pr [.b a2], .pr [.i .i64 x2]], .fn 56 [.pr [.b a3], .pr [.i .i64 x3]]]] = some (.i .i64 (firstC [(a0, x0), (a1, x1), (a2, x2), (a3, x3)]), [.u]) := e29 [(a0, x0), (a1, x1), (a2, x2), (a3, x3)] (by simp)
@[go_sem] theorem e29_5 (a0 : Bool) (x0 : Int) (a1 : Bool) (x1 : Int) (a2 : Bool) (x2 : Int) (a3 : Bool) (x3 : Int) (a4 : Bool) (x4 : Int) : s29.F [.fs [.fn 56 [.pr [.b a0], .pr [.i .i64 x0]], .fn 56 [.pr [.b a1], .pr [.i .i64 x1]], .fn 56 [.pr [.b a2], .pr [.i .i64 x2]], .fn 56 [.pr [.b a3], .pr [.i .i64 x3]], .fn 56 [.pr [.b a4], .pr [.i .i64 x4]]]] = some (.i .i64 (firstC [(a0, x0), (a1, x1), (a2, x2), (a3, x3), (a4, x4)]), [.u]) := e29 [(a0, x0), (a1, x1), (a2, x2), (a3, x3), (a4, x4)] (by simp)
@[go_sem] theorem e29_6 (a0 : Bool) (x0 : Int) (a1 : Bool) (x1 : Int) (a2 : Bool) (x2 : Int) (a3 : Bool) (x3 : Int) (a4 : Bool) (x4 : Int) (a5 : Bool) (x5 : Int) : s29.F [.fs [.fn 56 [.pr [.b a0], .pr [.i .i64 x0]], .fn 56 [.pr [.b a1], .pr [.i .i64 x1]], .fn 56 [.pr [.b a2], .pr [.i .i64 x2]], .fn 56 [.pr [.b a3], .pr [.i .i64 x3]], .fn 56 [.pr [.b a4], .pr [.i .i64 x4]], .fn 56 [.pr [.b a5], .pr [.i .i64 x5]]]] = some (.i .i64 (firstC [(a0, x0), (a1, x1), (a2, x2), (a3, x3), (a4, x4), (a5, x5)]), [.u]) := e29 [(a0, x0), (a1, x1), (a2, x2), (a3, x3), (a4, x4), (a5, x5)] (by simp)
@[go_sem] theorem e29_7 (a0 : Bool) (x0 : Int) (a1 : Bool) (x1 : Int) (a2 : Bool) (x2 : Int) (a3 : Bool) (x3 : Int) (a4 : Bool) (x4 : Int) (a5 : Bool) (x5 : Int) (a6 : Bool) (x6 : Int) : s29.F [.fs [.fn 56 [.pr [.b a0], .pr [.i .i64 x0]], .fn 56 [.pr [.b a1], .pr [.i .i64 x1]], .fn 56 [.pr [.b a2], .pr [.i .i64 x2]], .fn 56 [.pr [.b a3], .pr [.i .i64 x3]], .fn 56 [.pr [.b a4], .pr [.i .i64 x4]], .fn 56 [.pr [.b a5], .pr [.i .i64 x5]], .fn 56 [.pr [.b a6], .pr [.i .i64 x6]]]] = some (.i .i64 (firstC [(a0, x0), (a1, x1), (a2, x2), (a3, x3), (a4, x4), (a5, x5), (a6, x6)]), [.u]) := e29 [(a0, x0), (a1, x1), (a2, x2), (a3, x3), (a4, x4), (a5, x5), (a6, x6)] (by simp)
noncomputable def s32 : SP Tryz.prog := mkS tyA 32 Tryz.f32 [] { md := [.ro 1, .ro 1], wk := true, rets := some ([4], [2, 3]), fz := [2, 3] } Tryz.func32 (by kernel_rfl)
@[go_sem] theorem d32 : s32.g = 32 ∧ s32.fs = ⟨[.ro 1, .ro 1], s32.F, true⟩ := ⟨nr rfl, nr rfl⟩
@[go_sem] theorem e32 (x : Bool) (c : Int) : s32.F [.b x, .i .i64 c] = some (.fn 56 [.pr [.b x], .pr [.i .i64 c]], [.u, .u]) := mkS_eq (0) rfl rfl (fun cx h => by
  simp only [go_sem, reduceIte, ↓reduceIte, reduceCtorEq, nA, nS, nM, nB, nE, nL, nT, nN, iL, iT, iE, iA, iM, iS, iG, iB, iN, iZ, h]) (rfl)
noncomputable def s34 : SP Tryz.prog := mkS tyA 34 Tryz.f34 [s33] { md := [.ro 1], rets := some ([2], []) } Tryz.func34 (by kernel_rfl)
@[go_sem] theorem d34 : s34.g = 34 ∧ s34.fs = ⟨[.ro 1], s34.F, false⟩ := ⟨nr rfl, nr rfl⟩
@[go_sem] theorem e34 (a : Int) : s34.F [.i .i64 a] = some (.b (isTime a), [.u]) := mkS_eq (0) rfl rfl (fun cx h => by
  simp only [go_sem, reduceIte, ↓reduceIte, reduceCtorEq, nA, nS, nM, nB, nE, nL, nT, nN, iL, iT, iE, iA, iM, iS, iG, iB, iN, iZ, h, isTime]) (rfl)
@[go_sem] theorem e29_cfg (cBudget : Int) (cGuard : Int) (cObjCost : Int) (cNeg : Int) (cEarly : Int) (cFetchTime : Int) (cWaitTime : Int) (cWaitCap : Int) (cNames : List ByteArray) (cLanesSlots : Int) (cLanesCap : Int) (cLanesTime : Int) (cRulesWindow : Int) (cRulesMin : Int) (cRulesRatio : Int) (cRulesCool : Int) (cRulesQuota : Int) (q : Bool) (x : Int) : s29.F [.fs [.fn 30 [.pr [.i .i64 cBudget, .i .i64 cGuard, .i .i64 cObjCost, .i .i64 cNeg, .i .i64 cEarly, .i .i64 cFetchTime, .i .i64 cWaitTime, .i .i64 cWaitCap, .sl .ro 1 (cNames.map rStr), .i .i64 cLanesSlots, .i .i64 cLanesCap, .i .i64 cLanesTime, .i .i64 cRulesWindow, .i .i64 cRulesMin, .i .i64 cRulesRatio, .i .i64 cRulesCool, .i .i64 cRulesQuota]], .fn 56 [.pr [.b q], .pr [.i .i64 x]], .fn 35 [.pr [.i .i64 cBudget, .i .i64 cGuard, .i .i64 cObjCost, .i .i64 cNeg, .i .i64 cEarly, .i .i64 cFetchTime, .i .i64 cWaitTime, .i .i64 cWaitCap, .sl .ro 1 (cNames.map rStr), .i .i64 cLanesSlots, .i .i64 cLanesCap, .i .i64 cLanesTime, .i .i64 cRulesWindow, .i .i64 cRulesMin, .i .i64 cRulesRatio, .i .i64 cRulesCool, .i .i64 cRulesQuota]], .fn 37 [.pr [.i .i64 cBudget, .i .i64 cGuard, .i .i64 cObjCost, .i .i64 cNeg, .i .i64 cEarly, .i .i64 cFetchTime, .i .i64 cWaitTime, .i .i64 cWaitCap, .sl .ro 1 (cNames.map rStr), .i .i64 cLanesSlots, .i .i64 cLanesCap, .i .i64 cLanesTime, .i .i64 cRulesWindow, .i .i64 cRulesMin, .i .i64 cRulesRatio, .i .i64 cRulesCool, .i .i64 cRulesQuota]], .fn 39 [.pr [.i .i64 cBudget, .i .i64 cGuard, .i .i64 cObjCost, .i .i64 cNeg, .i .i64 cEarly, .i .i64 cFetchTime, .i .i64 cWaitTime, .i .i64 cWaitCap, .sl .ro 1 (cNames.map rStr), .i .i64 cLanesSlots, .i .i64 cLanesCap, .i .i64 cLanesTime, .i .i64 cRulesWindow, .i .i64 cRulesMin, .i .i64 cRulesRatio, .i .i64 cRulesCool, .i .i64 cRulesQuota]]]] = some (.i .i64 (firstI [storeCode cBudget cGuard, (if q = true then x else 0), namesCode cNames, lanesFault ⟨cLanesSlots, cLanesCap, cLanesTime⟩, rulesFault ⟨cRulesWindow, cRulesMin, cRulesRatio, cRulesCool, cRulesQuota⟩]), [.u]) := mkS_eq (6) rfl rfl (fun cx h => by
  by_cases z0 : storeCode cBudget cGuard = 0
  rotate_left
  · have y0 : (storeCode cBudget cGuard != 0) = true := by simpa using z0
    simp only [go_sem, reduceIte, ↓reduceIte, reduceCtorEq, nA, nS, nM, nB, nE, nL, nT, nN, iL, iT, iE, iA, iM, iS, iG, iB, iN, iZ, h, y0, firstI_cons, if_i, wrap_0, wrap_1, wrap_2, wrap_3, wrap_4, wrap_5, wrap_6, wrap_7, wrap_8, loopE_1, loopE_2, loopE_3, loopE_4, loopE_5, loopE_6, loopE_7]
  have y0 : (storeCode cBudget cGuard != 0) = false := by simpa using z0
  by_cases z1 : (if q = true then x else 0) = 0
  rotate_left
  · have y1 : ((if q = true then x else 0) != 0) = true := by simpa using z1
    simp only [go_sem, reduceIte, ↓reduceIte, reduceCtorEq, nA, nS, nM, nB, nE, nL, nT, nN, iL, iT, iE, iA, iM, iS, iG, iB, iN, iZ, h, y0, y1, firstI_cons, if_i, wrap_0, wrap_1, wrap_2, wrap_3, wrap_4, wrap_5, wrap_6, wrap_7, wrap_8, loopE_1, loopE_2, loopE_3, loopE_4, loopE_5, loopE_6, loopE_7]
  have y1 : ((if q = true then x else 0) != 0) = false := by simpa using z1
  by_cases z2 : namesCode cNames = 0
  rotate_left
  · have y2 : (namesCode cNames != 0) = true := by simpa using z2
    simp only [go_sem, reduceIte, ↓reduceIte, reduceCtorEq, nA, nS, nM, nB, nE, nL, nT, nN, iL, iT, iE, iA, iM, iS, iG, iB, iN, iZ, h, y0, y1, y2, firstI_cons, if_i, wrap_0, wrap_1, wrap_2, wrap_3, wrap_4, wrap_5, wrap_6, wrap_7, wrap_8, loopE_1, loopE_2, loopE_3, loopE_4, loopE_5, loopE_6, loopE_7]
  have y2 : (namesCode cNames != 0) = false := by simpa using z2
  by_cases z3 : lanesFault ⟨cLanesSlots, cLanesCap, cLanesTime⟩ = 0
  rotate_left
  · have y3 : (lanesFault ⟨cLanesSlots, cLanesCap, cLanesTime⟩ != 0) = true := by simpa using z3
    simp only [go_sem, reduceIte, ↓reduceIte, reduceCtorEq, nA, nS, nM, nB, nE, nL, nT, nN, iL, iT, iE, iA, iM, iS, iG, iB, iN, iZ, h, y0, y1, y2, y3, firstI_cons, if_i, wrap_0, wrap_1, wrap_2, wrap_3, wrap_4, wrap_5, wrap_6, wrap_7, wrap_8, loopE_1, loopE_2, loopE_3, loopE_4, loopE_5, loopE_6, loopE_7]
  have y3 : (lanesFault ⟨cLanesSlots, cLanesCap, cLanesTime⟩ != 0) = false := by simpa using z3
  by_cases z4 : rulesFault ⟨cRulesWindow, cRulesMin, cRulesRatio, cRulesCool, cRulesQuota⟩ = 0
  rotate_left
  · have y4 : (rulesFault ⟨cRulesWindow, cRulesMin, cRulesRatio, cRulesCool, cRulesQuota⟩ != 0) = true := by simpa using z4
    simp only [go_sem, reduceIte, ↓reduceIte, reduceCtorEq, nA, nS, nM, nB, nE, nL, nT, nN, iL, iT, iE, iA, iM, iS, iG, iB, iN, iZ, h, y0, y1, y2, y3, y4, firstI_cons, if_i, wrap_0, wrap_1, wrap_2, wrap_3, wrap_4, wrap_5, wrap_6, wrap_7, wrap_8, loopE_1, loopE_2, loopE_3, loopE_4, loopE_5, loopE_6, loopE_7]
  have y4 : (rulesFault ⟨cRulesWindow, cRulesMin, cRulesRatio, cRulesCool, cRulesQuota⟩ != 0) = false := by simpa using z4
  simp only [go_sem, reduceIte, ↓reduceIte, reduceCtorEq, nA, nS, nM, nB, nE, nL, nT, nN, iL, iT, iE, iA, iM, iS, iG, iB, iN, iZ, h, y0, y1, y2, y3, y4, firstI_cons, firstI_nil, if_i, wrap_0, wrap_1, wrap_2, wrap_3, wrap_4, wrap_5, wrap_6, wrap_7, wrap_8, loopE_1, loopE_2, loopE_3, loopE_4, loopE_5, loopE_6, loopE_7]) (rfl)
noncomputable def s9 : SP Tryz.prog := mkS tyA 9 Tryz.f9 [s29, s32, s33, s34] { md := [.ro 1], rets := some ([2], []), fz := [1] } Tryz.func9 (by kernel_rfl)
@[go_sem] theorem d9 : s9.g = 9 ∧ s9.fs = ⟨[.ro 1], s9.F, false⟩ := ⟨nr rfl, nr rfl⟩
@[go_sem] theorem e9 (cBudget : Int) (cGuard : Int) (cObjCost : Int) (cNeg : Int) (cEarly : Int) (cFetchTime : Int) (cWaitTime : Int) (cWaitCap : Int) (cNames : List ByteArray) (cLanesSlots : Int) (cLanesCap : Int) (cLanesTime : Int) (cRulesWindow : Int) (cRulesMin : Int) (cRulesRatio : Int) (cRulesCool : Int) (cRulesQuota : Int) : s9.F [.agg [.i .i64 cBudget, .i .i64 cGuard, .i .i64 cObjCost, .i .i64 cNeg, .i .i64 cEarly, .i .i64 cFetchTime, .i .i64 cWaitTime, .i .i64 cWaitCap, .sl .ro 1 (cNames.map rStr), .i .i64 cLanesSlots, .i .i64 cLanesCap, .i .i64 cLanesTime, .i .i64 cRulesWindow, .i .i64 cRulesMin, .i .i64 cRulesRatio, .i .i64 cRulesCool, .i .i64 cRulesQuota]] = some (.i .i64 (configFault (Config.mk cBudget cGuard cObjCost cNeg cEarly cFetchTime cWaitTime cWaitCap cNames (Lanes.mk cLanesSlots cLanesCap cLanesTime) (Rules.mk cRulesWindow cRulesMin cRulesRatio cRulesCool cRulesQuota))), [.u]) := mkS_eq (0) rfl rfl (fun cx h => by
  cases h0 : within cObjCost 0 cBudget
  · simp only [go_sem, reduceIte, ↓reduceIte, reduceCtorEq, nA, nS, nM, nB, nE, nL, nT, nN, iL, iT, iE, iA, iM, iS, iG, iB, iN, iZ, h, h0, configFault, rangeOk]
  cases h1 : isTime cNeg
  · simp only [go_sem, reduceIte, ↓reduceIte, reduceCtorEq, nA, nS, nM, nB, nE, nL, nT, nN, iL, iT, iE, iA, iM, iS, iG, iB, iN, iZ, h, h0, h1, configFault, rangeOk]
  cases h2 : within cEarly 0 1000000
  · simp only [go_sem, reduceIte, ↓reduceIte, reduceCtorEq, nA, nS, nM, nB, nE, nL, nT, nN, iL, iT, iE, iA, iM, iS, iG, iB, iN, iZ, h, h0, h1, h2, configFault, rangeOk]
  cases h3 : within cFetchTime 1 1000000
  · simp only [go_sem, reduceIte, ↓reduceIte, reduceCtorEq, nA, nS, nM, nB, nE, nL, nT, nN, iL, iT, iE, iA, iM, iS, iG, iB, iN, iZ, h, h0, h1, h2, h3, configFault, rangeOk]
  cases h4 : within cWaitTime 0 1000000
  · simp only [go_sem, reduceIte, ↓reduceIte, reduceCtorEq, nA, nS, nM, nB, nE, nL, nT, nN, iL, iT, iE, iA, iM, iS, iG, iB, iN, iZ, h, h0, h1, h2, h3, h4, configFault, rangeOk]
  cases h5 : within cWaitCap 1 10
  · simp only [go_sem, reduceIte, ↓reduceIte, reduceCtorEq, nA, nS, nM, nB, nE, nL, nT, nN, iL, iT, iE, iA, iM, iS, iG, iB, iN, iZ, h, h0, h1, h2, h3, h4, h5, configFault, rangeOk]
  simp only [go_sem, reduceIte, ↓reduceIte, reduceCtorEq, nA, nS, nM, nB, nE, nL, nT, nN, iL, iT, iE, iA, iM, iS, iG, iB, iN, iZ, h, h0, h1, h2, h3, h4, h5, configFault, rangeOk]) (rfl)
noncomputable def s41 : SP Tryz.prog := mkS tyA 41 Tryz.f41 [] { md := [.ro 1, .ro 1], rg := [(0, [0, 1], []), (1, [0, 1, 10], []), (2, [4], []), (3, [0, 1, 5], []), (4, [0, 1, 5, 14], []), (5, [0, 1, 5], []), (6, [0, 1, 5, 25], []), (7, [4], []), (8, [4], [])], lv := [(0, [0, 1, 5], [])], out := [(0, [], [])], rets := some ([4], []), plan := [(6, (.take 0 (.take 1 (.take 2 (.take 3 (.take 4 (.take 5 (.take 6 (.take 7 (.take 8 .done))))))))))] } Tryz.func41 (by kernel_rfl)
@[go_sem] theorem d41 : s41.g = 41 ∧ s41.fs = ⟨[.ro 1, .ro 1], s41.F, false⟩ := ⟨nr rfl, nr rfl⟩
@[go_sem] theorem e41 (xs ys : List ByteArray) (h0 : smL smStr xs) : s41.F [.sl .ro 1 (xs.map rStr), .sl .ro 1 (ys.map rStr)] = some (.b (eqv xs ys), [.u, .u]) := mkS_eq (xs.length + 1) rfl rfl (fun cx h => by
  have hb := loopN_eq Tryz.f41 0 _ _ rfl rfl
  have hx := h0.1
  by_cases hl : xs.length = ys.length
  · obtain ⟨r, hr, hq⟩ := loop_list (cx := cx) (blk := 0) (body := loopN Tryz.f41 0) (xs.zip ys) (fun k (_ : Unit) => ⟨E [(0, .sl .ro 1 (xs.map rStr)), (1, .sl .ro 1 (ys.map rStr)), (5, .i .i64 k)], B []⟩) (fun _ => ⟨E [], B []⟩) (fun x _ => !eqv x.1 x.2) (fun _ _ => ()) (fun _ _ => (.ret, ⟨E [(4, .b false)], B []⟩)) (fun _ _ => True)
      (fun l _ G => by simp only [go_sem, reduceIte, ↓reduceIte, reduceCtorEq, nA, nS, nM, nB, nE, nL, nT, nN, iL, iT, iE, iA, iM, iS, iG, iB, iN, iZ, h, zip_len hl, hl, Int.lt_irrefl, hb]) (fun k hk l _ => by
        have hk : k < xs.length := by rwa [zip_len hl] at hk
        have h1 : ((k : Int) < (xs.length : Int)) := Int.ofNat_lt.2 hk
        have h2 := h0.2 _ (List.getElem_mem hk)
        have h3 : (xs.zip ys)[k] = (xs[k], ys[k]'(by omega)) := by simp
        rw [h3]
        cases hc : eqv xs[k] (ys[k]'(by omega))
        · exact .inl ⟨rfl, fun G => by simp only [go_sem, reduceIte, ↓reduceIte, reduceCtorEq, nA, nS, nM, nB, nE, nL, nT, nN, iL, iT, iE, iA, iM, iS, iG, iB, iN, iZ, h, hc, map_gd rStr xs k hk, map_gd rStr ys k (by omega), idx_nt ys.length k (by omega), eqv_bytes, h1, idx_nt _ _ hk, wrap_nat1 (show k < 9223372036854775807 by omega), hb]⟩
        · exact .inr ⟨rfl, trivial, _, fun G => by simp only [go_sem, reduceIte, ↓reduceIte, reduceCtorEq, nA, nS, nM, nB, nE, nL, nT, nN, iL, iT, iE, iA, iM, iS, iG, iB, iN, iZ, h, hc, map_gd rStr xs k hk, map_gd rStr ys k (by omega), idx_nt ys.length k (by omega), eqv_bytes, h1, idx_nt _ _ hk, wrap_nat1 (show k < 9223372036854775807 by omega), hb] <;> with_reducible rfl, by simp only [go_sem, reduceIte, ↓reduceIte, reduceCtorEq, nA, nS, nM, nB, nE, nL, nT, nN, iL, iT, iE, iA, iM, iS, iG, iB, iN, iZ, h]⟩) () trivial (xs.length + 1) (by rw [zip_len hl]; exact Nat.le_refl _)
    rw [hb] at hr
    have hl2 : ((xs.length : Int) != (ys.length : Int)) = false := by simp [hl]
    rcases hq with ⟨s', e1, e2, e3⟩ | ⟨x, s', e1, e3⟩
    · simp only [go_sem, reduceIte, ↓reduceIte, reduceCtorEq, nA, nS, nM, nB, nE, nL, nT, nN, iL, iT, iE, iA, iM, iS, iG, iB, iN, iZ, h, hl2, hr, e3, zip_eqv hl e1]
    · simp only [go_sem, reduceIte, ↓reduceIte, reduceCtorEq, nA, nS, nM, nB, nE, nL, nT, nN, iL, iT, iE, iA, iM, iS, iG, iB, iN, iZ, h, hl2, hr, e3, zip_nev hl e1]
  · have hl2 : ((xs.length : Int) != (ys.length : Int)) = true := by simpa using fun h => hl (Int.ofNat_inj.1 h)
    simp only [go_sem, reduceIte, ↓reduceIte, reduceCtorEq, nA, nS, nM, nB, nE, nL, nT, nN, iL, iT, iE, iA, iM, iS, iG, iB, iN, iZ, h, hl2, len_nev hl]) (rfl)
noncomputable def s42 : SP Tryz.prog := mkS tyA 42 Tryz.f42 [] { md := [.ro 1, .ro 1], rg := [(0, [2, 3], [2, 3]), (1, [2, 3, 9], [2, 3]), (2, [4], []), (3, [2, 3, 14], [2, 3]), (4, [4], []), (5, [19], []), (6, [4], []), (7, [4], [])], rets := some ([4], []) } Tryz.func42 (by kernel_rfl)
@[go_sem] theorem d42 : s42.g = 42 ∧ s42.fs = ⟨[.ro 1, .ro 1], s42.F, false⟩ := ⟨nr rfl, nr rfl⟩
@[go_sem] theorem e42 (xSlots : Int) (xCap : Int) (xTime : Int) (ySlots : Int) (yCap : Int) (yTime : Int) (h0 : smLanes (Lanes.mk xSlots xCap xTime)) : s42.F [.agg [.i .i64 xSlots, .i .i64 xCap, .i .i64 xTime], .agg [.i .i64 ySlots, .i .i64 yCap, .i .i64 yTime]] = some (.b (eqv (Lanes.mk xSlots xCap xTime) (Lanes.mk ySlots yCap yTime)), [.u, .u]) := mkS_eq (0) rfl rfl (fun cx h => by
  obtain ⟨q0, q1, q2⟩ := h0
  simp only [go_sem, reduceIte, ↓reduceIte, reduceCtorEq, nA, nS, nM, nB, nE, nL, nT, nN, iL, iT, iE, iA, iM, iS, iG, iB, iN, iZ, h, eqv_intne, eqv_bytes, eqv_boolne, q0, q1, q2]
  simp only [eqv_bool, eqv_int, Lanes.eqv (Lanes.mk xSlots xCap xTime) (Lanes.mk ySlots yCap yTime), if_b, not_eq_t, if_nb, Bool.and_true]) (rfl)
noncomputable def s43 : SP Tryz.prog := mkS tyA 43 Tryz.f43 [] { md := [.ro 1, .ro 1], rg := [(0, [2, 3], [2, 3]), (1, [2, 3, 9], [2, 3]), (2, [4], []), (3, [2, 3, 14], [2, 3]), (4, [4], []), (5, [2, 3, 19], [2, 3]), (6, [4], []), (7, [2, 3, 24], [2, 3]), (8, [4], []), (9, [29], []), (10, [4], []), (11, [4], [])], rets := some ([4], []) } Tryz.func43 (by kernel_rfl)
@[go_sem] theorem d43 : s43.g = 43 ∧ s43.fs = ⟨[.ro 1, .ro 1], s43.F, false⟩ := ⟨nr rfl, nr rfl⟩
@[go_sem] theorem e43 (xWindow : Int) (xMin : Int) (xRatio : Int) (xCool : Int) (xQuota : Int) (yWindow : Int) (yMin : Int) (yRatio : Int) (yCool : Int) (yQuota : Int) (h0 : smRules (Rules.mk xWindow xMin xRatio xCool xQuota)) : s43.F [.agg [.i .i64 xWindow, .i .i64 xMin, .i .i64 xRatio, .i .i64 xCool, .i .i64 xQuota], .agg [.i .i64 yWindow, .i .i64 yMin, .i .i64 yRatio, .i .i64 yCool, .i .i64 yQuota]] = some (.b (eqv (Rules.mk xWindow xMin xRatio xCool xQuota) (Rules.mk yWindow yMin yRatio yCool yQuota)), [.u, .u]) := mkS_eq (0) rfl rfl (fun cx h => by
  obtain ⟨q0, q1, q2, q3, q4⟩ := h0
  simp only [go_sem, reduceIte, ↓reduceIte, reduceCtorEq, nA, nS, nM, nB, nE, nL, nT, nN, iL, iT, iE, iA, iM, iS, iG, iB, iN, iZ, h, eqv_intne, eqv_bytes, eqv_boolne, q0, q1, q2, q3, q4]
  simp only [eqv_bool, eqv_int, Rules.eqv (Rules.mk xWindow xMin xRatio xCool xQuota) (Rules.mk yWindow yMin yRatio yCool yQuota), if_b, not_eq_t, if_nb, Bool.and_true]) (rfl)
noncomputable def s10 : SP Tryz.prog := mkS tyA 10 Tryz.f10 [s41, s42, s43] { md := [.ro 1, .ro 1], rg := [(0, [2, 3], [2, 3]), (1, [2, 3, 9], [2, 3]), (2, [4], []), (3, [2, 3, 14], [2, 3]), (4, [4], []), (5, [2, 3, 19], [2, 3]), (6, [4], []), (7, [2, 3, 24], [2, 3]), (8, [4], []), (9, [2, 3, 29], [2, 3]), (10, [4], []), (11, [2, 3, 34], [2, 3]), (12, [4], []), (13, [2, 3, 39], [2, 3]), (14, [4], []), (15, [2, 3, 44], [2, 3]), (16, [4], []), (17, [2, 3, 50], [2, 3]), (18, [4], []), (19, [2, 3, 56], [2, 3]), (20, [4], []), (21, [62], []), (22, [4], []), (23, [4], [])], rets := some ([4], []) } Tryz.func10 (by kernel_rfl)
@[go_sem] theorem d10 : s10.g = 10 ∧ s10.fs = ⟨[.ro 1, .ro 1], s10.F, false⟩ := ⟨nr rfl, nr rfl⟩
@[go_sem] theorem e10 (xBudget : Int) (xGuard : Int) (xObjCost : Int) (xNeg : Int) (xEarly : Int) (xFetchTime : Int) (xWaitTime : Int) (xWaitCap : Int) (xNames : List ByteArray) (xLanesSlots : Int) (xLanesCap : Int) (xLanesTime : Int) (xRulesWindow : Int) (xRulesMin : Int) (xRulesRatio : Int) (xRulesCool : Int) (xRulesQuota : Int) (yBudget : Int) (yGuard : Int) (yObjCost : Int) (yNeg : Int) (yEarly : Int) (yFetchTime : Int) (yWaitTime : Int) (yWaitCap : Int) (yNames : List ByteArray) (yLanesSlots : Int) (yLanesCap : Int) (yLanesTime : Int) (yRulesWindow : Int) (yRulesMin : Int) (yRulesRatio : Int) (yRulesCool : Int) (yRulesQuota : Int) (h0 : smConfig (Config.mk xBudget xGuard xObjCost xNeg xEarly xFetchTime xWaitTime xWaitCap xNames (Lanes.mk xLanesSlots xLanesCap xLanesTime) (Rules.mk xRulesWindow xRulesMin xRulesRatio xRulesCool xRulesQuota))) : s10.F [.agg [.i .i64 xBudget, .i .i64 xGuard, .i .i64 xObjCost, .i .i64 xNeg, .i .i64 xEarly, .i .i64 xFetchTime, .i .i64 xWaitTime, .i .i64 xWaitCap, .sl .ro 1 (xNames.map rStr), .i .i64 xLanesSlots, .i .i64 xLanesCap, .i .i64 xLanesTime, .i .i64 xRulesWindow, .i .i64 xRulesMin, .i .i64 xRulesRatio, .i .i64 xRulesCool, .i .i64 xRulesQuota], .agg [.i .i64 yBudget, .i .i64 yGuard, .i .i64 yObjCost, .i .i64 yNeg, .i .i64 yEarly, .i .i64 yFetchTime, .i .i64 yWaitTime, .i .i64 yWaitCap, .sl .ro 1 (yNames.map rStr), .i .i64 yLanesSlots, .i .i64 yLanesCap, .i .i64 yLanesTime, .i .i64 yRulesWindow, .i .i64 yRulesMin, .i .i64 yRulesRatio, .i .i64 yRulesCool, .i .i64 yRulesQuota]] = some (.b (eqv (Config.mk xBudget xGuard xObjCost xNeg xEarly xFetchTime xWaitTime xWaitCap xNames (Lanes.mk xLanesSlots xLanesCap xLanesTime) (Rules.mk xRulesWindow xRulesMin xRulesRatio xRulesCool xRulesQuota)) (Config.mk yBudget yGuard yObjCost yNeg yEarly yFetchTime yWaitTime yWaitCap yNames (Lanes.mk yLanesSlots yLanesCap yLanesTime) (Rules.mk yRulesWindow yRulesMin yRulesRatio yRulesCool yRulesQuota))), [.u, .u]) := mkS_eq (0) rfl rfl (fun cx h => by
  obtain ⟨q0, q1, q2, q3, q4, q5, q6, q7, q8, q9, q10⟩ := h0
  simp only [go_sem, reduceIte, ↓reduceIte, reduceCtorEq, nA, nS, nM, nB, nE, nL, nT, nN, iL, iT, iE, iA, iM, iS, iG, iB, iN, iZ, h, eqv_intne, eqv_bytes, eqv_boolne, q0, q1, q2, q3, q4, q5, q6, q7, q8, q9, q10]
  simp only [eqv_bool, eqv_int, Config.eqv (Config.mk xBudget xGuard xObjCost xNeg xEarly xFetchTime xWaitTime xWaitCap xNames (Lanes.mk xLanesSlots xLanesCap xLanesTime) (Rules.mk xRulesWindow xRulesMin xRulesRatio xRulesCool xRulesQuota)) (Config.mk yBudget yGuard yObjCost yNeg yEarly yFetchTime yWaitTime yWaitCap yNames (Lanes.mk yLanesSlots yLanesCap yLanesTime) (Rules.mk yRulesWindow yRulesMin yRulesRatio yRulesCool yRulesQuota)), if_b, not_eq_t, if_nb, Bool.and_true]) (rfl)
noncomputable def s3 : SP Tryz.prog := mkS tyA 3 Tryz.f3 [s6, s7, s8, s9, s10] { md := [.ro 1], rg := [(0, [1], [1]), (1, [1, 3], [1]), (2, [1, 3], [1]), (3, [1, 11], [1]), (4, [2], []), (5, [1, 4], [1]), (6, [1, 4, 5], [1, 5]), (7, [1, 4, 5, 6], [1, 5]), (8, [1, 5, 21], [1, 5]), (9, [2], []), (10, [26], []), (11, [2], []), (12, [2], [])], rets := some ([2], []), plan := [(10, (.take 0 (.take 1 (.one 2 (.one 3 (.take 4 .done))))))] } Tryz.func3 (by kernel_rfl)
@[go_sem] theorem d3 : s3.g = 3 ∧ s3.fs = ⟨[.ro 1], s3.F, false⟩ := ⟨nr rfl, nr rfl⟩
theorem e3 (cBudget : Int) (cGuard : Int) (cObjCost : Int) (cNeg : Int) (cEarly : Int) (cFetchTime : Int) (cWaitTime : Int) (cWaitCap : Int) (cNames : List ByteArray) (cLanesSlots : Int) (cLanesCap : Int) (cLanesTime : Int) (cRulesWindow : Int) (cRulesMin : Int) (cRulesRatio : Int) (cRulesCool : Int) (cRulesQuota : Int) (h0 : okConfig (Config.mk cBudget cGuard cObjCost cNeg cEarly cFetchTime cWaitTime cWaitCap cNames (Lanes.mk cLanesSlots cLanesCap cLanesTime) (Rules.mk cRulesWindow cRulesMin cRulesRatio cRulesCool cRulesQuota))) : s3.F [.agg [.i .i64 cBudget, .i .i64 cGuard, .i .i64 cObjCost, .i .i64 cNeg, .i .i64 cEarly, .i .i64 cFetchTime, .i .i64 cWaitTime, .i .i64 cWaitCap, .sl .ro 1 (cNames.map rStr), .i .i64 cLanesSlots, .i .i64 cLanesCap, .i .i64 cLanesTime, .i .i64 cRulesWindow, .i .i64 cRulesMin, .i .i64 cRulesRatio, .i .i64 cRulesCool, .i .i64 cRulesQuota]] = some (.b true, [.u]) := mkS_eq (0) rfl rfl (fun cx h => by
  have h0_0 := h0
  by_cases hc0 : szConfig (Config.mk cBudget cGuard cObjCost cNeg cEarly cFetchTime cWaitTime cWaitCap cNames (Lanes.mk cLanesSlots cLanesCap cLanesTime) (Rules.mk cRulesWindow cRulesMin cRulesRatio cRulesCool cRulesQuota)) 1048576 < 0
  · simp only [go_sem, reduceIte, ↓reduceIte, reduceCtorEq, nA, nS, nM, nB, nE, nL, nT, nN, iL, iT, iE, iA, iM, iS, iG, iB, iN, iZ, h, hc0, h0_0]
  obtain ⟨hs0, hl0⟩ := szConfig_fact _ _ h0_0 (by decide) (by decide) (show 0 ≤ szConfig (Config.mk cBudget cGuard cObjCost cNeg cEarly cFetchTime cWaitTime cWaitCap cNames (Lanes.mk cLanesSlots cLanesCap cLanesTime) (Rules.mk cRulesWindow cRulesMin cRulesRatio cRulesCool cRulesQuota)) 1048576 by omega)
  simp only [go_sem, reduceIte, ↓reduceIte, reduceCtorEq, nA, nS, nM, nB, nE, nL, nT, nN, iL, iT, iE, iA, iM, iS, iG, iB, iN, iZ, h, hc0, hs0, h0_0, eqv_self]) (rfl)
end Go.Vm.A
