/- Functions of the program, walked by the evaluator. -/
import Derived.Test.YtahcdlpjkcbjgaaFa
set_option autoImplicit false
set_option maxRecDepth 100000
set_option maxHeartbeats 4000000
set_option linter.unusedVariables false
set_option linter.unusedSimpArgs false
namespace Go.Vm.A
open Go.Proofs
open Nat renaming reduceAdd → nA, reduceSub → nS, reduceMul → nM, reduceBEq → nB, reduceEqDiff → nE, reduceLeDiff → nL, reduceLT → nT, reduceBneDiff → nN
open Int renaming reduceLE → iL, reduceLT → iT, reduceEq → iE, reduceAdd → iA, reduceMul → iM, reduceSub → iS, reduceNeg → iG, reduceBEq → iB, reduceBNe → iN, reduceToNat → iZ

noncomputable def s29 : SP Try.prog := mkS tyA 29 Try.f29 [] { md := [.ro 1, .ro 1], rg := [(0, [0, 1], []), (1, [1], []), (2, [1, 10], []), (3, [4], []), (4, [4], [])], rets := some ([4], []) } Try.func29 (by kernel_rfl)
@[go_sem] theorem d29 : s29.g = 29 ∧ s29.fs = ⟨[.ro 1, .ro 1], s29.F, false⟩ := ⟨nr rfl, nr rfl⟩
@[go_sem] theorem e29 (xs : List Trace) (l : Int) : s29.F [.sl .ro 3 (xs.map (rTrace .ro)), .i .i64 l] = some (.i .i64 (szF xs.length l), [.u, .u]) := mkS_eq (0) rfl rfl (fun cx h => by
  simp only [go_sem, reduceIte, ↓reduceIte, reduceCtorEq, nA, nS, nM, nB, nE, nL, nT, nN, iL, iT, iE, iA, iM, iS, iG, iB, iN, iZ, h]
  simp only [szByteS, szF, szs, szn, if_i, decide_eq_true_eq]) (rfl)
noncomputable def s30 : SP Try.prog := mkS tyA 30 Try.f30 [] { md := [.ro 1], rg := [(0, [1, 2], [1, 2, 3]), (1, [1, 2, 3], [1, 2, 3]), (2, [1, 2, 3], [1, 2, 3]), (3, [1, 2, 3], [1, 2, 3]), (4, [1, 2, 3], [1, 2, 3]), (5, [1, 2, 3], [1, 2, 3]), (6, [2, 3], [2, 3]), (7, [2], [2, 3])], rets := some ([2], [2, 3]) } Try.func30 (by kernel_rfl)
@[go_sem] theorem d30 : s30.g = 30 ∧ s30.fs = ⟨[.ro 1], s30.F, false⟩ := ⟨nr rfl, nr rfl⟩
@[go_sem] theorem e30 (xWindow : Int) (xMin : Int) (xRatio : Int) (xCool : Int) (xQuota : Int) (h0 : smRules (Rules.mk xWindow xMin xRatio xCool xQuota)) : s30.F [.agg [.i .i64 xWindow, .i .i64 xMin, .i .i64 xRatio, .i .i64 xCool, .i .i64 xQuota]] = some (.agg (rRules .mut (Rules.mk xWindow xMin xRatio xCool xQuota)), [.u]) := mkS_eq (0) rfl rfl (fun cx h => by
  obtain ⟨q0, q1, q2, q3, q4⟩ := h0
  simp only [go_sem, reduceIte, ↓reduceIte, reduceCtorEq, nA, nS, nM, nB, nE, nL, nT, nN, iL, iT, iE, iA, iM, iS, iG, iB, iN, iZ, h, q0, q1, q2, q3, q4]) (by simp only [go_sem, reduceIte, ↓reduceIte, reduceCtorEq, nA, nS, nM, nB, nE, nL, nT, nN, iL, iT, iE, iA, iM, iS, iG, iB, iN, iZ, okRes, hasRo, hasRoL, hasRoLL])
noncomputable def s76 : SP Try.prog := mkS tyA 76 Try.f76 [] { md := [.ro 1], rg := [(0, [1, 2], [1, 2, 3]), (1, [1, 2, 3], [1, 2, 3]), (2, [1, 2, 3], [1, 2, 3]), (3, [1, 2, 3], [1, 2, 3]), (4, [2, 3], [2, 3]), (5, [2], [2, 3])], rets := some ([2], [2, 3]) } Try.func76 (by kernel_rfl)
@[go_sem] theorem d76 : s76.g = 76 ∧ s76.fs = ⟨[.ro 1], s76.F, false⟩ := ⟨nr rfl, nr rfl⟩
@[go_sem] theorem e76 (xAt : Int) (xAsk : Bool) (xGood : Bool) (h0 : smTrace (Trace.mk xAt xAsk xGood)) : s76.F [.agg [.i .i64 xAt, .b xAsk, .b xGood]] = some (.agg (rTrace .mut (Trace.mk xAt xAsk xGood)), [.u]) := mkS_eq (0) rfl rfl (fun cx h => by
  obtain ⟨q0, q1, q2⟩ := h0
  simp only [go_sem, reduceIte, ↓reduceIte, reduceCtorEq, nA, nS, nM, nB, nE, nL, nT, nN, iL, iT, iE, iA, iM, iS, iG, iB, iN, iZ, h, q0, q1, q2]) (by simp only [go_sem, reduceIte, ↓reduceIte, reduceCtorEq, nA, nS, nM, nB, nE, nL, nT, nN, iL, iT, iE, iA, iM, iS, iG, iB, iN, iZ, okRes, hasRo, hasRoL, hasRoLL])
noncomputable def s31 : SP Try.prog := mkS tyA 31 Try.f31 [s76] { md := [.ro 1], rg := [(0, [0], []), (1, [0, 3], []), (2, [0, 3, 4], []), (3, [0, 3, 4, 11], []), (4, [0, 3, 4], []), (5, [0, 3, 4], []), (6, [2], [])], lv := [(0, [0, 3, 4], [])], out := [(0, [3], [])], rets := some ([2], []) } Try.func31 (by kernel_rfl)
@[go_sem] theorem d31 : s31.g = 31 ∧ s31.fs = ⟨[.ro 1], s31.F, false⟩ := ⟨nr rfl, nr rfl⟩
@[go_sem] theorem e31 (xs : List Trace) (h0 : smL smTrace xs) : s31.F [.sl .ro 3 (xs.map (rTrace .ro))] = some (.sl .mut 3 (xs.map (rTrace .mut)), [.u]) := mkS_eq (xs.length + 1) rfl rfl (fun cx h => by
  have hb := loopN_eq Try.f31 0 _ _ rfl rfl
  have hx := h0.1
  have c1 : ((xs.length : Int) * (16 : Nat) ≤ 140737488355328) := by omega
  have c2 : 0 ≤ (xs.length : Int) := by omega
  have hr := (loop_fold (cx := cx) (blk := 0) (body := loopN Try.f31 0) xs (fun k (_ : Unit) => ⟨E [(0, .sl .ro 3 (xs.map (rTrace .ro))), (3, .sl .mut 3 (fillUp (rTrace .mut) [.i .i64 0, .b false, .b false] xs k)), (4, .i .i64 k)], B []⟩) (fun _ => ⟨E [(3, .sl .mut 3 (xs.map (rTrace .mut)))], B []⟩) (fun _ _ => ()) (fun _ _ => True)
    (fun l _ G => by simp only [go_sem, reduceIte, ↓reduceIte, reduceCtorEq, nA, nS, nM, nB, nE, nL, nT, nN, iL, iT, iE, iA, iM, iS, iG, iB, iN, iZ, h, Int.lt_irrefl, hb, fillUp_all]) (fun k hk l _ => by
      have h1 : ((k : Int) < (xs.length : Int)) := Int.ofNat_lt.2 hk
      have h2 := h0.2 _ (List.getElem_mem hk)
      have h3 : (fillUp (rTrace .mut) [.i .i64 0, .b false, .b false] xs k).set k [.i .i64 xs[k].At, .b xs[k].Ask, .b xs[k].Good] = fillUp (rTrace .mut) [.i .i64 0, .b false, .b false] xs (k + 1) := fillUp_set (rTrace .mut) [.i .i64 0, .b false, .b false] xs k hk
      exact ⟨trivial, _, fun G => by simp only [go_sem, reduceIte, ↓reduceIte, reduceCtorEq, nA, nS, nM, nB, nE, nL, nT, nN, iL, iT, iE, iA, iM, iS, iG, iB, iN, iZ, h, h2, h3, map_gd (rTrace .ro) xs k hk, fillUp_get (rTrace .mut) [.i .i64 0, .b false, .b false] xs k hk, fillUp_getD (rTrace .mut) [.i .i64 0, .b false, .b false] xs k hk, fillUp_len (rTrace .mut) [.i .i64 0, .b false, .b false] xs k (Nat.le_of_lt hk), h1, idx_nt _ _ hk, wrap_nat1 (show k < 9223372036854775807 by omega), hb] <;> with_reducible rfl, by simp only [go_sem, reduceIte, ↓reduceIte, reduceCtorEq, nA, nS, nM, nB, nE, nL, nT, nN, iL, iT, iE, iA, iM, iS, iG, iB, iN, iZ, h]⟩) () trivial (xs.length + 1) (Nat.le_refl _)).2
  rw [hb] at hr
  simp only [go_sem, reduceIte, ↓reduceIte, reduceCtorEq, nA, nS, nM, nB, nE, nL, nT, nN, iL, iT, iE, iA, iM, iS, iG, iB, iN, iZ, h, c1, c2, Int.toNat_natCast, fillUp_zero (rTrace .mut) [.i .i64 0, .b false, .b false], hr]) (by simp only [go_sem, reduceIte, ↓reduceIte, reduceCtorEq, nA, nS, nM, nB, nE, nL, nT, nN, iL, iT, iE, iA, iM, iS, iG, iB, iN, iZ, okRes, hasRo])
noncomputable def s77 : SP Try.prog := mkS tyA 77 Try.f77 [] { md := [.ro 1, .ro 1], rg := [(0, [0, 1], []), (1, [0, 1, 10], []), (2, [4], []), (3, [0, 1, 5], []), (4, [0, 1, 5, 14], []), (5, [0, 1, 5], []), (6, [0, 1, 5, 25], []), (7, [4], []), (8, [4], [])], lv := [(0, [0, 1, 5], [])], out := [(0, [], [])], rets := some ([4], []), plan := [(6, (.take 0 (.take 1 (.take 2 (.take 3 (.take 4 (.take 5 (.take 6 (.take 7 (.take 8 .done))))))))))] } Try.func77 (by kernel_rfl)
@[go_sem] theorem d77 : s77.g = 77 ∧ s77.fs = ⟨[.ro 1, .ro 1], s77.F, false⟩ := ⟨nr rfl, nr rfl⟩
@[go_sem] theorem e77 (xs ys : List Int) (h0 : smL smInt xs) : s77.F [.sl .ro 1 (xs.map rInt), .sl .ro 1 (ys.map rInt)] = some (.b (eqv xs ys), [.u, .u]) := mkS_eq (xs.length + 1) rfl rfl (fun cx h => by
  have hb := loopN_eq Try.f77 0 _ _ rfl rfl
  have hx := h0.1
  by_cases hl : xs.length = ys.length
  · obtain ⟨r, hr, hq⟩ := loop_list (cx := cx) (blk := 0) (body := loopN Try.f77 0) (xs.zip ys) (fun k (_ : Unit) => ⟨E [(0, .sl .ro 1 (xs.map rInt)), (1, .sl .ro 1 (ys.map rInt)), (5, .i .i64 k)], B []⟩) (fun _ => ⟨E [], B []⟩) (fun x _ => !eqv x.1 x.2) (fun _ _ => ()) (fun _ _ => (.ret, ⟨E [(4, .b false)], B []⟩)) (fun _ _ => True)
      (fun l _ G => by simp only [go_sem, reduceIte, ↓reduceIte, reduceCtorEq, nA, nS, nM, nB, nE, nL, nT, nN, iL, iT, iE, iA, iM, iS, iG, iB, iN, iZ, h, zip_len hl, hl, Int.lt_irrefl, hb]) (fun k hk l _ => by
        have hk : k < xs.length := by rwa [zip_len hl] at hk
        have h1 : ((k : Int) < (xs.length : Int)) := Int.ofNat_lt.2 hk
        have h2 := h0.2 _ (List.getElem_mem hk)
        have h3 : (xs.zip ys)[k] = (xs[k], ys[k]'(by omega)) := by simp
        rw [h3]
        cases hc : eqv xs[k] (ys[k]'(by omega))
        · exact .inl ⟨rfl, fun G => by simp only [go_sem, reduceIte, ↓reduceIte, reduceCtorEq, nA, nS, nM, nB, nE, nL, nT, nN, iL, iT, iE, iA, iM, iS, iG, iB, iN, iZ, h, hc, map_gd rInt xs k hk, map_gd rInt ys k (by omega), idx_nt ys.length k (by omega), eqv_intne, h1, idx_nt _ _ hk, wrap_nat1 (show k < 9223372036854775807 by omega), hb]⟩
        · exact .inr ⟨rfl, trivial, _, fun G => by simp only [go_sem, reduceIte, ↓reduceIte, reduceCtorEq, nA, nS, nM, nB, nE, nL, nT, nN, iL, iT, iE, iA, iM, iS, iG, iB, iN, iZ, h, hc, map_gd rInt xs k hk, map_gd rInt ys k (by omega), idx_nt ys.length k (by omega), eqv_intne, h1, idx_nt _ _ hk, wrap_nat1 (show k < 9223372036854775807 by omega), hb] <;> with_reducible rfl, by simp only [go_sem, reduceIte, ↓reduceIte, reduceCtorEq, nA, nS, nM, nB, nE, nL, nT, nN, iL, iT, iE, iA, iM, iS, iG, iB, iN, iZ, h]⟩) () trivial (xs.length + 1) (by rw [zip_len hl]; exact Nat.le_refl _)
    rw [hb] at hr
    have hl2 : ((xs.length : Int) != (ys.length : Int)) = false := by simp [hl]
    rcases hq with ⟨s', e1, e2, e3⟩ | ⟨x, s', e1, e3⟩
    · simp only [go_sem, reduceIte, ↓reduceIte, reduceCtorEq, nA, nS, nM, nB, nE, nL, nT, nN, iL, iT, iE, iA, iM, iS, iG, iB, iN, iZ, h, hl2, hr, e3, zip_eqv hl e1]
    · simp only [go_sem, reduceIte, ↓reduceIte, reduceCtorEq, nA, nS, nM, nB, nE, nL, nT, nN, iL, iT, iE, iA, iM, iS, iG, iB, iN, iZ, h, hl2, hr, e3, zip_nev hl e1]
  · have hl2 : ((xs.length : Int) != (ys.length : Int)) = true := by simpa using fun h => hl (Int.ofNat_inj.1 h)
    simp only [go_sem, reduceIte, ↓reduceIte, reduceCtorEq, nA, nS, nM, nB, nE, nL, nT, nN, iL, iT, iE, iA, iM, iS, iG, iB, iN, iZ, h, hl2, len_nev hl]) (rfl)
noncomputable def s78 : SP Try.prog := mkS tyA 78 Try.f78 [] { md := [.ro 1, .ro 1], rg := [(0, [0, 1], []), (1, [0, 1, 10], []), (2, [4], []), (3, [0, 1, 5], []), (4, [0, 1, 5, 14], []), (5, [0, 1, 5], []), (6, [0, 1, 5, 25], []), (7, [4], []), (8, [4], [])], lv := [(0, [0, 1, 5], [])], out := [(0, [], [])], rets := some ([4], []), plan := [(6, (.take 0 (.take 1 (.take 2 (.take 3 (.take 4 (.take 5 (.take 6 (.take 7 (.take 8 .done))))))))))] } Try.func78 (by kernel_rfl)
@[go_sem] theorem d78 : s78.g = 78 ∧ s78.fs = ⟨[.ro 1, .ro 1], s78.F, false⟩ := ⟨nr rfl, nr rfl⟩
@[go_sem] theorem e78 (xs ys : List Bool) (h0 : smL smBool xs) : s78.F [.sl .ro 1 (xs.map rBool), .sl .ro 1 (ys.map rBool)] = some (.b (eqv xs ys), [.u, .u]) := mkS_eq (xs.length + 1) rfl rfl (fun cx h => by
  have hb := loopN_eq Try.f78 0 _ _ rfl rfl
  have hx := h0.1
  by_cases hl : xs.length = ys.length
  · obtain ⟨r, hr, hq⟩ := loop_list (cx := cx) (blk := 0) (body := loopN Try.f78 0) (xs.zip ys) (fun k (_ : Unit) => ⟨E [(0, .sl .ro 1 (xs.map rBool)), (1, .sl .ro 1 (ys.map rBool)), (5, .i .i64 k)], B []⟩) (fun _ => ⟨E [], B []⟩) (fun x _ => !eqv x.1 x.2) (fun _ _ => ()) (fun _ _ => (.ret, ⟨E [(4, .b false)], B []⟩)) (fun _ _ => True)
      (fun l _ G => by simp only [go_sem, reduceIte, ↓reduceIte, reduceCtorEq, nA, nS, nM, nB, nE, nL, nT, nN, iL, iT, iE, iA, iM, iS, iG, iB, iN, iZ, h, zip_len hl, hl, Int.lt_irrefl, hb]) (fun k hk l _ => by
        have hk : k < xs.length := by rwa [zip_len hl] at hk
        have h1 : ((k : Int) < (xs.length : Int)) := Int.ofNat_lt.2 hk
        have h2 := h0.2 _ (List.getElem_mem hk)
        have h3 : (xs.zip ys)[k] = (xs[k], ys[k]'(by omega)) := by simp
        rw [h3]
        cases hc : eqv xs[k] (ys[k]'(by omega))
        · exact .inl ⟨rfl, fun G => by simp only [go_sem, reduceIte, ↓reduceIte, reduceCtorEq, nA, nS, nM, nB, nE, nL, nT, nN, iL, iT, iE, iA, iM, iS, iG, iB, iN, iZ, h, hc, map_gd rBool xs k hk, map_gd rBool ys k (by omega), idx_nt ys.length k (by omega), eqv_boolne2, h1, idx_nt _ _ hk, wrap_nat1 (show k < 9223372036854775807 by omega), hb]⟩
        · exact .inr ⟨rfl, trivial, _, fun G => by simp only [go_sem, reduceIte, ↓reduceIte, reduceCtorEq, nA, nS, nM, nB, nE, nL, nT, nN, iL, iT, iE, iA, iM, iS, iG, iB, iN, iZ, h, hc, map_gd rBool xs k hk, map_gd rBool ys k (by omega), idx_nt ys.length k (by omega), eqv_boolne2, h1, idx_nt _ _ hk, wrap_nat1 (show k < 9223372036854775807 by omega), hb] <;> with_reducible rfl, by simp only [go_sem, reduceIte, ↓reduceIte, reduceCtorEq, nA, nS, nM, nB, nE, nL, nT, nN, iL, iT, iE, iA, iM, iS, iG, iB, iN, iZ, h]⟩) () trivial (xs.length + 1) (by rw [zip_len hl]; exact Nat.le_refl _)
    rw [hb] at hr
    have hl2 : ((xs.length : Int) != (ys.length : Int)) = false := by simp [hl]
    rcases hq with ⟨s', e1, e2, e3⟩ | ⟨x, s', e1, e3⟩
    · simp only [go_sem, reduceIte, ↓reduceIte, reduceCtorEq, nA, nS, nM, nB, nE, nL, nT, nN, iL, iT, iE, iA, iM, iS, iG, iB, iN, iZ, h, hl2, hr, e3, zip_eqv hl e1]
    · simp only [go_sem, reduceIte, ↓reduceIte, reduceCtorEq, nA, nS, nM, nB, nE, nL, nT, nN, iL, iT, iE, iA, iM, iS, iG, iB, iN, iZ, h, hl2, hr, e3, zip_nev hl e1]
  · have hl2 : ((xs.length : Int) != (ys.length : Int)) = true := by simpa using fun h => hl (Int.ofNat_inj.1 h)
    simp only [go_sem, reduceIte, ↓reduceIte, reduceCtorEq, nA, nS, nM, nB, nE, nL, nT, nN, iL, iT, iE, iA, iM, iS, iG, iB, iN, iZ, h, hl2, len_nev hl]) (rfl)
noncomputable def s32 : SP Try.prog := mkS tyA 32 Try.f32 [s77, s78] { md := [.ro 1, .ro 1], rg := [(0, [2, 3], [2, 3]), (1, [2, 3, 9], [2, 3]), (2, [4], []), (3, [2, 3, 15], [2, 3]), (4, [4], []), (5, [21], []), (6, [4], []), (7, [4], [])], rets := some ([4], []) } Try.func32 (by kernel_rfl)
@[go_sem] theorem d32 : s32.g = 32 ∧ s32.fs = ⟨[.ro 1, .ro 1], s32.F, false⟩ := ⟨nr rfl, nr rfl⟩
@[go_sem] theorem e32 (xCode : Int) (xStates : List Int) (xAllowed : List Bool) (yCode : Int) (yStates : List Int) (yAllowed : List Bool) (h0 : smStatesResult (StatesResult.mk xCode xStates xAllowed)) : s32.F [.agg [.i .i64 xCode, .sl .ro 1 (xStates.map rInt), .sl .ro 1 (xAllowed.map rBool)], .agg [.i .i64 yCode, .sl .ro 1 (yStates.map rInt), .sl .ro 1 (yAllowed.map rBool)]] = some (.b (eqv (StatesResult.mk xCode xStates xAllowed) (StatesResult.mk yCode yStates yAllowed)), [.u, .u]) := mkS_eq (0) rfl rfl (fun cx h => by
  obtain ⟨q0, q1, q2⟩ := h0
  simp only [go_sem, reduceIte, ↓reduceIte, reduceCtorEq, nA, nS, nM, nB, nE, nL, nT, nN, iL, iT, iE, iA, iM, iS, iG, iB, iN, iZ, h, eqv_intne, eqv_bytes, eqv_boolne, q0, q1, q2]
  simp only [eqv_bool, eqv_int, StatesResult.eqv (StatesResult.mk xCode xStates xAllowed) (StatesResult.mk yCode yStates yAllowed), if_b, not_eq_t, if_nb, Bool.and_true]) (rfl)
noncomputable def s79 : SP Try.prog := mkS tyA 79 Try.f79 [] { md := [.ro 1, .ro 1], rg := [(0, [2, 3], [2, 3]), (1, [2, 3, 9], [2, 3]), (2, [4], []), (3, [2, 3, 14], [2, 3]), (4, [4], []), (5, [19], []), (6, [4], []), (7, [4], [])], rets := some ([4], []) } Try.func79 (by kernel_rfl)
@[go_sem] theorem d79 : s79.g = 79 ∧ s79.fs = ⟨[.ro 1, .ro 1], s79.F, false⟩ := ⟨nr rfl, nr rfl⟩
@[go_sem] theorem e79 (xAt : Int) (xAsk : Bool) (xGood : Bool) (yAt : Int) (yAsk : Bool) (yGood : Bool) (h0 : smTrace (Trace.mk xAt xAsk xGood)) : s79.F [.agg [.i .i64 xAt, .b xAsk, .b xGood], .agg [.i .i64 yAt, .b yAsk, .b yGood]] = some (.b (eqv (Trace.mk xAt xAsk xGood) (Trace.mk yAt yAsk yGood)), [.u, .u]) := mkS_eq (0) rfl rfl (fun cx h => by
  obtain ⟨q0, q1, q2⟩ := h0
  simp only [go_sem, reduceIte, ↓reduceIte, reduceCtorEq, nA, nS, nM, nB, nE, nL, nT, nN, iL, iT, iE, iA, iM, iS, iG, iB, iN, iZ, h, eqv_intne, eqv_bytes, eqv_boolne, q0, q1, q2]
  simp only [eqv_bool, eqv_int, Trace.eqv (Trace.mk xAt xAsk xGood) (Trace.mk yAt yAsk yGood), if_b, not_eq_t, if_nb, Bool.and_true]) (rfl)
noncomputable def s33 : SP Try.prog := mkS tyA 33 Try.f33 [s79] { md := [.ro 1, .ro 1], rg := [(0, [0, 1], []), (1, [0, 1, 10], []), (2, [4], []), (3, [0, 1, 5], []), (4, [0, 1, 5, 14], []), (5, [0, 1, 5], []), (6, [0, 1, 5, 26], []), (7, [4], []), (8, [4], [])], lv := [(0, [0, 1, 5], [])], out := [(0, [], [])], rets := some ([4], []), plan := [(6, (.take 0 (.take 1 (.take 2 (.take 3 (.take 4 (.take 5 (.take 6 (.take 7 (.one 8 (.take 9 .done)))))))))))] } Try.func33 (by kernel_rfl)
@[go_sem] theorem d33 : s33.g = 33 ∧ s33.fs = ⟨[.ro 1, .ro 1], s33.F, false⟩ := ⟨nr rfl, nr rfl⟩
@[go_sem] theorem e33 (xs ys : List Trace) (h0 : smL smTrace xs) : s33.F [.sl .ro 3 (xs.map (rTrace .ro)), .sl .ro 3 (ys.map (rTrace .ro))] = some (.b (eqv xs ys), [.u, .u]) := mkS_eq (xs.length + 1) rfl rfl (fun cx h => by
  have hb := loopN_eq Try.f33 0 _ _ rfl rfl
  have hx := h0.1
  by_cases hl : xs.length = ys.length
  · obtain ⟨r, hr, hq⟩ := loop_list (cx := cx) (blk := 0) (body := loopN Try.f33 0) (xs.zip ys) (fun k (_ : Unit) => ⟨E [(0, .sl .ro 3 (xs.map (rTrace .ro))), (1, .sl .ro 3 (ys.map (rTrace .ro))), (5, .i .i64 k)], B []⟩) (fun _ => ⟨E [], B []⟩) (fun x _ => !eqv x.1 x.2) (fun _ _ => ()) (fun _ _ => (.ret, ⟨E [(4, .b false)], B []⟩)) (fun _ _ => True)
      (fun l _ G => by simp only [go_sem, reduceIte, ↓reduceIte, reduceCtorEq, nA, nS, nM, nB, nE, nL, nT, nN, iL, iT, iE, iA, iM, iS, iG, iB, iN, iZ, h, zip_len hl, hl, Int.lt_irrefl, hb]) (fun k hk l _ => by
        have hk : k < xs.length := by rwa [zip_len hl] at hk
        have h1 : ((k : Int) < (xs.length : Int)) := Int.ofNat_lt.2 hk
        have h2 := h0.2 _ (List.getElem_mem hk)
        have h3 : (xs.zip ys)[k] = (xs[k], ys[k]'(by omega)) := by simp
        rw [h3]
        cases hc : eqv xs[k] (ys[k]'(by omega))
        · exact .inl ⟨rfl, fun G => by simp only [go_sem, reduceIte, ↓reduceIte, reduceCtorEq, nA, nS, nM, nB, nE, nL, nT, nN, iL, iT, iE, iA, iM, iS, iG, iB, iN, iZ, h, hc, map_gd (rTrace .ro) xs k hk, map_gd (rTrace .ro) ys k (by omega), idx_nt ys.length k (by omega), h2, h1, idx_nt _ _ hk, wrap_nat1 (show k < 9223372036854775807 by omega), hb]⟩
        · exact .inr ⟨rfl, trivial, _, fun G => by simp only [go_sem, reduceIte, ↓reduceIte, reduceCtorEq, nA, nS, nM, nB, nE, nL, nT, nN, iL, iT, iE, iA, iM, iS, iG, iB, iN, iZ, h, hc, map_gd (rTrace .ro) xs k hk, map_gd (rTrace .ro) ys k (by omega), idx_nt ys.length k (by omega), h2, h1, idx_nt _ _ hk, wrap_nat1 (show k < 9223372036854775807 by omega), hb] <;> with_reducible rfl, by simp only [go_sem, reduceIte, ↓reduceIte, reduceCtorEq, nA, nS, nM, nB, nE, nL, nT, nN, iL, iT, iE, iA, iM, iS, iG, iB, iN, iZ, h]⟩) () trivial (xs.length + 1) (by rw [zip_len hl]; exact Nat.le_refl _)
    rw [hb] at hr
    have hl2 : ((xs.length : Int) != (ys.length : Int)) = false := by simp [hl]
    rcases hq with ⟨s', e1, e2, e3⟩ | ⟨x, s', e1, e3⟩
    · simp only [go_sem, reduceIte, ↓reduceIte, reduceCtorEq, nA, nS, nM, nB, nE, nL, nT, nN, iL, iT, iE, iA, iM, iS, iG, iB, iN, iZ, h, hl2, hr, e3, zip_eqv hl e1]
    · simp only [go_sem, reduceIte, ↓reduceIte, reduceCtorEq, nA, nS, nM, nB, nE, nL, nT, nN, iL, iT, iE, iA, iM, iS, iG, iB, iN, iZ, h, hl2, hr, e3, zip_nev hl e1]
  · have hl2 : ((xs.length : Int) != (ys.length : Int)) = true := by simpa using fun h => hl (Int.ofNat_inj.1 h)
    simp only [go_sem, reduceIte, ↓reduceIte, reduceCtorEq, nA, nS, nM, nB, nE, nL, nT, nN, iL, iT, iE, iA, iM, iS, iG, iB, iN, iZ, h, hl2, len_nev hl]) (rfl)
noncomputable def s34 : SP Try.prog := mkS tyA 34 Try.f34 [] { md := [.mv, .ro 1], rg := [(0, [0, 1], []), (1, [0, 1, 5], []), (2, [0, 1, 5, 9], []), (3, [0, 1, 5], []), (4, [0, 1, 5], []), (5, [0, 1, 5], []), (6, [0, 1, 5], []), (7, [0, 1, 5], []), (8, [0, 1, 5], []), (9, [0, 1, 5], []), (10, [0, 4], [])], lv := [(0, [0, 1, 5], [])], out := [(0, [0, 1], [])], rets := some ([0, 4], []) } Try.func34 (by kernel_rfl)
@[go_sem] theorem d34 : s34.g = 34 ∧ s34.fs = ⟨[.mv, .ro 1], s34.F, false⟩ := ⟨nr rfl, nr rfl⟩
@[go_sem] theorem e34 (xs : List Trace) (k : Int) (h1 : 0 ≤ k) (h0 : (mkL mkTraceE xs k).2 ≤ 9223372036854775807) : s34.F [.sl .mut 3 (xs.map (rTrace .mut)), .i .i64 k] = some (.i .i64 (mkL mkTraceE xs k).2, [.sl .mut 3 ((mkL mkTraceE xs k).1.map (rTrace .mut)), .u]) := mkS_eq (xs.length + 1) rfl rfl (fun cx h => by
  have hb := loopN_eq Try.f34 0 _ _ rfl rfl
  have hx := mkL_cnt mkTraceE_ge xs k
  have hr := (loop_fold (cx := cx) (blk := 0) (body := loopN Try.f34 0) xs (fun i (s : Int) => ⟨E [(0, .sl .mut 3 ((mkUp mkTraceE xs k i).map (rTrace .mut))), (1, .i .i64 s), (5, .i .i64 i)], B []⟩) (fun _ => ⟨E [(0, .sl .mut 3 ((mkL mkTraceE xs k).1.map (rTrace .mut))), (1, .i .i64 (mkL mkTraceE xs k).2)], B []⟩) (fun x s => (mkTraceE x s).2) (fun i s => s = mkAt mkTraceE xs k i)
    (fun s hI G => by simp only [go_sem, reduceIte, ↓reduceIte, reduceCtorEq, nA, nS, nM, nB, nE, nL, nT, nN, iL, iT, iE, iA, iM, iS, iG, iB, iN, iZ, h, Int.lt_irrefl, hb, mkUp_len, mkL_take, mkUp_take, mkUp_end, mkL_len, hI, mkAt_end]) (fun i hk s hI => by
      have h2 : ((i : Int) < (xs.length : Int)) := Int.ofNat_lt.2 hk
      have g1 := mkAt_ge mkTraceE_ge xs k i
      have g2 := mkAt_le mkTraceE_ge xs k i hk
      rw [← hI] at g1 g2

      have h3 := mkUp_set (f := mkTraceE) (rTrace .mut) xs k i hk
      rw [← hI] at h3
      simp only [mkTraceE, rTrace] at h3 g2
      have v0 : (IntKind.i64).wrap (s) = s := wrap_id (by omega) (by omega)
      have v1 : (IntKind.i64).wrap (s + 1) = s + 1 := wrap_id (by omega) (by omega)
      have v2 : (IntKind.i64).wrap (s + 1 + 1) = s + 1 + 1 := wrap_id (by omega) (by omega)
      have v3 : (IntKind.i64).wrap (s + 1 + 1 + 1) = s + 1 + 1 + 1 := wrap_id (by omega) (by omega)
      have hL : i < ((mkUp mkTraceE xs k i).map (rTrace .mut)).length := by rw [List.length_map, mkUp_len]; exact hk
      have hg := fun y => set_get ((mkUp mkTraceE xs k i).map (rTrace .mut)) i y hL
      have hG := fun y => set_getD ((mkUp mkTraceE xs k i).map (rTrace .mut)) i y hL
      refine ⟨by rw [mkAt_succ xs k i hk, ← hI], _, fun G => by simp only [go_sem, reduceIte, ↓reduceIte, reduceCtorEq, nA, nS, nM, nB, nE, nL, nT, nN, iL, iT, iE, iA, iM, iS, iG, iB, iN, iZ, h, h3, hg, hG, mkUp_len (f := mkTraceE) xs k i, mkUp_get (f := mkTraceE) (rTrace .mut) xs k i hk, mkUp_getD (f := mkTraceE) (rTrace .mut) xs k i hk, mkUp_take (f := mkTraceE) (rTrace .mut) xs k i, mkB_def, v0, v1, v2, v3, h2, idx_nt _ _ hk, wrap_nat1 (show i < 9223372036854775807 by omega), hb] <;> with_reducible rfl, by simp only [go_sem, reduceIte, ↓reduceIte, reduceCtorEq, nA, nS, nM, nB, nE, nL, nT, nN, iL, iT, iE, iA, iM, iS, iG, iB, iN, iZ, h, mkTraceE]⟩) k rfl (xs.length + 1) (Nat.le_refl _)).2
  rw [hb] at hr
  simp only [go_sem, reduceIte, ↓reduceIte, reduceCtorEq, nA, nS, nM, nB, nE, nL, nT, nN, iL, iT, iE, iA, iM, iS, iG, iB, iN, iZ, h, hr, mkUp_zero]) (by simp only [go_sem, reduceIte, ↓reduceIte, reduceCtorEq, nA, nS, nM, nB, nE, nL, nT, nN, iL, iT, iE, iA, iM, iS, iG, iB, iN, iZ, okRes, hasRo])
noncomputable def s80 : SP Try.prog := mkS tyA 80 Try.f80 [] { md := [.mv, .ro 1], rg := [(0, [0, 1], []), (1, [0, 1, 5], []), (2, [0, 1, 5, 9], []), (3, [0, 1, 5], []), (4, [0, 1, 5], []), (5, [0, 1, 5], []), (6, [0, 4], [])], lv := [(0, [0, 1, 5], [])], out := [(0, [0, 1], [])], rets := some ([0, 4], []) } Try.func80 (by kernel_rfl)
@[go_sem] theorem d80 : s80.g = 80 ∧ s80.fs = ⟨[.mv, .ro 1], s80.F, false⟩ := ⟨nr rfl, nr rfl⟩
@[go_sem] theorem e80 (xs : List Int) (k : Int) (h1 : 0 ≤ k) (h0 : (mkL mkInt xs k).2 ≤ 9223372036854775807) : s80.F [.sl .mut 1 (xs.map rInt), .i .i64 k] = some (.i .i64 (mkL mkInt xs k).2, [.sl .mut 1 ((mkL mkInt xs k).1.map rInt), .u]) := mkS_eq (xs.length + 1) rfl rfl (fun cx h => by
  have hb := loopN_eq Try.f80 0 _ _ rfl rfl
  have hx := mkL_cnt mkInt_ge xs k
  have hr := (loop_fold (cx := cx) (blk := 0) (body := loopN Try.f80 0) xs (fun i (s : Int) => ⟨E [(0, .sl .mut 1 ((mkUp mkInt xs k i).map rInt)), (1, .i .i64 s), (5, .i .i64 i)], B []⟩) (fun _ => ⟨E [(0, .sl .mut 1 ((mkL mkInt xs k).1.map rInt)), (1, .i .i64 (mkL mkInt xs k).2)], B []⟩) (fun x s => (mkInt x s).2) (fun i s => s = mkAt mkInt xs k i)
    (fun s hI G => by simp only [go_sem, reduceIte, ↓reduceIte, reduceCtorEq, nA, nS, nM, nB, nE, nL, nT, nN, iL, iT, iE, iA, iM, iS, iG, iB, iN, iZ, h, Int.lt_irrefl, hb, mkUp_len, mkL_take, mkUp_take, mkUp_end, mkL_len, hI, mkAt_end]) (fun i hk s hI => by
      have h2 : ((i : Int) < (xs.length : Int)) := Int.ofNat_lt.2 hk
      have g1 := mkAt_ge mkInt_ge xs k i
      have g2 := mkAt_le mkInt_ge xs k i hk
      rw [← hI] at g1 g2

      have h3 := mkUp_set (f := mkInt) rInt xs k i hk
      rw [← hI] at h3
      simp only [mkInt, rInt] at h3 g2
      have v0 : (IntKind.i64).wrap (s) = s := wrap_id (by omega) (by omega)
      have v1 : (IntKind.i64).wrap (s + 1) = s + 1 := wrap_id (by omega) (by omega)
      have hL : i < ((mkUp mkInt xs k i).map rInt).length := by rw [List.length_map, mkUp_len]; exact hk
      have hg := fun y => set_get ((mkUp mkInt xs k i).map rInt) i y hL
      have hG := fun y => set_getD ((mkUp mkInt xs k i).map rInt) i y hL
      refine ⟨by rw [mkAt_succ xs k i hk, ← hI], _, fun G => by simp only [go_sem, reduceIte, ↓reduceIte, reduceCtorEq, nA, nS, nM, nB, nE, nL, nT, nN, iL, iT, iE, iA, iM, iS, iG, iB, iN, iZ, h, h3, hg, hG, mkUp_len (f := mkInt) xs k i, mkUp_get (f := mkInt) rInt xs k i hk, mkUp_getD (f := mkInt) rInt xs k i hk, mkUp_take (f := mkInt) rInt xs k i, mkB_def, v0, v1, h2, idx_nt _ _ hk, wrap_nat1 (show i < 9223372036854775807 by omega), hb] <;> with_reducible rfl, by simp only [go_sem, reduceIte, ↓reduceIte, reduceCtorEq, nA, nS, nM, nB, nE, nL, nT, nN, iL, iT, iE, iA, iM, iS, iG, iB, iN, iZ, h, mkInt]⟩) k rfl (xs.length + 1) (Nat.le_refl _)).2
  rw [hb] at hr
  simp only [go_sem, reduceIte, ↓reduceIte, reduceCtorEq, nA, nS, nM, nB, nE, nL, nT, nN, iL, iT, iE, iA, iM, iS, iG, iB, iN, iZ, h, hr, mkUp_zero]) (by simp only [go_sem, reduceIte, ↓reduceIte, reduceCtorEq, nA, nS, nM, nB, nE, nL, nT, nN, iL, iT, iE, iA, iM, iS, iG, iB, iN, iZ, okRes, hasRo])
noncomputable def s81 : SP Try.prog := mkS tyA 81 Try.f81 [] { md := [.mv, .ro 1], rg := [(0, [0, 1], []), (1, [0, 1, 5], []), (2, [0, 1, 5, 9], []), (3, [0, 1, 5], []), (4, [0, 1, 5], []), (5, [0, 1, 5], []), (6, [0, 4], [])], lv := [(0, [0, 1, 5], [])], out := [(0, [0, 1], [])], rets := some ([0, 4], []) } Try.func81 (by kernel_rfl)
@[go_sem] theorem d81 : s81.g = 81 ∧ s81.fs = ⟨[.mv, .ro 1], s81.F, false⟩ := ⟨nr rfl, nr rfl⟩
@[go_sem] theorem e81 (xs : List Bool) (k : Int) (h1 : 0 ≤ k) (h0 : (mkL mkBool xs k).2 ≤ 9223372036854775807) : s81.F [.sl .mut 1 (xs.map rBool), .i .i64 k] = some (.i .i64 (mkL mkBool xs k).2, [.sl .mut 1 ((mkL mkBool xs k).1.map rBool), .u]) := mkS_eq (xs.length + 1) rfl rfl (fun cx h => by
  have hb := loopN_eq Try.f81 0 _ _ rfl rfl
  have hx := mkL_cnt mkBool_ge xs k
  have hr := (loop_fold (cx := cx) (blk := 0) (body := loopN Try.f81 0) xs (fun i (s : Int) => ⟨E [(0, .sl .mut 1 ((mkUp mkBool xs k i).map rBool)), (1, .i .i64 s), (5, .i .i64 i)], B []⟩) (fun _ => ⟨E [(0, .sl .mut 1 ((mkL mkBool xs k).1.map rBool)), (1, .i .i64 (mkL mkBool xs k).2)], B []⟩) (fun x s => (mkBool x s).2) (fun i s => s = mkAt mkBool xs k i)
    (fun s hI G => by simp only [go_sem, reduceIte, ↓reduceIte, reduceCtorEq, nA, nS, nM, nB, nE, nL, nT, nN, iL, iT, iE, iA, iM, iS, iG, iB, iN, iZ, h, Int.lt_irrefl, hb, mkUp_len, mkL_take, mkUp_take, mkUp_end, mkL_len, hI, mkAt_end]) (fun i hk s hI => by
      have h2 : ((i : Int) < (xs.length : Int)) := Int.ofNat_lt.2 hk
      have g1 := mkAt_ge mkBool_ge xs k i
      have g2 := mkAt_le mkBool_ge xs k i hk
      rw [← hI] at g1 g2

      have h3 := mkUp_set (f := mkBool) rBool xs k i hk
      rw [← hI] at h3
      simp only [mkBool, rBool] at h3 g2
      have v0 : (IntKind.i64).wrap (s) = s := wrap_id (by omega) (by omega)
      have v1 : (IntKind.i64).wrap (s + 1) = s + 1 := wrap_id (by omega) (by omega)
      have hL : i < ((mkUp mkBool xs k i).map rBool).length := by rw [List.length_map, mkUp_len]; exact hk
      have hg := fun y => set_get ((mkUp mkBool xs k i).map rBool) i y hL
      have hG := fun y => set_getD ((mkUp mkBool xs k i).map rBool) i y hL
      refine ⟨by rw [mkAt_succ xs k i hk, ← hI], _, fun G => by simp only [go_sem, reduceIte, ↓reduceIte, reduceCtorEq, nA, nS, nM, nB, nE, nL, nT, nN, iL, iT, iE, iA, iM, iS, iG, iB, iN, iZ, h, h3, hg, hG, mkUp_len (f := mkBool) xs k i, mkUp_get (f := mkBool) rBool xs k i hk, mkUp_getD (f := mkBool) rBool xs k i hk, mkUp_take (f := mkBool) rBool xs k i, mkB_def, v0, v1, h2, idx_nt _ _ hk, wrap_nat1 (show i < 9223372036854775807 by omega), hb] <;> with_reducible rfl, by simp only [go_sem, reduceIte, ↓reduceIte, reduceCtorEq, nA, nS, nM, nB, nE, nL, nT, nN, iL, iT, iE, iA, iM, iS, iG, iB, iN, iZ, h, mkBool]⟩) k rfl (xs.length + 1) (Nat.le_refl _)).2
  rw [hb] at hr
  simp only [go_sem, reduceIte, ↓reduceIte, reduceCtorEq, nA, nS, nM, nB, nE, nL, nT, nN, iL, iT, iE, iA, iM, iS, iG, iB, iN, iZ, h, hr, mkUp_zero]) (by simp only [go_sem, reduceIte, ↓reduceIte, reduceCtorEq, nA, nS, nM, nB, nE, nL, nT, nN, iL, iT, iE, iA, iM, iS, iG, iB, iN, iZ, okRes, hasRo])
noncomputable def s35 : SP Try.prog := mkS tyA 35 Try.f35 [s80, s81] { md := [.mv, .ro 1], rg := [(0, [0, 1, 2], [2]), (1, [0, 1, 2], [2]), (2, [0, 1], []), (3, [0, 4], [])], rets := some ([0, 4], []), al := [2] } Try.func35 (by kernel_rfl)
@[go_sem] theorem d35 : s35.g = 35 ∧ s35.fs = ⟨[.mv, .ro 1], s35.F, false⟩ := ⟨nr rfl, nr rfl⟩
@[go_sem] theorem e35 (xCode : Int) (xStates : List Int) (xAllowed : List Bool) (k : Int) (h1 : 0 ≤ k) (h0 : (mkStatesResultV (StatesResult.mk xCode xStates xAllowed) k).2 ≤ 9223372036854775807) : s35.F [.agg [.i .i64 xCode, .sl .mut 1 (xStates.map rInt), .sl .mut 1 (xAllowed.map rBool)], .i .i64 k] = some (.i .i64 (mkStatesResultV (StatesResult.mk xCode xStates xAllowed) k).2, [.agg (rStatesResult .mut (mkStatesResultV (StatesResult.mk xCode xStates xAllowed) k).1), .u]) := mkS_eq (0) rfl rfl (fun cx h => by
  obtain ⟨q0, hq0⟩ : ∃ q, (mkL mkInt xStates k).2 = q := ⟨_, rfl⟩
  have b0 := mkL_ge mkInt_ge xStates k
  rw [hq0] at b0
  have p0 : 0 ≤ k := by omega
  obtain ⟨q1, hq1⟩ : ∃ q, (mkL mkBool xAllowed q0).2 = q := ⟨_, rfl⟩
  have b1 := mkL_ge mkBool_ge xAllowed q0
  rw [hq1] at b1
  have p1 : 0 ≤ q0 := by omega
  simp only [mkStatesResultV_eq, hq0, hq1] at h0
  have c0 : q0 ≤ 9223372036854775807 := by omega
  have d0 : ¬ (q0 < 0) := by omega
  have c1 : q1 ≤ 9223372036854775807 := by omega
  have d1 : ¬ (q1 < 0) := by omega
  simp only [go_sem, reduceIte, ↓reduceIte, reduceCtorEq, nA, nS, nM, nB, nE, nL, nT, nN, iL, iT, iE, iA, iM, iS, iG, iB, iN, iZ, h, p0, p1, c0, d0, c1, d1, hq0, hq1, mkStatesResultV_eq]) (by simp only [go_sem, reduceIte, ↓reduceIte, reduceCtorEq, nA, nS, nM, nB, nE, nL, nT, nN, iL, iT, iE, iA, iM, iS, iG, iB, iN, iZ, mkStatesResultV_eq, okRes, hasRo, hasRoL, hasRoLL])
noncomputable def s82 : SP Try.prog := mkS tyA 82 Try.f82 [] { md := [.ro 1, .ro 1], rg := [(0, [0, 1], []), (1, [0, 1, 5], []), (2, [0, 1, 5, 9], []), (3, [0, 1, 5], []), (4, [0, 1, 5, 17], []), (5, [4], []), (6, [0, 1, 5], []), (7, [4], [])], lv := [(0, [0, 1, 5], [])], out := [(0, [1], [])], rets := some ([4], []) } Try.func82 (by kernel_rfl)
@[go_sem] theorem d82 : s82.g = 82 ∧ s82.fs = ⟨[.ro 1, .ro 1], s82.F, false⟩ := ⟨nr rfl, nr rfl⟩
@[go_sem] theorem e82 (xs : List Int) (k : Int) (h1 : 0 ≤ k) (h0 : (mkL mkInt xs k).2 ≤ 9223372036854775807) : s82.F [.sl .ro 1 ((mkL mkInt xs k).1.map rInt), .i .i64 k] = some (.i .i64 (mkL mkInt xs k).2, [.u, .u]) := mkS_eq (xs.length + 1) rfl rfl (fun cx h => by
  have hb := loopN_eq Try.f82 0 _ _ rfl rfl
  have hx := mkL_cnt mkInt_ge xs k
  have hr := (loop_fold (cx := cx) (blk := 0) (body := loopN Try.f82 0) xs (fun i (s : Int) => ⟨E [(0, .sl .ro 1 ((mkL mkInt xs k).1.map rInt)), (1, .i .i64 s), (5, .i .i64 i)], B []⟩) (fun _ => ⟨E [(1, .i .i64 (mkL mkInt xs k).2)], B []⟩) (fun x s => (mkInt x s).2) (fun i s => s = mkAt mkInt xs k i)
    (fun s hI G => by simp only [go_sem, reduceIte, ↓reduceIte, reduceCtorEq, nA, nS, nM, nB, nE, nL, nT, nN, iL, iT, iE, iA, iM, iS, iG, iB, iN, iZ, h, Int.lt_irrefl, hb, mkL_len, hI, mkAt_end]) (fun i hk s hI => by
      have h2 : ((i : Int) < (xs.length : Int)) := Int.ofNat_lt.2 hk
      have g1 := mkAt_ge mkInt_ge xs k i
      have g2 := mkAt_le mkInt_ge xs k i hk
      rw [← hI] at g1 g2

      have h3 := mkL_gd (f := mkInt) rInt xs k i hk
      rw [← hI] at h3
      simp only [mkInt, rInt] at h3 g2
      have v0 : (IntKind.i64).wrap (s) = s := wrap_id (by omega) (by omega)
      have v1 : (IntKind.i64).wrap (s + 1) = s + 1 := wrap_id (by omega) (by omega)
      refine ⟨by rw [mkAt_succ xs k i hk, ← hI], _, fun G => by simp only [go_sem, reduceIte, ↓reduceIte, reduceCtorEq, nA, nS, nM, nB, nE, nL, nT, nN, iL, iT, iE, iA, iM, iS, iG, iB, iN, iZ, h, h3, mkL_len, mkB_def, v0, v1, h2, idx_nt _ _ hk, wrap_nat1 (show i < 9223372036854775807 by omega), hb] <;> with_reducible rfl, by simp only [go_sem, reduceIte, ↓reduceIte, reduceCtorEq, nA, nS, nM, nB, nE, nL, nT, nN, iL, iT, iE, iA, iM, iS, iG, iB, iN, iZ, h, mkInt]⟩) k rfl (xs.length + 1) (Nat.le_refl _)).2
  rw [hb] at hr
  simp only [go_sem, reduceIte, ↓reduceIte, reduceCtorEq, nA, nS, nM, nB, nE, nL, nT, nN, iL, iT, iE, iA, iM, iS, iG, iB, iN, iZ, h, hr]) (rfl)
noncomputable def s83 : SP Try.prog := mkS tyA 83 Try.f83 [] { md := [.ro 1, .ro 1], rg := [(0, [0, 1], []), (1, [0, 1, 5], []), (2, [0, 1, 5, 9], []), (3, [0, 1, 5], []), (4, [0, 1, 5, 19], []), (5, [4], []), (6, [0, 1, 5], []), (7, [4], [])], lv := [(0, [0, 1, 5], [])], out := [(0, [1], [])], rets := some ([4], []) } Try.func83 (by kernel_rfl)
@[go_sem] theorem d83 : s83.g = 83 ∧ s83.fs = ⟨[.ro 1, .ro 1], s83.F, false⟩ := ⟨nr rfl, nr rfl⟩
@[go_sem] theorem e83 (xs : List Bool) (k : Int) (h1 : 0 ≤ k) (h0 : (mkL mkBool xs k).2 ≤ 9223372036854775807) : s83.F [.sl .ro 1 ((mkL mkBool xs k).1.map rBool), .i .i64 k] = some (.i .i64 (mkL mkBool xs k).2, [.u, .u]) := mkS_eq (xs.length + 1) rfl rfl (fun cx h => by
  have hb := loopN_eq Try.f83 0 _ _ rfl rfl
  have hx := mkL_cnt mkBool_ge xs k
  have hr := (loop_fold (cx := cx) (blk := 0) (body := loopN Try.f83 0) xs (fun i (s : Int) => ⟨E [(0, .sl .ro 1 ((mkL mkBool xs k).1.map rBool)), (1, .i .i64 s), (5, .i .i64 i)], B []⟩) (fun _ => ⟨E [(1, .i .i64 (mkL mkBool xs k).2)], B []⟩) (fun x s => (mkBool x s).2) (fun i s => s = mkAt mkBool xs k i)
    (fun s hI G => by simp only [go_sem, reduceIte, ↓reduceIte, reduceCtorEq, nA, nS, nM, nB, nE, nL, nT, nN, iL, iT, iE, iA, iM, iS, iG, iB, iN, iZ, h, Int.lt_irrefl, hb, mkL_len, hI, mkAt_end]) (fun i hk s hI => by
      have h2 : ((i : Int) < (xs.length : Int)) := Int.ofNat_lt.2 hk
      have g1 := mkAt_ge mkBool_ge xs k i
      have g2 := mkAt_le mkBool_ge xs k i hk
      rw [← hI] at g1 g2

      have h3 := mkL_gd (f := mkBool) rBool xs k i hk
      rw [← hI] at h3
      simp only [mkBool, rBool] at h3 g2
      have v0 : (IntKind.i64).wrap (s) = s := wrap_id (by omega) (by omega)
      have v1 : (IntKind.i64).wrap (s + 1) = s + 1 := wrap_id (by omega) (by omega)
      refine ⟨by rw [mkAt_succ xs k i hk, ← hI], _, fun G => by simp only [go_sem, reduceIte, ↓reduceIte, reduceCtorEq, nA, nS, nM, nB, nE, nL, nT, nN, iL, iT, iE, iA, iM, iS, iG, iB, iN, iZ, h, h3, mkL_len, mkB_def, v0, v1, h2, idx_nt _ _ hk, wrap_nat1 (show i < 9223372036854775807 by omega), hb] <;> with_reducible rfl, by simp only [go_sem, reduceIte, ↓reduceIte, reduceCtorEq, nA, nS, nM, nB, nE, nL, nT, nN, iL, iT, iE, iA, iM, iS, iG, iB, iN, iZ, h, mkBool]⟩) k rfl (xs.length + 1) (Nat.le_refl _)).2
  rw [hb] at hr
  simp only [go_sem, reduceIte, ↓reduceIte, reduceCtorEq, nA, nS, nM, nB, nE, nL, nT, nN, iL, iT, iE, iA, iM, iS, iG, iB, iN, iZ, h, hr]) (rfl)
noncomputable def s36 : SP Try.prog := mkS tyA 36 Try.f36 [s82, s83] { md := [.ro 1, .ro 1], rg := [(0, [1, 2], [2]), (1, [1, 2], [2]), (2, [1, 2, 10], [2]), (3, [4], []), (4, [1], []), (5, [1, 16], []), (6, [4], []), (7, [4], [])], rets := some ([4], []) } Try.func36 (by kernel_rfl)
@[go_sem] theorem d36 : s36.g = 36 ∧ s36.fs = ⟨[.ro 1, .ro 1], s36.F, false⟩ := ⟨nr rfl, nr rfl⟩
@[go_sem] theorem e36 (xCode : Int) (xStates : List Int) (xAllowed : List Bool) (k : Int) (h1 : 0 ≤ k) (h0 : (mkStatesResultV (StatesResult.mk xCode xStates xAllowed) k).2 ≤ 9223372036854775807) : s36.F [.agg [.i .i64 xCode, .sl .ro 1 ((mkL mkInt xStates k).1.map rInt), .sl .ro 1 ((mkL mkBool xAllowed (mkL mkInt xStates k).2).1.map rBool)], .i .i64 k] = some (.i .i64 (mkStatesResultV (StatesResult.mk xCode xStates xAllowed) k).2, [.u, .u]) := mkS_eq (0) rfl rfl (fun cx h => by
  obtain ⟨q0, hq0⟩ : ∃ q, (mkL mkInt xStates k).2 = q := ⟨_, rfl⟩
  have b0 := mkL_ge mkInt_ge xStates k
  rw [hq0] at b0
  have p0 : 0 ≤ k := by omega
  obtain ⟨q1, hq1⟩ : ∃ q, (mkL mkBool xAllowed q0).2 = q := ⟨_, rfl⟩
  have b1 := mkL_ge mkBool_ge xAllowed q0
  rw [hq1] at b1
  have p1 : 0 ≤ q0 := by omega
  simp only [mkStatesResultV_eq, hq0, hq1] at h0
  have c0 : q0 ≤ 9223372036854775807 := by omega
  have d0 : ¬ (q0 < 0) := by omega
  have c1 : q1 ≤ 9223372036854775807 := by omega
  have d1 : ¬ (q1 < 0) := by omega
  simp only [go_sem, reduceIte, ↓reduceIte, reduceCtorEq, nA, nS, nM, nB, nE, nL, nT, nN, iL, iT, iE, iA, iM, iS, iG, iB, iN, iZ, h, p0, p1, c0, d0, c1, d1, hq0, hq1, mkStatesResultV_eq]) (rfl)
noncomputable def s6 : SP Try.prog := mkS tyA 6 Try.f6 [s16, s17, s29, s30, s31, s32, s33, s34, s35, s36] { md := [.ro 1, .ro 1], rg := [(0, [1, 2], [2]), (1, [1, 2, 5], [2]), (2, [1, 2, 5], [2]), (3, [1, 2, 17], [2]), (4, [4], []), (5, [1, 2, 6], [2, 6]), (6, [1, 2, 6, 7], [2, 6]), (7, [1, 2, 6, 7, 8], [2, 6, 8]), (8, [1, 2, 6, 7, 8, 32], [2, 6, 8]), (9, [4], []), (10, [1, 2, 6, 7, 8, 37], [2, 6, 8]), (11, [4], []), (12, [1, 2, 6, 7, 8, 9], [2, 6, 8]), (13, [1, 2, 6, 8, 9], [2, 6, 8]), (14, [1, 2, 6, 8, 48], [2, 6, 8]), (15, [4], []), (16, [1, 2, 6, 8, 10], [2, 6, 8]), (17, [1, 2, 6, 8, 10], [2, 6, 8]), (18, [1, 2, 6, 8, 10, 11], [2, 6, 8]), (19, [1, 2, 6, 8, 10, 11], [2, 6, 8]), (20, [1, 2, 6, 8, 10, 11, 56], [2, 6, 8]), (21, [4], []), (22, [1, 2, 6, 8, 10, 59], [2, 6, 8]), (23, [4], []), (24, [6, 8, 10, 12], [6, 8, 12]), (25, [8, 10, 68], [8]), (26, [4], []), (27, [8, 10, 11], [8]), (28, [10, 11], []), (29, [10, 11, 73], []), (30, [4], []), (31, [76], []), (32, [4], []), (33, [4], [])], rets := some ([4], []) } Try.func6 (by kernel_rfl)
@[go_sem] theorem d6 : s6.g = 6 ∧ s6.fs = ⟨[.ro 1, .ro 1], s6.F, false⟩ := ⟨nr rfl, nr rfl⟩
theorem e6 (rWindow : Int) (rMin : Int) (rRatio : Int) (rCool : Int) (rQuota : Int) (list : List Trace) (h0 : okRules (Rules.mk rWindow rMin rRatio rCool rQuota) ∧ (okL okTrace) list) : s6.F [.agg [.i .i64 rWindow, .i .i64 rMin, .i .i64 rRatio, .i .i64 rCool, .i .i64 rQuota], .sl .ro 3 (list.map (rTrace .ro))] = some (.b true, [.u, .u]) := mkS_eq (0) rfl rfl (fun cx h => by
  have h0_1 := h0.2
  by_cases hc1 : szF list.length 1048576 < 0
  · simp only [go_sem, reduceIte, ↓reduceIte, reduceCtorEq, nA, nS, nM, nB, nE, nL, nT, nN, iL, iT, iE, iA, iM, iS, iG, iB, iN, iZ, h, hc1, h0_1]
  obtain ⟨hs1, hl1⟩ := (szF_fact (fun _ => sm_trivTrace _)) _ _ h0_1 (by decide) (by decide) (show 0 ≤ szF list.length 1048576 by omega)
  have hs0 := sm_trivRules (Rules.mk rWindow rMin rRatio rCool rQuota)
  obtain ⟨R, hR⟩ : ∃ R, runTraces (Rules.mk rWindow rMin rRatio rCool rQuota) list = R := ⟨_, rfl⟩
  have hsm := runTraces_sm (Rules.mk rWindow rMin rRatio rCool rQuota) list
  rw [hR] at hsm
  have f0 := mkL_le (c := 3) (mkTraceE_le) list 1 hs1
  have g0 := mkL_ge mkTraceE_ge list 1
  have f0' := Int.le_trans f0 (show _ ≤ (9223372036854775807 : Int) by decide)
  have g0' := Int.not_lt.2 (Int.le_trans (show (0 : Int) ≤ 1 by decide) g0)
  have f1 := mkStatesResultV_le R 1 hsm
  have g1 := mkStatesResultV_ge R 1
  have f1' := Int.le_trans f1 (show _ ≤ (9223372036854775807 : Int) by decide)
  have g1' := Int.not_lt.2 (Int.le_trans (show (0 : Int) ≤ 1 by decide) g1)
  simp only [mkStatesResultV_eq] at f0' g0' f1' g1'
  simp only [go_sem, reduceIte, ↓reduceIte, reduceCtorEq, nA, nS, nM, nB, nE, nL, nT, nN, iL, iT, iE, iA, iM, iS, iG, iB, iN, iZ, h, hc1, hs1, h0_1, hs0, hR, hsm, f0', g0', f1', g1', eqv_self, mkStatesResultV_eq]) (rfl)
end Go.Vm.A
