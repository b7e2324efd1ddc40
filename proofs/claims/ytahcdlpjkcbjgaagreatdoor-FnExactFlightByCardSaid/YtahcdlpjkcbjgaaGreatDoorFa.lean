/- Functions of the program, walked by the evaluator. -/
import Derived.Test.YtahcdlpjkcbjgaaGreatDoorWb
import Derived.Test.YtahcdlpjkcbjgaaGreatDoorWa
set_option autoImplicit false
set_option maxRecDepth 100000
set_option maxHeartbeats 4000000
set_option linter.unusedVariables false
set_option linter.unusedSimpArgs false
namespace Go.Vm.A
open Go.Proofs
open Nat renaming reduceAdd → nA, reduceSub → nS, reduceMul → nM, reduceBEq → nB, reduceEqDiff → nE, reduceLeDiff → nL, reduceLT → nT, reduceBneDiff → nN
open Int renaming reduceLE → iL, reduceLT → iT, reduceEq → iE, reduceAdd → iA, reduceMul → iM, reduceSub → iS, reduceNeg → iG, reduceBEq → iB, reduceBNe → iN, reduceToNat → iZ

noncomputable def s107 : SP Tryz.prog := mkS tyA 107 Tryz.f107 [] { md := [.ro 1, .ro 1], rg := [(0, [1, 2], [2]), (1, [1, 2], [2]), (2, [1, 2, 11], [2]), (3, [4], []), (4, [1], []), (5, [1, 18], []), (6, [4], []), (7, [4], [])], rets := some ([4], []) } Tryz.func107 (by kernel_rfl)
@[go_sem] theorem d107 : s107.g = 107 ∧ s107.fs = ⟨[.ro 1, .ro 1], s107.F, false⟩ := ⟨nr rfl, nr rfl⟩
@[go_sem] theorem e107 (xName : ByteArray) (xValue : ByteArray) (l : Int) (h0 : okHeader (Header.mk xName xValue)) : s107.F [.agg [.s xName, .s xValue], .i .i64 l] = some (.i .i64 (szHeader (Header.mk xName xValue) l), [.u, .u]) := mkS_eq (0) rfl rfl (fun cx h => by
  obtain ⟨q0, q1⟩ := h0
  simp only [go_sem, reduceIte, ↓reduceIte, reduceCtorEq, nA, nS, nM, nB, nE, nL, nT, nN, iL, iT, iE, iA, iM, iS, iG, iB, iN, iZ, h, q0, q1]
  simp only [szHeader, szs, szn, if_i, decide_eq_true_eq]) (rfl)
noncomputable def s84 : SP Tryz.prog := mkS tyA 84 Tryz.f84 [s107] { md := [.ro 1, .ro 1], rg := [(0, [0, 1], []), (1, [0, 1], []), (2, [0, 1, 11], []), (3, [4], []), (4, [0, 1, 5], []), (5, [0, 1, 5, 15], []), (6, [0, 1, 5], []), (7, [0, 1, 5], []), (8, [0, 1, 5, 25], []), (9, [4], []), (10, [4], [])], lv := [(0, [0, 1, 5], [])], out := [(0, [1], [])], rets := some ([4], []) } Tryz.func84 (by kernel_rfl)
@[go_sem] theorem d84 : s84.g = 84 ∧ s84.fs = ⟨[.ro 1, .ro 1], s84.F, false⟩ := ⟨nr rfl, nr rfl⟩
@[go_sem] theorem e84 (xs : List Header) (l : Int) (h0 : okL okHeader xs) : s84.F [.sl .ro 2 (xs.map (rHeader .ro)), .i .i64 l] = some (.i .i64 (szL szHeader xs l), [.u, .u]) := mkS_eq (xs.length + 1) rfl rfl (fun cx h => by
  have hb := loopN_eq Tryz.f84 0 _ _ rfl rfl
  have hx := h0.1
  obtain ⟨r, hr, hq⟩ := loop_list (cx := cx) (blk := 0) (body := loopN Tryz.f84 0) xs (fun k l => ⟨E [(0, .sl .ro 2 (xs.map (rHeader .ro))), (1, .i .i64 l), (5, .i .i64 k)], B []⟩) (fun l => ⟨E [(1, .i .i64 l)], B []⟩) (fun x l => decide (szHeader x l < 0)) (fun x l => szHeader x l) (fun _ _ => (.ret, ⟨E [(4, .i .i64 (-1))], B []⟩)) (fun _ _ => True)
    (fun l _ G => by simp only [go_sem, reduceIte, ↓reduceIte, reduceCtorEq, nA, nS, nM, nB, nE, nL, nT, nN, iL, iT, iE, iA, iM, iS, iG, iB, iN, iZ, h, Int.lt_irrefl, hb]) (fun k hk l _ => by
      have h1 : ((k : Int) < (xs.length : Int)) := Int.ofNat_lt.2 hk
      have h2 := h0.2 _ (List.getElem_mem hk)
      by_cases hc : szHeader xs[k] l < 0
      · exact .inl ⟨decide_eq_true hc, fun G => by simp only [go_sem, reduceIte, ↓reduceIte, reduceCtorEq, nA, nS, nM, nB, nE, nL, nT, nN, iL, iT, iE, iA, iM, iS, iG, iB, iN, iZ, h, h2, hc, map_gd (rHeader .ro) xs k hk, h1, idx_nt _ _ hk, wrap_nat1 (show k < 9223372036854775807 by omega), hb]⟩
      · exact .inr ⟨decide_eq_false hc, trivial, _, fun G => by simp only [go_sem, reduceIte, ↓reduceIte, reduceCtorEq, nA, nS, nM, nB, nE, nL, nT, nN, iL, iT, iE, iA, iM, iS, iG, iB, iN, iZ, h, h2, hc, map_gd (rHeader .ro) xs k hk, h1, idx_nt _ _ hk, wrap_nat1 (show k < 9223372036854775807 by omega), hb] <;> with_reducible rfl, by simp only [go_sem, reduceIte, ↓reduceIte, reduceCtorEq, nA, nS, nM, nB, nE, nL, nT, nN, iL, iT, iE, iA, iM, iS, iG, iB, iN, iZ, h]⟩) ((IntKind.i64).wrap (l - (xs.length : Int))) trivial (xs.length + 1) (Nat.le_refl _)
  rw [hb] at hr
  unfold szL szs
  by_cases hc : (IntKind.i64).wrap (l - (xs.length : Int)) < 0
  · simp only [go_sem, reduceIte, ↓reduceIte, reduceCtorEq, nA, nS, nM, nB, nE, nL, nT, nN, iL, iT, iE, iA, iM, iS, iG, iB, iN, iZ, h, hc]
  · rcases hq with ⟨s', e1, e2, e3⟩ | ⟨x, s', e1, e3⟩
    · simp only [go_sem, reduceIte, ↓reduceIte, reduceCtorEq, nA, nS, nM, nB, nE, nL, nT, nN, iL, iT, iE, iA, iM, iS, iG, iB, iN, iZ, h, hc, hr, e3, szO_inl e1, Option.getD_some]
    · simp only [go_sem, reduceIte, ↓reduceIte, reduceCtorEq, nA, nS, nM, nB, nE, nL, nT, nN, iL, iT, iE, iA, iM, iS, iG, iB, iN, iZ, h, hc, hr, e3, szO_inr e1, Option.getD_none]) (rfl)
noncomputable def s60 : SP Tryz.prog := mkS tyA 60 Tryz.f60 [s84] { md := [.ro 1, .ro 1], rg := [(0, [1, 2], [2]), (1, [1, 2], [2]), (2, [1, 2, 11], [2]), (3, [4], []), (4, [1, 2], [2]), (5, [1, 2, 18], [2]), (6, [4], []), (7, [1, 2], [2]), (8, [1, 2, 25], [2]), (9, [4], []), (10, [1], []), (11, [1, 31], []), (12, [4], []), (13, [4], [])], rets := some ([4], []) } Tryz.func60 (by kernel_rfl)
@[go_sem] theorem d60 : s60.g = 60 ∧ s60.fs = ⟨[.ro 1, .ro 1], s60.F, false⟩ := ⟨nr rfl, nr rfl⟩
@[go_sem] theorem e60 (xMethod : ByteArray) (xHost : ByteArray) (xPath : ByteArray) (xHeaders : List Header) (l : Int) (h0 : okRequest (Request.mk xMethod xHost xPath xHeaders)) : s60.F [.agg [.s xMethod, .s xHost, .s xPath, .sl .ro 2 (xHeaders.map (rHeader .ro))], .i .i64 l] = some (.i .i64 (szRequest (Request.mk xMethod xHost xPath xHeaders) l), [.u, .u]) := mkS_eq (0) rfl rfl (fun cx h => by
  obtain ⟨q0, q1, q2, q3⟩ := h0
  simp only [go_sem, reduceIte, ↓reduceIte, reduceCtorEq, nA, nS, nM, nB, nE, nL, nT, nN, iL, iT, iE, iA, iM, iS, iG, iB, iN, iZ, h, q0, q1, q2, q3]
  simp only [szRequest, szs, szn, if_i, decide_eq_true_eq]) (rfl)
noncomputable def s61 : SP Tryz.prog := mkS tyA 61 Tryz.f61 [] { md := [.ro 1, .ro 1], rg := [(0, [0, 1], []), (1, [1], []), (2, [1, 10], []), (3, [4], []), (4, [4], [])], rets := some ([4], []) } Tryz.func61 (by kernel_rfl)
@[go_sem] theorem d61 : s61.g = 61 ∧ s61.fs = ⟨[.ro 1, .ro 1], s61.F, false⟩ := ⟨nr rfl, nr rfl⟩
@[go_sem] theorem e61 (xs : List Waiter) (l : Int) : s61.F [.sl .ro 4 (xs.map (rWaiter .ro)), .i .i64 l] = some (.i .i64 (szF xs.length l), [.u, .u]) := mkS_eq (0) rfl rfl (fun cx h => by
  simp only [go_sem, reduceIte, ↓reduceIte, reduceCtorEq, nA, nS, nM, nB, nE, nL, nT, nN, iL, iT, iE, iA, iM, iS, iG, iB, iN, iZ, h]
  simp only [szByteS, szF, szs, szn, if_i, decide_eq_true_eq]) (rfl)
noncomputable def s44 : SP Tryz.prog := mkS tyA 44 Tryz.f44 [s60, s61] { md := [.ro 1, .ro 1], rg := [(0, [1, 2], [2]), (1, [1, 2], [2]), (2, [1, 2, 11], [2]), (3, [4], []), (4, [1, 2], [2]), (5, [1, 2, 17], [2]), (6, [4], []), (7, [1], []), (8, [1, 23], []), (9, [4], []), (10, [4], [])], rets := some ([4], []) } Tryz.func44 (by kernel_rfl)
@[go_sem] theorem d44 : s44.g = 44 ∧ s44.fs = ⟨[.ro 1, .ro 1], s44.F, false⟩ := ⟨nr rfl, nr rfl⟩
@[go_sem] theorem e44 (xId : Int) (xKey : ByteArray) (xBack : Bool) (xOut : Bool) (xDue : Int) (xDoomed : Bool) (xGetMethod : ByteArray) (xGetHost : ByteArray) (xGetPath : ByteArray) (xGetHeaders : List Header) (xWaiters : List Waiter) (l : Int) (h0 : okFlight (Flight.mk xId xKey xBack xOut xDue xDoomed (Request.mk xGetMethod xGetHost xGetPath xGetHeaders) xWaiters)) : s44.F [.agg [.i .i64 xId, .s xKey, .b xBack, .b xOut, .i .i64 xDue, .b xDoomed, .s xGetMethod, .s xGetHost, .s xGetPath, .sl .ro 2 (xGetHeaders.map (rHeader .ro)), .sl .ro 4 (xWaiters.map (rWaiter .ro))], .i .i64 l] = some (.i .i64 (szFlight (Flight.mk xId xKey xBack xOut xDue xDoomed (Request.mk xGetMethod xGetHost xGetPath xGetHeaders) xWaiters) l), [.u, .u]) := mkS_eq (0) rfl rfl (fun cx h => by
  obtain ⟨q0, q1, q2, q3, q4, q5, q6, q7⟩ := h0
  simp only [go_sem, reduceIte, ↓reduceIte, reduceCtorEq, nA, nS, nM, nB, nE, nL, nT, nN, iL, iT, iE, iA, iM, iS, iG, iB, iN, iZ, h, q0, q1, q2, q3, q4, q5, q6, q7]
  simp only [szFlight, szs, szn, if_i, decide_eq_true_eq]) (rfl)
noncomputable def s11 : SP Tryz.prog := mkS tyA 11 Tryz.f11 [s44] { md := [.ro 1, .ro 1], rg := [(0, [0, 1], []), (1, [0, 1], []), (2, [0, 1, 11], []), (3, [4], []), (4, [0, 1, 5], []), (5, [0, 1, 5, 15], []), (6, [0, 1, 5], []), (7, [0, 1, 5], []), (8, [0, 1, 5, 25], []), (9, [4], []), (10, [4], [])], lv := [(0, [0, 1, 5], [])], out := [(0, [1], [])], rets := some ([4], []) } Tryz.func11 (by kernel_rfl)
@[go_sem] theorem d11 : s11.g = 11 ∧ s11.fs = ⟨[.ro 1, .ro 1], s11.F, false⟩ := ⟨nr rfl, nr rfl⟩
@[go_sem] theorem e11 (xs : List Flight) (l : Int) (h0 : okL okFlight xs) : s11.F [.sl .ro 11 (xs.map (rFlight .ro)), .i .i64 l] = some (.i .i64 (szL szFlight xs l), [.u, .u]) := mkS_eq (xs.length + 1) rfl rfl (fun cx h => by
  have hb := loopN_eq Tryz.f11 0 _ _ rfl rfl
  have hx := h0.1
  obtain ⟨r, hr, hq⟩ := loop_list (cx := cx) (blk := 0) (body := loopN Tryz.f11 0) xs (fun k l => ⟨E [(0, .sl .ro 11 (xs.map (rFlight .ro))), (1, .i .i64 l), (5, .i .i64 k)], B []⟩) (fun l => ⟨E [(1, .i .i64 l)], B []⟩) (fun x l => decide (szFlight x l < 0)) (fun x l => szFlight x l) (fun _ _ => (.ret, ⟨E [(4, .i .i64 (-1))], B []⟩)) (fun _ _ => True)
    (fun l _ G => by simp only [go_sem, reduceIte, ↓reduceIte, reduceCtorEq, nA, nS, nM, nB, nE, nL, nT, nN, iL, iT, iE, iA, iM, iS, iG, iB, iN, iZ, h, Int.lt_irrefl, hb]) (fun k hk l _ => by
      have h1 : ((k : Int) < (xs.length : Int)) := Int.ofNat_lt.2 hk
      have h2 := h0.2 _ (List.getElem_mem hk)
      by_cases hc : szFlight xs[k] l < 0
      · exact .inl ⟨decide_eq_true hc, fun G => by simp only [go_sem, reduceIte, ↓reduceIte, reduceCtorEq, nA, nS, nM, nB, nE, nL, nT, nN, iL, iT, iE, iA, iM, iS, iG, iB, iN, iZ, h, h2, hc, map_gd (rFlight .ro) xs k hk, h1, idx_nt _ _ hk, wrap_nat1 (show k < 9223372036854775807 by omega), hb]⟩
      · exact .inr ⟨decide_eq_false hc, trivial, _, fun G => by simp only [go_sem, reduceIte, ↓reduceIte, reduceCtorEq, nA, nS, nM, nB, nE, nL, nT, nN, iL, iT, iE, iA, iM, iS, iG, iB, iN, iZ, h, h2, hc, map_gd (rFlight .ro) xs k hk, h1, idx_nt _ _ hk, wrap_nat1 (show k < 9223372036854775807 by omega), hb] <;> with_reducible rfl, by simp only [go_sem, reduceIte, ↓reduceIte, reduceCtorEq, nA, nS, nM, nB, nE, nL, nT, nN, iL, iT, iE, iA, iM, iS, iG, iB, iN, iZ, h]⟩) ((IntKind.i64).wrap (l - (xs.length : Int))) trivial (xs.length + 1) (Nat.le_refl _)
  rw [hb] at hr
  unfold szL szs
  by_cases hc : (IntKind.i64).wrap (l - (xs.length : Int)) < 0
  · simp only [go_sem, reduceIte, ↓reduceIte, reduceCtorEq, nA, nS, nM, nB, nE, nL, nT, nN, iL, iT, iE, iA, iM, iS, iG, iB, iN, iZ, h, hc]
  · rcases hq with ⟨s', e1, e2, e3⟩ | ⟨x, s', e1, e3⟩
    · simp only [go_sem, reduceIte, ↓reduceIte, reduceCtorEq, nA, nS, nM, nB, nE, nL, nT, nN, iL, iT, iE, iA, iM, iS, iG, iB, iN, iZ, h, hc, hr, e3, szO_inl e1, Option.getD_some]
    · simp only [go_sem, reduceIte, ↓reduceIte, reduceCtorEq, nA, nS, nM, nB, nE, nL, nT, nN, iL, iT, iE, iA, iM, iS, iG, iB, iN, iZ, h, hc, hr, e3, szO_inr e1, Option.getD_none]) (rfl)
noncomputable def s109 : SP Tryz.prog := mkS tyA 109 Tryz.f109 [] { md := [.ro 1], rg := [(0, [1, 2], [1, 2, 3]), (1, [1, 2, 3], [1, 2, 3]), (2, [1, 2, 3], [1, 2, 3]), (3, [2, 3], [2, 3]), (4, [2], [2, 3])], rets := some ([2], [2, 3]) } Tryz.func109 (by kernel_rfl)
@[go_sem] theorem d109 : s109.g = 109 ∧ s109.fs = ⟨[.ro 1], s109.F, false⟩ := ⟨nr rfl, nr rfl⟩
@[go_sem] theorem e109 (xName : ByteArray) (xValue : ByteArray) (h0 : smHeader (Header.mk xName xValue)) : s109.F [.agg [.s xName, .s xValue]] = some (.agg (rHeader .mut (Header.mk xName xValue)), [.u]) := mkS_eq (0) rfl rfl (fun cx h => by
  obtain ⟨q0, q1⟩ := h0
  simp only [go_sem, reduceIte, ↓reduceIte, reduceCtorEq, nA, nS, nM, nB, nE, nL, nT, nN, iL, iT, iE, iA, iM, iS, iG, iB, iN, iZ, h, q0, q1]) (by simp only [go_sem, reduceIte, ↓reduceIte, reduceCtorEq, nA, nS, nM, nB, nE, nL, nT, nN, iL, iT, iE, iA, iM, iS, iG, iB, iN, iZ, okRes, hasRo, hasRoL, hasRoLL])
noncomputable def s87 : SP Tryz.prog := mkS tyA 87 Tryz.f87 [s109] { md := [.ro 1], rg := [(0, [0], []), (1, [0, 3], []), (2, [0, 3, 4], []), (3, [0, 3, 4, 11], []), (4, [0, 3, 4], []), (5, [0, 3, 4], []), (6, [2], [])], lv := [(0, [0, 3, 4], [])], out := [(0, [3], [])], rets := some ([2], []) } Tryz.func87 (by kernel_rfl)
@[go_sem] theorem d87 : s87.g = 87 ∧ s87.fs = ⟨[.ro 1], s87.F, false⟩ := ⟨nr rfl, nr rfl⟩
@[go_sem] theorem e87 (xs : List Header) (h0 : smL smHeader xs) : s87.F [.sl .ro 2 (xs.map (rHeader .ro))] = some (.sl .mut 2 (xs.map (rHeader .mut)), [.u]) := mkS_eq (xs.length + 1) rfl rfl (fun cx h => by
  have hb := loopN_eq Tryz.f87 0 _ _ rfl rfl
  have hx := h0.1
  have c1 : ((xs.length : Int) * (32 : Nat) ≤ 140737488355328) := by omega
  have c2 : 0 ≤ (xs.length : Int) := by omega
  have hr := (loop_fold (cx := cx) (blk := 0) (body := loopN Tryz.f87 0) xs (fun k (_ : Unit) => ⟨E [(0, .sl .ro 2 (xs.map (rHeader .ro))), (3, .sl .mut 2 (fillUp (rHeader .mut) [.s ⟨#[]⟩, .s ⟨#[]⟩] xs k)), (4, .i .i64 k)], B []⟩) (fun _ => ⟨E [(3, .sl .mut 2 (xs.map (rHeader .mut)))], B []⟩) (fun _ _ => ()) (fun _ _ => True)
    (fun l _ G => by simp only [go_sem, reduceIte, ↓reduceIte, reduceCtorEq, nA, nS, nM, nB, nE, nL, nT, nN, iL, iT, iE, iA, iM, iS, iG, iB, iN, iZ, h, Int.lt_irrefl, hb, fillUp_all]) (fun k hk l _ => by
      have h1 : ((k : Int) < (xs.length : Int)) := Int.ofNat_lt.2 hk
      have h2 := h0.2 _ (List.getElem_mem hk)
      have h3 : (fillUp (rHeader .mut) [.s ⟨#[]⟩, .s ⟨#[]⟩] xs k).set k [.s xs[k].Name, .s xs[k].Value] = fillUp (rHeader .mut) [.s ⟨#[]⟩, .s ⟨#[]⟩] xs (k + 1) := fillUp_set (rHeader .mut) [.s ⟨#[]⟩, .s ⟨#[]⟩] xs k hk
      exact ⟨trivial, _, fun G => by simp only [go_sem, reduceIte, ↓reduceIte, reduceCtorEq, nA, nS, nM, nB, nE, nL, nT, nN, iL, iT, iE, iA, iM, iS, iG, iB, iN, iZ, h, h2, h3, map_gd (rHeader .ro) xs k hk, fillUp_get (rHeader .mut) [.s ⟨#[]⟩, .s ⟨#[]⟩] xs k hk, fillUp_getD (rHeader .mut) [.s ⟨#[]⟩, .s ⟨#[]⟩] xs k hk, fillUp_len (rHeader .mut) [.s ⟨#[]⟩, .s ⟨#[]⟩] xs k (Nat.le_of_lt hk), h1, idx_nt _ _ hk, wrap_nat1 (show k < 9223372036854775807 by omega), hb] <;> with_reducible rfl, by simp only [go_sem, reduceIte, ↓reduceIte, reduceCtorEq, nA, nS, nM, nB, nE, nL, nT, nN, iL, iT, iE, iA, iM, iS, iG, iB, iN, iZ, h]⟩) () trivial (xs.length + 1) (Nat.le_refl _)).2
  rw [hb] at hr
  simp only [go_sem, reduceIte, ↓reduceIte, reduceCtorEq, nA, nS, nM, nB, nE, nL, nT, nN, iL, iT, iE, iA, iM, iS, iG, iB, iN, iZ, h, c1, c2, Int.toNat_natCast, fillUp_zero (rHeader .mut) [.s ⟨#[]⟩, .s ⟨#[]⟩], hr]) (by simp only [go_sem, reduceIte, ↓reduceIte, reduceCtorEq, nA, nS, nM, nB, nE, nL, nT, nN, iL, iT, iE, iA, iM, iS, iG, iB, iN, iZ, okRes, hasRo])
noncomputable def s63 : SP Tryz.prog := mkS tyA 63 Tryz.f63 [s87] { md := [.ro 1], rg := [(0, [1, 2], [1, 2, 3]), (1, [1, 2, 3], [1, 2, 3]), (2, [1, 2, 3], [1, 2, 3]), (3, [1, 2, 3], [1, 2, 3]), (4, [1, 2, 3], [1, 2, 3]), (5, [2, 3], [2, 3]), (6, [2], [2, 3])], rets := some ([2], [2, 3]) } Tryz.func63 (by kernel_rfl)
@[go_sem] theorem d63 : s63.g = 63 ∧ s63.fs = ⟨[.ro 1], s63.F, false⟩ := ⟨nr rfl, nr rfl⟩
@[go_sem] theorem e63 (xMethod : ByteArray) (xHost : ByteArray) (xPath : ByteArray) (xHeaders : List Header) (h0 : smRequest (Request.mk xMethod xHost xPath xHeaders)) : s63.F [.agg [.s xMethod, .s xHost, .s xPath, .sl .ro 2 (xHeaders.map (rHeader .ro))]] = some (.agg (rRequest .mut (Request.mk xMethod xHost xPath xHeaders)), [.u]) := mkS_eq (0) rfl rfl (fun cx h => by
  obtain ⟨q0, q1, q2, q3⟩ := h0
  simp only [go_sem, reduceIte, ↓reduceIte, reduceCtorEq, nA, nS, nM, nB, nE, nL, nT, nN, iL, iT, iE, iA, iM, iS, iG, iB, iN, iZ, h, q0, q1, q2, q3]) (by simp only [go_sem, reduceIte, ↓reduceIte, reduceCtorEq, nA, nS, nM, nB, nE, nL, nT, nN, iL, iT, iE, iA, iM, iS, iG, iB, iN, iZ, okRes, hasRo, hasRoL, hasRoLL])
noncomputable def s88 : SP Tryz.prog := mkS tyA 88 Tryz.f88 [] { md := [.ro 1], rg := [(0, [1, 2], [1, 2, 3]), (1, [1, 2, 3], [1, 2, 3]), (2, [1, 2, 3], [1, 2, 3]), (3, [1, 2, 3], [1, 2, 3]), (4, [1, 2, 3], [1, 2, 3]), (5, [2, 3], [2, 3]), (6, [2], [2, 3])], rets := some ([2], [2, 3]) } Tryz.func88 (by kernel_rfl)
@[go_sem] theorem d88 : s88.g = 88 ∧ s88.fs = ⟨[.ro 1], s88.F, false⟩ := ⟨nr rfl, nr rfl⟩
@[go_sem] theorem e88 (xReq : Int) (xHead : Bool) (xDue : Int) (xLate : Bool) (h0 : smWaiter (Waiter.mk xReq xHead xDue xLate)) : s88.F [.agg [.i .i64 xReq, .b xHead, .i .i64 xDue, .b xLate]] = some (.agg (rWaiter .mut (Waiter.mk xReq xHead xDue xLate)), [.u]) := mkS_eq (0) rfl rfl (fun cx h => by
  obtain ⟨q0, q1, q2, q3⟩ := h0
  simp only [go_sem, reduceIte, ↓reduceIte, reduceCtorEq, nA, nS, nM, nB, nE, nL, nT, nN, iL, iT, iE, iA, iM, iS, iG, iB, iN, iZ, h, q0, q1, q2, q3]) (by simp only [go_sem, reduceIte, ↓reduceIte, reduceCtorEq, nA, nS, nM, nB, nE, nL, nT, nN, iL, iT, iE, iA, iM, iS, iG, iB, iN, iZ, okRes, hasRo, hasRoL, hasRoLL])
noncomputable def s64 : SP Tryz.prog := mkS tyA 64 Tryz.f64 [s88] { md := [.ro 1], rg := [(0, [0], []), (1, [0, 3], []), (2, [0, 3, 4], []), (3, [0, 3, 4, 11], []), (4, [0, 3, 4], []), (5, [0, 3, 4], []), (6, [2], [])], lv := [(0, [0, 3, 4], [])], out := [(0, [3], [])], rets := some ([2], []) } Tryz.func64 (by kernel_rfl)
@[go_sem] theorem d64 : s64.g = 64 ∧ s64.fs = ⟨[.ro 1], s64.F, false⟩ := ⟨nr rfl, nr rfl⟩
@[go_sem] theorem e64 (xs : List Waiter) (h0 : smL smWaiter xs) : s64.F [.sl .ro 4 (xs.map (rWaiter .ro))] = some (.sl .mut 4 (xs.map (rWaiter .mut)), [.u]) := mkS_eq (xs.length + 1) rfl rfl (fun cx h => by
  have hb := loopN_eq Tryz.f64 0 _ _ rfl rfl
  have hx := h0.1
  have c1 : ((xs.length : Int) * (32 : Nat) ≤ 140737488355328) := by omega
  have c2 : 0 ≤ (xs.length : Int) := by omega
  have hr := (loop_fold (cx := cx) (blk := 0) (body := loopN Tryz.f64 0) xs (fun k (_ : Unit) => ⟨E [(0, .sl .ro 4 (xs.map (rWaiter .ro))), (3, .sl .mut 4 (fillUp (rWaiter .mut) [.i .i64 0, .b false, .i .i64 0, .b false] xs k)), (4, .i .i64 k)], B []⟩) (fun _ => ⟨E [(3, .sl .mut 4 (xs.map (rWaiter .mut)))], B []⟩) (fun _ _ => ()) (fun _ _ => True)
    (fun l _ G => by simp only [go_sem, reduceIte, ↓reduceIte, reduceCtorEq, nA, nS, nM, nB, nE, nL, nT, nN, iL, iT, iE, iA, iM, iS, iG, iB, iN, iZ, h, Int.lt_irrefl, hb, fillUp_all]) (fun k hk l _ => by
      have h1 : ((k : Int) < (xs.length : Int)) := Int.ofNat_lt.2 hk
      have h2 := h0.2 _ (List.getElem_mem hk)
      have h3 : (fillUp (rWaiter .mut) [.i .i64 0, .b false, .i .i64 0, .b false] xs k).set k [.i .i64 xs[k].Req, .b xs[k].Head, .i .i64 xs[k].Due, .b xs[k].Late] = fillUp (rWaiter .mut) [.i .i64 0, .b false, .i .i64 0, .b false] xs (k + 1) := fillUp_set (rWaiter .mut) [.i .i64 0, .b false, .i .i64 0, .b false] xs k hk
      exact ⟨trivial, _, fun G => by simp only [go_sem, reduceIte, ↓reduceIte, reduceCtorEq, nA, nS, nM, nB, nE, nL, nT, nN, iL, iT, iE, iA, iM, iS, iG, iB, iN, iZ, h, h2, h3, map_gd (rWaiter .ro) xs k hk, fillUp_get (rWaiter .mut) [.i .i64 0, .b false, .i .i64 0, .b false] xs k hk, fillUp_getD (rWaiter .mut) [.i .i64 0, .b false, .i .i64 0, .b false] xs k hk, fillUp_len (rWaiter .mut) [.i .i64 0, .b false, .i .i64 0, .b false] xs k (Nat.le_of_lt hk), h1, idx_nt _ _ hk, wrap_nat1 (show k < 9223372036854775807 by omega), hb] <;> with_reducible rfl, by simp only [go_sem, reduceIte, ↓reduceIte, reduceCtorEq, nA, nS, nM, nB, nE, nL, nT, nN, iL, iT, iE, iA, iM, iS, iG, iB, iN, iZ, h]⟩) () trivial (xs.length + 1) (Nat.le_refl _)).2
  rw [hb] at hr
  simp only [go_sem, reduceIte, ↓reduceIte, reduceCtorEq, nA, nS, nM, nB, nE, nL, nT, nN, iL, iT, iE, iA, iM, iS, iG, iB, iN, iZ, h, c1, c2, Int.toNat_natCast, fillUp_zero (rWaiter .mut) [.i .i64 0, .b false, .i .i64 0, .b false], hr]) (by simp only [go_sem, reduceIte, ↓reduceIte, reduceCtorEq, nA, nS, nM, nB, nE, nL, nT, nN, iL, iT, iE, iA, iM, iS, iG, iB, iN, iZ, okRes, hasRo])
noncomputable def s47 : SP Tryz.prog := mkS tyA 47 Tryz.f47 [s63, s64] { md := [.ro 1], rg := [(0, [1, 2], [1, 2, 3]), (1, [1, 2, 3], [1, 2, 3]), (2, [1, 2, 3], [1, 2, 3]), (3, [1, 2, 3], [1, 2, 3]), (4, [1, 2, 3], [1, 2, 3]), (5, [1, 2, 3], [1, 2, 3]), (6, [1, 2, 3], [1, 2, 3]), (7, [1, 2, 3], [1, 2, 3]), (8, [1, 2, 3], [1, 2, 3]), (9, [2, 3], [2, 3]), (10, [2], [2, 3])], rets := some ([2], [2, 3]) } Tryz.func47 (by kernel_rfl)
@[go_sem] theorem d47 : s47.g = 47 ∧ s47.fs = ⟨[.ro 1], s47.F, false⟩ := ⟨nr rfl, nr rfl⟩
@[go_sem] theorem e47 (xId : Int) (xKey : ByteArray) (xBack : Bool) (xOut : Bool) (xDue : Int) (xDoomed : Bool) (xGetMethod : ByteArray) (xGetHost : ByteArray) (xGetPath : ByteArray) (xGetHeaders : List Header) (xWaiters : List Waiter) (h0 : smFlight (Flight.mk xId xKey xBack xOut xDue xDoomed (Request.mk xGetMethod xGetHost xGetPath xGetHeaders) xWaiters)) : s47.F [.agg [.i .i64 xId, .s xKey, .b xBack, .b xOut, .i .i64 xDue, .b xDoomed, .s xGetMethod, .s xGetHost, .s xGetPath, .sl .ro 2 (xGetHeaders.map (rHeader .ro)), .sl .ro 4 (xWaiters.map (rWaiter .ro))]] = some (.agg (rFlight .mut (Flight.mk xId xKey xBack xOut xDue xDoomed (Request.mk xGetMethod xGetHost xGetPath xGetHeaders) xWaiters)), [.u]) := mkS_eq (0) rfl rfl (fun cx h => by
  obtain ⟨q0, q1, q2, q3, q4, q5, q6, q7⟩ := h0
  simp only [go_sem, reduceIte, ↓reduceIte, reduceCtorEq, nA, nS, nM, nB, nE, nL, nT, nN, iL, iT, iE, iA, iM, iS, iG, iB, iN, iZ, h, q0, q1, q2, q3, q4, q5, q6, q7]) (by simp only [go_sem, reduceIte, ↓reduceIte, reduceCtorEq, nA, nS, nM, nB, nE, nL, nT, nN, iL, iT, iE, iA, iM, iS, iG, iB, iN, iZ, okRes, hasRo, hasRoL, hasRoLL])
noncomputable def s13 : SP Tryz.prog := mkS tyA 13 Tryz.f13 [s47] { md := [.ro 1], rg := [(0, [0], []), (1, [0, 3], []), (2, [0, 3, 4], []), (3, [0, 3, 4, 11], []), (4, [0, 3, 4], []), (5, [0, 3, 4], []), (6, [2], [])], lv := [(0, [0, 3, 4], [])], out := [(0, [3], [])], rets := some ([2], []) } Tryz.func13 (by kernel_rfl)
@[go_sem] theorem d13 : s13.g = 13 ∧ s13.fs = ⟨[.ro 1], s13.F, false⟩ := ⟨nr rfl, nr rfl⟩
@[go_sem] theorem e13 (xs : List Flight) (h0 : smL smFlight xs) : s13.F [.sl .ro 11 (xs.map (rFlight .ro))] = some (.sl .mut 11 (xs.map (rFlight .mut)), [.u]) := mkS_eq (xs.length + 1) rfl rfl (fun cx h => by
  have hb := loopN_eq Tryz.f13 0 _ _ rfl rfl
  have hx := h0.1
  have c1 : ((xs.length : Int) * (144 : Nat) ≤ 140737488355328) := by omega
  have c2 : 0 ≤ (xs.length : Int) := by omega
  have hr := (loop_fold (cx := cx) (blk := 0) (body := loopN Tryz.f13 0) xs (fun k (_ : Unit) => ⟨E [(0, .sl .ro 11 (xs.map (rFlight .ro))), (3, .sl .mut 11 (fillUp (rFlight .mut) [.i .i64 0, .s ⟨#[]⟩, .b false, .b false, .i .i64 0, .b false, .s ⟨#[]⟩, .s ⟨#[]⟩, .s ⟨#[]⟩, .sl .mut 2 [], .sl .mut 4 []] xs k)), (4, .i .i64 k)], B []⟩) (fun _ => ⟨E [(3, .sl .mut 11 (xs.map (rFlight .mut)))], B []⟩) (fun _ _ => ()) (fun _ _ => True)
    (fun l _ G => by simp only [go_sem, reduceIte, ↓reduceIte, reduceCtorEq, nA, nS, nM, nB, nE, nL, nT, nN, iL, iT, iE, iA, iM, iS, iG, iB, iN, iZ, h, Int.lt_irrefl, hb, fillUp_all]) (fun k hk l _ => by
      have h1 : ((k : Int) < (xs.length : Int)) := Int.ofNat_lt.2 hk
      have h2 := h0.2 _ (List.getElem_mem hk)
      have h3 : (fillUp (rFlight .mut) [.i .i64 0, .s ⟨#[]⟩, .b false, .b false, .i .i64 0, .b false, .s ⟨#[]⟩, .s ⟨#[]⟩, .s ⟨#[]⟩, .sl .mut 2 [], .sl .mut 4 []] xs k).set k [.i .i64 xs[k].Id, .s xs[k].Key, .b xs[k].Back, .b xs[k].Out, .i .i64 xs[k].Due, .b xs[k].Doomed, .s xs[k].Get.Method, .s xs[k].Get.Host, .s xs[k].Get.Path, .sl .mut 2 (xs[k].Get.Headers.map (rHeader .mut)), .sl .mut 4 (xs[k].Waiters.map (rWaiter .mut))] = fillUp (rFlight .mut) [.i .i64 0, .s ⟨#[]⟩, .b false, .b false, .i .i64 0, .b false, .s ⟨#[]⟩, .s ⟨#[]⟩, .s ⟨#[]⟩, .sl .mut 2 [], .sl .mut 4 []] xs (k + 1) := fillUp_set (rFlight .mut) [.i .i64 0, .s ⟨#[]⟩, .b false, .b false, .i .i64 0, .b false, .s ⟨#[]⟩, .s ⟨#[]⟩, .s ⟨#[]⟩, .sl .mut 2 [], .sl .mut 4 []] xs k hk
      exact ⟨trivial, _, fun G => by simp only [go_sem, reduceIte, ↓reduceIte, reduceCtorEq, nA, nS, nM, nB, nE, nL, nT, nN, iL, iT, iE, iA, iM, iS, iG, iB, iN, iZ, h, h2, h3, map_gd (rFlight .ro) xs k hk, fillUp_get (rFlight .mut) [.i .i64 0, .s ⟨#[]⟩, .b false, .b false, .i .i64 0, .b false, .s ⟨#[]⟩, .s ⟨#[]⟩, .s ⟨#[]⟩, .sl .mut 2 [], .sl .mut 4 []] xs k hk, fillUp_getD (rFlight .mut) [.i .i64 0, .s ⟨#[]⟩, .b false, .b false, .i .i64 0, .b false, .s ⟨#[]⟩, .s ⟨#[]⟩, .s ⟨#[]⟩, .sl .mut 2 [], .sl .mut 4 []] xs k hk, fillUp_len (rFlight .mut) [.i .i64 0, .s ⟨#[]⟩, .b false, .b false, .i .i64 0, .b false, .s ⟨#[]⟩, .s ⟨#[]⟩, .s ⟨#[]⟩, .sl .mut 2 [], .sl .mut 4 []] xs k (Nat.le_of_lt hk), h1, idx_nt _ _ hk, wrap_nat1 (show k < 9223372036854775807 by omega), hb] <;> with_reducible rfl, by simp only [go_sem, reduceIte, ↓reduceIte, reduceCtorEq, nA, nS, nM, nB, nE, nL, nT, nN, iL, iT, iE, iA, iM, iS, iG, iB, iN, iZ, h]⟩) () trivial (xs.length + 1) (Nat.le_refl _)).2
  rw [hb] at hr
  simp only [go_sem, reduceIte, ↓reduceIte, reduceCtorEq, nA, nS, nM, nB, nE, nL, nT, nN, iL, iT, iE, iA, iM, iS, iG, iB, iN, iZ, h, c1, c2, Int.toNat_natCast, fillUp_zero (rFlight .mut) [.i .i64 0, .s ⟨#[]⟩, .b false, .b false, .i .i64 0, .b false, .s ⟨#[]⟩, .s ⟨#[]⟩, .s ⟨#[]⟩, .sl .mut 2 [], .sl .mut 4 []], hr]) (by simp only [go_sem, reduceIte, ↓reduceIte, reduceCtorEq, nA, nS, nM, nB, nE, nL, nT, nN, iL, iT, iE, iA, iM, iS, iG, iB, iN, iZ, okRes, hasRo])
noncomputable def s15 : SP Tryz.prog := mkS tyA 15 Tryz.f15 [] { md := [.ro 1, .ro 1], rg := [(0, [2, 3], [2, 3]), (1, [2, 3, 9], [2, 3]), (2, [4], []), (3, [14], []), (4, [4], []), (5, [4], [])], rets := some ([4], []) } Tryz.func15 (by kernel_rfl)
@[go_sem] theorem d15 : s15.g = 15 ∧ s15.fs = ⟨[.ro 1, .ro 1], s15.F, false⟩ := ⟨nr rfl, nr rfl⟩
@[go_sem] theorem e15 (xCode : Int) (xValue : Int) (yCode : Int) (yValue : Int) (h0 : smIntResult (IntResult.mk xCode xValue)) : s15.F [.agg [.i .i64 xCode, .i .i64 xValue], .agg [.i .i64 yCode, .i .i64 yValue]] = some (.b (eqv (IntResult.mk xCode xValue) (IntResult.mk yCode yValue)), [.u, .u]) := mkS_eq (0) rfl rfl (fun cx h => by
  obtain ⟨q0, q1⟩ := h0
  simp only [go_sem, reduceIte, ↓reduceIte, reduceCtorEq, nA, nS, nM, nB, nE, nL, nT, nN, iL, iT, iE, iA, iM, iS, iG, iB, iN, iZ, h, eqv_intne, eqv_bytes, eqv_boolne, q0, q1]
  simp only [eqv_bool, eqv_int, IntResult.eqv (IntResult.mk xCode xValue) (IntResult.mk yCode yValue), if_b, not_eq_t, if_nb, Bool.and_true]) (rfl)
noncomputable def s115 : SP Tryz.prog := mkS tyA 115 Tryz.f115 [] { md := [.ro 1, .ro 1], rg := [(0, [2, 3], [2, 3]), (1, [2, 3, 9], [2, 3]), (2, [4], []), (3, [14], []), (4, [4], []), (5, [4], [])], rets := some ([4], []) } Tryz.func115 (by kernel_rfl)
@[go_sem] theorem d115 : s115.g = 115 ∧ s115.fs = ⟨[.ro 1, .ro 1], s115.F, false⟩ := ⟨nr rfl, nr rfl⟩
@[go_sem] theorem e115 (xName : ByteArray) (xValue : ByteArray) (yName : ByteArray) (yValue : ByteArray) (h0 : smHeader (Header.mk xName xValue)) : s115.F [.agg [.s xName, .s xValue], .agg [.s yName, .s yValue]] = some (.b (eqv (Header.mk xName xValue) (Header.mk yName yValue)), [.u, .u]) := mkS_eq (0) rfl rfl (fun cx h => by
  obtain ⟨q0, q1⟩ := h0
  simp only [go_sem, reduceIte, ↓reduceIte, reduceCtorEq, nA, nS, nM, nB, nE, nL, nT, nN, iL, iT, iE, iA, iM, iS, iG, iB, iN, iZ, h, eqv_intne, eqv_bytes, eqv_boolne, q0, q1]
  simp only [eqv_bool, eqv_int, Header.eqv (Header.mk xName xValue) (Header.mk yName yValue), if_b, not_eq_t, if_nb, Bool.and_true]) (rfl)
noncomputable def s91 : SP Tryz.prog := mkS tyA 91 Tryz.f91 [s115] { md := [.ro 1, .ro 1], rg := [(0, [0, 1], []), (1, [0, 1, 10], []), (2, [4], []), (3, [0, 1, 5], []), (4, [0, 1, 5, 14], []), (5, [0, 1, 5], []), (6, [0, 1, 5, 26], []), (7, [4], []), (8, [4], [])], lv := [(0, [0, 1, 5], [])], out := [(0, [], [])], rets := some ([4], []), plan := [(6, (.take 0 (.take 1 (.take 2 (.take 3 (.take 4 (.take 5 (.take 6 (.take 7 (.one 8 (.take 9 .done)))))))))))] } Tryz.func91 (by kernel_rfl)
@[go_sem] theorem d91 : s91.g = 91 ∧ s91.fs = ⟨[.ro 1, .ro 1], s91.F, false⟩ := ⟨nr rfl, nr rfl⟩
@[go_sem] theorem e91 (xs ys : List Header) (h0 : smL smHeader xs) : s91.F [.sl .ro 2 (xs.map (rHeader .ro)), .sl .ro 2 (ys.map (rHeader .ro))] = some (.b (eqv xs ys), [.u, .u]) := mkS_eq (xs.length + 1) rfl rfl (fun cx h => by
  have hb := loopN_eq Tryz.f91 0 _ _ rfl rfl
  have hx := h0.1
  by_cases hl : xs.length = ys.length
  · obtain ⟨r, hr, hq⟩ := loop_list (cx := cx) (blk := 0) (body := loopN Tryz.f91 0) (xs.zip ys) (fun k (_ : Unit) => ⟨E [(0, .sl .ro 2 (xs.map (rHeader .ro))), (1, .sl .ro 2 (ys.map (rHeader .ro))), (5, .i .i64 k)], B []⟩) (fun _ => ⟨E [], B []⟩) (fun x _ => !eqv x.1 x.2) (fun _ _ => ()) (fun _ _ => (.ret, ⟨E [(4, .b false)], B []⟩)) (fun _ _ => True)
      (fun l _ G => by simp only [go_sem, reduceIte, ↓reduceIte, reduceCtorEq, nA, nS, nM, nB, nE, nL, nT, nN, iL, iT, iE, iA, iM, iS, iG, iB, iN, iZ, h, zip_len hl, hl, Int.lt_irrefl, hb]) (fun k hk l _ => by
        have hk : k < xs.length := by rwa [zip_len hl] at hk
        have h1 : ((k : Int) < (xs.length : Int)) := Int.ofNat_lt.2 hk
        have h2 := h0.2 _ (List.getElem_mem hk)
        have h3 : (xs.zip ys)[k] = (xs[k], ys[k]'(by omega)) := by simp
        rw [h3]
        cases hc : eqv xs[k] (ys[k]'(by omega))
        · exact .inl ⟨rfl, fun G => by simp only [go_sem, reduceIte, ↓reduceIte, reduceCtorEq, nA, nS, nM, nB, nE, nL, nT, nN, iL, iT, iE, iA, iM, iS, iG, iB, iN, iZ, h, hc, map_gd (rHeader .ro) xs k hk, map_gd (rHeader .ro) ys k (by omega), idx_nt ys.length k (by omega), h2, h1, idx_nt _ _ hk, wrap_nat1 (show k < 9223372036854775807 by omega), hb]⟩
        · exact .inr ⟨rfl, trivial, _, fun G => by simp only [go_sem, reduceIte, ↓reduceIte, reduceCtorEq, nA, nS, nM, nB, nE, nL, nT, nN, iL, iT, iE, iA, iM, iS, iG, iB, iN, iZ, h, hc, map_gd (rHeader .ro) xs k hk, map_gd (rHeader .ro) ys k (by omega), idx_nt ys.length k (by omega), h2, h1, idx_nt _ _ hk, wrap_nat1 (show k < 9223372036854775807 by omega), hb] <;> with_reducible rfl, by simp only [go_sem, reduceIte, ↓reduceIte, reduceCtorEq, nA, nS, nM, nB, nE, nL, nT, nN, iL, iT, iE, iA, iM, iS, iG, iB, iN, iZ, h]⟩) () trivial (xs.length + 1) (by rw [zip_len hl]; exact Nat.le_refl _)
    rw [hb] at hr
    have hl2 : ((xs.length : Int) != (ys.length : Int)) = false := by simp [hl]
    rcases hq with ⟨s', e1, e2, e3⟩ | ⟨x, s', e1, e3⟩
    · simp only [go_sem, reduceIte, ↓reduceIte, reduceCtorEq, nA, nS, nM, nB, nE, nL, nT, nN, iL, iT, iE, iA, iM, iS, iG, iB, iN, iZ, h, hl2, hr, e3, zip_eqv hl e1]
    · simp only [go_sem, reduceIte, ↓reduceIte, reduceCtorEq, nA, nS, nM, nB, nE, nL, nT, nN, iL, iT, iE, iA, iM, iS, iG, iB, iN, iZ, h, hl2, hr, e3, zip_nev hl e1]
  · have hl2 : ((xs.length : Int) != (ys.length : Int)) = true := by simpa using fun h => hl (Int.ofNat_inj.1 h)
    simp only [go_sem, reduceIte, ↓reduceIte, reduceCtorEq, nA, nS, nM, nB, nE, nL, nT, nN, iL, iT, iE, iA, iM, iS, iG, iB, iN, iZ, h, hl2, len_nev hl]) (rfl)
noncomputable def s68 : SP Tryz.prog := mkS tyA 68 Tryz.f68 [s91] { md := [.ro 1, .ro 1], rg := [(0, [2, 3], [2, 3]), (1, [2, 3, 9], [2, 3]), (2, [4], []), (3, [2, 3, 14], [2, 3]), (4, [4], []), (5, [2, 3, 19], [2, 3]), (6, [4], []), (7, [25], []), (8, [4], []), (9, [4], [])], rets := some ([4], []) } Tryz.func68 (by kernel_rfl)
@[go_sem] theorem d68 : s68.g = 68 ∧ s68.fs = ⟨[.ro 1, .ro 1], s68.F, false⟩ := ⟨nr rfl, nr rfl⟩
@[go_sem] theorem e68 (xMethod : ByteArray) (xHost : ByteArray) (xPath : ByteArray) (xHeaders : List Header) (yMethod : ByteArray) (yHost : ByteArray) (yPath : ByteArray) (yHeaders : List Header) (h0 : smRequest (Request.mk xMethod xHost xPath xHeaders)) : s68.F [.agg [.s xMethod, .s xHost, .s xPath, .sl .ro 2 (xHeaders.map (rHeader .ro))], .agg [.s yMethod, .s yHost, .s yPath, .sl .ro 2 (yHeaders.map (rHeader .ro))]] = some (.b (eqv (Request.mk xMethod xHost xPath xHeaders) (Request.mk yMethod yHost yPath yHeaders)), [.u, .u]) := mkS_eq (0) rfl rfl (fun cx h => by
  obtain ⟨q0, q1, q2, q3⟩ := h0
  simp only [go_sem, reduceIte, ↓reduceIte, reduceCtorEq, nA, nS, nM, nB, nE, nL, nT, nN, iL, iT, iE, iA, iM, iS, iG, iB, iN, iZ, h, eqv_intne, eqv_bytes, eqv_boolne, q0, q1, q2, q3]
  simp only [eqv_bool, eqv_int, Request.eqv (Request.mk xMethod xHost xPath xHeaders) (Request.mk yMethod yHost yPath yHeaders), if_b, not_eq_t, if_nb, Bool.and_true]) (rfl)
noncomputable def s92 : SP Tryz.prog := mkS tyA 92 Tryz.f92 [] { md := [.ro 1, .ro 1], rg := [(0, [2, 3], [2, 3]), (1, [2, 3, 9], [2, 3]), (2, [4], []), (3, [2, 3, 14], [2, 3]), (4, [4], []), (5, [2, 3, 19], [2, 3]), (6, [4], []), (7, [24], []), (8, [4], []), (9, [4], [])], rets := some ([4], []) } Tryz.func92 (by kernel_rfl)
@[go_sem] theorem d92 : s92.g = 92 ∧ s92.fs = ⟨[.ro 1, .ro 1], s92.F, false⟩ := ⟨nr rfl, nr rfl⟩
@[go_sem] theorem e92 (xReq : Int) (xHead : Bool) (xDue : Int) (xLate : Bool) (yReq : Int) (yHead : Bool) (yDue : Int) (yLate : Bool) (h0 : smWaiter (Waiter.mk xReq xHead xDue xLate)) : s92.F [.agg [.i .i64 xReq, .b xHead, .i .i64 xDue, .b xLate], .agg [.i .i64 yReq, .b yHead, .i .i64 yDue, .b yLate]] = some (.b (eqv (Waiter.mk xReq xHead xDue xLate) (Waiter.mk yReq yHead yDue yLate)), [.u, .u]) := mkS_eq (0) rfl rfl (fun cx h => by
  obtain ⟨q0, q1, q2, q3⟩ := h0
  simp only [go_sem, reduceIte, ↓reduceIte, reduceCtorEq, nA, nS, nM, nB, nE, nL, nT, nN, iL, iT, iE, iA, iM, iS, iG, iB, iN, iZ, h, eqv_intne, eqv_bytes, eqv_boolne, q0, q1, q2, q3]
  simp only [eqv_bool, eqv_int, Waiter.eqv (Waiter.mk xReq xHead xDue xLate) (Waiter.mk yReq yHead yDue yLate), if_b, not_eq_t, if_nb, Bool.and_true]) (rfl)
noncomputable def s69 : SP Tryz.prog := mkS tyA 69 Tryz.f69 [s92] { md := [.ro 1, .ro 1], rg := [(0, [0, 1], []), (1, [0, 1, 10], []), (2, [4], []), (3, [0, 1, 5], []), (4, [0, 1, 5, 14], []), (5, [0, 1, 5], []), (6, [0, 1, 5, 26], []), (7, [4], []), (8, [4], [])], lv := [(0, [0, 1, 5], [])], out := [(0, [], [])], rets := some ([4], []), plan := [(6, (.take 0 (.take 1 (.take 2 (.take 3 (.take 4 (.take 5 (.take 6 (.take 7 (.one 8 (.take 9 .done)))))))))))] } Tryz.func69 (by kernel_rfl)
@[go_sem] theorem d69 : s69.g = 69 ∧ s69.fs = ⟨[.ro 1, .ro 1], s69.F, false⟩ := ⟨nr rfl, nr rfl⟩
@[go_sem] theorem e69 (xs ys : List Waiter) (h0 : smL smWaiter xs) : s69.F [.sl .ro 4 (xs.map (rWaiter .ro)), .sl .ro 4 (ys.map (rWaiter .ro))] = some (.b (eqv xs ys), [.u, .u]) := mkS_eq (xs.length + 1) rfl rfl (fun cx h => by
  have hb := loopN_eq Tryz.f69 0 _ _ rfl rfl
  have hx := h0.1
  by_cases hl : xs.length = ys.length
  · obtain ⟨r, hr, hq⟩ := loop_list (cx := cx) (blk := 0) (body := loopN Tryz.f69 0) (xs.zip ys) (fun k (_ : Unit) => ⟨E [(0, .sl .ro 4 (xs.map (rWaiter .ro))), (1, .sl .ro 4 (ys.map (rWaiter .ro))), (5, .i .i64 k)], B []⟩) (fun _ => ⟨E [], B []⟩) (fun x _ => !eqv x.1 x.2) (fun _ _ => ()) (fun _ _ => (.ret, ⟨E [(4, .b false)], B []⟩)) (fun _ _ => True)
      (fun l _ G => by simp only [go_sem, reduceIte, ↓reduceIte, reduceCtorEq, nA, nS, nM, nB, nE, nL, nT, nN, iL, iT, iE, iA, iM, iS, iG, iB, iN, iZ, h, zip_len hl, hl, Int.lt_irrefl, hb]) (fun k hk l _ => by
        have hk : k < xs.length := by rwa [zip_len hl] at hk
        have h1 : ((k : Int) < (xs.length : Int)) := Int.ofNat_lt.2 hk
        have h2 := h0.2 _ (List.getElem_mem hk)
        have h3 : (xs.zip ys)[k] = (xs[k], ys[k]'(by omega)) := by simp
        rw [h3]
        cases hc : eqv xs[k] (ys[k]'(by omega))
        · exact .inl ⟨rfl, fun G => by simp only [go_sem, reduceIte, ↓reduceIte, reduceCtorEq, nA, nS, nM, nB, nE, nL, nT, nN, iL, iT, iE, iA, iM, iS, iG, iB, iN, iZ, h, hc, map_gd (rWaiter .ro) xs k hk, map_gd (rWaiter .ro) ys k (by omega), idx_nt ys.length k (by omega), h2, h1, idx_nt _ _ hk, wrap_nat1 (show k < 9223372036854775807 by omega), hb]⟩
        · exact .inr ⟨rfl, trivial, _, fun G => by simp only [go_sem, reduceIte, ↓reduceIte, reduceCtorEq, nA, nS, nM, nB, nE, nL, nT, nN, iL, iT, iE, iA, iM, iS, iG, iB, iN, iZ, h, hc, map_gd (rWaiter .ro) xs k hk, map_gd (rWaiter .ro) ys k (by omega), idx_nt ys.length k (by omega), h2, h1, idx_nt _ _ hk, wrap_nat1 (show k < 9223372036854775807 by omega), hb] <;> with_reducible rfl, by simp only [go_sem, reduceIte, ↓reduceIte, reduceCtorEq, nA, nS, nM, nB, nE, nL, nT, nN, iL, iT, iE, iA, iM, iS, iG, iB, iN, iZ, h]⟩) () trivial (xs.length + 1) (by rw [zip_len hl]; exact Nat.le_refl _)
    rw [hb] at hr
    have hl2 : ((xs.length : Int) != (ys.length : Int)) = false := by simp [hl]
    rcases hq with ⟨s', e1, e2, e3⟩ | ⟨x, s', e1, e3⟩
    · simp only [go_sem, reduceIte, ↓reduceIte, reduceCtorEq, nA, nS, nM, nB, nE, nL, nT, nN, iL, iT, iE, iA, iM, iS, iG, iB, iN, iZ, h, hl2, hr, e3, zip_eqv hl e1]
    · simp only [go_sem, reduceIte, ↓reduceIte, reduceCtorEq, nA, nS, nM, nB, nE, nL, nT, nN, iL, iT, iE, iA, iM, iS, iG, iB, iN, iZ, h, hl2, hr, e3, zip_nev hl e1]
  · have hl2 : ((xs.length : Int) != (ys.length : Int)) = true := by simpa using fun h => hl (Int.ofNat_inj.1 h)
    simp only [go_sem, reduceIte, ↓reduceIte, reduceCtorEq, nA, nS, nM, nB, nE, nL, nT, nN, iL, iT, iE, iA, iM, iS, iG, iB, iN, iZ, h, hl2, len_nev hl]) (rfl)
noncomputable def s50 : SP Tryz.prog := mkS tyA 50 Tryz.f50 [s68, s69] { md := [.ro 1, .ro 1], rg := [(0, [2, 3], [2, 3]), (1, [2, 3, 9], [2, 3]), (2, [4], []), (3, [2, 3, 14], [2, 3]), (4, [4], []), (5, [2, 3, 19], [2, 3]), (6, [4], []), (7, [2, 3, 24], [2, 3]), (8, [4], []), (9, [2, 3, 29], [2, 3]), (10, [4], []), (11, [2, 3, 34], [2, 3]), (12, [4], []), (13, [2, 3, 40], [2, 3]), (14, [4], []), (15, [46], []), (16, [4], []), (17, [4], [])], rets := some ([4], []) } Tryz.func50 (by kernel_rfl)
@[go_sem] theorem d50 : s50.g = 50 ∧ s50.fs = ⟨[.ro 1, .ro 1], s50.F, false⟩ := ⟨nr rfl, nr rfl⟩
@[go_sem] theorem e50 (xId : Int) (xKey : ByteArray) (xBack : Bool) (xOut : Bool) (xDue : Int) (xDoomed : Bool) (xGetMethod : ByteArray) (xGetHost : ByteArray) (xGetPath : ByteArray) (xGetHeaders : List Header) (xWaiters : List Waiter) (yId : Int) (yKey : ByteArray) (yBack : Bool) (yOut : Bool) (yDue : Int) (yDoomed : Bool) (yGetMethod : ByteArray) (yGetHost : ByteArray) (yGetPath : ByteArray) (yGetHeaders : List Header) (yWaiters : List Waiter) (h0 : smFlight (Flight.mk xId xKey xBack xOut xDue xDoomed (Request.mk xGetMethod xGetHost xGetPath xGetHeaders) xWaiters)) : s50.F [.agg [.i .i64 xId, .s xKey, .b xBack, .b xOut, .i .i64 xDue, .b xDoomed, .s xGetMethod, .s xGetHost, .s xGetPath, .sl .ro 2 (xGetHeaders.map (rHeader .ro)), .sl .ro 4 (xWaiters.map (rWaiter .ro))], .agg [.i .i64 yId, .s yKey, .b yBack, .b yOut, .i .i64 yDue, .b yDoomed, .s yGetMethod, .s yGetHost, .s yGetPath, .sl .ro 2 (yGetHeaders.map (rHeader .ro)), .sl .ro 4 (yWaiters.map (rWaiter .ro))]] = some (.b (eqv (Flight.mk xId xKey xBack xOut xDue xDoomed (Request.mk xGetMethod xGetHost xGetPath xGetHeaders) xWaiters) (Flight.mk yId yKey yBack yOut yDue yDoomed (Request.mk yGetMethod yGetHost yGetPath yGetHeaders) yWaiters)), [.u, .u]) := mkS_eq (0) rfl rfl (fun cx h => by
  obtain ⟨q0, q1, q2, q3, q4, q5, q6, q7⟩ := h0
  simp only [go_sem, reduceIte, ↓reduceIte, reduceCtorEq, nA, nS, nM, nB, nE, nL, nT, nN, iL, iT, iE, iA, iM, iS, iG, iB, iN, iZ, h, eqv_intne, eqv_bytes, eqv_boolne, q0, q1, q2, q3, q4, q5, q6, q7]
  simp only [eqv_bool, eqv_int, Flight.eqv (Flight.mk xId xKey xBack xOut xDue xDoomed (Request.mk xGetMethod xGetHost xGetPath xGetHeaders) xWaiters) (Flight.mk yId yKey yBack yOut yDue yDoomed (Request.mk yGetMethod yGetHost yGetPath yGetHeaders) yWaiters), if_b, not_eq_t, if_nb, Bool.and_true]) (rfl)
noncomputable def s16 : SP Tryz.prog := mkS tyA 16 Tryz.f16 [s50] { md := [.ro 1, .ro 1], rg := [(0, [0, 1], []), (1, [0, 1, 10], []), (2, [4], []), (3, [0, 1, 5], []), (4, [0, 1, 5, 14], []), (5, [0, 1, 5], []), (6, [0, 1, 5, 26], []), (7, [4], []), (8, [4], [])], lv := [(0, [0, 1, 5], [])], out := [(0, [], [])], rets := some ([4], []), plan := [(6, (.take 0 (.take 1 (.take 2 (.take 3 (.take 4 (.take 5 (.take 6 (.take 7 (.one 8 (.take 9 .done)))))))))))] } Tryz.func16 (by kernel_rfl)
@[go_sem] theorem d16 : s16.g = 16 ∧ s16.fs = ⟨[.ro 1, .ro 1], s16.F, false⟩ := ⟨nr rfl, nr rfl⟩
@[go_sem] theorem e16 (xs ys : List Flight) (h0 : smL smFlight xs) : s16.F [.sl .ro 11 (xs.map (rFlight .ro)), .sl .ro 11 (ys.map (rFlight .ro))] = some (.b (eqv xs ys), [.u, .u]) := mkS_eq (xs.length + 1) rfl rfl (fun cx h => by
  have hb := loopN_eq Tryz.f16 0 _ _ rfl rfl
  have hx := h0.1
  by_cases hl : xs.length = ys.length
  · obtain ⟨r, hr, hq⟩ := loop_list (cx := cx) (blk := 0) (body := loopN Tryz.f16 0) (xs.zip ys) (fun k (_ : Unit) => ⟨E [(0, .sl .ro 11 (xs.map (rFlight .ro))), (1, .sl .ro 11 (ys.map (rFlight .ro))), (5, .i .i64 k)], B []⟩) (fun _ => ⟨E [], B []⟩) (fun x _ => !eqv x.1 x.2) (fun _ _ => ()) (fun _ _ => (.ret, ⟨E [(4, .b false)], B []⟩)) (fun _ _ => True)
      (fun l _ G => by simp only [go_sem, reduceIte, ↓reduceIte, reduceCtorEq, nA, nS, nM, nB, nE, nL, nT, nN, iL, iT, iE, iA, iM, iS, iG, iB, iN, iZ, h, zip_len hl, hl, Int.lt_irrefl, hb]) (fun k hk l _ => by
        have hk : k < xs.length := by rwa [zip_len hl] at hk
        have h1 : ((k : Int) < (xs.length : Int)) := Int.ofNat_lt.2 hk
        have h2 := h0.2 _ (List.getElem_mem hk)
        have h3 : (xs.zip ys)[k] = (xs[k], ys[k]'(by omega)) := by simp
        rw [h3]
        cases hc : eqv xs[k] (ys[k]'(by omega))
        · exact .inl ⟨rfl, fun G => by simp only [go_sem, reduceIte, ↓reduceIte, reduceCtorEq, nA, nS, nM, nB, nE, nL, nT, nN, iL, iT, iE, iA, iM, iS, iG, iB, iN, iZ, h, hc, map_gd (rFlight .ro) xs k hk, map_gd (rFlight .ro) ys k (by omega), idx_nt ys.length k (by omega), h2, h1, idx_nt _ _ hk, wrap_nat1 (show k < 9223372036854775807 by omega), hb]⟩
        · exact .inr ⟨rfl, trivial, _, fun G => by simp only [go_sem, reduceIte, ↓reduceIte, reduceCtorEq, nA, nS, nM, nB, nE, nL, nT, nN, iL, iT, iE, iA, iM, iS, iG, iB, iN, iZ, h, hc, map_gd (rFlight .ro) xs k hk, map_gd (rFlight .ro) ys k (by omega), idx_nt ys.length k (by omega), h2, h1, idx_nt _ _ hk, wrap_nat1 (show k < 9223372036854775807 by omega), hb] <;> with_reducible rfl, by simp only [go_sem, reduceIte, ↓reduceIte, reduceCtorEq, nA, nS, nM, nB, nE, nL, nT, nN, iL, iT, iE, iA, iM, iS, iG, iB, iN, iZ, h]⟩) () trivial (xs.length + 1) (by rw [zip_len hl]; exact Nat.le_refl _)
    rw [hb] at hr
    have hl2 : ((xs.length : Int) != (ys.length : Int)) = false := by simp [hl]
    rcases hq with ⟨s', e1, e2, e3⟩ | ⟨x, s', e1, e3⟩
    · simp only [go_sem, reduceIte, ↓reduceIte, reduceCtorEq, nA, nS, nM, nB, nE, nL, nT, nN, iL, iT, iE, iA, iM, iS, iG, iB, iN, iZ, h, hl2, hr, e3, zip_eqv hl e1]
    · simp only [go_sem, reduceIte, ↓reduceIte, reduceCtorEq, nA, nS, nM, nB, nE, nL, nT, nN, iL, iT, iE, iA, iM, iS, iG, iB, iN, iZ, h, hl2, hr, e3, zip_nev hl e1]
  · have hl2 : ((xs.length : Int) != (ys.length : Int)) = true := by simpa using fun h => hl (Int.ofNat_inj.1 h)
    simp only [go_sem, reduceIte, ↓reduceIte, reduceCtorEq, nA, nS, nM, nB, nE, nL, nT, nN, iL, iT, iE, iA, iM, iS, iG, iB, iN, iZ, h, hl2, len_nev hl]) (rfl)
def within (a b c : Int) : Bool := decide (b ≤ a) && decide (a ≤ c)
theorem within_t {a b c : Int} : within a b c = true ↔ b ≤ a ∧ a ≤ c := by simp [within]
theorem within_f {a b c : Int} : within a b c = false ↔ ¬ (b ≤ a ∧ a ≤ c) := by rw [← within_t]; simp
noncomputable def s21 : SP Tryz.prog := mkS tyA 21 Tryz.f21 [] { md := [.ro 1, .ro 1, .ro 1], rets := some ([6], []) } Tryz.func21 (by kernel_rfl)
@[go_sem] theorem d21 : s21.g = 21 ∧ s21.fs = ⟨[.ro 1, .ro 1, .ro 1], s21.F, false⟩ := ⟨nr rfl, nr rfl⟩
@[go_sem] theorem e21 (a : Int) (b : Int) (c : Int) : s21.F [.i .i64 a, .i .i64 b, .i .i64 c] = some (.b (within a b c), [.u, .u, .u]) := mkS_eq (0) rfl rfl (fun cx h => by
  simp only [go_sem, reduceIte, ↓reduceIte, reduceCtorEq, nA, nS, nM, nB, nE, nL, nT, nN, iL, iT, iE, iA, iM, iS, iG, iB, iN, iZ, h, within]
  by_cases h : b ≤ a <;> simp [h]) (rfl)
def isTime (a : Int) : Bool := within a 0 1000000000000000
theorem isTime_t {a : Int} : isTime a = true ↔ 0 ≤ a ∧ a ≤ 1000000000000000 := within_t
noncomputable def s22 : SP Tryz.prog := mkS tyA 22 Tryz.f22 [s21] { md := [.ro 1], rets := some ([2], []) } Tryz.func22 (by kernel_rfl)
@[go_sem] theorem d22 : s22.g = 22 ∧ s22.fs = ⟨[.ro 1], s22.F, false⟩ := ⟨nr rfl, nr rfl⟩
@[go_sem] theorem e22 (a : Int) : s22.F [.i .i64 a] = some (.b (isTime a), [.u]) := mkS_eq (0) rfl rfl (fun cx h => by
  simp only [go_sem, reduceIte, ↓reduceIte, reduceCtorEq, nA, nS, nM, nB, nE, nL, nT, nN, iL, iT, iE, iA, iM, iS, iG, iB, iN, iZ, h, isTime]) (rfl)
/-! two with one number -/
def tw (s : List Waiter) : List Waiter → Bool
  | [] => false
  | x :: r => if (s.any fun y => y.Req == x.Req) = true then true else tw (s ++ [x]) r
theorem tw_inl : ∀ {xs s s' : List Waiter}, runS (fun x s => s.any fun y => y.Req == x.Req) (fun x s => s ++ [x]) xs s = .inl s' → tw s xs = false
  | [], _, _, _ => rfl
  | x :: xs, s, s', h => by
    rw [runS_cons] at h
    split at h
    · cases h
    · rename_i hc; rw [tw, if_neg hc]; exact tw_inl h
theorem tw_inr : ∀ {xs s : List Waiter} {q : Waiter × List Waiter}, runS (fun x s => s.any fun y => y.Req == x.Req) (fun x s => s ++ [x]) xs s = .inr q → tw s xs = true
  | [], _, _, h => by cases h
  | x :: xs, s, q, h => by
    rw [runS_cons] at h
    split at h
    · rename_i hc; rw [tw, if_pos hc]
    · rename_i hc; rw [tw, if_neg hc]; exact tw_inr h
theorem any_flip (ws : List Waiter) (r : Int) : (ws.any fun y => r == y.Req) = ws.any fun y => y.Req == r := by
  congr 1; funext y; exact Bool.eq_iff_iff.2 (by rw [beq_iff_eq, beq_iff_eq]; exact eq_comm)
theorem take_snoc {α : Type} (xs : List α) (k : Nat) (h : k < xs.length) : xs.take (k + 1) = xs.take k ++ [xs[k]] := by
  rw [List.take_add_one, List.getElem?_eq_getElem h]; rfl
theorem runS_any {α : Type} {p : α → Bool} : ∀ {xs : List α} {u u' : Unit}, runS (fun x _ => p x) (fun _ _ => ()) xs u = .inl u' → xs.any p = false
  | [], _, _, _ => rfl
  | x :: xs, u, u', h => by
    rw [runS_cons] at h
    split at h
    · cases h
    · rename_i hc
      simp only [List.any_cons, runS_any h, Bool.or_false]
      simpa using hc
theorem runS_any' {α : Type} {p : α → Bool} : ∀ {xs : List α} {u : Unit} {q : α × Unit}, runS (fun x _ => p x) (fun _ _ => ()) xs u = .inr q → xs.any p = true
  | [], _, _, h => by cases h
  | x :: xs, u, q, h => by
    rw [runS_cons] at h
    split at h
    · rename_i hc; simp [hc]
    · simp only [List.any_cons, runS_any' h, Bool.or_true]
noncomputable def s86 : SP Tryz.prog := mkS tyA 86 Tryz.f86 [] { md := [.ro 1], rg := [(0, [0], []), (1, [0, 3], []), (2, [0, 3, 8], []), (3, [0, 3], []), (4, [0, 3, 4], []), (5, [0, 3, 4, 13], []), (6, [0, 3, 4], []), (7, [0, 3, 4, 26], []), (8, [2], []), (9, [2], [])], lv := [(0, [0, 3], []), (2, [0, 3, 4], [])], out := [(0, [], []), (2, [0, 3], [])], rets := some ([2], []), plan := [(7, (.take 0 (.take 1 (.take 2 (.take 3 (.take 4 (.take 5 (.take 6 (.take 7 (.take 8 (.take 9 (.take 10 .done))))))))))))] } Tryz.func86 (by kernel_rfl)
@[go_sem] theorem d86 : s86.g = 86 ∧ s86.fs = ⟨[.ro 1], s86.F, false⟩ := ⟨nr rfl, nr rfl⟩
@[go_sem] theorem e86 (ws : List Waiter) (h0 : ws.length ≤ 9223372036854775806) : s86.F [.sl .ro 4 (ws.map (rWaiter .ro))] = some (.b (tw [] ws), [.u]) := mkS_eq (ws.length + 1) rfl rfl (fun cx h => by
  have hx := h0
  have hb0 := loopN_eq Tryz.f86 0 _ _ rfl rfl
  obtain ⟨r, hr, hq⟩ := loop_srch (cx := cx) (blk := 0) (body := loopN Tryz.f86 0) ws (fun k (s : List Waiter) => ⟨E [(0, .sl .ro 4 (ws.map (rWaiter .ro))), (3, .i .i64 k)], B []⟩) (fun s => ⟨E [], B []⟩) (fun x s => s.any fun y => y.Req == x.Req) (fun x s => s ++ [x]) (fun x s => (.ret, ⟨E [(2, .b true)], B []⟩)) (fun k s => s = ws.take k)
      (fun s hI G => by simp only [go_sem, reduceIte, ↓reduceIte, reduceCtorEq, nA, nS, nM, nB, nE, nL, nT, nN, iL, iT, iE, iA, iM, iS, iG, iB, iN, iZ, h, Int.lt_irrefl, hb0, hx]) (fun k hk s hI => by
        have h1 : ((k : Int) < (ws.length : Int)) := Int.ofNat_lt.2 hk
        obtain ⟨q, hq0⟩ : ∃ q, q = k := ⟨k, rfl⟩
        have hq1 : q < ws.length := by omega
        have hlen : (ws.take q).length = q := by rw [List.length_take]; omega
        have hb1 := loopN_eq Tryz.f86 1 _ _ rfl rfl
        obtain ⟨r2, hr2, hqr2⟩ := loop_srch (cx := cx) (blk := 2) (body := loopN Tryz.f86 1) (ws.take q) (fun k (s : Unit) => ⟨E [(0, .sl .ro 4 (ws.map (rWaiter .ro))), (3, .i .i64 q), (4, .i .i64 k)], B []⟩) (fun s => ⟨E [(0, .sl .ro 4 (ws.map (rWaiter .ro))), (3, .i .i64 q)], B []⟩) (fun x s => ws[q].Req == x.Req) (fun x s => ()) (fun x s => (.ret, ⟨E [(2, .b true)], B []⟩)) (fun k s => True)
            (fun s hI G => by simp only [go_sem, reduceIte, ↓reduceIte, reduceCtorEq, nA, nS, nM, nB, nE, nL, nT, nN, iL, iT, iE, iA, iM, iS, iG, iB, iN, iZ, h, Int.lt_irrefl, hb1, hlen, Int.lt_irrefl]) (fun k hk s hI => by
              have h1 : ((k : Int) < ((ws.take q).length : Int)) := Int.ofNat_lt.2 hk
              have hk2 : k < q := by rw [List.length_take] at hk; omega
              have hk3 : k < ws.length := by omega
              have hkq : (k : Int) < (q : Int) := by omega
              have e1 : (ws.take q)[k] = ws[k] := by simp
              have i1 := idx_nt ws.length k hk3
              have i2 := idx_nt ws.length q hq1
              have w1 := wrap_nat1 (show k < 9223372036854775807 by omega)
              all_goals exact ⟨_, _, _, fun G => by simp only [go_sem, reduceIte, ↓reduceIte, reduceCtorEq, nA, nS, nM, nB, nE, nL, nT, nN, iL, iT, iE, iA, iM, iS, iG, iB, iN, iZ, h, hkq, e1, i1, i2, w1, map_gd (rWaiter .ro) ws k hk3, map_gd (rWaiter .ro) ws q hq1, List.length_map, h1, idx_nt _ _ hk, wrap_nat1 (show k < 9223372036854775807 by omega), hb1] <;> with_reducible rfl, by simp [e1], fun hc => ⟨trivial, by simp only [go_sem, reduceIte, ↓reduceIte, reduceCtorEq, nA, nS, nM, nB, nE, nL, nT, nN, iL, iT, iE, iA, iM, iS, iG, iB, iN, iZ, h, hlen]⟩⟩) () trivial (ws.length + 1) (by rw [List.length_take]; omega)
        rw [hb1] at hr2
        subst hq0
        have hfl := any_flip (ws.take q) ws[q].Req
        have hy : r2 = (if (s.any fun y => y.Req == ws[q].Req) = true then some (.ret, ⟨E [(2, .b true)], B []⟩) else some (.ex 2, ⟨E [(0, .sl .ro 4 (ws.map (rWaiter .ro))), (3, .i .i64 q)], B []⟩)) := by
          subst hI
          rcases hqr2 with ⟨s', e1, _, e3⟩ | ⟨x, s', e1, e3⟩
          · rw [← hfl, runS_any e1, e3]; rfl
          · rw [← hfl, runS_any' e1, e3]; rfl
        rw [hy] at hr2
        exact ⟨_, _, _, fun G => by simp only [go_sem, reduceIte, ↓reduceIte, reduceCtorEq, nA, nS, nM, nB, nE, nL, nT, nN, iL, iT, iE, iA, iM, iS, iG, iB, iN, iZ, h, hr2, h1, idx_nt ws.length q hk, wrap_nat1 (show q < 9223372036854775807 by omega), hb0] <;> with_reducible rfl, Iff.rfl, fun hc => ⟨(by rw [hI]; exact (take_snoc ws q hk).symm), by simp only [go_sem, reduceIte, ↓reduceIte, reduceCtorEq, nA, nS, nM, nB, nE, nL, nT, nN, iL, iT, iE, iA, iM, iS, iG, iB, iN, iZ, h]⟩⟩) [] rfl (ws.length + 1) (Nat.le_refl _)
  rw [hb0] at hr
  rcases hq with ⟨s', e1, _, e3⟩ | ⟨x, s', e1, e3⟩
  · simp only [go_sem, reduceIte, ↓reduceIte, reduceCtorEq, nA, nS, nM, nB, nE, nL, nT, nN, iL, iT, iE, iA, iM, iS, iG, iB, iN, iZ, h, hr, e3, tw_inl e1]
  · simp only [go_sem, reduceIte, ↓reduceIte, reduceCtorEq, nA, nS, nM, nB, nE, nL, nT, nN, iL, iT, iE, iA, iM, iS, iG, iB, iN, iZ, h, hr, e3, tw_inr e1]) (rfl)
theorem byne {c v : UInt8} (h : c ≠ v) : ((c.toNat : Int) == (v.toNat : Int)) = false := by
  simp only [beq_eq_false_iff_ne, ne_eq, Int.ofNat_inj]
  exact fun e => h (UInt8.toNat_inj.1 e)
def letterB (c : UInt8) : Bool := (decide (97 ≤ (c.toNat : Int)) && decide ((c.toNat : Int) ≤ 122)) || (decide (65 ≤ (c.toNat : Int)) && decide ((c.toNat : Int) ≤ 90))
def digitB (c : UInt8) : Bool := decide (48 ≤ (c.toNat : Int)) && decide ((c.toNat : Int) ≤ 57)
theorem index_ge (l : List UInt8) (c : UInt8) : 0 ≤ Lib.indexByte l c ↔ c ∈ l := by
  induction l with
  | nil => simp [Lib.indexByte]
  | cons b l ih =>
    have := Lib.indexByte_ge l c
    unfold Lib.indexByte
    by_cases hb : b = c
    · simp [hb]
    · by_cases hx : Lib.indexByte l c = -1
      · have hn : ¬ c ∈ l := fun h => by have := ih.2 h; omega
        simp [hx, hn, hb, Ne.symm hb]
      · have h2 : 0 ≤ Lib.indexByte l c := by omega
        simp [hb, hx, ih.1 h2]; omega
def ixB (s : ByteArray) (c : UInt8) : Int := Lib.indexByte s.data.toList c
theorem ixB_ge (l : List UInt8) (c : UInt8) : decide (0 ≤ ixB ⟨l.toArray⟩ c) = l.contains c := by
  rw [Bool.eq_iff_iff, decide_eq_true_eq, List.contains_iff_mem]
  exact index_ge l c
theorem int_u8 (c : UInt8) : ((c.toNat : Int)).toNat.toUInt8 = c := by simp
noncomputable def s96 : SP Tryz.prog := mkS tyA 96 Tryz.f96 [] { md := [.ro 1], rets := some ([2], []) } Tryz.func96 (by kernel_rfl)
@[go_sem] theorem d96 : s96.g = 96 ∧ s96.fs = ⟨[.ro 1], s96.F, false⟩ := ⟨nr rfl, nr rfl⟩
@[go_sem] theorem e96 (c : UInt8) : s96.F [.i .u8 c.toNat] = some (.b (letterB c), [.u]) := mkS_eq (0) rfl rfl (fun cx h => by
  by_cases h1 : 97 ≤ (c.toNat : Int) <;> by_cases h2 : (c.toNat : Int) ≤ 122 <;> by_cases h3 : 65 ≤ (c.toNat : Int) <;> by_cases h4 : (c.toNat : Int) ≤ 90 <;> simp only [go_sem, reduceIte, ↓reduceIte, reduceCtorEq, nA, nS, nM, nB, nE, nL, nT, nN, iL, iT, iE, iA, iM, iS, iG, iB, iN, iZ, h, h1, h2, h3, h4, letterB]) (rfl)
noncomputable def s97 : SP Tryz.prog := mkS tyA 97 Tryz.f97 [] { md := [.ro 1], rets := some ([2], []) } Tryz.func97 (by kernel_rfl)
@[go_sem] theorem d97 : s97.g = 97 ∧ s97.fs = ⟨[.ro 1], s97.F, false⟩ := ⟨nr rfl, nr rfl⟩
@[go_sem] theorem e97 (c : UInt8) : s97.F [.i .u8 c.toNat] = some (.b (digitB c), [.u]) := mkS_eq (0) rfl rfl (fun cx h => by
  by_cases h1 : 48 ≤ (c.toNat : Int) <;> by_cases h2 : (c.toNat : Int) ≤ 57 <;> simp only [go_sem, reduceIte, ↓reduceIte, reduceCtorEq, nA, nS, nM, nB, nE, nL, nT, nN, iL, iT, iE, iA, iM, iS, iG, iB, iN, iZ, h, h1, h2, digitB]) (rfl)
def symB : List UInt8 := [33, 35, 36, 37, 38, 39, 42, 43, 45, 46, 94, 95, 124, 126]
def wordB (c : UInt8) : Bool := letterB c || digitB c || symB.contains c
theorem wordB_sym {c : UInt8} (h : c ∈ symB) : wordB c = true := by
  have : symB.contains c = true := List.contains_iff_mem.2 h
  simp [wordB, this, -List.contains_eq_mem]
theorem wordB_not {c : UInt8} (h : ¬ c ∈ symB) : wordB c = (letterB c || digitB c) := by
  have : symB.contains c = false := by rw [Bool.eq_false_iff]; exact fun e => h (List.contains_iff_mem.1 e)
  simp [wordB, this, -List.contains_eq_mem]
theorem ixB_sym (c : UInt8) : decide (0 ≤ ixB ⟨#[33, 35, 36, 37, 38, 39, 42, 43, 45, 46, 94, 95, 124, 126]⟩ c) = symB.contains c := ixB_ge symB c
@[go_sem] theorem ixB_symI (c : UInt8) : decide (ixB ⟨#[33, 35, 36, 37, 38, 39, 42, 43, 45, 46, 94, 95, 124, 126]⟩ c ≥ 0) = symB.contains c := ixB_ge symB c
theorem wx : (1 : Int) = 1 := rfl
noncomputable def s74 : SP Tryz.prog := mkS tyA 74 Tryz.f74 [s96, s97] { md := [.ro 1], rg := [(0, [0], []), (1, [0, 3], []), (2, [0, 3, 4], []), (3, [0, 3, 4], []), (4, [0, 3, 4], []), (5, [0, 3, 4], []), (6, [0, 3, 4], []), (7, [0, 3, 4], []), (8, [0, 3, 4], []), (9, [0, 3, 4], []), (10, [0, 3, 4], []), (11, [0, 3, 4], []), (12, [0, 3, 4], []), (13, [0, 3, 4], []), (14, [0, 3, 4], []), (15, [0, 4], []), (16, [2], []), (17, [2], [])], rets := some ([2], []) } Tryz.func74 (by kernel_rfl)
@[go_sem] theorem d74 : s74.g = 74 ∧ s74.fs = ⟨[.ro 1], s74.F, false⟩ := ⟨nr rfl, nr rfl⟩
@[go_sem] theorem e74 (c : UInt8) : s74.F [.i .u8 c.toNat] = some (.b (wordB c), [.u]) := mkS_eq (0) rfl rfl (fun cx h => by
  by_cases m : c ∈ symB
  · have hw := wordB_sym m
    simp only [symB, List.mem_cons, List.not_mem_nil, or_false] at m
    have u33 : (((33 : UInt8).toNat : Nat) : Int) = 33 := rfl
    have u35 : (((35 : UInt8).toNat : Nat) : Int) = 35 := rfl
    have u36 : (((36 : UInt8).toNat : Nat) : Int) = 36 := rfl
    have u37 : (((37 : UInt8).toNat : Nat) : Int) = 37 := rfl
    have u38 : (((38 : UInt8).toNat : Nat) : Int) = 38 := rfl
    have u39 : (((39 : UInt8).toNat : Nat) : Int) = 39 := rfl
    have u42 : (((42 : UInt8).toNat : Nat) : Int) = 42 := rfl
    have u43 : (((43 : UInt8).toNat : Nat) : Int) = 43 := rfl
    have u45 : (((45 : UInt8).toNat : Nat) : Int) = 45 := rfl
    have u46 : (((46 : UInt8).toNat : Nat) : Int) = 46 := rfl
    have u94 : (((94 : UInt8).toNat : Nat) : Int) = 94 := rfl
    have u95 : (((95 : UInt8).toNat : Nat) : Int) = 95 := rfl
    have u124 : (((124 : UInt8).toNat : Nat) : Int) = 124 := rfl
    have u126 : (((126 : UInt8).toNat : Nat) : Int) = 126 := rfl
    rcases m with rfl | rfl | rfl | rfl | rfl | rfl | rfl | rfl | rfl | rfl | rfl | rfl | rfl | rfl <;> simp only [go_sem, reduceIte, ↓reduceIte, reduceCtorEq, nA, nS, nM, nB, nE, nL, nT, nN, iL, iT, iE, iA, iM, iS, iG, iB, iN, iZ, h, hw, wx, u33, u35, u36, u37, u38, u39, u42, u43, u45, u46, u94, u95, u124, u126]
  · have hw := wordB_not m
    have q33 : ((c.toNat : Int) == 33) = false := byne (v := 33) (fun e => m (by subst e; decide))
    have q35 : ((c.toNat : Int) == 35) = false := byne (v := 35) (fun e => m (by subst e; decide))
    have q36 : ((c.toNat : Int) == 36) = false := byne (v := 36) (fun e => m (by subst e; decide))
    have q37 : ((c.toNat : Int) == 37) = false := byne (v := 37) (fun e => m (by subst e; decide))
    have q38 : ((c.toNat : Int) == 38) = false := byne (v := 38) (fun e => m (by subst e; decide))
    have q39 : ((c.toNat : Int) == 39) = false := byne (v := 39) (fun e => m (by subst e; decide))
    have q42 : ((c.toNat : Int) == 42) = false := byne (v := 42) (fun e => m (by subst e; decide))
    have q43 : ((c.toNat : Int) == 43) = false := byne (v := 43) (fun e => m (by subst e; decide))
    have q45 : ((c.toNat : Int) == 45) = false := byne (v := 45) (fun e => m (by subst e; decide))
    have q46 : ((c.toNat : Int) == 46) = false := byne (v := 46) (fun e => m (by subst e; decide))
    have q94 : ((c.toNat : Int) == 94) = false := byne (v := 94) (fun e => m (by subst e; decide))
    have q95 : ((c.toNat : Int) == 95) = false := byne (v := 95) (fun e => m (by subst e; decide))
    have q124 : ((c.toNat : Int) == 124) = false := byne (v := 124) (fun e => m (by subst e; decide))
    have q126 : ((c.toNat : Int) == 126) = false := byne (v := 126) (fun e => m (by subst e; decide))
    cases h1 : letterB c <;> cases h2 : digitB c <;> simp only [go_sem, reduceIte, ↓reduceIte, reduceCtorEq, nA, nS, nM, nB, nE, nL, nT, nN, iL, iT, iE, iA, iM, iS, iG, iB, iN, iZ, h, hw, h1, h2, q33, q35, q36, q37, q38, q39, q42, q43, q45, q46, q94, q95, q124, q126]) (rfl)
def areB (p : UInt8 → Bool) (lo hi : Int) (t : ByteArray) : Bool := decide (lo ≤ (t.size : Int)) && decide ((t.size : Int) ≤ hi) && t.data.toList.all p
theorem areB_short {p : UInt8 → Bool} {lo hi : Int} {t : ByteArray} (h : (t.size : Int) < lo) : areB p lo hi t = false := by
  have : ¬ lo ≤ (t.size : Int) := by omega
  simp [areB, this]
theorem areB_long {p : UInt8 → Bool} {lo hi : Int} {t : ByteArray} (h : hi < (t.size : Int)) : areB p lo hi t = false := by
  have : ¬ (t.size : Int) ≤ hi := by omega
  simp [areB, this]
theorem areB_all {p : UInt8 → Bool} {lo hi : Int} {t : ByteArray} (h : ¬ (t.size : Int) < lo) (h' : ¬ hi < (t.size : Int)) : areB p lo hi t = t.data.toList.all p := by
  have h1 : lo ≤ (t.size : Int) := by omega
  have h2 : (t.size : Int) ≤ hi := by omega
  simp [areB, h1, h2]
theorem runS_all {α : Type} {p : α → Bool} : ∀ {xs : List α} {u u' : Unit}, runS (fun x _ => !p x) (fun _ _ => ()) xs u = .inl u' → xs.all p = true
  | [], _, _, _ => rfl
  | x :: xs, u, u', h => by
    rw [runS_cons] at h
    split at h
    · cases h
    · rename_i hc
      simp only [List.all_cons, runS_all h, Bool.and_true]
      simpa using hc
theorem runS_all' {α : Type} {p : α → Bool} : ∀ {xs : List α} {u : Unit} {q : α × Unit}, runS (fun x _ => !p x) (fun _ _ => ()) xs u = .inr q → xs.all p = false
  | [], _, _, h => by cases h
  | x :: xs, u, q, h => by
    rw [runS_cons] at h
    split at h
    · rename_i hc
      have : p x = false := by simpa using hc
      simp [this]
    · simp only [List.all_cons, runS_all' h, Bool.and_false]
theorem str_at (t : ByteArray) (k : Nat) (h : k < t.data.toList.length) : t.data[k]?.getD 0 = t.data.toList[k] := by
  have h' : k < t.data.size := by simpa using h
  rw [Array.getElem?_eq_getElem h']
  simp
theorem str_size (t : ByteArray) : t.size = t.data.toList.length := by
  show t.data.size = _
  simp
def isWord (t : ByteArray) : Bool := areB wordB 1 64 t
noncomputable def s54 : SP Tryz.prog := mkS tyA 54 Tryz.f54 [s74] { md := [.ro 1], rg := [(0, [0], []), (1, [0, 11], []), (2, [2], []), (3, [0, 3], []), (4, [0, 3, 15], []), (5, [0, 3], []), (6, [0, 3, 22], []), (7, [2], []), (8, [2], [])], lv := [(0, [0, 3], [])], out := [(0, [], [])], rets := some ([2], []) } Tryz.func54 (by kernel_rfl)
@[go_sem] theorem d54 : s54.g = 54 ∧ s54.fs = ⟨[.ro 1], s54.F, false⟩ := ⟨nr rfl, nr rfl⟩
@[go_sem] theorem e54 (t : ByteArray) : s54.F [.s t] = some (.b (isWord t), [.u]) := mkS_eq (t.data.toList.length + 1) rfl rfl (fun cx h => by
  have hu : isWord t = areB wordB 1 64 t := rfl
  by_cases h1 : (t.size : Int) < 1
  · simp only [go_sem, reduceIte, ↓reduceIte, reduceCtorEq, nA, nS, nM, nB, nE, nL, nT, nN, iL, iT, iE, iA, iM, iS, iG, iB, iN, iZ, h, h1, hu, areB_short h1]
  by_cases h2 : 64 < (t.size : Int)
  · simp only [go_sem, reduceIte, ↓reduceIte, reduceCtorEq, nA, nS, nM, nB, nE, nL, nT, nN, iL, iT, iE, iA, iM, iS, iG, iB, iN, iZ, h, h1, h2, hu, areB_long h2]
  have hx : t.data.toList.length ≤ 9223372036854775806 := by rw [← str_size]; omega
  have ha := areB_all (p := wordB) h1 h2
  rw [str_size t] at h1 h2
  · have hb0 := loopN_eq Tryz.f54 0 _ _ rfl rfl
    obtain ⟨r, hr, hq⟩ := loop_srch (cx := cx) (blk := 0) (body := loopN Tryz.f54 0) t.data.toList (fun k (s : Unit) => ⟨E [(0, .s t), (3, .i .i64 k)], B []⟩) (fun s => ⟨E [], B []⟩) (fun x s => !wordB x) (fun x s => ()) (fun x s => (.ret, ⟨E [(2, .b false)], B []⟩)) (fun k s => True)
        (fun s hI G => by simp only [go_sem, reduceIte, ↓reduceIte, reduceCtorEq, nA, nS, nM, nB, nE, nL, nT, nN, iL, iT, iE, iA, iM, iS, iG, iB, iN, iZ, h, Int.lt_irrefl, hb0, str_size t]) (fun k hk s hI => by
          have h1 : ((k : Int) < (t.data.toList.length : Int)) := Int.ofNat_lt.2 hk
          have hz := str_at t k hk
          exact ⟨_, _, _, fun G => by simp only [go_sem, reduceIte, ↓reduceIte, reduceCtorEq, nA, nS, nM, nB, nE, nL, nT, nN, iL, iT, iE, iA, iM, iS, iG, iB, iN, iZ, h, hz, str_size t, h1, idx_nt _ _ hk, wrap_nat1 (show k < 9223372036854775807 by omega), hb0] <;> with_reducible rfl, Iff.rfl, fun hc => ⟨trivial, by simp only [go_sem, reduceIte, ↓reduceIte, reduceCtorEq, nA, nS, nM, nB, nE, nL, nT, nN, iL, iT, iE, iA, iM, iS, iG, iB, iN, iZ, h, str_size t]⟩⟩) () trivial (t.data.toList.length + 1) (Nat.le_refl _)
    rw [hb0] at hr
    rcases hq with ⟨s', e1, _, e3⟩ | ⟨x, s', e1, e3⟩
    · simp only [go_sem, reduceIte, ↓reduceIte, reduceCtorEq, nA, nS, nM, nB, nE, nL, nT, nN, iL, iT, iE, iA, iM, iS, iG, iB, iN, iZ, h, h1, h2, str_size t, hr, e3, hu, ha, runS_all e1]
    · simp only [go_sem, reduceIte, ↓reduceIte, reduceCtorEq, nA, nS, nM, nB, nE, nL, nT, nN, iL, iT, iE, iA, iM, iS, iG, iB, iN, iZ, h, h1, h2, str_size t, hr, e3, hu, ha, runS_all' e1]) (rfl)
def plainB (c : UInt8) : Bool := ((c.toNat : Int) == 9) || (decide (32 ≤ (c.toNat : Int)) && decide ((c.toNat : Int) ≤ 126))
noncomputable def s144 : SP Tryz.prog := mkS tyA 144 Tryz.f144 [] { md := [.ro 1], rets := some ([2], []) } Tryz.func144 (by kernel_rfl)
@[go_sem] theorem d144 : s144.g = 144 ∧ s144.fs = ⟨[.ro 1], s144.F, false⟩ := ⟨nr rfl, nr rfl⟩
@[go_sem] theorem e144 (c : UInt8) : s144.F [.i .u8 c.toNat] = some (.b (plainB c), [.u]) := mkS_eq (0) rfl rfl (fun cx h => by
  cases h1 : ((c.toNat : Int) == 9) <;> by_cases h2 : 32 ≤ (c.toNat : Int) <;> by_cases h3 : (c.toNat : Int) ≤ 126 <;> simp only [go_sem, reduceIte, ↓reduceIte, reduceCtorEq, nA, nS, nM, nB, nE, nL, nT, nN, iL, iT, iE, iA, iM, iS, iG, iB, iN, iZ, h, h1, h2, h3, plainB]) (rfl)
def areP (t : ByteArray) : Bool := t.data.toList.all plainB
theorem areP_eq (t : ByteArray) : areB plainB 0 (t.size : Int) t = areP t := areB_all (by omega) (by omega)
noncomputable def s131 : SP Tryz.prog := mkS tyA 131 Tryz.f131 [s144] { md := [.ro 1], rg := [(0, [0], []), (1, [0, 3], []), (2, [0, 3, 7], []), (3, [0, 3], []), (4, [0, 3, 14], []), (5, [2], []), (6, [2], [])], lv := [(0, [0, 3], [])], out := [(0, [], [])], rets := some ([2], []) } Tryz.func131 (by kernel_rfl)
@[go_sem] theorem d131 : s131.g = 131 ∧ s131.fs = ⟨[.ro 1], s131.F, false⟩ := ⟨nr rfl, nr rfl⟩
@[go_sem] theorem e131 (t : ByteArray) (h0 : (t.size : Int) ≤ 1000000) : s131.F [.s t] = some (.b (areP t), [.u]) := mkS_eq (t.data.toList.length + 1) rfl rfl (fun cx h => by
  have hx : t.data.toList.length ≤ 9223372036854775806 := by rw [← str_size]; omega
  have hb0 := loopN_eq Tryz.f131 0 _ _ rfl rfl
  obtain ⟨r, hr, hq⟩ := loop_srch (cx := cx) (blk := 0) (body := loopN Tryz.f131 0) t.data.toList (fun k (s : Unit) => ⟨E [(0, .s t), (3, .i .i64 k)], B []⟩) (fun s => ⟨E [], B []⟩) (fun x s => !plainB x) (fun x s => ()) (fun x s => (.ret, ⟨E [(2, .b false)], B []⟩)) (fun k s => True)
      (fun s hI G => by simp only [go_sem, reduceIte, ↓reduceIte, reduceCtorEq, nA, nS, nM, nB, nE, nL, nT, nN, iL, iT, iE, iA, iM, iS, iG, iB, iN, iZ, h, Int.lt_irrefl, hb0, str_size t]) (fun k hk s hI => by
        have h1 : ((k : Int) < (t.data.toList.length : Int)) := Int.ofNat_lt.2 hk
        have hz := str_at t k hk
        exact ⟨_, _, _, fun G => by simp only [go_sem, reduceIte, ↓reduceIte, reduceCtorEq, nA, nS, nM, nB, nE, nL, nT, nN, iL, iT, iE, iA, iM, iS, iG, iB, iN, iZ, h, hz, str_size t, h1, idx_nt _ _ hk, wrap_nat1 (show k < 9223372036854775807 by omega), hb0] <;> with_reducible rfl, Iff.rfl, fun hc => ⟨trivial, by simp only [go_sem, reduceIte, ↓reduceIte, reduceCtorEq, nA, nS, nM, nB, nE, nL, nT, nN, iL, iT, iE, iA, iM, iS, iG, iB, iN, iZ, h, str_size t]⟩⟩) () trivial (t.data.toList.length + 1) (Nat.le_refl _)
  rw [hb0] at hr
  rcases hq with ⟨s', e1, _, e3⟩ | ⟨x, s', e1, e3⟩
  · simp only [go_sem, reduceIte, ↓reduceIte, reduceCtorEq, nA, nS, nM, nB, nE, nL, nT, nN, iL, iT, iE, iA, iM, iS, iG, iB, iN, iZ, h, hr, e3, areP, runS_all e1]
  · simp only [go_sem, reduceIte, ↓reduceIte, reduceCtorEq, nA, nS, nM, nB, nE, nL, nT, nN, iL, iT, iE, iA, iM, iS, iG, iB, iN, iZ, h, hr, e3, areP, runS_all' e1]) (rfl)
def trimB (t : ByteArray) : ByteArray := ⟨(Lib.trimS t.data.toList [32, 9]).toArray⟩
def blankB (c : UInt8) : Bool := ((c.toNat : Int) == 32) || ((c.toNat : Int) == 9)
def bl (t : ByteArray) (j : Nat) : Bool := blankB (t.data[j]?.getD 0)
theorem blankB_c (c : UInt8) : [32, 9].contains c = blankB c := by
  have h32 : (c == 32) = ((c.toNat : Int) == 32) := by
    rw [Bool.eq_iff_iff, beq_iff_eq, beq_iff_eq]
    constructor
    · rintro rfl; rfl
    · intro h; exact UInt8.toNat_inj.1 (by have : (32 : UInt8).toNat = 32 := rfl; omega)
  have h9 : (c == 9) = ((c.toNat : Int) == 9) := by
    rw [Bool.eq_iff_iff, beq_iff_eq, beq_iff_eq]
    constructor
    · rintro rfl; rfl
    · intro h; exact UInt8.toNat_inj.1 (by have : (9 : UInt8).toNat = 9 := rfl; omega)
  simp only [List.contains_cons, List.contains_nil, Bool.or_false, h32, h9, blankB]
theorem bl_get {t : ByteArray} {j : Nat} {b : UInt8} (h : t.data.toList[j]? = some b) : bl t j = [32, 9].contains b := by
  rw [blankB_c]
  unfold bl
  rw [Array.getElem?_toList] at h
  rw [h]; rfl
theorem trim_cut (t : ByteArray) (f e : Nat) (hf : f ≤ e) (he : e ≤ t.size) (h1 : ∀ j, j < f → bl t j = true) (h2 : f < t.size → bl t f = false) (h3 : ∀ j, e ≤ j → j < t.size → bl t j = true) (h4 : f < e → bl t (e - 1) = false) : trimB t = t.extract f e := by
  have hn : t.size = t.data.toList.length := str_size t
  have hext : t.extract f e = ⟨((t.data.toList.take e).drop f).toArray⟩ := by
    have : (t.extract f e).data = t.data.extract f e := by simp
    cases hx : t.extract f e with
    | mk d =>
      rw [hx] at this
      congr 1
      simp only at this
      rw [this]
      apply Array.ext'
      rw [Array.toList_extract, List.extract_eq_take_drop, List.drop_take]
  rw [hext]
  unfold trimB Lib.trimS
  congr 2
  by_cases hall : f < e
  · rw [Lib.trimRightS_take t.data.toList [32, 9] e (by omega) (fun j b hj hb => ?_) (fun b hk hb => ?_)]
    · refine Lib.trimLeftS_drop _ _ f (by simp; omega) (fun j b hj hb => ?_) (fun b hb => ?_)
      · rw [List.getElem?_take] at hb
        split at hb
        · rw [← bl_get hb]; exact h1 j hj
        · cases hb
      · rw [List.getElem?_take, if_pos hall] at hb
        rw [← bl_get hb]; exact h2 (by omega)
    · rw [← bl_get hb]; exact h3 j hj (by have := (List.getElem?_eq_some_iff.1 hb).1; omega)
    · rw [← bl_get hb]; exact h4 hall
  · obtain rfl : f = e := by omega
    have hfn : f = t.size := by
      rcases Nat.lt_or_ge f t.size with h | h
      · have := h2 h; rw [h3 f (Nat.le_refl _) h] at this; cases this
      · omega
    have hr : Lib.trimRightS t.data.toList [32, 9] = t.data.toList.take 0 := Lib.trimRightS_take _ _ 0 (by omega) (fun j b _ hb => by
      rw [← bl_get hb]; exact h1 j (by have := (List.getElem?_eq_some_iff.1 hb).1; omega)) (fun b hk _ => by omega)
    rw [hr]
    have : (t.data.toList.take f).drop f = [] := by
      apply List.drop_eq_nil_of_le
      simp
      omega
    rw [this]
    rfl
noncomputable def s145 : SP Tryz.prog := mkS tyA 145 Tryz.f145 [] { md := [.ro 1], rets := some ([2], []) } Tryz.func145 (by kernel_rfl)
@[go_sem] theorem d145 : s145.g = 145 ∧ s145.fs = ⟨[.ro 1], s145.F, false⟩ := ⟨nr rfl, nr rfl⟩
@[go_sem] theorem e145 (c : UInt8) : s145.F [.i .u8 c.toNat] = some (.b (blankB c), [.u]) := mkS_eq (0) rfl rfl (fun cx h => by
  cases h1 : ((c.toNat : Int) == 32) <;> cases h2 : ((c.toNat : Int) == 9) <;> simp only [go_sem, reduceIte, ↓reduceIte, reduceCtorEq, nA, nS, nM, nB, nE, nL, nT, nN, iL, iT, iE, iA, iM, iS, iG, iB, iN, iZ, h, h1, h2, blankB]) (rfl)
noncomputable def s132 : SP Tryz.prog := mkS tyA 132 Tryz.f132 [s145] { md := [.ro 1], rg := [(0, [0], []), (1, [0, 3], []), (2, [0, 3, 4], []), (3, [0, 3, 4, 15], []), (4, [0, 3, 4], []), (5, [0, 3, 4, 27], []), (6, [0, 3, 4], []), (7, [2], [])], lv := [(0, [0, 3, 4], []), (2, [0, 3, 4], [])], out := [(0, [0, 3, 4], []), (2, [0, 3, 4], [])], rets := some ([2], []) } Tryz.func132 (by kernel_rfl)
@[go_sem] theorem d132 : s132.g = 132 ∧ s132.fs = ⟨[.ro 1], s132.F, false⟩ := ⟨nr rfl, nr rfl⟩
@[go_sem] theorem e132 (t : ByteArray) (h0 : t.size ≤ 9223372036854775806) : s132.F [.s t] = some (.s (trimB t), [.u]) := mkS_eq (t.size + 1) rfl rfl (fun cx h => by
  have hb := loopN_eq Tryz.f132 0 _ _ rfl rfl
  have hb1 := loopN_eq Tryz.f132 1 _ _ rfl rfl
  have lp := loop_gen (cx := cx) (blk := 0) (body := loopN Tryz.f132 0) (fun (k : Nat) => ⟨E [(0, .s t), (3, .i .i64 k), (4, .i .i64 t.size)], B []⟩) (fun k => k ≤ t.size) (fun k => t.size - k)
    (fun k r => ∃ f : Nat, k ≤ f ∧ f ≤ t.size ∧ (∀ j, k ≤ j → j < f → bl t j = true) ∧ (f < t.size → bl t f = false) ∧ r = some (.ex 0, ⟨E [(0, .s t), (3, .i .i64 f), (4, .i .i64 t.size)], B []⟩)) (fun k hk => by
    by_cases h1 : (k : Int) < (t.size : Int)
    · have i1 := idx_nt t.size k (by omega)
      have w1 := wrap_nat1 (show k < 9223372036854775807 by omega)
      cases h2 : bl t k
      · have h3 : blankB (t.data[k]?.getD 0) = false := h2
        exact .inl fun G => ⟨k, Nat.le_refl _, hk, fun j a b => by omega, fun _ => h2, by simp only [go_sem, reduceIte, ↓reduceIte, reduceCtorEq, nA, nS, nM, nB, nE, nL, nT, nN, iL, iT, iE, iA, iM, iS, iG, iB, iN, iZ, h, hb, h1, h3, i1]⟩
      · have h3 : blankB (t.data[k]?.getD 0) = true := h2
        refine .inr ⟨_, k + 1, ?_, by omega, by omega, fun r ⟨f, a, b, c, d, e⟩ => ⟨f, by omega, b, fun j x y => ?_, d, e⟩, fun G => by simp only [go_sem, reduceIte, ↓reduceIte, reduceCtorEq, nA, nS, nM, nB, nE, nL, nT, nN, iL, iT, iE, iA, iM, iS, iG, iB, iN, iZ, h, hb, h1, h3, i1, w1]; rfl⟩
        · simp only [go_sem, reduceIte, ↓reduceIte, reduceCtorEq, nA, nS, nM, nB, nE, nL, nT, nN, iL, iT, iE, iA, iM, iS, iG, iB, iN, iZ, h]
        · rcases Nat.eq_or_lt_of_le x with rfl | x
          · exact h2
          · exact c j x y
    · exact .inl fun G => ⟨k, Nat.le_refl _, hk, fun j a b => by omega, fun x => by omega, by simp only [go_sem, reduceIte, ↓reduceIte, reduceCtorEq, nA, nS, nM, nB, nE, nL, nT, nN, iL, iT, iE, iA, iM, iS, iG, iB, iN, iZ, h, hb, h1]⟩)
  rw [hb] at lp
  obtain ⟨f, _, f2, f3, f4, l1⟩ := lp (t.size + 1) 0 (Nat.zero_le _) (by omega) ⟨E [(0, .s t), (3, .i .i64 0), (4, .i .i64 t.size)], B []⟩ (by simp only [go_sem, reduceIte, ↓reduceIte, reduceCtorEq, nA, nS, nM, nB, nE, nL, nT, nN, iL, iT, iE, iA, iM, iS, iG, iB, iN, iZ, h])
  have lp2 := loop_gen (cx := cx) (blk := 2) (body := loopN Tryz.f132 1) (fun (k : Nat) => ⟨E [(0, .s t), (3, .i .i64 f), (4, .i .i64 k)], B []⟩) (fun k => f ≤ k ∧ k ≤ t.size) (fun k => k)
    (fun k r => ∃ e : Nat, f ≤ e ∧ e ≤ k ∧ (∀ j, e ≤ j → j < k → bl t j = true) ∧ (f < e → bl t (e - 1) = false) ∧ r = some (.ex 2, ⟨E [(0, .s t), (3, .i .i64 f), (4, .i .i64 e)], B []⟩)) (fun k hk => by
    by_cases h1 : (f : Int) < (k : Int)
    · obtain ⟨m, rfl⟩ : ∃ m, k = m + 1 := ⟨k - 1, by omega⟩
      have i1 := idx_nt t.size m (by omega)
      have w1 : (IntKind.i64).wrap (((m + 1 : Nat) : Int) - 1) = (m : Int) := by rw [wrap_id (by omega) (by omega)]; omega
      cases h2 : bl t m
      · have h3 : blankB (t.data[m]?.getD 0) = false := h2
        exact .inl fun G => ⟨m + 1, hk.1, Nat.le_refl _, fun j a b => by omega, fun _ => by simpa using h2, by simp only [go_sem, reduceIte, ↓reduceIte, reduceCtorEq, nA, nS, nM, nB, nE, nL, nT, nN, iL, iT, iE, iA, iM, iS, iG, iB, iN, iZ, h, hb1, h1, h3, i1, w1]⟩
      · have h3 : blankB (t.data[m]?.getD 0) = true := h2
        refine .inr ⟨_, m, ?_, ⟨by omega, by omega⟩, by omega, fun r ⟨e, a, b, c, d, g⟩ => ⟨e, a, by omega, fun j x y => ?_, d, g⟩, fun G => by simp only [go_sem, reduceIte, ↓reduceIte, reduceCtorEq, nA, nS, nM, nB, nE, nL, nT, nN, iL, iT, iE, iA, iM, iS, iG, iB, iN, iZ, h, hb1, h1, h3, i1, w1]; rfl⟩
        · simp only [go_sem, reduceIte, ↓reduceIte, reduceCtorEq, nA, nS, nM, nB, nE, nL, nT, nN, iL, iT, iE, iA, iM, iS, iG, iB, iN, iZ, h]
        · rcases Nat.lt_or_ge j m with y' | y'
          · exact c j x y'
          · obtain rfl : j = m := by omega
            exact h2
    · exact .inl fun G => ⟨k, hk.1, Nat.le_refl _, fun j a b => by omega, fun x => by omega, by simp only [go_sem, reduceIte, ↓reduceIte, reduceCtorEq, nA, nS, nM, nB, nE, nL, nT, nN, iL, iT, iE, iA, iM, iS, iG, iB, iN, iZ, h, hb1, h1]⟩)
  rw [hb1] at lp2
  obtain ⟨e, e1, e2, e3, e4, l2⟩ := lp2 (t.size + 1) t.size ⟨f2, Nat.le_refl _⟩ (by omega) ⟨E [(0, .s t), (3, .i .i64 f), (4, .i .i64 t.size)], B []⟩ (by simp only [go_sem, reduceIte, ↓reduceIte, reduceCtorEq, nA, nS, nM, nB, nE, nL, nT, nN, iL, iT, iE, iA, iM, iS, iG, iB, iN, iZ, h])
  have hc := trim_cut t f e e1 e2 (fun j hj => f3 j (Nat.zero_le _) hj) f4 e3 e4
  have c1 : (0 : Int) ≤ (e : Int) := by omega
  have c2 : (e : Int) ≤ (t.size : Int) := by omega
  have c3 : (0 : Int) ≤ (f : Int) := by omega
  have c4 : (f : Int) ≤ (e : Int) := by omega
  simp only [go_sem, reduceIte, ↓reduceIte, reduceCtorEq, nA, nS, nM, nB, nE, nL, nT, nN, iL, iT, iE, iA, iM, iS, iG, iB, iN, iZ, h, l1, l2, c1, c2, c3, c4, Int.toNat_natCast, hc]) (rfl)
noncomputable def headerCode (h : Header) : Int := if isWord h.Name = false then 5 else if 200 < (h.Value.size : Int) then 2 else if (areP h.Value && eqv (trimB h.Value) h.Value) = true then 0 else 5
noncomputable def headersFault (hs : List Header) : Int := if 20 < (hs.length : Int) then 2 else firstI (hs.map headerCode)
theorem firstI_inl {α : Type} {f : α → Int} : ∀ {xs : List α} {u u' : Unit}, runS (fun x _ => f x != 0) (fun _ _ => ()) xs u = .inl u' → firstI (xs.map f) = 0
  | [], _, _, _ => rfl
  | x :: xs, u, u', h => by
    rw [runS_cons] at h
    split at h
    · cases h
    · rename_i hc; rw [List.map_cons, firstI_cons, if_neg hc]; exact firstI_inl h
theorem firstI_inr {α : Type} {f : α → Int} : ∀ {xs : List α} {u : Unit} {q : α × Unit}, runS (fun x _ => f x != 0) (fun _ _ => ()) xs u = .inr q → firstI (xs.map f) = f q.1
  | [], _, _, h => by cases h
  | x :: xs, u, q, h => by
    rw [runS_cons] at h
    split at h
    · rename_i hc; injection h with h; subst h; rw [List.map_cons, firstI_cons, if_pos hc]
    · rename_i hc; rw [List.map_cons, firstI_cons, if_neg hc]; exact firstI_inr h
noncomputable def s116 : SP Tryz.prog := mkS tyA 116 Tryz.f116 [s54, s131, s132] { md := [.ro 1], rg := [(0, [1], [1]), (1, [1, 3], [1]), (2, [3, 6], []), (3, [2], []), (4, [3, 11], []), (5, [2], []), (6, [15], []), (7, [2], []), (8, [2], [])], rets := some ([2], []) } Tryz.func116 (by kernel_rfl)
@[go_sem] theorem d116 : s116.g = 116 ∧ s116.fs = ⟨[.ro 1], s116.F, false⟩ := ⟨nr rfl, nr rfl⟩
@[go_sem] theorem e116 (xName : ByteArray) (xValue : ByteArray) : s116.F [.agg [.s xName, .s xValue]] = some (.i .i64 (headerCode (Header.mk xName xValue)), [.u]) := mkS_eq (0) rfl rfl (fun cx h => by
  cases h1 : isWord xName
  · simp only [go_sem, reduceIte, ↓reduceIte, reduceCtorEq, nA, nS, nM, nB, nE, nL, nT, nN, iL, iT, iE, iA, iM, iS, iG, iB, iN, iZ, h, h1, headerCode]
  by_cases h2 : 200 < (xValue.size : Int)
  · simp only [go_sem, reduceIte, ↓reduceIte, reduceCtorEq, nA, nS, nM, nB, nE, nL, nT, nN, iL, iT, iE, iA, iM, iS, iG, iB, iN, iZ, h, h1, h2, headerCode]
  have h3 : (xValue.size : Int) ≤ 1000000 := by omega
  have h4 : xValue.size ≤ 9223372036854775806 := by omega
  have h5 : xValue.size ≤ 9223372036854775807 := by omega
  cases h6 : areP xValue
  · simp only [go_sem, reduceIte, ↓reduceIte, reduceCtorEq, nA, nS, nM, nB, nE, nL, nT, nN, iL, iT, iE, iA, iM, iS, iG, iB, iN, iZ, h, h1, h2, h3, h4, h5, h6, headerCode]
  cases h7 : eqv (trimB xValue) xValue <;> simp only [go_sem, reduceIte, ↓reduceIte, reduceCtorEq, nA, nS, nM, nB, nE, nL, nT, nN, iL, iT, iE, iA, iM, iS, iG, iB, iN, iZ, h, h1, h2, h3, h4, h5, h6, h7, eqv_bytes, eqv_boolne, bne, headerCode]) (rfl)
noncomputable def s93 : SP Tryz.prog := mkS tyA 93 Tryz.f93 [s116] { md := [.ro 1], rg := [(0, [0], []), (1, [0, 7], []), (2, [2], []), (3, [0, 3], []), (4, [0, 3, 11], []), (5, [0, 3], []), (6, [0, 3, 4], []), (7, [0, 3, 4, 20], []), (8, [2], []), (9, [2], [])], lv := [(0, [0, 3], [])], out := [(0, [], [])], rets := some ([2], []) } Tryz.func93 (by kernel_rfl)
@[go_sem] theorem d93 : s93.g = 93 ∧ s93.fs = ⟨[.ro 1], s93.F, false⟩ := ⟨nr rfl, nr rfl⟩
@[go_sem] theorem e93 (hs : List Header) : s93.F [.sl .ro 2 (hs.map (rHeader .ro))] = some (.i .i64 (headersFault hs), [.u]) := mkS_eq (hs.length + 1) rfl rfl (fun cx h => by
  by_cases h1 : 20 < (hs.length : Int)
  · simp only [go_sem, reduceIte, ↓reduceIte, reduceCtorEq, nA, nS, nM, nB, nE, nL, nT, nN, iL, iT, iE, iA, iM, iS, iG, iB, iN, iZ, h, h1, headersFault]
  have hx : hs.length ≤ 9223372036854775806 := by omega
  have hb0 := loopN_eq Tryz.f93 0 _ _ rfl rfl
  obtain ⟨r, hr, hq⟩ := loop_srch (cx := cx) (blk := 0) (body := loopN Tryz.f93 0) hs (fun k (s : Unit) => ⟨E [(0, .sl .ro 2 (hs.map (rHeader .ro))), (3, .i .i64 k)], B []⟩) (fun s => ⟨E [], B []⟩) (fun x s => headerCode x != 0) (fun x s => ()) (fun x s => (.ret, ⟨E [(2, .i .i64 (headerCode x))], B []⟩)) (fun k s => True)
      (fun s hI G => by simp only [go_sem, reduceIte, ↓reduceIte, reduceCtorEq, nA, nS, nM, nB, nE, nL, nT, nN, iL, iT, iE, iA, iM, iS, iG, iB, iN, iZ, h, Int.lt_irrefl, hb0, hx]) (fun k hk s hI => by
        have h1 : ((k : Int) < (hs.length : Int)) := Int.ofNat_lt.2 hk
        exact ⟨_, _, _, fun G => by simp only [go_sem, reduceIte, ↓reduceIte, reduceCtorEq, nA, nS, nM, nB, nE, nL, nT, nN, iL, iT, iE, iA, iM, iS, iG, iB, iN, iZ, h, map_gd (rHeader .ro) hs _ hk, rHeader, h1, idx_nt _ _ hk, wrap_nat1 (show k < 9223372036854775807 by omega), hb0] <;> with_reducible rfl, Iff.rfl, fun hc => ⟨trivial, by simp only [go_sem, reduceIte, ↓reduceIte, reduceCtorEq, nA, nS, nM, nB, nE, nL, nT, nN, iL, iT, iE, iA, iM, iS, iG, iB, iN, iZ, h]⟩⟩) () trivial (hs.length + 1) (Nat.le_refl _)
  rw [hb0] at hr
  rcases hq with ⟨s', e1, _, e3⟩ | ⟨x, s', e1, e3⟩
  · simp only [go_sem, reduceIte, ↓reduceIte, reduceCtorEq, nA, nS, nM, nB, nE, nL, nT, nN, iL, iT, iE, iA, iM, iS, iG, iB, iN, iZ, h, h1, hr, e3, headersFault, firstI_inl e1]
  · simp only [go_sem, reduceIte, ↓reduceIte, reduceCtorEq, nA, nS, nM, nB, nE, nL, nT, nN, iL, iT, iE, iA, iM, iS, iG, iB, iN, iZ, h, h1, hr, e3, headersFault, firstI_inr e1]) (rfl)
def hostB (c : UInt8) : Bool := letterB c || digitB c || ((c.toNat : Int) == 46) || ((c.toNat : Int) == 45)
def pSymB : List UInt8 := [47, 63, 61, 38, 58, 64, 44, 59, 40, 41]
def pathB (c : UInt8) : Bool := wordB c || pSymB.contains c
theorem pathB_sym {c : UInt8} (h : c ∈ pSymB) : pathB c = true := by
  have : pSymB.contains c = true := List.contains_iff_mem.2 h
  simp [pathB, this, -List.contains_eq_mem]
theorem pathB_not {c : UInt8} (h : ¬ c ∈ pSymB) : pathB c = wordB c := by
  have : pSymB.contains c = false := by rw [Bool.eq_false_iff]; exact fun e => h (List.contains_iff_mem.1 e)
  simp [pathB, this, -List.contains_eq_mem]
theorem ixB_psym (c : UInt8) : decide (0 ≤ ixB ⟨#[47, 63, 61, 38, 58, 64, 44, 59, 40, 41]⟩ c) = pSymB.contains c := ixB_ge pSymB c
@[go_sem] theorem map_byteRow (xs : List UInt8) : xs.map byteRow = xs.map rByte := nr rfl
def lowB (c : UInt8) : UInt8 := if 65 ≤ (c.toNat : Int) ∧ (c.toNat : Int) ≤ 90 then c + 32 else c
def lowS (t : ByteArray) : ByteArray := ⟨(t.data.toList.map lowB).toArray⟩
def lowUp (xs : List UInt8) (k : Nat) : List UInt8 := (xs.take k).map lowB ++ xs.drop k
theorem lowUp_zero (xs : List UInt8) : lowUp xs 0 = xs := by simp [lowUp]
theorem lowUp_all (xs : List UInt8) : lowUp xs xs.length = xs.map lowB := by simp [lowUp]
theorem lowUp_len (xs : List UInt8) (k : Nat) (h : k ≤ xs.length) : (lowUp xs k).length = xs.length := by simp [lowUp]; omega
theorem lowUp_at (xs : List UInt8) (k : Nat) (h : k < xs.length) : (lowUp xs k)[k]? = some xs[k] := by
  unfold lowUp
  rw [List.getElem?_append_right (by simp; omega)]
  simp [Nat.min_eq_left (Nat.le_of_lt h), h]
theorem lowUp_succ (xs : List UInt8) (k : Nat) (h : k < xs.length) : (lowUp xs k).set k (lowB xs[k]) = lowUp xs (k + 1) := by
  unfold lowUp
  rw [List.set_append_right _ _ (by simp; omega)]
  rw [List.length_map, List.length_take, Nat.min_eq_left (Nat.le_of_lt h), Nat.sub_self, List.drop_eq_getElem_cons h, List.set_cons_zero]
  have e : (xs.take (k + 1)).map lowB = (xs.take k).map lowB ++ [lowB xs[k]] := by
    rw [List.take_add_one, List.getElem?_eq_getElem h, Option.toList_some, List.map_append]; rfl
  rw [e]
  simp
theorem lowUp_same (xs : List UInt8) (k : Nat) (h : k < xs.length) (hc : lowB xs[k] = xs[k]) : lowUp xs (k + 1) = lowUp xs k := by
  rw [← lowUp_succ xs k h, hc]
  have := lowUp_at xs k h
  obtain ⟨h1, h2⟩ := List.getElem?_eq_some_iff.1 this
  rw [← h2]
  exact List.set_getElem_self h1
theorem lowUp_gd (xs : List UInt8) (k : Nat) (h : k < xs.length) : ((lowUp xs k).map rByte).getD k [] = [.i .u8 xs[k].toNat] := by
  rw [List.getD_eq_getElem?_getD, List.getElem?_map, lowUp_at xs k h]; rfl
theorem lowUp_g (xs : List UInt8) (k : Nat) (h : k < xs.length) : ((lowUp xs k).map rByte)[k]? = some [.i .u8 xs[k].toNat] := by
  rw [List.getElem?_map, lowUp_at xs k h]; rfl
theorem low_add {c : UInt8} (h : (c.toNat : Int) ≤ 90) : (c + 32).toNat = c.toNat + 32 := by
  rw [UInt8.toNat_add]
  have : (32 : UInt8).toNat = 32 := rfl
  rw [this]
  omega
theorem lowStep (xs : List UInt8) (k : Nat) (h : k < xs.length) :
    (65 ≤ (xs[k].toNat : Int) ∧ (xs[k].toNat : Int) ≤ 90 ∧ ((IntKind.u8).wrap ((IntKind.u8).wrap ((xs[k].toNat : Int) + 97) - 65) = ((lowB xs[k]).toNat : Int)) ∧ ((IntKind.u8).wrap ((xs[k].toNat : Int) + 32) = ((lowB xs[k]).toNat : Int)) ∧ ((lowUp xs k).map rByte).set k [.i .u8 (lowB xs[k]).toNat] = (lowUp xs (k + 1)).map rByte ∧ True) ∨
    (¬ 65 ≤ (xs[k].toNat : Int) ∧ True ∧ True ∧ True ∧ True ∧ lowUp xs (k + 1) = lowUp xs k) ∨ (65 ≤ (xs[k].toNat : Int) ∧ ¬ (xs[k].toNat : Int) ≤ 90 ∧ True ∧ True ∧ True ∧ lowUp xs (k + 1) = lowUp xs k) := by
  by_cases a1 : 65 ≤ (xs[k].toNat : Int)
  · by_cases a2 : (xs[k].toNat : Int) ≤ 90
    · refine .inl ⟨a1, a2, ?_, ?_, ?_, trivial⟩
      · have hl : lowB xs[k] = xs[k] + 32 := if_pos ⟨a1, a2⟩
        rw [hl, low_add a2]
        simp only [IntKind.wrap, IntKind.bits, IntKind.signed]
        simp
        omega
      · have hl : lowB xs[k] = xs[k] + 32 := if_pos ⟨a1, a2⟩
        rw [hl, low_add a2]
        simp only [IntKind.wrap, IntKind.bits, IntKind.signed]
        simp
        omega
      · rw [← lowUp_succ xs k h, List.map_set]; rfl
    · exact .inr (.inr ⟨a1, a2, trivial, trivial, trivial, lowUp_same xs k h (if_neg fun x => a2 x.2)⟩)
  · exact .inr (.inl ⟨a1, trivial, trivial, trivial, trivial, lowUp_same xs k h (if_neg fun x => a1 x.1)⟩)
def okN (n : ByteArray) : Bool := decide (n.size ≤ 9223372036854775806)
noncomputable def valsOf (hs : List Header) (n : ByteArray) : List ByteArray := (hs.filter fun x => eqv (lowS x.Name) (lowS n)).map (·.Value)
noncomputable def hasV (hs : List Header) (n : ByteArray) : Bool := hs.any fun x => eqv (lowS x.Name) (lowS n)
theorem valsOf_pos (hs : List Header) (n : ByteArray) : decide (0 < ((valsOf hs n).length : Int)) = hasV hs n := by
  have : 0 < (valsOf hs n).length ↔ hasV hs n = true := by
    unfold valsOf hasV
    rw [List.length_map, List.length_pos_iff_exists_mem, List.any_eq_true]
    simp only [List.mem_filter]
  rw [Bool.eq_iff_iff, decide_eq_true_eq, ← this]
  omega
noncomputable def joinStep (n : ByteArray) (s : ByteArray × Bool) (x : Header) : ByteArray × Bool := if eqv (lowS x.Name) (lowS n) = true then ((if s.2 = true then s.1 ++ ⟨#[44, 32]⟩ else s.1) ++ x.Value, true) else s
noncomputable def joinV (hs : List Header) (n : ByteArray) : ByteArray × Bool := hs.foldl (fun s x => joinStep n s x) (⟨#[]⟩, false)
theorem joinFold_2 (n : ByteArray) : ∀ (hs : List Header) (s : ByteArray × Bool), (hs.foldl (fun s x => joinStep n s x) s).2 = (s.2 || hasV hs n)
  | [], s => by simp [hasV]
  | x :: hs, s => by
    rw [List.foldl_cons, joinFold_2 n hs]
    unfold joinStep hasV
    rw [List.any_cons]
    cases eqv (lowS x.Name) (lowS n) <;> simp
theorem joinV_2 (hs : List Header) (n : ByteArray) : (joinV hs n).2 = hasV hs n := by
  unfold joinV; rw [joinFold_2]; rfl
theorem joinStep_size {n : ByteArray} {s : ByteArray × Bool} {x : Header} {k : Nat} (h : s.1.size ≤ k * 1048578) (hx : x.Value.size ≤ 1048576) : (joinStep n s x).1.size ≤ (k + 1) * 1048578 := by
  have h2 : (⟨#[44, 32]⟩ : ByteArray).size = 2 := rfl
  have h3 : (k + 1) * 1048578 = k * 1048578 + 1048578 := Nat.succ_mul _ _
  rw [h3]
  generalize k * 1048578 = K at h ⊢
  unfold joinStep
  split
  · show (((if s.2 = true then s.1 ++ ⟨#[44, 32]⟩ else s.1) ++ x.Value).size) ≤ _
    rw [ByteArray.size_append]
    split
    · rw [ByteArray.size_append]; omega
    · omega
  · omega
noncomputable def isMethod (t : ByteArray) : Bool := eqv t ⟨#[71, 69, 84]⟩ || eqv t ⟨#[72, 69, 65, 68]⟩
theorem eqv_bytesne (a b : ByteArray) : (a.toList != b.toList) = !eqv a b := by rw [bne, eqv_bytes]
def isHost (t : ByteArray) : Bool := areB hostB 1 60 t
def isPath (t : ByteArray) : Bool := areB pathB 1 100 t && (((t.data[0]?.getD 0).toNat : Int) == 47)
noncomputable def requestFault (r : Request) : Int := if (isMethod r.Method && isHost r.Host && isPath r.Path) = false then 5 else if (headersFault r.Headers != 0) = true then headersFault r.Headers else if hasV r.Headers ⟨#[72, 111, 115, 116]⟩ = true then 6 else if 20 ≤ (r.Headers.length : Int) then 2 else 0
theorem hasV_host (hs : List Header) : hasV hs ⟨#[104, 111, 115, 116]⟩ = hasV hs ⟨#[72, 111, 115, 116]⟩ := by
  unfold hasV
  have : lowS ⟨#[104, 111, 115, 116]⟩ = lowS ⟨#[72, 111, 115, 116]⟩ := by rfl
  rw [this]
theorem headersFault_ok {hs : List Header} (h : headersFault hs = 0) : hs.length ≤ 20 := by
  unfold headersFault at h
  split at h
  · cases h
  · omega
theorem areB_nil {p : UInt8 → Bool} {hi : Int} {t : ByteArray} (h : areB p 1 hi t = true) : 0 < t.size := by
  unfold areB at h
  simp only [Bool.and_eq_true, decide_eq_true_eq] at h
  omega
noncomputable def s122 : SP Tryz.prog := mkS tyA 122 Tryz.f122 [s96, s97] { md := [.ro 1], rg := [(0, [0], []), (1, [0, 11], []), (2, [2], []), (3, [0, 3], []), (4, [0, 3, 15], []), (5, [0, 3], []), (6, [0, 3, 41], []), (7, [2], []), (8, [2], [])], lv := [(0, [0, 3], [])], out := [(0, [], [])], rets := some ([2], []) } Tryz.func122 (by kernel_rfl)
@[go_sem] theorem d122 : s122.g = 122 ∧ s122.fs = ⟨[.ro 1], s122.F, false⟩ := ⟨nr rfl, nr rfl⟩
@[go_sem] theorem e122 (t : ByteArray) : s122.F [.s t] = some (.b (isHost t), [.u]) := mkS_eq (t.data.toList.length + 1) rfl rfl (fun cx h => by
  have hu : isHost t = areB hostB 1 60 t := rfl
  by_cases h1 : (t.size : Int) < 1
  · simp only [go_sem, reduceIte, ↓reduceIte, reduceCtorEq, nA, nS, nM, nB, nE, nL, nT, nN, iL, iT, iE, iA, iM, iS, iG, iB, iN, iZ, h, h1, hu, areB_short h1]
  by_cases h2 : 60 < (t.size : Int)
  · simp only [go_sem, reduceIte, ↓reduceIte, reduceCtorEq, nA, nS, nM, nB, nE, nL, nT, nN, iL, iT, iE, iA, iM, iS, iG, iB, iN, iZ, h, h1, h2, hu, areB_long h2]
  have hx : t.data.toList.length ≤ 9223372036854775806 := by rw [← str_size]; omega
  have ha := areB_all (p := hostB) h1 h2
  rw [str_size t] at h1 h2
  · have hb0 := loopN_eq Tryz.f122 0 _ _ rfl rfl
    obtain ⟨r, hr, hq⟩ := loop_list (cx := cx) (blk := 0) (body := loopN Tryz.f122 0) t.data.toList (fun k (s : Unit) => ⟨E [(0, .s t), (3, .i .i64 k)], B []⟩) (fun s => ⟨E [], B []⟩) (fun x s => !hostB x) (fun x s => ()) (fun x s => (.ret, ⟨E [(2, .b false)], B []⟩)) (fun k s => True)
        (fun s hI G => by simp only [go_sem, reduceIte, ↓reduceIte, reduceCtorEq, nA, nS, nM, nB, nE, nL, nT, nN, iL, iT, iE, iA, iM, iS, iG, iB, iN, iZ, h, Int.lt_irrefl, hb0, str_size t]) (fun k hk s hI => by
          have h1 : ((k : Int) < (t.data.toList.length : Int)) := Int.ofNat_lt.2 hk
          have hz := str_at t k hk
          have hu : hostB t.data.toList[k] = (letterB t.data.toList[k] || digitB t.data.toList[k] || ((t.data.toList[k].toNat : Int) == 46) || ((t.data.toList[k].toNat : Int) == 45)) := rfl
          by_cases c0 : hostB t.data.toList[k] = true
          · skip
            have c9 := c0
            rw [hu] at c0
            cases a1 : letterB t.data.toList[k] <;> cases a2 : digitB t.data.toList[k] <;> cases a3 : ((t.data.toList[k].toNat : Int) == 46) <;> cases a4 : ((t.data.toList[k].toNat : Int) == 45) <;> first | (exfalso; rw [a1, a2, a3, a4] at c0; exact absurd c0 (by decide)) | skip
            all_goals exact .inr ⟨by rw [c9]; rfl, trivial, _, fun G => by simp only [go_sem, reduceIte, ↓reduceIte, reduceCtorEq, nA, nS, nM, nB, nE, nL, nT, nN, iL, iT, iE, iA, iM, iS, iG, iB, iN, iZ, h, hz, str_size t, bne, a1, a2, a3, a4, h1, idx_nt _ _ hk, wrap_nat1 (show k < 9223372036854775807 by omega), hb0] <;> with_reducible rfl, by simp only [go_sem, reduceIte, ↓reduceIte, reduceCtorEq, nA, nS, nM, nB, nE, nL, nT, nN, iL, iT, iE, iA, iM, iS, iG, iB, iN, iZ, h, str_size t]⟩
          · have c1 : hostB t.data.toList[k] = false := by simpa using c0
            have c2 := c1
            rw [hu] at c2
            simp only [Bool.or_eq_false_iff] at c2
            obtain ⟨⟨⟨b1, b2⟩, b3⟩, b4⟩ := c2
            all_goals exact .inl ⟨by rw [c1]; rfl, fun G => by simp only [go_sem, reduceIte, ↓reduceIte, reduceCtorEq, nA, nS, nM, nB, nE, nL, nT, nN, iL, iT, iE, iA, iM, iS, iG, iB, iN, iZ, h, hz, str_size t, bne, b1, b2, b3, b4, h1, idx_nt _ _ hk, wrap_nat1 (show k < 9223372036854775807 by omega), hb0]⟩) () trivial (t.data.toList.length + 1) (Nat.le_refl _)
    rw [hb0] at hr
    rcases hq with ⟨s', e1, _, e3⟩ | ⟨x, s', e1, e3⟩
    · simp only [go_sem, reduceIte, ↓reduceIte, reduceCtorEq, nA, nS, nM, nB, nE, nL, nT, nN, iL, iT, iE, iA, iM, iS, iG, iB, iN, iZ, h, h1, h2, str_size t, hr, e3, hu, ha, runS_all e1]
    · simp only [go_sem, reduceIte, ↓reduceIte, reduceCtorEq, nA, nS, nM, nB, nE, nL, nT, nN, iL, iT, iE, iA, iM, iS, iG, iB, iN, iZ, h, h1, h2, str_size t, hr, e3, hu, ha, runS_all' e1]) (rfl)
noncomputable def s139 : SP Tryz.prog := mkS tyA 139 Tryz.f139 [s74] { md := [.ro 1], rg := [(0, [0], []), (1, [0, 3], []), (2, [0, 3, 4], []), (3, [0, 3, 4], []), (4, [0, 3, 4], []), (5, [0, 3, 4], []), (6, [0, 3, 4], []), (7, [0, 3, 4], []), (8, [0, 3, 4], []), (9, [0, 3, 4], []), (10, [0, 3, 4], []), (11, [0, 4], []), (12, [2], []), (13, [2], [])], rets := some ([2], []) } Tryz.func139 (by kernel_rfl)
@[go_sem] theorem d139 : s139.g = 139 ∧ s139.fs = ⟨[.ro 1], s139.F, false⟩ := ⟨nr rfl, nr rfl⟩
@[go_sem] theorem e139 (c : UInt8) : s139.F [.i .u8 c.toNat] = some (.b (pathB c), [.u]) := mkS_eq (0) rfl rfl (fun cx h => by
  by_cases m : c ∈ pSymB
  · have hw := pathB_sym m
    simp only [pSymB, List.mem_cons, List.not_mem_nil, or_false] at m
    have u47 : (((47 : UInt8).toNat : Nat) : Int) = 47 := rfl
    have u63 : (((63 : UInt8).toNat : Nat) : Int) = 63 := rfl
    have u61 : (((61 : UInt8).toNat : Nat) : Int) = 61 := rfl
    have u38 : (((38 : UInt8).toNat : Nat) : Int) = 38 := rfl
    have u58 : (((58 : UInt8).toNat : Nat) : Int) = 58 := rfl
    have u64 : (((64 : UInt8).toNat : Nat) : Int) = 64 := rfl
    have u44 : (((44 : UInt8).toNat : Nat) : Int) = 44 := rfl
    have u59 : (((59 : UInt8).toNat : Nat) : Int) = 59 := rfl
    have u40 : (((40 : UInt8).toNat : Nat) : Int) = 40 := rfl
    have u41 : (((41 : UInt8).toNat : Nat) : Int) = 41 := rfl
    rcases m with rfl | rfl | rfl | rfl | rfl | rfl | rfl | rfl | rfl | rfl <;> simp only [go_sem, reduceIte, ↓reduceIte, reduceCtorEq, nA, nS, nM, nB, nE, nL, nT, nN, iL, iT, iE, iA, iM, iS, iG, iB, iN, iZ, h, hw, wx, u47, u63, u61, u38, u58, u64, u44, u59, u40, u41]
  · have hw := pathB_not m
    have q47 : ((c.toNat : Int) == 47) = false := byne (v := 47) (fun e => m (by subst e; decide))
    have q63 : ((c.toNat : Int) == 63) = false := byne (v := 63) (fun e => m (by subst e; decide))
    have q61 : ((c.toNat : Int) == 61) = false := byne (v := 61) (fun e => m (by subst e; decide))
    have q38 : ((c.toNat : Int) == 38) = false := byne (v := 38) (fun e => m (by subst e; decide))
    have q58 : ((c.toNat : Int) == 58) = false := byne (v := 58) (fun e => m (by subst e; decide))
    have q64 : ((c.toNat : Int) == 64) = false := byne (v := 64) (fun e => m (by subst e; decide))
    have q44 : ((c.toNat : Int) == 44) = false := byne (v := 44) (fun e => m (by subst e; decide))
    have q59 : ((c.toNat : Int) == 59) = false := byne (v := 59) (fun e => m (by subst e; decide))
    have q40 : ((c.toNat : Int) == 40) = false := byne (v := 40) (fun e => m (by subst e; decide))
    have q41 : ((c.toNat : Int) == 41) = false := byne (v := 41) (fun e => m (by subst e; decide))
    cases h1 : wordB c <;> simp only [go_sem, reduceIte, ↓reduceIte, reduceCtorEq, nA, nS, nM, nB, nE, nL, nT, nN, iL, iT, iE, iA, iM, iS, iG, iB, iN, iZ, h, hw, h1, q47, q63, q61, q38, q58, q64, q44, q59, q40, q41]) (rfl)
noncomputable def s123 : SP Tryz.prog := mkS tyA 123 Tryz.f123 [s139] { md := [.ro 1], rg := [(0, [0], []), (1, [0, 16], []), (2, [2], []), (3, [0, 3], []), (4, [0, 3, 20], []), (5, [0, 3], []), (6, [0, 3, 27], []), (7, [2], []), (8, [2], [])], lv := [(0, [0, 3], [])], out := [(0, [], [])], rets := some ([2], []) } Tryz.func123 (by kernel_rfl)
@[go_sem] theorem d123 : s123.g = 123 ∧ s123.fs = ⟨[.ro 1], s123.F, false⟩ := ⟨nr rfl, nr rfl⟩
@[go_sem] theorem e123 (t : ByteArray) : s123.F [.s t] = some (.b (isPath t), [.u]) := mkS_eq (t.data.toList.length + 1) rfl rfl (fun cx h => by
  have hu : isPath t = (areB pathB 1 100 t && (((t.data[0]?.getD 0).toNat : Int) == 47)) := rfl
  by_cases h1 : (t.size : Int) < 1
  · simp only [go_sem, reduceIte, ↓reduceIte, reduceCtorEq, nA, nS, nM, nB, nE, nL, nT, nN, iL, iT, iE, iA, iM, iS, iG, iB, iN, iZ, h, h1, hu, areB_short h1]
  by_cases h2 : 100 < (t.size : Int)
  · simp only [go_sem, reduceIte, ↓reduceIte, reduceCtorEq, nA, nS, nM, nB, nE, nL, nT, nN, iL, iT, iE, iA, iM, iS, iG, iB, iN, iZ, h, h1, h2, hu, areB_long h2]
  have hi : idx? t.size 0 = some 0 := idx_nt t.size 0 (by omega)
  have hi' : idx? t.data.toList.length 0 = some 0 := by rw [← str_size]; exact hi
  cases h3 : (((t.data[0]?.getD 0).toNat : Int) == 47)
  · simp only [go_sem, reduceIte, ↓reduceIte, reduceCtorEq, nA, nS, nM, nB, nE, nL, nT, nN, iL, iT, iE, iA, iM, iS, iG, iB, iN, iZ, h, h1, h2, h3, hi, hu, bne]
  have hx : t.data.toList.length ≤ 9223372036854775806 := by rw [← str_size]; omega
  have ha := areB_all (p := pathB) h1 h2
  rw [str_size t] at h1 h2
  · have hb0 := loopN_eq Tryz.f123 0 _ _ rfl rfl
    obtain ⟨r, hr, hq⟩ := loop_srch (cx := cx) (blk := 0) (body := loopN Tryz.f123 0) t.data.toList (fun k (s : Unit) => ⟨E [(0, .s t), (3, .i .i64 k)], B []⟩) (fun s => ⟨E [], B []⟩) (fun x s => !pathB x) (fun x s => ()) (fun x s => (.ret, ⟨E [(2, .b false)], B []⟩)) (fun k s => True)
        (fun s hI G => by simp only [go_sem, reduceIte, ↓reduceIte, reduceCtorEq, nA, nS, nM, nB, nE, nL, nT, nN, iL, iT, iE, iA, iM, iS, iG, iB, iN, iZ, h, Int.lt_irrefl, hb0, str_size t]) (fun k hk s hI => by
          have h1 : ((k : Int) < (t.data.toList.length : Int)) := Int.ofNat_lt.2 hk
          have hz := str_at t k hk
          exact ⟨_, _, _, fun G => by simp only [go_sem, reduceIte, ↓reduceIte, reduceCtorEq, nA, nS, nM, nB, nE, nL, nT, nN, iL, iT, iE, iA, iM, iS, iG, iB, iN, iZ, h, hz, str_size t, h1, idx_nt _ _ hk, wrap_nat1 (show k < 9223372036854775807 by omega), hb0] <;> with_reducible rfl, Iff.rfl, fun hc => ⟨trivial, by simp only [go_sem, reduceIte, ↓reduceIte, reduceCtorEq, nA, nS, nM, nB, nE, nL, nT, nN, iL, iT, iE, iA, iM, iS, iG, iB, iN, iZ, h, str_size t]⟩⟩) () trivial (t.data.toList.length + 1) (Nat.le_refl _)
    rw [hb0] at hr
    rcases hq with ⟨s', e1, _, e3⟩ | ⟨x, s', e1, e3⟩
    · simp only [go_sem, reduceIte, ↓reduceIte, reduceCtorEq, nA, nS, nM, nB, nE, nL, nT, nN, iL, iT, iE, iA, iM, iS, iG, iB, iN, iZ, h, h1, h2, h3, hi', bne, str_size t, hr, e3, hu, ha, runS_all e1]
    · simp only [go_sem, reduceIte, ↓reduceIte, reduceCtorEq, nA, nS, nM, nB, nE, nL, nT, nN, iL, iT, iE, iA, iM, iS, iG, iB, iN, iZ, h, h1, h2, h3, hi', bne, str_size t, hr, e3, hu, ha, runS_all' e1]) (rfl)
noncomputable def s155 : SP Tryz.prog := mkS tyA 155 Tryz.f155 [] { md := [.ro 1], rg := [(0, [0], []), (1, [3], []), (2, [3, 4], []), (3, [3, 4, 10], []), (4, [3, 4], []), (5, [3, 4, 24], []), (6, [3, 4], []), (7, [2], [])], lv := [(0, [3, 4], [])], out := [(0, [3], [])], rets := some ([2], []) } Tryz.func155 (by kernel_rfl)
@[go_sem] theorem d155 : s155.g = 155 ∧ s155.fs = ⟨[.ro 1], s155.F, false⟩ := ⟨nr rfl, nr rfl⟩
@[go_sem] theorem e155 (t : ByteArray) (h0 : t.size ≤ 9223372036854775806) : s155.F [.s t] = some (.s (lowS t), [.u]) := mkS_eq (t.data.toList.length + 1) rfl rfl (fun cx h => by
  have hz : t.data.toList.length ≤ 9223372036854775807 := by rw [← str_size]; omega
  have hx : t.data.toList.length ≤ 9223372036854775806 := by rw [← str_size]; exact h0
  have hb0 := loopN_eq Tryz.f155 0 _ _ rfl rfl
  obtain ⟨hI, hr⟩ := loop_fold (cx := cx) (blk := 0) (body := loopN Tryz.f155 0) t.data.toList (fun k (s : Unit) => ⟨E [(3, .sl .mut 1 ((lowUp t.data.toList k).map rByte)), (4, .i .i64 k)], B []⟩) (fun s => ⟨E [(3, .sl .mut 1 ((t.data.toList.map lowB).map rByte))], B []⟩) (fun x s => s) (fun k s => True)
      (fun s hI G => by simp only [go_sem, reduceIte, ↓reduceIte, reduceCtorEq, nA, nS, nM, nB, nE, nL, nT, nN, iL, iT, iE, iA, iM, iS, iG, iB, iN, iZ, h, Int.lt_irrefl, hb0, lowUp_len t.data.toList t.data.toList.length (Nat.le_refl _), lowUp_all t.data.toList, List.length_map]) (fun k hk s hI => by
        have h1 : ((k : Int) < (t.data.toList.length : Int)) := Int.ofNat_lt.2 hk
        have g1 := lowUp_gd t.data.toList k hk
        have g2 := lowUp_g t.data.toList k hk
        have g3 := lowUp_len t.data.toList k (Nat.le_of_lt hk)
        have g4 : (List.take t.data.toList.length ((lowUp t.data.toList k).map rByte)) = (lowUp t.data.toList k).map rByte := List.take_of_length_le (by rw [List.length_map, g3]; exact Nat.le_refl _)
        rcases lowStep t.data.toList k hk with ⟨a1, a2, w1, w2, hs, hv⟩ | ⟨a1, a2, w1, w2, hs, hv⟩ | ⟨a1, a2, w1, w2, hs, hv⟩
        all_goals exact ⟨trivial, _, fun G => by simp only [go_sem, reduceIte, ↓reduceIte, reduceCtorEq, nA, nS, nM, nB, nE, nL, nT, nN, iL, iT, iE, iA, iM, iS, iG, iB, iN, iZ, h, g1, g2, g3, g4, a1, a2, w1, w2, hs, List.length_map, h1, idx_nt _ _ hk, wrap_nat1 (show k < 9223372036854775807 by omega), hb0] <;> with_reducible rfl, by simp only [go_sem, reduceIte, ↓reduceIte, reduceCtorEq, nA, nS, nM, nB, nE, nL, nT, nN, iL, iT, iE, iA, iM, iS, iG, iB, iN, iZ, h, hv]⟩) () trivial (t.data.toList.length + 1) (Nat.le_refl _)
  rw [hb0] at hr
  rw [lowUp_zero] at hr
  simp only [go_sem, reduceIte, ↓reduceIte, reduceCtorEq, nA, nS, nM, nB, nE, nL, nT, nN, iL, iT, iE, iA, iM, iS, iG, iB, iN, iZ, h, hz, hr, str_size t, lowS]) (rfl)
noncomputable def s140 : SP Tryz.prog := mkS tyA 140 Tryz.f140 [s155] { md := [.ro 1, .ro 1], rets := some ([4], []) } Tryz.func140 (by kernel_rfl)
@[go_sem] theorem d140 : s140.g = 140 ∧ s140.fs = ⟨[.ro 1, .ro 1], s140.F, false⟩ := ⟨nr rfl, nr rfl⟩
@[go_sem] theorem e140 (a : ByteArray) (b : ByteArray) (h0 : (a.size ≤ 9223372036854775806 ∧ b.size ≤ 9223372036854775806)) : s140.F [.s a, .s b] = some (.b (eqv (lowS a) (lowS b)), [.u, .u]) := mkS_eq (0) rfl rfl (fun cx h => by
  simp only [go_sem, reduceIte, ↓reduceIte, reduceCtorEq, nA, nS, nM, nB, nE, nL, nT, nN, iL, iT, iE, iA, iM, iS, iG, iB, iN, iZ, h, h0.1, h0.2, eqv_bytes]) (rfl)
end Go.Vm.A
