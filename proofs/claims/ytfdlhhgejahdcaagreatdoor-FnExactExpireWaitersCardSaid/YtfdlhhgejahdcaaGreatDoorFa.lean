/- Functions of the program, walked by the evaluator. -/
import Derived.Test.YtfdlhhgejahdcaaGreatDoorWb
import Derived.Test.YtfdlhhgejahdcaaGreatDoorWa
set_option autoImplicit false
set_option maxRecDepth 100000
set_option maxHeartbeats 4000000
set_option linter.unusedVariables false
set_option linter.unusedSimpArgs false
namespace Go.Vm.A
open Go.Proofs
open Nat renaming reduceAdd → nA, reduceSub → nS, reduceMul → nM, reduceBEq → nB, reduceEqDiff → nE, reduceLeDiff → nL, reduceLT → nT, reduceBneDiff → nN
open Int renaming reduceLE → iL, reduceLT → iT, reduceEq → iE, reduceAdd → iA, reduceMul → iM, reduceSub → iS, reduceNeg → iG, reduceBEq → iB, reduceBNe → iN, reduceToNat → iZ

noncomputable def s112 : SP Tryz.prog := mkS tyA 112 Tryz.f112 [] { md := [.ro 1, .ro 1], rg := [(0, [1, 2], [2]), (1, [1, 2], [2]), (2, [1, 2, 11], [2]), (3, [4], []), (4, [1], []), (5, [1, 18], []), (6, [4], []), (7, [4], [])], rets := some ([4], []) } Tryz.func112 (by kernel_rfl)
@[go_sem] theorem d112 : s112.g = 112 ∧ s112.fs = ⟨[.ro 1, .ro 1], s112.F, false⟩ := ⟨nr rfl, nr rfl⟩
@[go_sem] theorem e112 (xName : ByteArray) (xValue : ByteArray) (l : Int) (h0 : okHeader (Header.mk xName xValue)) : s112.F [.agg [.s xName, .s xValue], .i .i64 l] = some (.i .i64 (szHeader (Header.mk xName xValue) l), [.u, .u]) := mkS_eq (0) rfl rfl (fun cx h => by
  obtain ⟨q0, q1⟩ := h0
  simp only [go_sem, reduceIte, ↓reduceIte, reduceCtorEq, nA, nS, nM, nB, nE, nL, nT, nN, iL, iT, iE, iA, iM, iS, iG, iB, iN, iZ, h, q0, q1]
  simp only [szHeader, szs, szn, if_i, decide_eq_true_eq]) (rfl)
noncomputable def s63 : SP Tryz.prog := mkS tyA 63 Tryz.f63 [s112] { md := [.ro 1, .ro 1], rg := [(0, [0, 1], []), (1, [0, 1], []), (2, [0, 1, 11], []), (3, [4], []), (4, [0, 1, 5], []), (5, [0, 1, 5, 15], []), (6, [0, 1, 5], []), (7, [0, 1, 5], []), (8, [0, 1, 5, 25], []), (9, [4], []), (10, [4], [])], lv := [(0, [0, 1, 5], [])], out := [(0, [1], [])], rets := some ([4], []) } Tryz.func63 (by kernel_rfl)
@[go_sem] theorem d63 : s63.g = 63 ∧ s63.fs = ⟨[.ro 1, .ro 1], s63.F, false⟩ := ⟨nr rfl, nr rfl⟩
@[go_sem] theorem e63 (xs : List Header) (l : Int) (h0 : okL okHeader xs) : s63.F [.sl .ro 2 (xs.map (rHeader .ro)), .i .i64 l] = some (.i .i64 (szL szHeader xs l), [.u, .u]) := mkS_eq (xs.length + 1) rfl rfl (fun cx h => by
  have hb := loopN_eq Tryz.f63 0 _ _ rfl rfl
  have hx := h0.1
  obtain ⟨r, hr, hq⟩ := loop_list (cx := cx) (blk := 0) (body := loopN Tryz.f63 0) xs (fun k l => ⟨E [(0, .sl .ro 2 (xs.map (rHeader .ro))), (1, .i .i64 l), (5, .i .i64 k)], B []⟩) (fun l => ⟨E [(1, .i .i64 l)], B []⟩) (fun x l => decide (szHeader x l < 0)) (fun x l => szHeader x l) (fun _ _ => (.ret, ⟨E [(4, .i .i64 (-1))], B []⟩)) (fun _ _ => True)
    (fun l _ G => by simp only [go_sem, reduceIte, ↓reduceIte, reduceCtorEq, nA, nS, nM, nB, nE, nL, nT, nN, iL, iT, iE, iA, iM, iS, iG, iB, iN, iZ, h, Int.lt_irrefl, hb]) (fun k hk l _ => by
      have h1 : ((k : Int) < (xs.length : Int)) := Int.ofNat_lt.2 hk
      have h2 := h0.2 _ (List.getElem_mem hk)
      by_cases hc : szHeader xs[k] l < 0
      · exact .inl ⟨decide_eq_true hc, fun G => by simp only [go_sem, reduceIte, ↓reduceIte, reduceCtorEq, nA, nS, nM, nB, nE, nL, nT, nN, iL, iT, iE, iA, iM, iS, iG, iB, iN, iZ, h, h2, hc, map_gd (rHeader .ro) xs k hk, h1, idx_nt _ _ hk, wrap_nat1 (show k < 9223372036854775807 by omega), hb]⟩
      · exact .inr ⟨decide_eq_false hc, trivial, _, fun G => by simp only [go_sem, reduceIte, ↓reduceIte, reduceCtorEq, nA, nS, nM, nB, nE, nL, nT, nN, iL, iT, iE, iA, iM, iS, iG, iB, iN, iZ, h, h2, hc, map_gd (rHeader .ro) xs k hk, h1, idx_nt _ _ hk, wrap_nat1 (show k < 9223372036854775807 by omega), hb] <;> with_reducible rfl, by simp only [go_sem, reduceIte, ↓reduceIte, reduceCtorEq, nA, nS, nM, nB, nE, nL, nT, nN, iL, iT, iE, iA, iM, iS, iG, iB, iN, iZ, h]⟩) ((IntKind.i64).wrap (l - (xs.length : Int))) trivial (xs.length + 1) (Nat.le_refl _)
  rw [hb] at hr
  unfold szL szs
  by_cases hc : (IntKind.i64).wrap (l - (xs.length : Int)) < 0
  · simp only [go_sem, reduceIte, ↓reduceIte, reduceCtorEq, nA, nS, nM, nB, nE, nL, nT, nN, iL, iT, iE, iA, iM, iS, iG, iB, iN, iZ, h, hc]
  · rcases hq with ⟨s', e1, e2, e3⟩ | ⟨x, s', e1, e3⟩
    · simp only [go_sem, reduceIte, ↓reduceIte, reduceCtorEq, nA, nS, nM, nB, nE, nL, nT, nN, iL, iT, iE, iA, iM, iS, iG, iB, iN, iZ, h, hc, hr, e3, szO_inl e1, Option.getD_some]
    · simp only [go_sem, reduceIte, ↓reduceIte, reduceCtorEq, nA, nS, nM, nB, nE, nL, nT, nN, iL, iT, iE, iA, iM, iS, iG, iB, iN, iZ, h, hc, hr, e3, szO_inr e1, Option.getD_none]) (rfl)
noncomputable def s17 : SP Tryz.prog := mkS tyA 17 Tryz.f17 [s63] { md := [.ro 1, .ro 1], rg := [(0, [1, 2], [2]), (1, [1, 2], [2]), (2, [1, 2, 11], [2]), (3, [4], []), (4, [1, 2], [2]), (5, [1, 2, 18], [2]), (6, [4], []), (7, [1, 2], [2]), (8, [1, 2, 25], [2]), (9, [4], []), (10, [1], []), (11, [1, 31], []), (12, [4], []), (13, [4], [])], rets := some ([4], []) } Tryz.func17 (by kernel_rfl)
@[go_sem] theorem d17 : s17.g = 17 ∧ s17.fs = ⟨[.ro 1, .ro 1], s17.F, false⟩ := ⟨nr rfl, nr rfl⟩
@[go_sem] theorem e17 (xMethod : ByteArray) (xHost : ByteArray) (xPath : ByteArray) (xHeaders : List Header) (l : Int) (h0 : okRequest (Request.mk xMethod xHost xPath xHeaders)) : s17.F [.agg [.s xMethod, .s xHost, .s xPath, .sl .ro 2 (xHeaders.map (rHeader .ro))], .i .i64 l] = some (.i .i64 (szRequest (Request.mk xMethod xHost xPath xHeaders) l), [.u, .u]) := mkS_eq (0) rfl rfl (fun cx h => by
  obtain ⟨q0, q1, q2, q3⟩ := h0
  simp only [go_sem, reduceIte, ↓reduceIte, reduceCtorEq, nA, nS, nM, nB, nE, nL, nT, nN, iL, iT, iE, iA, iM, iS, iG, iB, iN, iZ, h, q0, q1, q2, q3]
  simp only [szRequest, szs, szn, if_i, decide_eq_true_eq]) (rfl)
noncomputable def s84 : SP Tryz.prog := mkS tyA 84 Tryz.f84 [] { md := [.ro 1, .ro 1], rg := [(0, [0, 1], []), (1, [1], []), (2, [1, 10], []), (3, [4], []), (4, [4], [])], rets := some ([4], []) } Tryz.func84 (by kernel_rfl)
@[go_sem] theorem d84 : s84.g = 84 ∧ s84.fs = ⟨[.ro 1, .ro 1], s84.F, false⟩ := ⟨nr rfl, nr rfl⟩
@[go_sem] theorem e84 (xs : List Waiter) (l : Int) : s84.F [.sl .ro 4 (xs.map (rWaiter .ro)), .i .i64 l] = some (.i .i64 (szF xs.length l), [.u, .u]) := mkS_eq (0) rfl rfl (fun cx h => by
  simp only [go_sem, reduceIte, ↓reduceIte, reduceCtorEq, nA, nS, nM, nB, nE, nL, nT, nN, iL, iT, iE, iA, iM, iS, iG, iB, iN, iZ, h]
  simp only [szByteS, szF, szs, szn, if_i, decide_eq_true_eq]) (rfl)
noncomputable def s30 : SP Tryz.prog := mkS tyA 30 Tryz.f30 [s17, s84] { md := [.ro 1, .ro 1], rg := [(0, [1, 2], [2]), (1, [1, 2], [2]), (2, [1, 2, 11], [2]), (3, [4], []), (4, [1, 2], [2]), (5, [1, 2, 17], [2]), (6, [4], []), (7, [1], []), (8, [1, 23], []), (9, [4], []), (10, [4], [])], rets := some ([4], []) } Tryz.func30 (by kernel_rfl)
@[go_sem] theorem d30 : s30.g = 30 ∧ s30.fs = ⟨[.ro 1, .ro 1], s30.F, false⟩ := ⟨nr rfl, nr rfl⟩
@[go_sem] theorem e30 (xId : Int) (xKey : ByteArray) (xBack : Bool) (xOut : Bool) (xDue : Int) (xDoomed : Bool) (xGetMethod : ByteArray) (xGetHost : ByteArray) (xGetPath : ByteArray) (xGetHeaders : List Header) (xWaiters : List Waiter) (l : Int) (h0 : okFlight (Flight.mk xId xKey xBack xOut xDue xDoomed (Request.mk xGetMethod xGetHost xGetPath xGetHeaders) xWaiters)) : s30.F [.agg [.i .i64 xId, .s xKey, .b xBack, .b xOut, .i .i64 xDue, .b xDoomed, .s xGetMethod, .s xGetHost, .s xGetPath, .sl .ro 2 (xGetHeaders.map (rHeader .ro)), .sl .ro 4 (xWaiters.map (rWaiter .ro))], .i .i64 l] = some (.i .i64 (szFlight (Flight.mk xId xKey xBack xOut xDue xDoomed (Request.mk xGetMethod xGetHost xGetPath xGetHeaders) xWaiters) l), [.u, .u]) := mkS_eq (0) rfl rfl (fun cx h => by
  obtain ⟨q0, q1, q2, q3, q4, q5, q6, q7⟩ := h0
  simp only [go_sem, reduceIte, ↓reduceIte, reduceCtorEq, nA, nS, nM, nB, nE, nL, nT, nN, iL, iT, iE, iA, iM, iS, iG, iB, iN, iZ, h, q0, q1, q2, q3, q4, q5, q6, q7]
  simp only [szFlight, szs, szn, if_i, decide_eq_true_eq]) (rfl)
noncomputable def s121 : SP Tryz.prog := mkS tyA 121 Tryz.f121 [] { md := [.ro 1], rg := [(0, [1, 2], [1, 2, 3]), (1, [1, 2, 3], [1, 2, 3]), (2, [1, 2, 3], [1, 2, 3]), (3, [2, 3], [2, 3]), (4, [2], [2, 3])], rets := some ([2], [2, 3]) } Tryz.func121 (by kernel_rfl)
@[go_sem] theorem d121 : s121.g = 121 ∧ s121.fs = ⟨[.ro 1], s121.F, false⟩ := ⟨nr rfl, nr rfl⟩
@[go_sem] theorem e121 (xName : ByteArray) (xValue : ByteArray) (h0 : smHeader (Header.mk xName xValue)) : s121.F [.agg [.s xName, .s xValue]] = some (.agg (rHeader .mut (Header.mk xName xValue)), [.u]) := mkS_eq (0) rfl rfl (fun cx h => by
  obtain ⟨q0, q1⟩ := h0
  simp only [go_sem, reduceIte, ↓reduceIte, reduceCtorEq, nA, nS, nM, nB, nE, nL, nT, nN, iL, iT, iE, iA, iM, iS, iG, iB, iN, iZ, h, q0, q1]) (by simp only [go_sem, reduceIte, ↓reduceIte, reduceCtorEq, nA, nS, nM, nB, nE, nL, nT, nN, iL, iT, iE, iA, iM, iS, iG, iB, iN, iZ, okRes, hasRo, hasRoL, hasRoLL])
noncomputable def s69 : SP Tryz.prog := mkS tyA 69 Tryz.f69 [s121] { md := [.ro 1], rg := [(0, [0], []), (1, [0, 3], []), (2, [0, 3, 4], []), (3, [0, 3, 4, 11], []), (4, [0, 3, 4], []), (5, [0, 3, 4], []), (6, [2], [])], lv := [(0, [0, 3, 4], [])], out := [(0, [3], [])], rets := some ([2], []) } Tryz.func69 (by kernel_rfl)
@[go_sem] theorem d69 : s69.g = 69 ∧ s69.fs = ⟨[.ro 1], s69.F, false⟩ := ⟨nr rfl, nr rfl⟩
@[go_sem] theorem e69 (xs : List Header) (h0 : smL smHeader xs) : s69.F [.sl .ro 2 (xs.map (rHeader .ro))] = some (.sl .mut 2 (xs.map (rHeader .mut)), [.u]) := mkS_eq (xs.length + 1) rfl rfl (fun cx h => by
  have hb := loopN_eq Tryz.f69 0 _ _ rfl rfl
  have hx := h0.1
  have c1 : ((xs.length : Int) * (32 : Nat) ≤ 140737488355328) := by omega
  have c2 : 0 ≤ (xs.length : Int) := by omega
  have hr := (loop_fold (cx := cx) (blk := 0) (body := loopN Tryz.f69 0) xs (fun k (_ : Unit) => ⟨E [(0, .sl .ro 2 (xs.map (rHeader .ro))), (3, .sl .mut 2 (fillUp (rHeader .mut) [.s ⟨#[]⟩, .s ⟨#[]⟩] xs k)), (4, .i .i64 k)], B []⟩) (fun _ => ⟨E [(3, .sl .mut 2 (xs.map (rHeader .mut)))], B []⟩) (fun _ _ => ()) (fun _ _ => True)
    (fun l _ G => by simp only [go_sem, reduceIte, ↓reduceIte, reduceCtorEq, nA, nS, nM, nB, nE, nL, nT, nN, iL, iT, iE, iA, iM, iS, iG, iB, iN, iZ, h, Int.lt_irrefl, hb, fillUp_all]) (fun k hk l _ => by
      have h1 : ((k : Int) < (xs.length : Int)) := Int.ofNat_lt.2 hk
      have h2 := h0.2 _ (List.getElem_mem hk)
      have h3 : (fillUp (rHeader .mut) [.s ⟨#[]⟩, .s ⟨#[]⟩] xs k).set k [.s xs[k].Name, .s xs[k].Value] = fillUp (rHeader .mut) [.s ⟨#[]⟩, .s ⟨#[]⟩] xs (k + 1) := fillUp_set (rHeader .mut) [.s ⟨#[]⟩, .s ⟨#[]⟩] xs k hk
      exact ⟨trivial, _, fun G => by simp only [go_sem, reduceIte, ↓reduceIte, reduceCtorEq, nA, nS, nM, nB, nE, nL, nT, nN, iL, iT, iE, iA, iM, iS, iG, iB, iN, iZ, h, h2, h3, map_gd (rHeader .ro) xs k hk, fillUp_get (rHeader .mut) [.s ⟨#[]⟩, .s ⟨#[]⟩] xs k hk, fillUp_getD (rHeader .mut) [.s ⟨#[]⟩, .s ⟨#[]⟩] xs k hk, fillUp_len (rHeader .mut) [.s ⟨#[]⟩, .s ⟨#[]⟩] xs k (Nat.le_of_lt hk), h1, idx_nt _ _ hk, wrap_nat1 (show k < 9223372036854775807 by omega), hb] <;> with_reducible rfl, by simp only [go_sem, reduceIte, ↓reduceIte, reduceCtorEq, nA, nS, nM, nB, nE, nL, nT, nN, iL, iT, iE, iA, iM, iS, iG, iB, iN, iZ, h]⟩) () trivial (xs.length + 1) (Nat.le_refl _)).2
  rw [hb] at hr
  simp only [go_sem, reduceIte, ↓reduceIte, reduceCtorEq, nA, nS, nM, nB, nE, nL, nT, nN, iL, iT, iE, iA, iM, iS, iG, iB, iN, iZ, h, c1, c2, Int.toNat_natCast, fillUp_zero (rHeader .mut) [.s ⟨#[]⟩, .s ⟨#[]⟩], hr]) (by simp only [go_sem, reduceIte, ↓reduceIte, reduceCtorEq, nA, nS, nM, nB, nE, nL, nT, nN, iL, iT, iE, iA, iM, iS, iG, iB, iN, iZ, okRes, hasRo])
noncomputable def s20 : SP Tryz.prog := mkS tyA 20 Tryz.f20 [s69] { md := [.ro 1], rg := [(0, [1, 2], [1, 2, 3]), (1, [1, 2, 3], [1, 2, 3]), (2, [1, 2, 3], [1, 2, 3]), (3, [1, 2, 3], [1, 2, 3]), (4, [1, 2, 3], [1, 2, 3]), (5, [2, 3], [2, 3]), (6, [2], [2, 3])], rets := some ([2], [2, 3]) } Tryz.func20 (by kernel_rfl)
@[go_sem] theorem d20 : s20.g = 20 ∧ s20.fs = ⟨[.ro 1], s20.F, false⟩ := ⟨nr rfl, nr rfl⟩
@[go_sem] theorem e20 (xMethod : ByteArray) (xHost : ByteArray) (xPath : ByteArray) (xHeaders : List Header) (h0 : smRequest (Request.mk xMethod xHost xPath xHeaders)) : s20.F [.agg [.s xMethod, .s xHost, .s xPath, .sl .ro 2 (xHeaders.map (rHeader .ro))]] = some (.agg (rRequest .mut (Request.mk xMethod xHost xPath xHeaders)), [.u]) := mkS_eq (0) rfl rfl (fun cx h => by
  obtain ⟨q0, q1, q2, q3⟩ := h0
  simp only [go_sem, reduceIte, ↓reduceIte, reduceCtorEq, nA, nS, nM, nB, nE, nL, nT, nN, iL, iT, iE, iA, iM, iS, iG, iB, iN, iZ, h, q0, q1, q2, q3]) (by simp only [go_sem, reduceIte, ↓reduceIte, reduceCtorEq, nA, nS, nM, nB, nE, nL, nT, nN, iL, iT, iE, iA, iM, iS, iG, iB, iN, iZ, okRes, hasRo, hasRoL, hasRoLL])
noncomputable def s33 : SP Tryz.prog := mkS tyA 33 Tryz.f33 [] { md := [.ro 1], rg := [(0, [1, 2], [1, 2, 3]), (1, [1, 2, 3], [1, 2, 3]), (2, [1, 2, 3], [1, 2, 3]), (3, [1, 2, 3], [1, 2, 3]), (4, [1, 2, 3], [1, 2, 3]), (5, [2, 3], [2, 3]), (6, [2], [2, 3])], rets := some ([2], [2, 3]) } Tryz.func33 (by kernel_rfl)
@[go_sem] theorem d33 : s33.g = 33 ∧ s33.fs = ⟨[.ro 1], s33.F, false⟩ := ⟨nr rfl, nr rfl⟩
@[go_sem] theorem e33 (xReq : Int) (xHead : Bool) (xDue : Int) (xLate : Bool) (h0 : smWaiter (Waiter.mk xReq xHead xDue xLate)) : s33.F [.agg [.i .i64 xReq, .b xHead, .i .i64 xDue, .b xLate]] = some (.agg (rWaiter .mut (Waiter.mk xReq xHead xDue xLate)), [.u]) := mkS_eq (0) rfl rfl (fun cx h => by
  obtain ⟨q0, q1, q2, q3⟩ := h0
  simp only [go_sem, reduceIte, ↓reduceIte, reduceCtorEq, nA, nS, nM, nB, nE, nL, nT, nN, iL, iT, iE, iA, iM, iS, iG, iB, iN, iZ, h, q0, q1, q2, q3]) (by simp only [go_sem, reduceIte, ↓reduceIte, reduceCtorEq, nA, nS, nM, nB, nE, nL, nT, nN, iL, iT, iE, iA, iM, iS, iG, iB, iN, iZ, okRes, hasRo, hasRoL, hasRoLL])
noncomputable def s89 : SP Tryz.prog := mkS tyA 89 Tryz.f89 [s33] { md := [.ro 1], rg := [(0, [0], []), (1, [0, 3], []), (2, [0, 3, 4], []), (3, [0, 3, 4, 11], []), (4, [0, 3, 4], []), (5, [0, 3, 4], []), (6, [2], [])], lv := [(0, [0, 3, 4], [])], out := [(0, [3], [])], rets := some ([2], []) } Tryz.func89 (by kernel_rfl)
@[go_sem] theorem d89 : s89.g = 89 ∧ s89.fs = ⟨[.ro 1], s89.F, false⟩ := ⟨nr rfl, nr rfl⟩
@[go_sem] theorem e89 (xs : List Waiter) (h0 : smL smWaiter xs) : s89.F [.sl .ro 4 (xs.map (rWaiter .ro))] = some (.sl .mut 4 (xs.map (rWaiter .mut)), [.u]) := mkS_eq (xs.length + 1) rfl rfl (fun cx h => by
  have hb := loopN_eq Tryz.f89 0 _ _ rfl rfl
  have hx := h0.1
  have c1 : ((xs.length : Int) * (32 : Nat) ≤ 140737488355328) := by omega
  have c2 : 0 ≤ (xs.length : Int) := by omega
  have hr := (loop_fold (cx := cx) (blk := 0) (body := loopN Tryz.f89 0) xs (fun k (_ : Unit) => ⟨E [(0, .sl .ro 4 (xs.map (rWaiter .ro))), (3, .sl .mut 4 (fillUp (rWaiter .mut) [.i .i64 0, .b false, .i .i64 0, .b false] xs k)), (4, .i .i64 k)], B []⟩) (fun _ => ⟨E [(3, .sl .mut 4 (xs.map (rWaiter .mut)))], B []⟩) (fun _ _ => ()) (fun _ _ => True)
    (fun l _ G => by simp only [go_sem, reduceIte, ↓reduceIte, reduceCtorEq, nA, nS, nM, nB, nE, nL, nT, nN, iL, iT, iE, iA, iM, iS, iG, iB, iN, iZ, h, Int.lt_irrefl, hb, fillUp_all]) (fun k hk l _ => by
      have h1 : ((k : Int) < (xs.length : Int)) := Int.ofNat_lt.2 hk
      have h2 := h0.2 _ (List.getElem_mem hk)
      have h3 : (fillUp (rWaiter .mut) [.i .i64 0, .b false, .i .i64 0, .b false] xs k).set k [.i .i64 xs[k].Req, .b xs[k].Head, .i .i64 xs[k].Due, .b xs[k].Late] = fillUp (rWaiter .mut) [.i .i64 0, .b false, .i .i64 0, .b false] xs (k + 1) := fillUp_set (rWaiter .mut) [.i .i64 0, .b false, .i .i64 0, .b false] xs k hk
      exact ⟨trivial, _, fun G => by simp only [go_sem, reduceIte, ↓reduceIte, reduceCtorEq, nA, nS, nM, nB, nE, nL, nT, nN, iL, iT, iE, iA, iM, iS, iG, iB, iN, iZ, h, h2, h3, map_gd (rWaiter .ro) xs k hk, fillUp_get (rWaiter .mut) [.i .i64 0, .b false, .i .i64 0, .b false] xs k hk, fillUp_getD (rWaiter .mut) [.i .i64 0, .b false, .i .i64 0, .b false] xs k hk, fillUp_len (rWaiter .mut) [.i .i64 0, .b false, .i .i64 0, .b false] xs k (Nat.le_of_lt hk), h1, idx_nt _ _ hk, wrap_nat1 (show k < 9223372036854775807 by omega), hb] <;> with_reducible rfl, by simp only [go_sem, reduceIte, ↓reduceIte, reduceCtorEq, nA, nS, nM, nB, nE, nL, nT, nN, iL, iT, iE, iA, iM, iS, iG, iB, iN, iZ, h]⟩) () trivial (xs.length + 1) (Nat.le_refl _)).2
  rw [hb] at hr
  simp only [go_sem, reduceIte, ↓reduceIte, reduceCtorEq, nA, nS, nM, nB, nE, nL, nT, nN, iL, iT, iE, iA, iM, iS, iG, iB, iN, iZ, h, c1, c2, Int.toNat_natCast, fillUp_zero (rWaiter .mut) [.i .i64 0, .b false, .i .i64 0, .b false], hr]) (by simp only [go_sem, reduceIte, ↓reduceIte, reduceCtorEq, nA, nS, nM, nB, nE, nL, nT, nN, iL, iT, iE, iA, iM, iS, iG, iB, iN, iZ, okRes, hasRo])
noncomputable def s32 : SP Tryz.prog := mkS tyA 32 Tryz.f32 [s20, s89] { md := [.ro 1], rg := [(0, [1, 2], [1, 2, 3]), (1, [1, 2, 3], [1, 2, 3]), (2, [1, 2, 3], [1, 2, 3]), (3, [1, 2, 3], [1, 2, 3]), (4, [1, 2, 3], [1, 2, 3]), (5, [1, 2, 3], [1, 2, 3]), (6, [1, 2, 3], [1, 2, 3]), (7, [1, 2, 3], [1, 2, 3]), (8, [1, 2, 3], [1, 2, 3]), (9, [2, 3], [2, 3]), (10, [2], [2, 3])], rets := some ([2], [2, 3]) } Tryz.func32 (by kernel_rfl)
@[go_sem] theorem d32 : s32.g = 32 ∧ s32.fs = ⟨[.ro 1], s32.F, false⟩ := ⟨nr rfl, nr rfl⟩
@[go_sem] theorem e32 (xId : Int) (xKey : ByteArray) (xBack : Bool) (xOut : Bool) (xDue : Int) (xDoomed : Bool) (xGetMethod : ByteArray) (xGetHost : ByteArray) (xGetPath : ByteArray) (xGetHeaders : List Header) (xWaiters : List Waiter) (h0 : smFlight (Flight.mk xId xKey xBack xOut xDue xDoomed (Request.mk xGetMethod xGetHost xGetPath xGetHeaders) xWaiters)) : s32.F [.agg [.i .i64 xId, .s xKey, .b xBack, .b xOut, .i .i64 xDue, .b xDoomed, .s xGetMethod, .s xGetHost, .s xGetPath, .sl .ro 2 (xGetHeaders.map (rHeader .ro)), .sl .ro 4 (xWaiters.map (rWaiter .ro))]] = some (.agg (rFlight .mut (Flight.mk xId xKey xBack xOut xDue xDoomed (Request.mk xGetMethod xGetHost xGetPath xGetHeaders) xWaiters)), [.u]) := mkS_eq (0) rfl rfl (fun cx h => by
  obtain ⟨q0, q1, q2, q3, q4, q5, q6, q7⟩ := h0
  simp only [go_sem, reduceIte, ↓reduceIte, reduceCtorEq, nA, nS, nM, nB, nE, nL, nT, nN, iL, iT, iE, iA, iM, iS, iG, iB, iN, iZ, h, q0, q1, q2, q3, q4, q5, q6, q7]) (by simp only [go_sem, reduceIte, ↓reduceIte, reduceCtorEq, nA, nS, nM, nB, nE, nL, nT, nN, iL, iT, iE, iA, iM, iS, iG, iB, iN, iZ, okRes, hasRo, hasRoL, hasRoLL])
noncomputable def s130 : SP Tryz.prog := mkS tyA 130 Tryz.f130 [] { md := [.ro 1, .ro 1], rg := [(0, [2, 3], [2, 3]), (1, [2, 3, 9], [2, 3]), (2, [4], []), (3, [14], []), (4, [4], []), (5, [4], [])], rets := some ([4], []) } Tryz.func130 (by kernel_rfl)
@[go_sem] theorem d130 : s130.g = 130 ∧ s130.fs = ⟨[.ro 1, .ro 1], s130.F, false⟩ := ⟨nr rfl, nr rfl⟩
@[go_sem] theorem e130 (xName : ByteArray) (xValue : ByteArray) (yName : ByteArray) (yValue : ByteArray) (h0 : smHeader (Header.mk xName xValue)) : s130.F [.agg [.s xName, .s xValue], .agg [.s yName, .s yValue]] = some (.b (eqv (Header.mk xName xValue) (Header.mk yName yValue)), [.u, .u]) := mkS_eq (0) rfl rfl (fun cx h => by
  obtain ⟨q0, q1⟩ := h0
  simp only [go_sem, reduceIte, ↓reduceIte, reduceCtorEq, nA, nS, nM, nB, nE, nL, nT, nN, iL, iT, iE, iA, iM, iS, iG, iB, iN, iZ, h, eqv_intne, eqv_bytes, eqv_boolne, q0, q1]
  simp only [eqv_bool, eqv_int, Header.eqv (Header.mk xName xValue) (Header.mk yName yValue), if_b, not_eq_t, if_nb, Bool.and_true]) (rfl)
noncomputable def s76 : SP Tryz.prog := mkS tyA 76 Tryz.f76 [s130] { md := [.ro 1, .ro 1], rg := [(0, [0, 1], []), (1, [0, 1, 10], []), (2, [4], []), (3, [0, 1, 5], []), (4, [0, 1, 5, 14], []), (5, [0, 1, 5], []), (6, [0, 1, 5, 26], []), (7, [4], []), (8, [4], [])], lv := [(0, [0, 1, 5], [])], out := [(0, [], [])], rets := some ([4], []), plan := [(6, (.take 0 (.take 1 (.take 2 (.take 3 (.take 4 (.take 5 (.take 6 (.take 7 (.one 8 (.take 9 .done)))))))))))] } Tryz.func76 (by kernel_rfl)
@[go_sem] theorem d76 : s76.g = 76 ∧ s76.fs = ⟨[.ro 1, .ro 1], s76.F, false⟩ := ⟨nr rfl, nr rfl⟩
@[go_sem] theorem e76 (xs ys : List Header) (h0 : smL smHeader xs) : s76.F [.sl .ro 2 (xs.map (rHeader .ro)), .sl .ro 2 (ys.map (rHeader .ro))] = some (.b (eqv xs ys), [.u, .u]) := mkS_eq (xs.length + 1) rfl rfl (fun cx h => by
  have hb := loopN_eq Tryz.f76 0 _ _ rfl rfl
  have hx := h0.1
  by_cases hl : xs.length = ys.length
  · obtain ⟨r, hr, hq⟩ := loop_list (cx := cx) (blk := 0) (body := loopN Tryz.f76 0) (xs.zip ys) (fun k (_ : Unit) => ⟨E [(0, .sl .ro 2 (xs.map (rHeader .ro))), (1, .sl .ro 2 (ys.map (rHeader .ro))), (5, .i .i64 k)], B []⟩) (fun _ => ⟨E [], B []⟩) (fun x _ => !eqv x.1 x.2) (fun _ _ => ()) (fun _ _ => (.ret, ⟨E [(4, .b false)], B []⟩)) (fun _ _ => True)
      (fun l _ G => by simp only [go_sem, reduceIte, ↓reduceIte, reduceCtorEq, nA, nS, nM, nB, nE, nL, nT, nN, iL, iT, iE, iA, iM, iS, iG, iB, iN, iZ, h, zip_len hl, hl, Int.lt_irrefl, hb]) (fun k hk l _ => by
        have hk : k < xs.length := by rwa [zip_len hl] at hk
        have h1 : ((k : Int) < (xs.length : Int)) := Int.ofNat_lt.2 hk
        have h2 := h0.2 _ (List.getElem_mem hk)
        have h3 : (xs.zip ys)[k] = (xs[k], ys[k]'(by omega)) := by simp
        rw [h3]
        cases hc : eqv xs[k] (ys[k]'(by omega))
        · exact .inl ⟨rfl, fun G => by simp only [go_sem, reduceIte, ↓reduceIte, reduceCtorEq, nA, nS, nM, nB, nE, nL, nT, nN, iL, iT, iE, iA, iM, iS, iG, iB, iN, iZ, h, hc, map_gd (rHeader .ro) xs k hk, map_gd (rHeader .ro) ys k (by omega), idx_nt ys.length k (by omega), h2, h1, idx_nt _ _ hk, wrap_nat1 (show k < 9223372036854775807 by omega), hb]⟩
        · exact .inr ⟨rfl, trivial, _, fun G => by simp only [go_sem, reduceIte, ↓reduceIte, reduceCtorEq, nA, nS, nM, nB, nE, nL, nT, nN, iL, iT, iE, iA, iM, iS, iG, iB, iN, iZ, h, hc, map_gd (rHeader .ro) xs k hk, map_gd (rHeader .ro) ys k (by omega), idx_nt ys.length k (by omega), h2, h1, idx_nt _ _ hk, wrap_nat1 (show k < 9223372036854775807 by omega), hb] <;> with_reducible rfl, by simp only [go_sem, reduceIte, ↓reduceIte, reduceCtorEq, nA, nS, nM, nB, nE, nL, nT, nN, iL, iT, iE, iA, iM, iS, iG, iB, iN, iZ, h]⟩) () trivial (xs.length + 1) (by rw [zip_len hl]; exact Nat.le_refl _)
    rw [hb] at hr
    have hl2 : ((xs.length : Int) != (ys.length : Int)) = false := by simp [hl]
    rcases hq with ⟨s', e1, e2, e3⟩ | ⟨x, s', e1, e3⟩
    · simp only [go_sem, reduceIte, ↓reduceIte, reduceCtorEq, nA, nS, nM, nB, nE, nL, nT, nN, iL, iT, iE, iA, iM, iS, iG, iB, iN, iZ, h, hl2, hr, e3, zip_eqv hl e1]
    · simp only [go_sem, reduceIte, ↓reduceIte, reduceCtorEq, nA, nS, nM, nB, nE, nL, nT, nN, iL, iT, iE, iA, iM, iS, iG, iB, iN, iZ, h, hl2, hr, e3, zip_nev hl e1]
  · have hl2 : ((xs.length : Int) != (ys.length : Int)) = true := by simpa using fun h => hl (Int.ofNat_inj.1 h)
    simp only [go_sem, reduceIte, ↓reduceIte, reduceCtorEq, nA, nS, nM, nB, nE, nL, nT, nN, iL, iT, iE, iA, iM, iS, iG, iB, iN, iZ, h, hl2, len_nev hl]) (rfl)
noncomputable def s24 : SP Tryz.prog := mkS tyA 24 Tryz.f24 [s76] { md := [.ro 1, .ro 1], rg := [(0, [2, 3], [2, 3]), (1, [2, 3, 9], [2, 3]), (2, [4], []), (3, [2, 3, 14], [2, 3]), (4, [4], []), (5, [2, 3, 19], [2, 3]), (6, [4], []), (7, [25], []), (8, [4], []), (9, [4], [])], rets := some ([4], []) } Tryz.func24 (by kernel_rfl)
@[go_sem] theorem d24 : s24.g = 24 ∧ s24.fs = ⟨[.ro 1, .ro 1], s24.F, false⟩ := ⟨nr rfl, nr rfl⟩
@[go_sem] theorem e24 (xMethod : ByteArray) (xHost : ByteArray) (xPath : ByteArray) (xHeaders : List Header) (yMethod : ByteArray) (yHost : ByteArray) (yPath : ByteArray) (yHeaders : List Header) (h0 : smRequest (Request.mk xMethod xHost xPath xHeaders)) : s24.F [.agg [.s xMethod, .s xHost, .s xPath, .sl .ro 2 (xHeaders.map (rHeader .ro))], .agg [.s yMethod, .s yHost, .s yPath, .sl .ro 2 (yHeaders.map (rHeader .ro))]] = some (.b (eqv (Request.mk xMethod xHost xPath xHeaders) (Request.mk yMethod yHost yPath yHeaders)), [.u, .u]) := mkS_eq (0) rfl rfl (fun cx h => by
  obtain ⟨q0, q1, q2, q3⟩ := h0
  simp only [go_sem, reduceIte, ↓reduceIte, reduceCtorEq, nA, nS, nM, nB, nE, nL, nT, nN, iL, iT, iE, iA, iM, iS, iG, iB, iN, iZ, h, eqv_intne, eqv_bytes, eqv_boolne, q0, q1, q2, q3]
  simp only [eqv_bool, eqv_int, Request.eqv (Request.mk xMethod xHost xPath xHeaders) (Request.mk yMethod yHost yPath yHeaders), if_b, not_eq_t, if_nb, Bool.and_true]) (rfl)
noncomputable def s136 : SP Tryz.prog := mkS tyA 136 Tryz.f136 [] { md := [.ro 1, .ro 1], rg := [(0, [2, 3], [2, 3]), (1, [2, 3, 9], [2, 3]), (2, [4], []), (3, [2, 3, 14], [2, 3]), (4, [4], []), (5, [2, 3, 19], [2, 3]), (6, [4], []), (7, [24], []), (8, [4], []), (9, [4], [])], rets := some ([4], []) } Tryz.func136 (by kernel_rfl)
@[go_sem] theorem d136 : s136.g = 136 ∧ s136.fs = ⟨[.ro 1, .ro 1], s136.F, false⟩ := ⟨nr rfl, nr rfl⟩
@[go_sem] theorem e136 (xReq : Int) (xHead : Bool) (xDue : Int) (xLate : Bool) (yReq : Int) (yHead : Bool) (yDue : Int) (yLate : Bool) (h0 : smWaiter (Waiter.mk xReq xHead xDue xLate)) : s136.F [.agg [.i .i64 xReq, .b xHead, .i .i64 xDue, .b xLate], .agg [.i .i64 yReq, .b yHead, .i .i64 yDue, .b yLate]] = some (.b (eqv (Waiter.mk xReq xHead xDue xLate) (Waiter.mk yReq yHead yDue yLate)), [.u, .u]) := mkS_eq (0) rfl rfl (fun cx h => by
  obtain ⟨q0, q1, q2, q3⟩ := h0
  simp only [go_sem, reduceIte, ↓reduceIte, reduceCtorEq, nA, nS, nM, nB, nE, nL, nT, nN, iL, iT, iE, iA, iM, iS, iG, iB, iN, iZ, h, eqv_intne, eqv_bytes, eqv_boolne, q0, q1, q2, q3]
  simp only [eqv_bool, eqv_int, Waiter.eqv (Waiter.mk xReq xHead xDue xLate) (Waiter.mk yReq yHead yDue yLate), if_b, not_eq_t, if_nb, Bool.and_true]) (rfl)
noncomputable def s94 : SP Tryz.prog := mkS tyA 94 Tryz.f94 [s136] { md := [.ro 1, .ro 1], rg := [(0, [0, 1], []), (1, [0, 1, 10], []), (2, [4], []), (3, [0, 1, 5], []), (4, [0, 1, 5, 14], []), (5, [0, 1, 5], []), (6, [0, 1, 5, 26], []), (7, [4], []), (8, [4], [])], lv := [(0, [0, 1, 5], [])], out := [(0, [], [])], rets := some ([4], []), plan := [(6, (.take 0 (.take 1 (.take 2 (.take 3 (.take 4 (.take 5 (.take 6 (.take 7 (.one 8 (.take 9 .done)))))))))))] } Tryz.func94 (by kernel_rfl)
@[go_sem] theorem d94 : s94.g = 94 ∧ s94.fs = ⟨[.ro 1, .ro 1], s94.F, false⟩ := ⟨nr rfl, nr rfl⟩
@[go_sem] theorem e94 (xs ys : List Waiter) (h0 : smL smWaiter xs) : s94.F [.sl .ro 4 (xs.map (rWaiter .ro)), .sl .ro 4 (ys.map (rWaiter .ro))] = some (.b (eqv xs ys), [.u, .u]) := mkS_eq (xs.length + 1) rfl rfl (fun cx h => by
  have hb := loopN_eq Tryz.f94 0 _ _ rfl rfl
  have hx := h0.1
  by_cases hl : xs.length = ys.length
  · obtain ⟨r, hr, hq⟩ := loop_list (cx := cx) (blk := 0) (body := loopN Tryz.f94 0) (xs.zip ys) (fun k (_ : Unit) => ⟨E [(0, .sl .ro 4 (xs.map (rWaiter .ro))), (1, .sl .ro 4 (ys.map (rWaiter .ro))), (5, .i .i64 k)], B []⟩) (fun _ => ⟨E [], B []⟩) (fun x _ => !eqv x.1 x.2) (fun _ _ => ()) (fun _ _ => (.ret, ⟨E [(4, .b false)], B []⟩)) (fun _ _ => True)
      (fun l _ G => by simp only [go_sem, reduceIte, ↓reduceIte, reduceCtorEq, nA, nS, nM, nB, nE, nL, nT, nN, iL, iT, iE, iA, iM, iS, iG, iB, iN, iZ, h, zip_len hl, hl, Int.lt_irrefl, hb]) (fun k hk l _ => by
        have hk : k < xs.length := by rwa [zip_len hl] at hk
        have h1 : ((k : Int) < (xs.length : Int)) := Int.ofNat_lt.2 hk
        have h2 := h0.2 _ (List.getElem_mem hk)
        have h3 : (xs.zip ys)[k] = (xs[k], ys[k]'(by omega)) := by simp
        rw [h3]
        cases hc : eqv xs[k] (ys[k]'(by omega))
        · exact .inl ⟨rfl, fun G => by simp only [go_sem, reduceIte, ↓reduceIte, reduceCtorEq, nA, nS, nM, nB, nE, nL, nT, nN, iL, iT, iE, iA, iM, iS, iG, iB, iN, iZ, h, hc, map_gd (rWaiter .ro) xs k hk, map_gd (rWaiter .ro) ys k (by omega), idx_nt ys.length k (by omega), h2, h1, idx_nt _ _ hk, wrap_nat1 (show k < 9223372036854775807 by omega), hb]⟩
        · exact .inr ⟨rfl, trivial, _, fun G => by simp only [go_sem, reduceIte, ↓reduceIte, reduceCtorEq, nA, nS, nM, nB, nE, nL, nT, nN, iL, iT, iE, iA, iM, iS, iG, iB, iN, iZ, h, hc, map_gd (rWaiter .ro) xs k hk, map_gd (rWaiter .ro) ys k (by omega), idx_nt ys.length k (by omega), h2, h1, idx_nt _ _ hk, wrap_nat1 (show k < 9223372036854775807 by omega), hb] <;> with_reducible rfl, by simp only [go_sem, reduceIte, ↓reduceIte, reduceCtorEq, nA, nS, nM, nB, nE, nL, nT, nN, iL, iT, iE, iA, iM, iS, iG, iB, iN, iZ, h]⟩) () trivial (xs.length + 1) (by rw [zip_len hl]; exact Nat.le_refl _)
    rw [hb] at hr
    have hl2 : ((xs.length : Int) != (ys.length : Int)) = false := by simp [hl]
    rcases hq with ⟨s', e1, e2, e3⟩ | ⟨x, s', e1, e3⟩
    · simp only [go_sem, reduceIte, ↓reduceIte, reduceCtorEq, nA, nS, nM, nB, nE, nL, nT, nN, iL, iT, iE, iA, iM, iS, iG, iB, iN, iZ, h, hl2, hr, e3, zip_eqv hl e1]
    · simp only [go_sem, reduceIte, ↓reduceIte, reduceCtorEq, nA, nS, nM, nB, nE, nL, nT, nN, iL, iT, iE, iA, iM, iS, iG, iB, iN, iZ, h, hl2, hr, e3, zip_nev hl e1]
  · have hl2 : ((xs.length : Int) != (ys.length : Int)) = true := by simpa using fun h => hl (Int.ofNat_inj.1 h)
    simp only [go_sem, reduceIte, ↓reduceIte, reduceCtorEq, nA, nS, nM, nB, nE, nL, nT, nN, iL, iT, iE, iA, iM, iS, iG, iB, iN, iZ, h, hl2, len_nev hl]) (rfl)
noncomputable def s36 : SP Tryz.prog := mkS tyA 36 Tryz.f36 [s24, s94] { md := [.ro 1, .ro 1], rg := [(0, [2, 3], [2, 3]), (1, [2, 3, 9], [2, 3]), (2, [4], []), (3, [2, 3, 14], [2, 3]), (4, [4], []), (5, [2, 3, 19], [2, 3]), (6, [4], []), (7, [2, 3, 24], [2, 3]), (8, [4], []), (9, [2, 3, 29], [2, 3]), (10, [4], []), (11, [2, 3, 34], [2, 3]), (12, [4], []), (13, [2, 3, 40], [2, 3]), (14, [4], []), (15, [46], []), (16, [4], []), (17, [4], [])], rets := some ([4], []) } Tryz.func36 (by kernel_rfl)
@[go_sem] theorem d36 : s36.g = 36 ∧ s36.fs = ⟨[.ro 1, .ro 1], s36.F, false⟩ := ⟨nr rfl, nr rfl⟩
@[go_sem] theorem e36 (xId : Int) (xKey : ByteArray) (xBack : Bool) (xOut : Bool) (xDue : Int) (xDoomed : Bool) (xGetMethod : ByteArray) (xGetHost : ByteArray) (xGetPath : ByteArray) (xGetHeaders : List Header) (xWaiters : List Waiter) (yId : Int) (yKey : ByteArray) (yBack : Bool) (yOut : Bool) (yDue : Int) (yDoomed : Bool) (yGetMethod : ByteArray) (yGetHost : ByteArray) (yGetPath : ByteArray) (yGetHeaders : List Header) (yWaiters : List Waiter) (h0 : smFlight (Flight.mk xId xKey xBack xOut xDue xDoomed (Request.mk xGetMethod xGetHost xGetPath xGetHeaders) xWaiters)) : s36.F [.agg [.i .i64 xId, .s xKey, .b xBack, .b xOut, .i .i64 xDue, .b xDoomed, .s xGetMethod, .s xGetHost, .s xGetPath, .sl .ro 2 (xGetHeaders.map (rHeader .ro)), .sl .ro 4 (xWaiters.map (rWaiter .ro))], .agg [.i .i64 yId, .s yKey, .b yBack, .b yOut, .i .i64 yDue, .b yDoomed, .s yGetMethod, .s yGetHost, .s yGetPath, .sl .ro 2 (yGetHeaders.map (rHeader .ro)), .sl .ro 4 (yWaiters.map (rWaiter .ro))]] = some (.b (eqv (Flight.mk xId xKey xBack xOut xDue xDoomed (Request.mk xGetMethod xGetHost xGetPath xGetHeaders) xWaiters) (Flight.mk yId yKey yBack yOut yDue yDoomed (Request.mk yGetMethod yGetHost yGetPath yGetHeaders) yWaiters)), [.u, .u]) := mkS_eq (0) rfl rfl (fun cx h => by
  obtain ⟨q0, q1, q2, q3, q4, q5, q6, q7⟩ := h0
  simp only [go_sem, reduceIte, ↓reduceIte, reduceCtorEq, nA, nS, nM, nB, nE, nL, nT, nN, iL, iT, iE, iA, iM, iS, iG, iB, iN, iZ, h, eqv_intne, eqv_bytes, eqv_boolne, q0, q1, q2, q3, q4, q5, q6, q7]
  simp only [eqv_bool, eqv_int, Flight.eqv (Flight.mk xId xKey xBack xOut xDue xDoomed (Request.mk xGetMethod xGetHost xGetPath xGetHeaders) xWaiters) (Flight.mk yId yKey yBack yOut yDue yDoomed (Request.mk yGetMethod yGetHost yGetPath yGetHeaders) yWaiters), if_b, not_eq_t, if_nb, Bool.and_true]) (rfl)
noncomputable def s131 : SP Tryz.prog := mkS tyA 131 Tryz.f131 [] { md := [.ro 1], rg := [(0, [0], []), (1, [0, 5], []), (2, [2], []), (3, [0, 3], []), (4, [0, 3, 7], []), (5, [0, 3], []), (6, [0, 3], []), (7, [2], [])], lv := [(0, [0, 3], [])], out := [(0, [3], [])], rets := some ([2], []) } Tryz.func131 (by kernel_rfl)
@[go_sem] theorem d131 : s131.g = 131 ∧ s131.fs = ⟨[.ro 1], s131.F, false⟩ := ⟨nr rfl, nr rfl⟩
@[go_sem] theorem e131 (k : Int) (h0 : k + 1 ≤ 9223372036854775807) : s131.F [.i .i64 k] = some (.s (mkText k), [.u]) := mkS_eq (k.toNat + 1) rfl rfl (fun cx h => by
  have hb := loopN_eq Tryz.f131 0 _ _ rfl rfl
  have lp := loop_gen (cx := cx) (blk := 0) (body := loopN Tryz.f131 0) (fun (p : Int × ByteArray) => ⟨E [(0, .i .i64 p.1), (3, .s p.2)], B []⟩) (fun p => 0 ≤ p.1 ∧ p.1 + p.2.size ≤ 9223372036854775807) (fun p => p.1.toNat) (fun p r => r = some (.ex 0, ⟨E [(3, .s (digs p.1.toNat p.1 p.2))], B []⟩)) (fun ⟨k, s⟩ ⟨i1, i2⟩ => by
    simp only at i1 i2 ⊢
    by_cases hk : 0 < k
    · have e1 : k.tdiv 10 = k / 10 := Int.tdiv_eq_ediv_of_nonneg i1
      have e2 : k.tmod 10 = k % 10 := Int.tmod_eq_emod_of_nonneg i1
      have w1 : (IntKind.i64).wrap (48 + k.tmod 10) = 48 + k.tmod 10 := wrap_id (by omega) (by omega)
      have w2 : (IntKind.u8).wrap (48 + k.tmod 10) = (48 + k.tmod 10) % 256 := by simp [IntKind.wrap, IntKind.bits, IntKind.signed]
      have w3 : (IntKind.i64).wrap (k.tdiv 10) = k.tdiv 10 := wrap_id (by omega) (by omega)
      have z2 : (#[UInt8.ofNat ((48 + k.tmod 10) % 256).toNat] : Array UInt8).size + s.size ≤ 9223372036854775807 := by show 1 + s.size ≤ _; omega
      refine .inr ⟨_, (k.tdiv 10, ByteArray.mk #[UInt8.ofNat ((48 + k.tmod 10) % 256).toNat] ++ s), ?_, ?_, ?_, ?_, fun G => by simp only [go_sem, reduceIte, ↓reduceIte, reduceCtorEq, nA, nS, nM, nB, nE, nL, nT, nN, iL, iT, iE, iA, iM, iS, iG, iB, iN, iZ, h, hb, hk, w1, w2, w3, z2, strOf]; rfl⟩
      · simp only [go_sem, reduceIte, ↓reduceIte, reduceCtorEq, nA, nS, nM, nB, nE, nL, nT, nN, iL, iT, iE, iA, iM, iS, iG, iB, iN, iZ, h]
      · rw [ByteArray.size_append]; exact ⟨by show 0 ≤ k.tdiv 10; omega, by show k.tdiv 10 + ((1 + s.size : Nat) : Int) ≤ _; omega⟩
      · simp only; omega
      · intro r hr
        rw [hr, show digs k.toNat k s = digs (k.tdiv 10).toNat (k.tdiv 10) (ByteArray.mk #[UInt8.ofNat ((48 + k.tmod 10) % 256).toNat] ++ s) from by
          obtain ⟨m, hm⟩ : ∃ m, k.toNat = m + 1 := ⟨k.toNat - 1, by omega⟩
          rw [hm, digs, if_pos hk]
          exact digs_stop _ _ _ _ (by omega) (Nat.le_refl _)]
    · obtain rfl : k = 0 := by omega
      exact .inl fun G => by simp only [go_sem, reduceIte, ↓reduceIte, reduceCtorEq, nA, nS, nM, nB, nE, nL, nT, nN, iL, iT, iE, iA, iM, iS, iG, iB, iN, iZ, h, hb, digs])
  rw [hb] at lp
  unfold mkText
  by_cases hk : k ≤ 0
  · simp only [go_sem, reduceIte, ↓reduceIte, reduceCtorEq, nA, nS, nM, nB, nE, nL, nT, nN, iL, iT, iE, iA, iM, iS, iG, iB, iN, iZ, h, hk]
  · have l1 := lp (k.toNat + 1) (k, ⟨#[]⟩) ⟨by omega, by show k + ((0 : Nat) : Int) ≤ _; omega⟩ (Nat.lt_succ_self _)
    have z3 : (#[109] : Array UInt8).size + (digs k.toNat k ⟨#[]⟩).size ≤ 9223372036854775807 := by
      have := digs_size k.toNat k ⟨#[]⟩
      show 1 + _ ≤ _
      have e2 : (ByteArray.mk #[]).size = 0 := rfl
      omega
    simp only [go_sem, reduceIte, ↓reduceIte, reduceCtorEq, nA, nS, nM, nB, nE, nL, nT, nN, iL, iT, iE, iA, iM, iS, iG, iB, iN, iZ, h, hk, l1, z3]) (rfl)
noncomputable def s80 : SP Tryz.prog := mkS tyA 80 Tryz.f80 [s131] { md := [.mv, .ro 1], rg := [(0, [0, 1], []), (1, [0, 1, 5], []), (2, [0, 1, 5, 9], []), (3, [0, 1, 5], []), (4, [0, 1, 5], []), (5, [0, 1, 5], []), (6, [0, 1, 5], []), (7, [0, 1, 5], []), (8, [0, 4], [])], lv := [(0, [0, 1, 5], [])], out := [(0, [0, 1], [])], rets := some ([0, 4], []) } Tryz.func80 (by kernel_rfl)
@[go_sem] theorem d80 : s80.g = 80 ∧ s80.fs = ⟨[.mv, .ro 1], s80.F, false⟩ := ⟨nr rfl, nr rfl⟩
@[go_sem] theorem e80 (xs : List Header) (k : Int) (h1 : 0 ≤ k) (h0 : (mkL mkHeaderE xs k).2 ≤ 9223372036854775807) : s80.F [.sl .mut 2 (xs.map (rHeader .mut)), .i .i64 k] = some (.i .i64 (mkL mkHeaderE xs k).2, [.sl .mut 2 ((mkL mkHeaderE xs k).1.map (rHeader .mut)), .u]) := mkS_eq (xs.length + 1) rfl rfl (fun cx h => by
  have hb := loopN_eq Tryz.f80 0 _ _ rfl rfl
  have hx := mkL_cnt mkHeaderE_ge xs k
  have hr := (loop_fold (cx := cx) (blk := 0) (body := loopN Tryz.f80 0) xs (fun i (s : Int) => ⟨E [(0, .sl .mut 2 ((mkUp mkHeaderE xs k i).map (rHeader .mut))), (1, .i .i64 s), (5, .i .i64 i)], B []⟩) (fun _ => ⟨E [(0, .sl .mut 2 ((mkL mkHeaderE xs k).1.map (rHeader .mut))), (1, .i .i64 (mkL mkHeaderE xs k).2)], B []⟩) (fun x s => (mkHeaderE x s).2) (fun i s => s = mkAt mkHeaderE xs k i)
    (fun s hI G => by simp only [go_sem, reduceIte, ↓reduceIte, reduceCtorEq, nA, nS, nM, nB, nE, nL, nT, nN, iL, iT, iE, iA, iM, iS, iG, iB, iN, iZ, h, Int.lt_irrefl, hb, mkUp_len, mkL_take, mkUp_take, mkUp_end, mkL_len, hI, mkAt_end]) (fun i hk s hI => by
      have h2 : ((i : Int) < (xs.length : Int)) := Int.ofNat_lt.2 hk
      have g1 := mkAt_ge mkHeaderE_ge xs k i
      have g2 := mkAt_le mkHeaderE_ge xs k i hk
      rw [← hI] at g1 g2

      have h3 := mkUp_set (f := mkHeaderE) (rHeader .mut) xs k i hk
      rw [← hI] at h3
      simp only [mkHeaderE, rHeader] at h3 g2
      have v0 : (IntKind.i64).wrap (s) = s := wrap_id (by omega) (by omega)
      have t1 : s + 1 ≤ 9223372036854775807 := by omega
      have v1 : (IntKind.i64).wrap (s + 1) = s + 1 := wrap_id (by omega) (by omega)
      have t2 : s + 1 + 1 ≤ 9223372036854775807 := by omega
      have v2 : (IntKind.i64).wrap (s + 1 + 1) = s + 1 + 1 := wrap_id (by omega) (by omega)
      have hL : i < ((mkUp mkHeaderE xs k i).map (rHeader .mut)).length := by rw [List.length_map, mkUp_len]; exact hk
      have hg := fun y => set_get ((mkUp mkHeaderE xs k i).map (rHeader .mut)) i y hL
      have hG := fun y => set_getD ((mkUp mkHeaderE xs k i).map (rHeader .mut)) i y hL
      refine ⟨by rw [mkAt_succ xs k i hk, ← hI], _, fun G => by simp only [go_sem, reduceIte, ↓reduceIte, reduceCtorEq, nA, nS, nM, nB, nE, nL, nT, nN, iL, iT, iE, iA, iM, iS, iG, iB, iN, iZ, h, h3, hg, hG, mkUp_len (f := mkHeaderE) xs k i, mkUp_get (f := mkHeaderE) (rHeader .mut) xs k i hk, mkUp_getD (f := mkHeaderE) (rHeader .mut) xs k i hk, mkUp_take (f := mkHeaderE) (rHeader .mut) xs k i, mkB_def, v0, t1, v1, t2, v2, h2, idx_nt _ _ hk, wrap_nat1 (show i < 9223372036854775807 by omega), hb] <;> with_reducible rfl, by simp only [go_sem, reduceIte, ↓reduceIte, reduceCtorEq, nA, nS, nM, nB, nE, nL, nT, nN, iL, iT, iE, iA, iM, iS, iG, iB, iN, iZ, h, mkHeaderE]⟩) k rfl (xs.length + 1) (Nat.le_refl _)).2
  rw [hb] at hr
  simp only [go_sem, reduceIte, ↓reduceIte, reduceCtorEq, nA, nS, nM, nB, nE, nL, nT, nN, iL, iT, iE, iA, iM, iS, iG, iB, iN, iZ, h, hr, mkUp_zero]) (by simp only [go_sem, reduceIte, ↓reduceIte, reduceCtorEq, nA, nS, nM, nB, nE, nL, nT, nN, iL, iT, iE, iA, iM, iS, iG, iB, iN, iZ, okRes, hasRo])
noncomputable def s26 : SP Tryz.prog := mkS tyA 26 Tryz.f26 [s80] { md := [.mv, .ro 1], rg := [(0, [0, 1, 2], [2]), (1, [0, 1], []), (2, [0, 4], [])], rets := some ([0, 4], []), al := [2] } Tryz.func26 (by kernel_rfl)
@[go_sem] theorem d26 : s26.g = 26 ∧ s26.fs = ⟨[.mv, .ro 1], s26.F, false⟩ := ⟨nr rfl, nr rfl⟩
@[go_sem] theorem e26 (xMethod : ByteArray) (xHost : ByteArray) (xPath : ByteArray) (xHeaders : List Header) (k : Int) (h1 : 0 ≤ k) (h0 : (mkRequestV (Request.mk xMethod xHost xPath xHeaders) k).2 ≤ 9223372036854775807) : s26.F [.agg [.s xMethod, .s xHost, .s xPath, .sl .mut 2 (xHeaders.map (rHeader .mut))], .i .i64 k] = some (.i .i64 (mkRequestV (Request.mk xMethod xHost xPath xHeaders) k).2, [.agg (rRequest .mut (mkRequestV (Request.mk xMethod xHost xPath xHeaders) k).1), .u]) := mkS_eq (0) rfl rfl (fun cx h => by
  obtain ⟨q0, hq0⟩ : ∃ q, (mkL mkHeaderE xHeaders k).2 = q := ⟨_, rfl⟩
  have b0 := mkL_ge mkHeaderE_ge xHeaders k
  rw [hq0] at b0
  have p0 : 0 ≤ k := by omega
  simp only [mkRequestV_eq, hq0] at h0
  have c0 : q0 ≤ 9223372036854775807 := by omega
  have d0 : ¬ (q0 < 0) := by omega
  simp only [go_sem, reduceIte, ↓reduceIte, reduceCtorEq, nA, nS, nM, nB, nE, nL, nT, nN, iL, iT, iE, iA, iM, iS, iG, iB, iN, iZ, h, p0, c0, d0, hq0, mkRequestV_eq]) (by simp only [go_sem, reduceIte, ↓reduceIte, reduceCtorEq, nA, nS, nM, nB, nE, nL, nT, nN, iL, iT, iE, iA, iM, iS, iG, iB, iN, iZ, mkRequestV_eq, okRes, hasRo, hasRoL, hasRoLL])
noncomputable def s95 : SP Tryz.prog := mkS tyA 95 Tryz.f95 [] { md := [.mv, .ro 1], rg := [(0, [0, 1], []), (1, [0, 1, 5], []), (2, [0, 1, 5, 9], []), (3, [0, 1, 5], []), (4, [0, 1, 5], []), (5, [0, 1, 5], []), (6, [0, 1, 5], []), (7, [0, 1, 5], []), (8, [0, 1, 5], []), (9, [0, 1, 5], []), (10, [0, 1, 5], []), (11, [0, 1, 5], []), (12, [0, 4], [])], lv := [(0, [0, 1, 5], [])], out := [(0, [0, 1], [])], rets := some ([0, 4], []) } Tryz.func95 (by kernel_rfl)
@[go_sem] theorem d95 : s95.g = 95 ∧ s95.fs = ⟨[.mv, .ro 1], s95.F, false⟩ := ⟨nr rfl, nr rfl⟩
@[go_sem] theorem e95 (xs : List Waiter) (k : Int) (h1 : 0 ≤ k) (h0 : (mkL mkWaiterE xs k).2 ≤ 9223372036854775807) : s95.F [.sl .mut 4 (xs.map (rWaiter .mut)), .i .i64 k] = some (.i .i64 (mkL mkWaiterE xs k).2, [.sl .mut 4 ((mkL mkWaiterE xs k).1.map (rWaiter .mut)), .u]) := mkS_eq (xs.length + 1) rfl rfl (fun cx h => by
  have hb := loopN_eq Tryz.f95 0 _ _ rfl rfl
  have hx := mkL_cnt mkWaiterE_ge xs k
  have hr := (loop_fold (cx := cx) (blk := 0) (body := loopN Tryz.f95 0) xs (fun i (s : Int) => ⟨E [(0, .sl .mut 4 ((mkUp mkWaiterE xs k i).map (rWaiter .mut))), (1, .i .i64 s), (5, .i .i64 i)], B []⟩) (fun _ => ⟨E [(0, .sl .mut 4 ((mkL mkWaiterE xs k).1.map (rWaiter .mut))), (1, .i .i64 (mkL mkWaiterE xs k).2)], B []⟩) (fun x s => (mkWaiterE x s).2) (fun i s => s = mkAt mkWaiterE xs k i)
    (fun s hI G => by simp only [go_sem, reduceIte, ↓reduceIte, reduceCtorEq, nA, nS, nM, nB, nE, nL, nT, nN, iL, iT, iE, iA, iM, iS, iG, iB, iN, iZ, h, Int.lt_irrefl, hb, mkUp_len, mkL_take, mkUp_take, mkUp_end, mkL_len, hI, mkAt_end]) (fun i hk s hI => by
      have h2 : ((i : Int) < (xs.length : Int)) := Int.ofNat_lt.2 hk
      have g1 := mkAt_ge mkWaiterE_ge xs k i
      have g2 := mkAt_le mkWaiterE_ge xs k i hk
      rw [← hI] at g1 g2

      have h3 := mkUp_set (f := mkWaiterE) (rWaiter .mut) xs k i hk
      rw [← hI] at h3
      simp only [mkWaiterE, rWaiter] at h3 g2
      have v0 : (IntKind.i64).wrap (s) = s := wrap_id (by omega) (by omega)
      have v1 : (IntKind.i64).wrap (s + 1) = s + 1 := wrap_id (by omega) (by omega)
      have v2 : (IntKind.i64).wrap (s + 1 + 1) = s + 1 + 1 := wrap_id (by omega) (by omega)
      have v3 : (IntKind.i64).wrap (s + 1 + 1 + 1) = s + 1 + 1 + 1 := wrap_id (by omega) (by omega)
      have v4 : (IntKind.i64).wrap (s + 1 + 1 + 1 + 1) = s + 1 + 1 + 1 + 1 := wrap_id (by omega) (by omega)
      have hL : i < ((mkUp mkWaiterE xs k i).map (rWaiter .mut)).length := by rw [List.length_map, mkUp_len]; exact hk
      have hg := fun y => set_get ((mkUp mkWaiterE xs k i).map (rWaiter .mut)) i y hL
      have hG := fun y => set_getD ((mkUp mkWaiterE xs k i).map (rWaiter .mut)) i y hL
      refine ⟨by rw [mkAt_succ xs k i hk, ← hI], _, fun G => by simp only [go_sem, reduceIte, ↓reduceIte, reduceCtorEq, nA, nS, nM, nB, nE, nL, nT, nN, iL, iT, iE, iA, iM, iS, iG, iB, iN, iZ, h, h3, hg, hG, mkUp_len (f := mkWaiterE) xs k i, mkUp_get (f := mkWaiterE) (rWaiter .mut) xs k i hk, mkUp_getD (f := mkWaiterE) (rWaiter .mut) xs k i hk, mkUp_take (f := mkWaiterE) (rWaiter .mut) xs k i, mkB_def, v0, v1, v2, v3, v4, h2, idx_nt _ _ hk, wrap_nat1 (show i < 9223372036854775807 by omega), hb] <;> with_reducible rfl, by simp only [go_sem, reduceIte, ↓reduceIte, reduceCtorEq, nA, nS, nM, nB, nE, nL, nT, nN, iL, iT, iE, iA, iM, iS, iG, iB, iN, iZ, h, mkWaiterE]⟩) k rfl (xs.length + 1) (Nat.le_refl _)).2
  rw [hb] at hr
  simp only [go_sem, reduceIte, ↓reduceIte, reduceCtorEq, nA, nS, nM, nB, nE, nL, nT, nN, iL, iT, iE, iA, iM, iS, iG, iB, iN, iZ, h, hr, mkUp_zero]) (by simp only [go_sem, reduceIte, ↓reduceIte, reduceCtorEq, nA, nS, nM, nB, nE, nL, nT, nN, iL, iT, iE, iA, iM, iS, iG, iB, iN, iZ, okRes, hasRo])
noncomputable def s37 : SP Tryz.prog := mkS tyA 37 Tryz.f37 [s26, s95] { md := [.mv, .ro 1], rg := [(0, [0, 1, 2], [2]), (1, [0, 1, 2], [2]), (2, [0, 1], []), (3, [0, 4], [])], rets := some ([0, 4], []), al := [2] } Tryz.func37 (by kernel_rfl)
@[go_sem] theorem d37 : s37.g = 37 ∧ s37.fs = ⟨[.mv, .ro 1], s37.F, false⟩ := ⟨nr rfl, nr rfl⟩
@[go_sem] theorem e37 (xId : Int) (xKey : ByteArray) (xBack : Bool) (xOut : Bool) (xDue : Int) (xDoomed : Bool) (xGetMethod : ByteArray) (xGetHost : ByteArray) (xGetPath : ByteArray) (xGetHeaders : List Header) (xWaiters : List Waiter) (k : Int) (h1 : 0 ≤ k) (h0 : (mkFlightV (Flight.mk xId xKey xBack xOut xDue xDoomed (Request.mk xGetMethod xGetHost xGetPath xGetHeaders) xWaiters) k).2 ≤ 9223372036854775807) : s37.F [.agg [.i .i64 xId, .s xKey, .b xBack, .b xOut, .i .i64 xDue, .b xDoomed, .s xGetMethod, .s xGetHost, .s xGetPath, .sl .mut 2 (xGetHeaders.map (rHeader .mut)), .sl .mut 4 (xWaiters.map (rWaiter .mut))], .i .i64 k] = some (.i .i64 (mkFlightV (Flight.mk xId xKey xBack xOut xDue xDoomed (Request.mk xGetMethod xGetHost xGetPath xGetHeaders) xWaiters) k).2, [.agg (rFlight .mut (mkFlightV (Flight.mk xId xKey xBack xOut xDue xDoomed (Request.mk xGetMethod xGetHost xGetPath xGetHeaders) xWaiters) k).1), .u]) := mkS_eq (0) rfl rfl (fun cx h => by
  obtain ⟨q0, hq0⟩ : ∃ q, (mkRequestV (Request.mk xGetMethod xGetHost xGetPath xGetHeaders) k).2 = q := ⟨_, rfl⟩
  have b0 := mkRequestV_ge (Request.mk xGetMethod xGetHost xGetPath xGetHeaders) k
  rw [hq0] at b0
  have p0 : 0 ≤ k := by omega
  obtain ⟨q1, hq1⟩ : ∃ q, (mkL mkWaiterE xWaiters q0).2 = q := ⟨_, rfl⟩
  have b1 := mkL_ge mkWaiterE_ge xWaiters q0
  rw [hq1] at b1
  have p1 : 0 ≤ q0 := by omega
  simp only [mkFlightV_eq, hq0, hq1] at h0
  have c0 : q0 ≤ 9223372036854775807 := by omega
  have d0 : ¬ (q0 < 0) := by omega
  have c1 : q1 ≤ 9223372036854775807 := by omega
  have d1 : ¬ (q1 < 0) := by omega
  simp only [go_sem, reduceIte, ↓reduceIte, reduceCtorEq, nA, nS, nM, nB, nE, nL, nT, nN, iL, iT, iE, iA, iM, iS, iG, iB, iN, iZ, h, p0, p1, c0, d0, c1, d1, hq0, hq1, mkFlightV_eq]
  simp only [mkRequestV_eq]) (by simp only [go_sem, reduceIte, ↓reduceIte, reduceCtorEq, nA, nS, nM, nB, nE, nL, nT, nN, iL, iT, iE, iA, iM, iS, iG, iB, iN, iZ, mkFlightV_eq, okRes, hasRo, hasRoL, hasRoLL])
/-! two with one number -/
def tw (s : List Waiter) : List Waiter → Bool
  | [] => false
  | x :: r => if (s.any fun y => y.Req == x.Req) = true then true else tw (s ++ [x]) r
theorem tw_inl : ∀ {xs s s' : List Waiter}, runS (fun x s => s.any fun y => y.Req == x.Req) (fun x s => s ++ [x]) xs s = .inl s' → tw s xs = false
  | [], _, _, _ => rfl
  | x :: xs, s, s', h => by
    rw [runS_cons] at h
    split at h
    · cases h
    · rename_i hc; rw [tw, if_neg hc]; exact tw_inl h
theorem tw_inr : ∀ {xs s : List Waiter} {q : Waiter × List Waiter}, runS (fun x s => s.any fun y => y.Req == x.Req) (fun x s => s ++ [x]) xs s = .inr q → tw s xs = true
  | [], _, _, h => by cases h
  | x :: xs, s, q, h => by
    rw [runS_cons] at h
    split at h
    · rename_i hc; rw [tw, if_pos hc]
    · rename_i hc; rw [tw, if_neg hc]; exact tw_inr h
theorem any_flip (ws : List Waiter) (r : Int) : (ws.any fun y => r == y.Req) = ws.any fun y => y.Req == r := by
  congr 1; funext y; exact Bool.eq_iff_iff.2 (by rw [beq_iff_eq, beq_iff_eq]; exact eq_comm)
theorem take_snoc {α : Type} (xs : List α) (k : Nat) (h : k < xs.length) : xs.take (k + 1) = xs.take k ++ [xs[k]] := by
  rw [List.take_add_one, List.getElem?_eq_getElem h]; rfl
theorem runS_any {α : Type} {p : α → Bool} : ∀ {xs : List α} {u u' : Unit}, runS (fun x _ => p x) (fun _ _ => ()) xs u = .inl u' → xs.any p = false
  | [], _, _, _ => rfl
  | x :: xs, u, u', h => by
    rw [runS_cons] at h
    split at h
    · cases h
    · rename_i hc
      simp only [List.any_cons, runS_any h, Bool.or_false]
      simpa using hc
theorem runS_any' {α : Type} {p : α → Bool} : ∀ {xs : List α} {u : Unit} {q : α × Unit}, runS (fun x _ => p x) (fun _ _ => ()) xs u = .inr q → xs.any p = true
  | [], _, _, h => by cases h
  | x :: xs, u, q, h => by
    rw [runS_cons] at h
    split at h
    · rename_i hc; simp [hc]
    · simp only [List.any_cons, runS_any' h, Bool.or_true]
noncomputable def s60 : SP Tryz.prog := mkS tyA 60 Tryz.f60 [] { md := [.ro 1], rg := [(0, [0], []), (1, [0, 3], []), (2, [0, 3, 8], []), (3, [0, 3], []), (4, [0, 3, 4], []), (5, [0, 3, 4, 13], []), (6, [0, 3, 4], []), (7, [0, 3, 4, 26], []), (8, [2], []), (9, [2], [])], lv := [(0, [0, 3], []), (2, [0, 3, 4], [])], out := [(0, [], []), (2, [0, 3], [])], rets := some ([2], []), plan := [(7, (.take 0 (.take 1 (.take 2 (.take 3 (.take 4 (.take 5 (.take 6 (.take 7 (.take 8 (.take 9 (.take 10 .done))))))))))))] } Tryz.func60 (by kernel_rfl)
@[go_sem] theorem d60 : s60.g = 60 ∧ s60.fs = ⟨[.ro 1], s60.F, false⟩ := ⟨nr rfl, nr rfl⟩
@[go_sem] theorem e60 (ws : List Waiter) (h0 : ws.length ≤ 9223372036854775806) : s60.F [.sl .ro 4 (ws.map (rWaiter .ro))] = some (.b (tw [] ws), [.u]) := mkS_eq (ws.length + 1) rfl rfl (fun cx h => by
  have hx := h0
  have hb0 := loopN_eq Tryz.f60 0 _ _ rfl rfl
  obtain ⟨r, hr, hq⟩ := loop_srch (cx := cx) (blk := 0) (body := loopN Tryz.f60 0) ws (fun k (s : List Waiter) => ⟨E [(0, .sl .ro 4 (ws.map (rWaiter .ro))), (3, .i .i64 k)], B []⟩) (fun s => ⟨E [], B []⟩) (fun x s => s.any fun y => y.Req == x.Req) (fun x s => s ++ [x]) (fun x s => (.ret, ⟨E [(2, .b true)], B []⟩)) (fun k s => s = ws.take k)
      (fun s hI G => by simp only [go_sem, reduceIte, ↓reduceIte, reduceCtorEq, nA, nS, nM, nB, nE, nL, nT, nN, iL, iT, iE, iA, iM, iS, iG, iB, iN, iZ, h, Int.lt_irrefl, hb0, hx]) (fun k hk s hI => by
        have h1 : ((k : Int) < (ws.length : Int)) := Int.ofNat_lt.2 hk
        obtain ⟨q, hq0⟩ : ∃ q, q = k := ⟨k, rfl⟩
        have hq1 : q < ws.length := by omega
        have hlen : (ws.take q).length = q := by rw [List.length_take]; omega
        have hb1 := loopN_eq Tryz.f60 1 _ _ rfl rfl
        obtain ⟨r2, hr2, hqr2⟩ := loop_srch (cx := cx) (blk := 2) (body := loopN Tryz.f60 1) (ws.take q) (fun k (s : Unit) => ⟨E [(0, .sl .ro 4 (ws.map (rWaiter .ro))), (3, .i .i64 q), (4, .i .i64 k)], B []⟩) (fun s => ⟨E [(0, .sl .ro 4 (ws.map (rWaiter .ro))), (3, .i .i64 q)], B []⟩) (fun x s => ws[q].Req == x.Req) (fun x s => ()) (fun x s => (.ret, ⟨E [(2, .b true)], B []⟩)) (fun k s => True)
            (fun s hI G => by simp only [go_sem, reduceIte, ↓reduceIte, reduceCtorEq, nA, nS, nM, nB, nE, nL, nT, nN, iL, iT, iE, iA, iM, iS, iG, iB, iN, iZ, h, Int.lt_irrefl, hb1, hlen, Int.lt_irrefl]) (fun k hk s hI => by
              have h1 : ((k : Int) < ((ws.take q).length : Int)) := Int.ofNat_lt.2 hk
              have hk2 : k < q := by rw [List.length_take] at hk; omega
              have hk3 : k < ws.length := by omega
              have hkq : (k : Int) < (q : Int) := by omega
              have e1 : (ws.take q)[k] = ws[k] := by simp
              have i1 := idx_nt ws.length k hk3
              have i2 := idx_nt ws.length q hq1
              have w1 := wrap_nat1 (show k < 9223372036854775807 by omega)
              all_goals exact ⟨_, _, _, fun G => by simp only [go_sem, reduceIte, ↓reduceIte, reduceCtorEq, nA, nS, nM, nB, nE, nL, nT, nN, iL, iT, iE, iA, iM, iS, iG, iB, iN, iZ, h, hkq, e1, i1, i2, w1, map_gd (rWaiter .ro) ws k hk3, map_gd (rWaiter .ro) ws q hq1, List.length_map, h1, idx_nt _ _ hk, wrap_nat1 (show k < 9223372036854775807 by omega), hb1] <;> with_reducible rfl, by simp [e1], fun hc => ⟨trivial, by simp only [go_sem, reduceIte, ↓reduceIte, reduceCtorEq, nA, nS, nM, nB, nE, nL, nT, nN, iL, iT, iE, iA, iM, iS, iG, iB, iN, iZ, h, hlen]⟩⟩) () trivial (ws.length + 1) (by rw [List.length_take]; omega)
        rw [hb1] at hr2
        subst hq0
        have hfl := any_flip (ws.take q) ws[q].Req
        have hy : r2 = (if (s.any fun y => y.Req == ws[q].Req) = true then some (.ret, ⟨E [(2, .b true)], B []⟩) else some (.ex 2, ⟨E [(0, .sl .ro 4 (ws.map (rWaiter .ro))), (3, .i .i64 q)], B []⟩)) := by
          subst hI
          rcases hqr2 with ⟨s', e1, _, e3⟩ | ⟨x, s', e1, e3⟩
          · rw [← hfl, runS_any e1, e3]; rfl
          · rw [← hfl, runS_any' e1, e3]; rfl
        rw [hy] at hr2
        exact ⟨_, _, _, fun G => by simp only [go_sem, reduceIte, ↓reduceIte, reduceCtorEq, nA, nS, nM, nB, nE, nL, nT, nN, iL, iT, iE, iA, iM, iS, iG, iB, iN, iZ, h, hr2, h1, idx_nt ws.length q hk, wrap_nat1 (show q < 9223372036854775807 by omega), hb0] <;> with_reducible rfl, Iff.rfl, fun hc => ⟨(by rw [hI]; exact (take_snoc ws q hk).symm), by simp only [go_sem, reduceIte, ↓reduceIte, reduceCtorEq, nA, nS, nM, nB, nE, nL, nT, nN, iL, iT, iE, iA, iM, iS, iG, iB, iN, iZ, h]⟩⟩) [] rfl (ws.length + 1) (Nat.le_refl _)
  rw [hb0] at hr
  rcases hq with ⟨s', e1, _, e3⟩ | ⟨x, s', e1, e3⟩
  · simp only [go_sem, reduceIte, ↓reduceIte, reduceCtorEq, nA, nS, nM, nB, nE, nL, nT, nN, iL, iT, iE, iA, iM, iS, iG, iB, iN, iZ, h, hr, e3, tw_inl e1]
  · simp only [go_sem, reduceIte, ↓reduceIte, reduceCtorEq, nA, nS, nM, nB, nE, nL, nT, nN, iL, iT, iE, iA, iM, iS, iG, iB, iN, iZ, h, hr, e3, tw_inr e1]) (rfl)
theorem byne {c v : UInt8} (h : c ≠ v) : ((c.toNat : Int) == (v.toNat : Int)) = false := by
  simp only [beq_eq_false_iff_ne, ne_eq, Int.ofNat_inj]
  exact fun e => h (UInt8.toNat_inj.1 e)
def letterB (c : UInt8) : Bool := (decide (97 ≤ (c.toNat : Int)) && decide ((c.toNat : Int) ≤ 122)) || (decide (65 ≤ (c.toNat : Int)) && decide ((c.toNat : Int) ≤ 90))
def digitB (c : UInt8) : Bool := decide (48 ≤ (c.toNat : Int)) && decide ((c.toNat : Int) ≤ 57)
theorem index_ge (l : List UInt8) (c : UInt8) : 0 ≤ Lib.indexByte l c ↔ c ∈ l := by
  induction l with
  | nil => simp [Lib.indexByte]
  | cons b l ih =>
    have := Lib.indexByte_ge l c
    unfold Lib.indexByte
    by_cases hb : b = c
    · simp [hb]
    · by_cases hx : Lib.indexByte l c = -1
      · have hn : ¬ c ∈ l := fun h => by have := ih.2 h; omega
        simp [hx, hn, hb, Ne.symm hb]
      · have h2 : 0 ≤ Lib.indexByte l c := by omega
        simp [hb, hx, ih.1 h2]; omega
def ixB (s : ByteArray) (c : UInt8) : Int := Lib.indexByte s.data.toList c
theorem ixB_ge (l : List UInt8) (c : UInt8) : decide (0 ≤ ixB ⟨l.toArray⟩ c) = l.contains c := by
  rw [Bool.eq_iff_iff, decide_eq_true_eq, List.contains_iff_mem]
  exact index_ge l c
theorem int_u8 (c : UInt8) : ((c.toNat : Int)).toNat.toUInt8 = c := by simp
noncomputable def s141 : SP Tryz.prog := mkS tyA 141 Tryz.f141 [] { md := [.ro 1], rets := some ([2], []) } Tryz.func141 (by kernel_rfl)
@[go_sem] theorem d141 : s141.g = 141 ∧ s141.fs = ⟨[.ro 1], s141.F, false⟩ := ⟨nr rfl, nr rfl⟩
@[go_sem] theorem e141 (c : UInt8) : s141.F [.i .u8 c.toNat] = some (.b (letterB c), [.u]) := mkS_eq (0) rfl rfl (fun cx h => by
  by_cases h1 : 97 ≤ (c.toNat : Int) <;> by_cases h2 : (c.toNat : Int) ≤ 122 <;> by_cases h3 : 65 ≤ (c.toNat : Int) <;> by_cases h4 : (c.toNat : Int) ≤ 90 <;> simp only [go_sem, reduceIte, ↓reduceIte, reduceCtorEq, nA, nS, nM, nB, nE, nL, nT, nN, iL, iT, iE, iA, iM, iS, iG, iB, iN, iZ, h, h1, h2, h3, h4, letterB]) (rfl)
noncomputable def s142 : SP Tryz.prog := mkS tyA 142 Tryz.f142 [] { md := [.ro 1], rets := some ([2], []) } Tryz.func142 (by kernel_rfl)
@[go_sem] theorem d142 : s142.g = 142 ∧ s142.fs = ⟨[.ro 1], s142.F, false⟩ := ⟨nr rfl, nr rfl⟩
@[go_sem] theorem e142 (c : UInt8) : s142.F [.i .u8 c.toNat] = some (.b (digitB c), [.u]) := mkS_eq (0) rfl rfl (fun cx h => by
  by_cases h1 : 48 ≤ (c.toNat : Int) <;> by_cases h2 : (c.toNat : Int) ≤ 57 <;> simp only [go_sem, reduceIte, ↓reduceIte, reduceCtorEq, nA, nS, nM, nB, nE, nL, nT, nN, iL, iT, iE, iA, iM, iS, iG, iB, iN, iZ, h, h1, h2, digitB]) (rfl)
def hostB (c : UInt8) : Bool := letterB c || digitB c || ((c.toNat : Int) == 46) || ((c.toNat : Int) == 45)
def symB : List UInt8 := [33, 35, 36, 37, 38, 39, 42, 43, 45, 46, 94, 95, 124, 126]
def wordB (c : UInt8) : Bool := letterB c || digitB c || symB.contains c
theorem wordB_sym {c : UInt8} (h : c ∈ symB) : wordB c = true := by
  have : symB.contains c = true := List.contains_iff_mem.2 h
  simp [wordB, this, -List.contains_eq_mem]
theorem wordB_not {c : UInt8} (h : ¬ c ∈ symB) : wordB c = (letterB c || digitB c) := by
  have : symB.contains c = false := by rw [Bool.eq_false_iff]; exact fun e => h (List.contains_iff_mem.1 e)
  simp [wordB, this, -List.contains_eq_mem]
theorem ixB_sym (c : UInt8) : decide (0 ≤ ixB ⟨#[33, 35, 36, 37, 38, 39, 42, 43, 45, 46, 94, 95, 124, 126]⟩ c) = symB.contains c := ixB_ge symB c
@[go_sem] theorem ixB_symI (c : UInt8) : decide (ixB ⟨#[33, 35, 36, 37, 38, 39, 42, 43, 45, 46, 94, 95, 124, 126]⟩ c ≥ 0) = symB.contains c := ixB_ge symB c
def pSymB : List UInt8 := [47, 63, 61, 38, 58, 64, 44, 59, 40, 41]
def pathB (c : UInt8) : Bool := wordB c || pSymB.contains c
theorem pathB_sym {c : UInt8} (h : c ∈ pSymB) : pathB c = true := by
  have : pSymB.contains c = true := List.contains_iff_mem.2 h
  simp [pathB, this, -List.contains_eq_mem]
theorem pathB_not {c : UInt8} (h : ¬ c ∈ pSymB) : pathB c = wordB c := by
  have : pSymB.contains c = false := by rw [Bool.eq_false_iff]; exact fun e => h (List.contains_iff_mem.1 e)
  simp [pathB, this, -List.contains_eq_mem]
theorem ixB_psym (c : UInt8) : decide (0 ≤ ixB ⟨#[47, 63, 61, 38, 58, 64, 44, 59, 40, 41]⟩ c) = pSymB.contains c := ixB_ge pSymB c
def areB (p : UInt8 → Bool) (lo hi : Int) (t : ByteArray) : Bool := decide (lo ≤ (t.size : Int)) && decide ((t.size : Int) ≤ hi) && t.data.toList.all p
theorem areB_short {p : UInt8 → Bool} {lo hi : Int} {t : ByteArray} (h : (t.size : Int) < lo) : areB p lo hi t = false := by
  have : ¬ lo ≤ (t.size : Int) := by omega
  simp [areB, this]
theorem areB_long {p : UInt8 → Bool} {lo hi : Int} {t : ByteArray} (h : hi < (t.size : Int)) : areB p lo hi t = false := by
  have : ¬ (t.size : Int) ≤ hi := by omega
  simp [areB, this]
theorem areB_all {p : UInt8 → Bool} {lo hi : Int} {t : ByteArray} (h : ¬ (t.size : Int) < lo) (h' : ¬ hi < (t.size : Int)) : areB p lo hi t = t.data.toList.all p := by
  have h1 : lo ≤ (t.size : Int) := by omega
  have h2 : (t.size : Int) ≤ hi := by omega
  simp [areB, h1, h2]
theorem runS_all {α : Type} {p : α → Bool} : ∀ {xs : List α} {u u' : Unit}, runS (fun x _ => !p x) (fun _ _ => ()) xs u = .inl u' → xs.all p = true
  | [], _, _, _ => rfl
  | x :: xs, u, u', h => by
    rw [runS_cons] at h
    split at h
    · cases h
    · rename_i hc
      simp only [List.all_cons, runS_all h, Bool.and_true]
      simpa using hc
theorem runS_all' {α : Type} {p : α → Bool} : ∀ {xs : List α} {u : Unit} {q : α × Unit}, runS (fun x _ => !p x) (fun _ _ => ()) xs u = .inr q → xs.all p = false
  | [], _, _, h => by cases h
  | x :: xs, u, q, h => by
    rw [runS_cons] at h
    split at h
    · rename_i hc
      have : p x = false := by simpa using hc
      simp [this]
    · simp only [List.all_cons, runS_all' h, Bool.and_false]
theorem str_at (t : ByteArray) (k : Nat) (h : k < t.data.toList.length) : t.data[k]?.getD 0 = t.data.toList[k] := by
  have h' : k < t.data.size := by simpa using h
  rw [Array.getElem?_eq_getElem h']
  simp
theorem str_size (t : ByteArray) : t.size = t.data.toList.length := by
  show t.data.size = _
  simp
def isWord (t : ByteArray) : Bool := areB wordB 1 64 t
def plainB (c : UInt8) : Bool := ((c.toNat : Int) == 9) || (decide (32 ≤ (c.toNat : Int)) && decide ((c.toNat : Int) ≤ 126))
def areP (t : ByteArray) : Bool := t.data.toList.all plainB
theorem areP_eq (t : ByteArray) : areB plainB 0 (t.size : Int) t = areP t := areB_all (by omega) (by omega)
def trimB (t : ByteArray) : ByteArray := ⟨(Lib.trimS t.data.toList [32, 9]).toArray⟩
def blankB (c : UInt8) : Bool := ((c.toNat : Int) == 32) || ((c.toNat : Int) == 9)
def bl (t : ByteArray) (j : Nat) : Bool := blankB (t.data[j]?.getD 0)
theorem blankB_c (c : UInt8) : [32, 9].contains c = blankB c := by
  have h32 : (c == 32) = ((c.toNat : Int) == 32) := by
    rw [Bool.eq_iff_iff, beq_iff_eq, beq_iff_eq]
    constructor
    · rintro rfl; rfl
    · intro h; exact UInt8.toNat_inj.1 (by have : (32 : UInt8).toNat = 32 := rfl; omega)
  have h9 : (c == 9) = ((c.toNat : Int) == 9) := by
    rw [Bool.eq_iff_iff, beq_iff_eq, beq_iff_eq]
    constructor
    · rintro rfl; rfl
    · intro h; exact UInt8.toNat_inj.1 (by have : (9 : UInt8).toNat = 9 := rfl; omega)
  simp only [List.contains_cons, List.contains_nil, Bool.or_false, h32, h9, blankB]
theorem bl_get {t : ByteArray} {j : Nat} {b : UInt8} (h : t.data.toList[j]? = some b) : bl t j = [32, 9].contains b := by
  rw [blankB_c]
  unfold bl
  rw [Array.getElem?_toList] at h
  rw [h]; rfl
theorem trim_cut (t : ByteArray) (f e : Nat) (hf : f ≤ e) (he : e ≤ t.size) (h1 : ∀ j, j < f → bl t j = true) (h2 : f < t.size → bl t f = false) (h3 : ∀ j, e ≤ j → j < t.size → bl t j = true) (h4 : f < e → bl t (e - 1) = false) : trimB t = t.extract f e := by
  have hn : t.size = t.data.toList.length := str_size t
  have hext : t.extract f e = ⟨((t.data.toList.take e).drop f).toArray⟩ := by
    have : (t.extract f e).data = t.data.extract f e := by simp
    cases hx : t.extract f e with
    | mk d =>
      rw [hx] at this
      congr 1
      simp only at this
      rw [this]
      apply Array.ext'
      rw [Array.toList_extract, List.extract_eq_take_drop, List.drop_take]
  rw [hext]
  unfold trimB Lib.trimS
  congr 2
  by_cases hall : f < e
  · rw [Lib.trimRightS_take t.data.toList [32, 9] e (by omega) (fun j b hj hb => ?_) (fun b hk hb => ?_)]
    · refine Lib.trimLeftS_drop _ _ f (by simp; omega) (fun j b hj hb => ?_) (fun b hb => ?_)
      · rw [List.getElem?_take] at hb
        split at hb
        · rw [← bl_get hb]; exact h1 j hj
        · cases hb
      · rw [List.getElem?_take, if_pos hall] at hb
        rw [← bl_get hb]; exact h2 (by omega)
    · rw [← bl_get hb]; exact h3 j hj (by have := (List.getElem?_eq_some_iff.1 hb).1; omega)
    · rw [← bl_get hb]; exact h4 hall
  · obtain rfl : f = e := by omega
    have hfn : f = t.size := by
      rcases Nat.lt_or_ge f t.size with h | h
      · have := h2 h; rw [h3 f (Nat.le_refl _) h] at this; cases this
      · omega
    have hr : Lib.trimRightS t.data.toList [32, 9] = t.data.toList.take 0 := Lib.trimRightS_take _ _ 0 (by omega) (fun j b _ hb => by
      rw [← bl_get hb]; exact h1 j (by have := (List.getElem?_eq_some_iff.1 hb).1; omega)) (fun b hk _ => by omega)
    rw [hr]
    have : (t.data.toList.take f).drop f = [] := by
      apply List.drop_eq_nil_of_le
      simp
      omega
    rw [this]
    rfl
noncomputable def headerCode (h : Header) : Int := if isWord h.Name = false then 5 else if 200 < (h.Value.size : Int) then 2 else if (areP h.Value && eqv (trimB h.Value) h.Value) = true then 0 else 5
noncomputable def headersFault (hs : List Header) : Int := if 20 < (hs.length : Int) then 2 else firstI (hs.map headerCode)
theorem firstI_inl {α : Type} {f : α → Int} : ∀ {xs : List α} {u u' : Unit}, runS (fun x _ => f x != 0) (fun _ _ => ()) xs u = .inl u' → firstI (xs.map f) = 0
  | [], _, _, _ => rfl
  | x :: xs, u, u', h => by
    rw [runS_cons] at h
    split at h
    · cases h
    · rename_i hc; rw [List.map_cons, firstI_cons, if_neg hc]; exact firstI_inl h
theorem firstI_inr {α : Type} {f : α → Int} : ∀ {xs : List α} {u : Unit} {q : α × Unit}, runS (fun x _ => f x != 0) (fun _ _ => ()) xs u = .inr q → firstI (xs.map f) = f q.1
  | [], _, _, h => by cases h
  | x :: xs, u, q, h => by
    rw [runS_cons] at h
    split at h
    · rename_i hc; injection h with h; subst h; rw [List.map_cons, firstI_cons, if_pos hc]
    · rename_i hc; rw [List.map_cons, firstI_cons, if_neg hc]; exact firstI_inr h
@[go_sem] theorem map_byteRow (xs : List UInt8) : xs.map byteRow = xs.map rByte := nr rfl
def lowB (c : UInt8) : UInt8 := if 65 ≤ (c.toNat : Int) ∧ (c.toNat : Int) ≤ 90 then c + 32 else c
def lowS (t : ByteArray) : ByteArray := ⟨(t.data.toList.map lowB).toArray⟩
def lowUp (xs : List UInt8) (k : Nat) : List UInt8 := (xs.take k).map lowB ++ xs.drop k
theorem lowUp_zero (xs : List UInt8) : lowUp xs 0 = xs := by simp [lowUp]
theorem lowUp_all (xs : List UInt8) : lowUp xs xs.length = xs.map lowB := by simp [lowUp]
theorem lowUp_len (xs : List UInt8) (k : Nat) (h : k ≤ xs.length) : (lowUp xs k).length = xs.length := by simp [lowUp]; omega
theorem lowUp_at (xs : List UInt8) (k : Nat) (h : k < xs.length) : (lowUp xs k)[k]? = some xs[k] := by
  unfold lowUp
  rw [List.getElem?_append_right (by simp; omega)]
  simp [Nat.min_eq_left (Nat.le_of_lt h), h]
theorem lowUp_succ (xs : List UInt8) (k : Nat) (h : k < xs.length) : (lowUp xs k).set k (lowB xs[k]) = lowUp xs (k + 1) := by
  unfold lowUp
  rw [List.set_append_right _ _ (by simp; omega)]
  rw [List.length_map, List.length_take, Nat.min_eq_left (Nat.le_of_lt h), Nat.sub_self, List.drop_eq_getElem_cons h, List.set_cons_zero]
  have e : (xs.take (k + 1)).map lowB = (xs.take k).map lowB ++ [lowB xs[k]] := by
    rw [List.take_add_one, List.getElem?_eq_getElem h, Option.toList_some, List.map_append]; rfl
  rw [e]
  simp
theorem lowUp_same (xs : List UInt8) (k : Nat) (h : k < xs.length) (hc : lowB xs[k] = xs[k]) : lowUp xs (k + 1) = lowUp xs k := by
  rw [← lowUp_succ xs k h, hc]
  have := lowUp_at xs k h
  obtain ⟨h1, h2⟩ := List.getElem?_eq_some_iff.1 this
  rw [← h2]
  exact List.set_getElem_self h1
theorem lowUp_gd (xs : List UInt8) (k : Nat) (h : k < xs.length) : ((lowUp xs k).map rByte).getD k [] = [.i .u8 xs[k].toNat] := by
  rw [List.getD_eq_getElem?_getD, List.getElem?_map, lowUp_at xs k h]; rfl
theorem lowUp_g (xs : List UInt8) (k : Nat) (h : k < xs.length) : ((lowUp xs k).map rByte)[k]? = some [.i .u8 xs[k].toNat] := by
  rw [List.getElem?_map, lowUp_at xs k h]; rfl
theorem low_add {c : UInt8} (h : (c.toNat : Int) ≤ 90) : (c + 32).toNat = c.toNat + 32 := by
  rw [UInt8.toNat_add]
  have : (32 : UInt8).toNat = 32 := rfl
  rw [this]
  omega
theorem lowStep (xs : List UInt8) (k : Nat) (h : k < xs.length) :
    (65 ≤ (xs[k].toNat : Int) ∧ (xs[k].toNat : Int) ≤ 90 ∧ ((IntKind.u8).wrap ((IntKind.u8).wrap ((xs[k].toNat : Int) + 97) - 65) = ((lowB xs[k]).toNat : Int)) ∧ ((IntKind.u8).wrap ((xs[k].toNat : Int) + 32) = ((lowB xs[k]).toNat : Int)) ∧ ((lowUp xs k).map rByte).set k [.i .u8 (lowB xs[k]).toNat] = (lowUp xs (k + 1)).map rByte ∧ True) ∨
    (¬ 65 ≤ (xs[k].toNat : Int) ∧ True ∧ True ∧ True ∧ True ∧ lowUp xs (k + 1) = lowUp xs k) ∨ (65 ≤ (xs[k].toNat : Int) ∧ ¬ (xs[k].toNat : Int) ≤ 90 ∧ True ∧ True ∧ True ∧ lowUp xs (k + 1) = lowUp xs k) := by
  by_cases a1 : 65 ≤ (xs[k].toNat : Int)
  · by_cases a2 : (xs[k].toNat : Int) ≤ 90
    · refine .inl ⟨a1, a2, ?_, ?_, ?_, trivial⟩
      · have hl : lowB xs[k] = xs[k] + 32 := if_pos ⟨a1, a2⟩
        rw [hl, low_add a2]
        simp only [IntKind.wrap, IntKind.bits, IntKind.signed]
        simp
        omega
      · have hl : lowB xs[k] = xs[k] + 32 := if_pos ⟨a1, a2⟩
        rw [hl, low_add a2]
        simp only [IntKind.wrap, IntKind.bits, IntKind.signed]
        simp
        omega
      · rw [← lowUp_succ xs k h, List.map_set]; rfl
    · exact .inr (.inr ⟨a1, a2, trivial, trivial, trivial, lowUp_same xs k h (if_neg fun x => a2 x.2)⟩)
  · exact .inr (.inl ⟨a1, trivial, trivial, trivial, trivial, lowUp_same xs k h (if_neg fun x => a1 x.1)⟩)
def okN (n : ByteArray) : Bool := decide (n.size ≤ 9223372036854775806)
noncomputable def valsOf (hs : List Header) (n : ByteArray) : List ByteArray := (hs.filter fun x => eqv (lowS x.Name) (lowS n)).map (·.Value)
noncomputable def hasV (hs : List Header) (n : ByteArray) : Bool := hs.any fun x => eqv (lowS x.Name) (lowS n)
theorem valsOf_pos (hs : List Header) (n : ByteArray) : decide (0 < ((valsOf hs n).length : Int)) = hasV hs n := by
  have : 0 < (valsOf hs n).length ↔ hasV hs n = true := by
    unfold valsOf hasV
    rw [List.length_map, List.length_pos_iff_exists_mem, List.any_eq_true]
    simp only [List.mem_filter]
  rw [Bool.eq_iff_iff, decide_eq_true_eq, ← this]
  omega
noncomputable def joinStep (n : ByteArray) (s : ByteArray × Bool) (x : Header) : ByteArray × Bool := if eqv (lowS x.Name) (lowS n) = true then ((if s.2 = true then s.1 ++ ⟨#[44, 32]⟩ else s.1) ++ x.Value, true) else s
noncomputable def joinV (hs : List Header) (n : ByteArray) : ByteArray × Bool := hs.foldl (fun s x => joinStep n s x) (⟨#[]⟩, false)
theorem joinFold_2 (n : ByteArray) : ∀ (hs : List Header) (s : ByteArray × Bool), (hs.foldl (fun s x => joinStep n s x) s).2 = (s.2 || hasV hs n)
  | [], s => by simp [hasV]
  | x :: hs, s => by
    rw [List.foldl_cons, joinFold_2 n hs]
    unfold joinStep hasV
    rw [List.any_cons]
    cases eqv (lowS x.Name) (lowS n) <;> simp
theorem joinV_2 (hs : List Header) (n : ByteArray) : (joinV hs n).2 = hasV hs n := by
  unfold joinV; rw [joinFold_2]; rfl
theorem joinStep_size {n : ByteArray} {s : ByteArray × Bool} {x : Header} {k : Nat} (h : s.1.size ≤ k * 1048578) (hx : x.Value.size ≤ 1048576) : (joinStep n s x).1.size ≤ (k + 1) * 1048578 := by
  have h2 : (⟨#[44, 32]⟩ : ByteArray).size = 2 := rfl
  have h3 : (k + 1) * 1048578 = k * 1048578 + 1048578 := Nat.succ_mul _ _
  rw [h3]
  generalize k * 1048578 = K at h ⊢
  unfold joinStep
  split
  · show (((if s.2 = true then s.1 ++ ⟨#[44, 32]⟩ else s.1) ++ x.Value).size) ≤ _
    rw [ByteArray.size_append]
    split
    · rw [ByteArray.size_append]; omega
    · omega
  · omega
noncomputable def isMethod (t : ByteArray) : Bool := eqv t ⟨#[71, 69, 84]⟩ || eqv t ⟨#[72, 69, 65, 68]⟩
theorem eqv_bytesne (a b : ByteArray) : (a.toList != b.toList) = !eqv a b := by rw [bne, eqv_bytes]
def isHost (t : ByteArray) : Bool := areB hostB 1 60 t
def isPath (t : ByteArray) : Bool := areB pathB 1 100 t && (((t.data[0]?.getD 0).toNat : Int) == 47)
noncomputable def requestFault (r : Request) : Int := if (isMethod r.Method && isHost r.Host && isPath r.Path) = false then 5 else if (headersFault r.Headers != 0) = true then headersFault r.Headers else if hasV r.Headers ⟨#[72, 111, 115, 116]⟩ = true then 6 else if 20 ≤ (r.Headers.length : Int) then 2 else 0
theorem hasV_host (hs : List Header) : hasV hs ⟨#[104, 111, 115, 116]⟩ = hasV hs ⟨#[72, 111, 115, 116]⟩ := by
  unfold hasV
  have : lowS ⟨#[104, 111, 115, 116]⟩ = lowS ⟨#[72, 111, 115, 116]⟩ := by rfl
  rw [this]
theorem headersFault_ok {hs : List Header} (h : headersFault hs = 0) : hs.length ≤ 20 := by
  unfold headersFault at h
  split at h
  · cases h
  · omega
theorem areB_nil {p : UInt8 → Bool} {hi : Int} {t : ByteArray} (h : areB p 1 hi t = true) : 0 < t.size := by
  unfold areB at h
  simp only [Bool.and_eq_true, decide_eq_true_eq] at h
  omega
noncomputable def s113 : SP Tryz.prog := mkS tyA 113 Tryz.f113 [s141, s142] { md := [.ro 1], rg := [(0, [0], []), (1, [0, 11], []), (2, [2], []), (3, [0, 3], []), (4, [0, 3, 15], []), (5, [0, 3], []), (6, [0, 3, 41], []), (7, [2], []), (8, [2], [])], lv := [(0, [0, 3], [])], out := [(0, [], [])], rets := some ([2], []) } Tryz.func113 (by kernel_rfl)
@[go_sem] theorem d113 : s113.g = 113 ∧ s113.fs = ⟨[.ro 1], s113.F, false⟩ := ⟨nr rfl, nr rfl⟩
@[go_sem] theorem e113 (t : ByteArray) : s113.F [.s t] = some (.b (isHost t), [.u]) := mkS_eq (t.data.toList.length + 1) rfl rfl (fun cx h => by
  have hu : isHost t = areB hostB 1 60 t := rfl
  by_cases h1 : (t.size : Int) < 1
  · simp only [go_sem, reduceIte, ↓reduceIte, reduceCtorEq, nA, nS, nM, nB, nE, nL, nT, nN, iL, iT, iE, iA, iM, iS, iG, iB, iN, iZ, h, h1, hu, areB_short h1]
  by_cases h2 : 60 < (t.size : Int)
  · simp only [go_sem, reduceIte, ↓reduceIte, reduceCtorEq, nA, nS, nM, nB, nE, nL, nT, nN, iL, iT, iE, iA, iM, iS, iG, iB, iN, iZ, h, h1, h2, hu, areB_long h2]
  have hx : t.data.toList.length ≤ 9223372036854775806 := by rw [← str_size]; omega
  have ha := areB_all (p := hostB) h1 h2
  rw [str_size t] at h1 h2
  · have hb0 := loopN_eq Tryz.f113 0 _ _ rfl rfl
    obtain ⟨r, hr, hq⟩ := loop_list (cx := cx) (blk := 0) (body := loopN Tryz.f113 0) t.data.toList (fun k (s : Unit) => ⟨E [(0, .s t), (3, .i .i64 k)], B []⟩) (fun s => ⟨E [], B []⟩) (fun x s => !hostB x) (fun x s => ()) (fun x s => (.ret, ⟨E [(2, .b false)], B []⟩)) (fun k s => True)
        (fun s hI G => by simp only [go_sem, reduceIte, ↓reduceIte, reduceCtorEq, nA, nS, nM, nB, nE, nL, nT, nN, iL, iT, iE, iA, iM, iS, iG, iB, iN, iZ, h, Int.lt_irrefl, hb0, str_size t]) (fun k hk s hI => by
          have h1 : ((k : Int) < (t.data.toList.length : Int)) := Int.ofNat_lt.2 hk
          have hz := str_at t k hk
          have hu : hostB t.data.toList[k] = (letterB t.data.toList[k] || digitB t.data.toList[k] || ((t.data.toList[k].toNat : Int) == 46) || ((t.data.toList[k].toNat : Int) == 45)) := rfl
          by_cases c0 : hostB t.data.toList[k] = true
          · skip
            have c9 := c0
            rw [hu] at c0
            cases a1 : letterB t.data.toList[k] <;> cases a2 : digitB t.data.toList[k] <;> cases a3 : ((t.data.toList[k].toNat : Int) == 46) <;> cases a4 : ((t.data.toList[k].toNat : Int) == 45) <;> first | (exfalso; rw [a1, a2, a3, a4] at c0; exact absurd c0 (by decide)) | skip
            all_goals exact .inr ⟨by rw [c9]; rfl, trivial, _, fun G => by simp only [go_sem, reduceIte, ↓reduceIte, reduceCtorEq, nA, nS, nM, nB, nE, nL, nT, nN, iL, iT, iE, iA, iM, iS, iG, iB, iN, iZ, h, hz, str_size t, bne, a1, a2, a3, a4, h1, idx_nt _ _ hk, wrap_nat1 (show k < 9223372036854775807 by omega), hb0] <;> with_reducible rfl, by simp only [go_sem, reduceIte, ↓reduceIte, reduceCtorEq, nA, nS, nM, nB, nE, nL, nT, nN, iL, iT, iE, iA, iM, iS, iG, iB, iN, iZ, h, str_size t]⟩
          · have c1 : hostB t.data.toList[k] = false := by simpa using c0
            have c2 := c1
            rw [hu] at c2
            simp only [Bool.or_eq_false_iff] at c2
            obtain ⟨⟨⟨b1, b2⟩, b3⟩, b4⟩ := c2
            all_goals exact .inl ⟨by rw [c1]; rfl, fun G => by simp only [go_sem, reduceIte, ↓reduceIte, reduceCtorEq, nA, nS, nM, nB, nE, nL, nT, nN, iL, iT, iE, iA, iM, iS, iG, iB, iN, iZ, h, hz, str_size t, bne, b1, b2, b3, b4, h1, idx_nt _ _ hk, wrap_nat1 (show k < 9223372036854775807 by omega), hb0]⟩) () trivial (t.data.toList.length + 1) (Nat.le_refl _)
    rw [hb0] at hr
    rcases hq with ⟨s', e1, _, e3⟩ | ⟨x, s', e1, e3⟩
    · simp only [go_sem, reduceIte, ↓reduceIte, reduceCtorEq, nA, nS, nM, nB, nE, nL, nT, nN, iL, iT, iE, iA, iM, iS, iG, iB, iN, iZ, h, h1, h2, str_size t, hr, e3, hu, ha, runS_all e1]
    · simp only [go_sem, reduceIte, ↓reduceIte, reduceCtorEq, nA, nS, nM, nB, nE, nL, nT, nN, iL, iT, iE, iA, iM, iS, iG, iB, iN, iZ, h, h1, h2, str_size t, hr, e3, hu, ha, runS_all' e1]) (rfl)
theorem wx : (1 : Int) = 1 := rfl
noncomputable def s158 : SP Tryz.prog := mkS tyA 158 Tryz.f158 [s141, s142] { md := [.ro 1], rg := [(0, [0], []), (1, [0, 3], []), (2, [0, 3, 4], []), (3, [0, 3, 4], []), (4, [0, 3, 4], []), (5, [0, 3, 4], []), (6, [0, 3, 4], []), (7, [0, 3, 4], []), (8, [0, 3, 4], []), (9, [0, 3, 4], []), (10, [0, 3, 4], []), (11, [0, 3, 4], []), (12, [0, 3, 4], []), (13, [0, 3, 4], []), (14, [0, 3, 4], []), (15, [0, 4], []), (16, [2], []), (17, [2], [])], rets := some ([2], []) } Tryz.func158 (by kernel_rfl)
@[go_sem] theorem d158 : s158.g = 158 ∧ s158.fs = ⟨[.ro 1], s158.F, false⟩ := ⟨nr rfl, nr rfl⟩
@[go_sem] theorem e158 (c : UInt8) : s158.F [.i .u8 c.toNat] = some (.b (wordB c), [.u]) := mkS_eq (0) rfl rfl (fun cx h => by
  by_cases m : c ∈ symB
  · have hw := wordB_sym m
    simp only [symB, List.mem_cons, List.not_mem_nil, or_false] at m
    have u33 : (((33 : UInt8).toNat : Nat) : Int) = 33 := rfl
    have u35 : (((35 : UInt8).toNat : Nat) : Int) = 35 := rfl
    have u36 : (((36 : UInt8).toNat : Nat) : Int) = 36 := rfl
    have u37 : (((37 : UInt8).toNat : Nat) : Int) = 37 := rfl
    have u38 : (((38 : UInt8).toNat : Nat) : Int) = 38 := rfl
    have u39 : (((39 : UInt8).toNat : Nat) : Int) = 39 := rfl
    have u42 : (((42 : UInt8).toNat : Nat) : Int) = 42 := rfl
    have u43 : (((43 : UInt8).toNat : Nat) : Int) = 43 := rfl
    have u45 : (((45 : UInt8).toNat : Nat) : Int) = 45 := rfl
    have u46 : (((46 : UInt8).toNat : Nat) : Int) = 46 := rfl
    have u94 : (((94 : UInt8).toNat : Nat) : Int) = 94 := rfl
    have u95 : (((95 : UInt8).toNat : Nat) : Int) = 95 := rfl
    have u124 : (((124 : UInt8).toNat : Nat) : Int) = 124 := rfl
    have u126 : (((126 : UInt8).toNat : Nat) : Int) = 126 := rfl
    rcases m with rfl | rfl | rfl | rfl | rfl | rfl | rfl | rfl | rfl | rfl | rfl | rfl | rfl | rfl <;> simp only [go_sem, reduceIte, ↓reduceIte, reduceCtorEq, nA, nS, nM, nB, nE, nL, nT, nN, iL, iT, iE, iA, iM, iS, iG, iB, iN, iZ, h, hw, wx, u33, u35, u36, u37, u38, u39, u42, u43, u45, u46, u94, u95, u124, u126]
  · have hw := wordB_not m
    have q33 : ((c.toNat : Int) == 33) = false := byne (v := 33) (fun e => m (by subst e; decide))
    have q35 : ((c.toNat : Int) == 35) = false := byne (v := 35) (fun e => m (by subst e; decide))
    have q36 : ((c.toNat : Int) == 36) = false := byne (v := 36) (fun e => m (by subst e; decide))
    have q37 : ((c.toNat : Int) == 37) = false := byne (v := 37) (fun e => m (by subst e; decide))
    have q38 : ((c.toNat : Int) == 38) = false := byne (v := 38) (fun e => m (by subst e; decide))
    have q39 : ((c.toNat : Int) == 39) = false := byne (v := 39) (fun e => m (by subst e; decide))
    have q42 : ((c.toNat : Int) == 42) = false := byne (v := 42) (fun e => m (by subst e; decide))
    have q43 : ((c.toNat : Int) == 43) = false := byne (v := 43) (fun e => m (by subst e; decide))
    have q45 : ((c.toNat : Int) == 45) = false := byne (v := 45) (fun e => m (by subst e; decide))
    have q46 : ((c.toNat : Int) == 46) = false := byne (v := 46) (fun e => m (by subst e; decide))
    have q94 : ((c.toNat : Int) == 94) = false := byne (v := 94) (fun e => m (by subst e; decide))
    have q95 : ((c.toNat : Int) == 95) = false := byne (v := 95) (fun e => m (by subst e; decide))
    have q124 : ((c.toNat : Int) == 124) = false := byne (v := 124) (fun e => m (by subst e; decide))
    have q126 : ((c.toNat : Int) == 126) = false := byne (v := 126) (fun e => m (by subst e; decide))
    cases h1 : letterB c <;> cases h2 : digitB c <;> simp only [go_sem, reduceIte, ↓reduceIte, reduceCtorEq, nA, nS, nM, nB, nE, nL, nT, nN, iL, iT, iE, iA, iM, iS, iG, iB, iN, iZ, h, hw, h1, h2, q33, q35, q36, q37, q38, q39, q42, q43, q45, q46, q94, q95, q124, q126]) (rfl)
noncomputable def s143 : SP Tryz.prog := mkS tyA 143 Tryz.f143 [s158] { md := [.ro 1], rg := [(0, [0], []), (1, [0, 3], []), (2, [0, 3, 4], []), (3, [0, 3, 4], []), (4, [0, 3, 4], []), (5, [0, 3, 4], []), (6, [0, 3, 4], []), (7, [0, 3, 4], []), (8, [0, 3, 4], []), (9, [0, 3, 4], []), (10, [0, 3, 4], []), (11, [0, 4], []), (12, [2], []), (13, [2], [])], rets := some ([2], []) } Tryz.func143 (by kernel_rfl)
@[go_sem] theorem d143 : s143.g = 143 ∧ s143.fs = ⟨[.ro 1], s143.F, false⟩ := ⟨nr rfl, nr rfl⟩
@[go_sem] theorem e143 (c : UInt8) : s143.F [.i .u8 c.toNat] = some (.b (pathB c), [.u]) := mkS_eq (0) rfl rfl (fun cx h => by
  by_cases m : c ∈ pSymB
  · have hw := pathB_sym m
    simp only [pSymB, List.mem_cons, List.not_mem_nil, or_false] at m
    have u47 : (((47 : UInt8).toNat : Nat) : Int) = 47 := rfl
    have u63 : (((63 : UInt8).toNat : Nat) : Int) = 63 := rfl
    have u61 : (((61 : UInt8).toNat : Nat) : Int) = 61 := rfl
    have u38 : (((38 : UInt8).toNat : Nat) : Int) = 38 := rfl
    have u58 : (((58 : UInt8).toNat : Nat) : Int) = 58 := rfl
    have u64 : (((64 : UInt8).toNat : Nat) : Int) = 64 := rfl
    have u44 : (((44 : UInt8).toNat : Nat) : Int) = 44 := rfl
    have u59 : (((59 : UInt8).toNat : Nat) : Int) = 59 := rfl
    have u40 : (((40 : UInt8).toNat : Nat) : Int) = 40 := rfl
    have u41 : (((41 : UInt8).toNat : Nat) : Int) = 41 := rfl
    rcases m with rfl | rfl | rfl | rfl | rfl | rfl | rfl | rfl | rfl | rfl <;> simp only [go_sem, reduceIte, ↓reduceIte, reduceCtorEq, nA, nS, nM, nB, nE, nL, nT, nN, iL, iT, iE, iA, iM, iS, iG, iB, iN, iZ, h, hw, wx, u47, u63, u61, u38, u58, u64, u44, u59, u40, u41]
  · have hw := pathB_not m
    have q47 : ((c.toNat : Int) == 47) = false := byne (v := 47) (fun e => m (by subst e; decide))
    have q63 : ((c.toNat : Int) == 63) = false := byne (v := 63) (fun e => m (by subst e; decide))
    have q61 : ((c.toNat : Int) == 61) = false := byne (v := 61) (fun e => m (by subst e; decide))
    have q38 : ((c.toNat : Int) == 38) = false := byne (v := 38) (fun e => m (by subst e; decide))
    have q58 : ((c.toNat : Int) == 58) = false := byne (v := 58) (fun e => m (by subst e; decide))
    have q64 : ((c.toNat : Int) == 64) = false := byne (v := 64) (fun e => m (by subst e; decide))
    have q44 : ((c.toNat : Int) == 44) = false := byne (v := 44) (fun e => m (by subst e; decide))
    have q59 : ((c.toNat : Int) == 59) = false := byne (v := 59) (fun e => m (by subst e; decide))
    have q40 : ((c.toNat : Int) == 40) = false := byne (v := 40) (fun e => m (by subst e; decide))
    have q41 : ((c.toNat : Int) == 41) = false := byne (v := 41) (fun e => m (by subst e; decide))
    cases h1 : wordB c <;> simp only [go_sem, reduceIte, ↓reduceIte, reduceCtorEq, nA, nS, nM, nB, nE, nL, nT, nN, iL, iT, iE, iA, iM, iS, iG, iB, iN, iZ, h, hw, h1, q47, q63, q61, q38, q58, q64, q44, q59, q40, q41]) (rfl)
noncomputable def s114 : SP Tryz.prog := mkS tyA 114 Tryz.f114 [s143] { md := [.ro 1], rg := [(0, [0], []), (1, [0, 16], []), (2, [2], []), (3, [0, 3], []), (4, [0, 3, 20], []), (5, [0, 3], []), (6, [0, 3, 27], []), (7, [2], []), (8, [2], [])], lv := [(0, [0, 3], [])], out := [(0, [], [])], rets := some ([2], []) } Tryz.func114 (by kernel_rfl)
@[go_sem] theorem d114 : s114.g = 114 ∧ s114.fs = ⟨[.ro 1], s114.F, false⟩ := ⟨nr rfl, nr rfl⟩
@[go_sem] theorem e114 (t : ByteArray) : s114.F [.s t] = some (.b (isPath t), [.u]) := mkS_eq (t.data.toList.length + 1) rfl rfl (fun cx h => by
  have hu : isPath t = (areB pathB 1 100 t && (((t.data[0]?.getD 0).toNat : Int) == 47)) := rfl
  by_cases h1 : (t.size : Int) < 1
  · simp only [go_sem, reduceIte, ↓reduceIte, reduceCtorEq, nA, nS, nM, nB, nE, nL, nT, nN, iL, iT, iE, iA, iM, iS, iG, iB, iN, iZ, h, h1, hu, areB_short h1]
  by_cases h2 : 100 < (t.size : Int)
  · simp only [go_sem, reduceIte, ↓reduceIte, reduceCtorEq, nA, nS, nM, nB, nE, nL, nT, nN, iL, iT, iE, iA, iM, iS, iG, iB, iN, iZ, h, h1, h2, hu, areB_long h2]
  have hi : idx? t.size 0 = some 0 := idx_nt t.size 0 (by omega)
  have hi' : idx? t.data.toList.length 0 = some 0 := by rw [← str_size]; exact hi
  cases h3 : (((t.data[0]?.getD 0).toNat : Int) == 47)
  · simp only [go_sem, reduceIte, ↓reduceIte, reduceCtorEq, nA, nS, nM, nB, nE, nL, nT, nN, iL, iT, iE, iA, iM, iS, iG, iB, iN, iZ, h, h1, h2, h3, hi, hu, bne]
  have hx : t.data.toList.length ≤ 9223372036854775806 := by rw [← str_size]; omega
  have ha := areB_all (p := pathB) h1 h2
  rw [str_size t] at h1 h2
  · have hb0 := loopN_eq Tryz.f114 0 _ _ rfl rfl
    obtain ⟨r, hr, hq⟩ := loop_srch (cx := cx) (blk := 0) (body := loopN Tryz.f114 0) t.data.toList (fun k (s : Unit) => ⟨E [(0, .s t), (3, .i .i64 k)], B []⟩) (fun s => ⟨E [], B []⟩) (fun x s => !pathB x) (fun x s => ()) (fun x s => (.ret, ⟨E [(2, .b false)], B []⟩)) (fun k s => True)
        (fun s hI G => by simp only [go_sem, reduceIte, ↓reduceIte, reduceCtorEq, nA, nS, nM, nB, nE, nL, nT, nN, iL, iT, iE, iA, iM, iS, iG, iB, iN, iZ, h, Int.lt_irrefl, hb0, str_size t]) (fun k hk s hI => by
          have h1 : ((k : Int) < (t.data.toList.length : Int)) := Int.ofNat_lt.2 hk
          have hz := str_at t k hk
          exact ⟨_, _, _, fun G => by simp only [go_sem, reduceIte, ↓reduceIte, reduceCtorEq, nA, nS, nM, nB, nE, nL, nT, nN, iL, iT, iE, iA, iM, iS, iG, iB, iN, iZ, h, hz, str_size t, h1, idx_nt _ _ hk, wrap_nat1 (show k < 9223372036854775807 by omega), hb0] <;> with_reducible rfl, Iff.rfl, fun hc => ⟨trivial, by simp only [go_sem, reduceIte, ↓reduceIte, reduceCtorEq, nA, nS, nM, nB, nE, nL, nT, nN, iL, iT, iE, iA, iM, iS, iG, iB, iN, iZ, h, str_size t]⟩⟩) () trivial (t.data.toList.length + 1) (Nat.le_refl _)
    rw [hb0] at hr
    rcases hq with ⟨s', e1, _, e3⟩ | ⟨x, s', e1, e3⟩
    · simp only [go_sem, reduceIte, ↓reduceIte, reduceCtorEq, nA, nS, nM, nB, nE, nL, nT, nN, iL, iT, iE, iA, iM, iS, iG, iB, iN, iZ, h, h1, h2, h3, hi', bne, str_size t, hr, e3, hu, ha, runS_all e1]
    · simp only [go_sem, reduceIte, ↓reduceIte, reduceCtorEq, nA, nS, nM, nB, nE, nL, nT, nN, iL, iT, iE, iA, iM, iS, iG, iB, iN, iZ, h, h1, h2, h3, hi', bne, str_size t, hr, e3, hu, ha, runS_all' e1]) (rfl)
noncomputable def s159 : SP Tryz.prog := mkS tyA 159 Tryz.f159 [s158] { md := [.ro 1], rg := [(0, [0], []), (1, [0, 11], []), (2, [2], []), (3, [0, 3], []), (4, [0, 3, 15], []), (5, [0, 3], []), (6, [0, 3, 22], []), (7, [2], []), (8, [2], [])], lv := [(0, [0, 3], [])], out := [(0, [], [])], rets := some ([2], []) } Tryz.func159 (by kernel_rfl)
@[go_sem] theorem d159 : s159.g = 159 ∧ s159.fs = ⟨[.ro 1], s159.F, false⟩ := ⟨nr rfl, nr rfl⟩
@[go_sem] theorem e159 (t : ByteArray) : s159.F [.s t] = some (.b (isWord t), [.u]) := mkS_eq (t.data.toList.length + 1) rfl rfl (fun cx h => by
  have hu : isWord t = areB wordB 1 64 t := rfl
  by_cases h1 : (t.size : Int) < 1
  · simp only [go_sem, reduceIte, ↓reduceIte, reduceCtorEq, nA, nS, nM, nB, nE, nL, nT, nN, iL, iT, iE, iA, iM, iS, iG, iB, iN, iZ, h, h1, hu, areB_short h1]
  by_cases h2 : 64 < (t.size : Int)
  · simp only [go_sem, reduceIte, ↓reduceIte, reduceCtorEq, nA, nS, nM, nB, nE, nL, nT, nN, iL, iT, iE, iA, iM, iS, iG, iB, iN, iZ, h, h1, h2, hu, areB_long h2]
  have hx : t.data.toList.length ≤ 9223372036854775806 := by rw [← str_size]; omega
  have ha := areB_all (p := wordB) h1 h2
  rw [str_size t] at h1 h2
  · have hb0 := loopN_eq Tryz.f159 0 _ _ rfl rfl
    obtain ⟨r, hr, hq⟩ := loop_srch (cx := cx) (blk := 0) (body := loopN Tryz.f159 0) t.data.toList (fun k (s : Unit) => ⟨E [(0, .s t), (3, .i .i64 k)], B []⟩) (fun s => ⟨E [], B []⟩) (fun x s => !wordB x) (fun x s => ()) (fun x s => (.ret, ⟨E [(2, .b false)], B []⟩)) (fun k s => True)
        (fun s hI G => by simp only [go_sem, reduceIte, ↓reduceIte, reduceCtorEq, nA, nS, nM, nB, nE, nL, nT, nN, iL, iT, iE, iA, iM, iS, iG, iB, iN, iZ, h, Int.lt_irrefl, hb0, str_size t]) (fun k hk s hI => by
          have h1 : ((k : Int) < (t.data.toList.length : Int)) := Int.ofNat_lt.2 hk
          have hz := str_at t k hk
          exact ⟨_, _, _, fun G => by simp only [go_sem, reduceIte, ↓reduceIte, reduceCtorEq, nA, nS, nM, nB, nE, nL, nT, nN, iL, iT, iE, iA, iM, iS, iG, iB, iN, iZ, h, hz, str_size t, h1, idx_nt _ _ hk, wrap_nat1 (show k < 9223372036854775807 by omega), hb0] <;> with_reducible rfl, Iff.rfl, fun hc => ⟨trivial, by simp only [go_sem, reduceIte, ↓reduceIte, reduceCtorEq, nA, nS, nM, nB, nE, nL, nT, nN, iL, iT, iE, iA, iM, iS, iG, iB, iN, iZ, h, str_size t]⟩⟩) () trivial (t.data.toList.length + 1) (Nat.le_refl _)
    rw [hb0] at hr
    rcases hq with ⟨s', e1, _, e3⟩ | ⟨x, s', e1, e3⟩
    · simp only [go_sem, reduceIte, ↓reduceIte, reduceCtorEq, nA, nS, nM, nB, nE, nL, nT, nN, iL, iT, iE, iA, iM, iS, iG, iB, iN, iZ, h, h1, h2, str_size t, hr, e3, hu, ha, runS_all e1]
    · simp only [go_sem, reduceIte, ↓reduceIte, reduceCtorEq, nA, nS, nM, nB, nE, nL, nT, nN, iL, iT, iE, iA, iM, iS, iG, iB, iN, iZ, h, h1, h2, str_size t, hr, e3, hu, ha, runS_all' e1]) (rfl)
noncomputable def s174 : SP Tryz.prog := mkS tyA 174 Tryz.f174 [] { md := [.ro 1], rets := some ([2], []) } Tryz.func174 (by kernel_rfl)
@[go_sem] theorem d174 : s174.g = 174 ∧ s174.fs = ⟨[.ro 1], s174.F, false⟩ := ⟨nr rfl, nr rfl⟩
@[go_sem] theorem e174 (c : UInt8) : s174.F [.i .u8 c.toNat] = some (.b (plainB c), [.u]) := mkS_eq (0) rfl rfl (fun cx h => by
  cases h1 : ((c.toNat : Int) == 9) <;> by_cases h2 : 32 ≤ (c.toNat : Int) <;> by_cases h3 : (c.toNat : Int) ≤ 126 <;> simp only [go_sem, reduceIte, ↓reduceIte, reduceCtorEq, nA, nS, nM, nB, nE, nL, nT, nN, iL, iT, iE, iA, iM, iS, iG, iB, iN, iZ, h, h1, h2, h3, plainB]) (rfl)
noncomputable def s160 : SP Tryz.prog := mkS tyA 160 Tryz.f160 [s174] { md := [.ro 1], rg := [(0, [0], []), (1, [0, 3], []), (2, [0, 3, 7], []), (3, [0, 3], []), (4, [0, 3, 14], []), (5, [2], []), (6, [2], [])], lv := [(0, [0, 3], [])], out := [(0, [], [])], rets := some ([2], []) } Tryz.func160 (by kernel_rfl)
@[go_sem] theorem d160 : s160.g = 160 ∧ s160.fs = ⟨[.ro 1], s160.F, false⟩ := ⟨nr rfl, nr rfl⟩
@[go_sem] theorem e160 (t : ByteArray) (h0 : (t.size : Int) ≤ 1000000) : s160.F [.s t] = some (.b (areP t), [.u]) := mkS_eq (t.data.toList.length + 1) rfl rfl (fun cx h => by
  have hx : t.data.toList.length ≤ 9223372036854775806 := by rw [← str_size]; omega
  have hb0 := loopN_eq Tryz.f160 0 _ _ rfl rfl
  obtain ⟨r, hr, hq⟩ := loop_srch (cx := cx) (blk := 0) (body := loopN Tryz.f160 0) t.data.toList (fun k (s : Unit) => ⟨E [(0, .s t), (3, .i .i64 k)], B []⟩) (fun s => ⟨E [], B []⟩) (fun x s => !plainB x) (fun x s => ()) (fun x s => (.ret, ⟨E [(2, .b false)], B []⟩)) (fun k s => True)
      (fun s hI G => by simp only [go_sem, reduceIte, ↓reduceIte, reduceCtorEq, nA, nS, nM, nB, nE, nL, nT, nN, iL, iT, iE, iA, iM, iS, iG, iB, iN, iZ, h, Int.lt_irrefl, hb0, str_size t]) (fun k hk s hI => by
        have h1 : ((k : Int) < (t.data.toList.length : Int)) := Int.ofNat_lt.2 hk
        have hz := str_at t k hk
        exact ⟨_, _, _, fun G => by simp only [go_sem, reduceIte, ↓reduceIte, reduceCtorEq, nA, nS, nM, nB, nE, nL, nT, nN, iL, iT, iE, iA, iM, iS, iG, iB, iN, iZ, h, hz, str_size t, h1, idx_nt _ _ hk, wrap_nat1 (show k < 9223372036854775807 by omega), hb0] <;> with_reducible rfl, Iff.rfl, fun hc => ⟨trivial, by simp only [go_sem, reduceIte, ↓reduceIte, reduceCtorEq, nA, nS, nM, nB, nE, nL, nT, nN, iL, iT, iE, iA, iM, iS, iG, iB, iN, iZ, h, str_size t]⟩⟩) () trivial (t.data.toList.length + 1) (Nat.le_refl _)
  rw [hb0] at hr
  rcases hq with ⟨s', e1, _, e3⟩ | ⟨x, s', e1, e3⟩
  · simp only [go_sem, reduceIte, ↓reduceIte, reduceCtorEq, nA, nS, nM, nB, nE, nL, nT, nN, iL, iT, iE, iA, iM, iS, iG, iB, iN, iZ, h, hr, e3, areP, runS_all e1]
  · simp only [go_sem, reduceIte, ↓reduceIte, reduceCtorEq, nA, nS, nM, nB, nE, nL, nT, nN, iL, iT, iE, iA, iM, iS, iG, iB, iN, iZ, h, hr, e3, areP, runS_all' e1]) (rfl)
noncomputable def s175 : SP Tryz.prog := mkS tyA 175 Tryz.f175 [] { md := [.ro 1], rets := some ([2], []) } Tryz.func175 (by kernel_rfl)
@[go_sem] theorem d175 : s175.g = 175 ∧ s175.fs = ⟨[.ro 1], s175.F, false⟩ := ⟨nr rfl, nr rfl⟩
@[go_sem] theorem e175 (c : UInt8) : s175.F [.i .u8 c.toNat] = some (.b (blankB c), [.u]) := mkS_eq (0) rfl rfl (fun cx h => by
  cases h1 : ((c.toNat : Int) == 32) <;> cases h2 : ((c.toNat : Int) == 9) <;> simp only [go_sem, reduceIte, ↓reduceIte, reduceCtorEq, nA, nS, nM, nB, nE, nL, nT, nN, iL, iT, iE, iA, iM, iS, iG, iB, iN, iZ, h, h1, h2, blankB]) (rfl)
noncomputable def s161 : SP Tryz.prog := mkS tyA 161 Tryz.f161 [s175] { md := [.ro 1], rg := [(0, [0], []), (1, [0, 3], []), (2, [0, 3, 4], []), (3, [0, 3, 4, 15], []), (4, [0, 3, 4], []), (5, [0, 3, 4, 27], []), (6, [0, 3, 4], []), (7, [2], [])], lv := [(0, [0, 3, 4], []), (2, [0, 3, 4], [])], out := [(0, [0, 3, 4], []), (2, [0, 3, 4], [])], rets := some ([2], []) } Tryz.func161 (by kernel_rfl)
@[go_sem] theorem d161 : s161.g = 161 ∧ s161.fs = ⟨[.ro 1], s161.F, false⟩ := ⟨nr rfl, nr rfl⟩
@[go_sem] theorem e161 (t : ByteArray) (h0 : t.size ≤ 9223372036854775806) : s161.F [.s t] = some (.s (trimB t), [.u]) := mkS_eq (t.size + 1) rfl rfl (fun cx h => by
  have hb := loopN_eq Tryz.f161 0 _ _ rfl rfl
  have hb1 := loopN_eq Tryz.f161 1 _ _ rfl rfl
  have lp := loop_gen (cx := cx) (blk := 0) (body := loopN Tryz.f161 0) (fun (k : Nat) => ⟨E [(0, .s t), (3, .i .i64 k), (4, .i .i64 t.size)], B []⟩) (fun k => k ≤ t.size) (fun k => t.size - k)
    (fun k r => ∃ f : Nat, k ≤ f ∧ f ≤ t.size ∧ (∀ j, k ≤ j → j < f → bl t j = true) ∧ (f < t.size → bl t f = false) ∧ r = some (.ex 0, ⟨E [(0, .s t), (3, .i .i64 f), (4, .i .i64 t.size)], B []⟩)) (fun k hk => by
    by_cases h1 : (k : Int) < (t.size : Int)
    · have i1 := idx_nt t.size k (by omega)
      have w1 := wrap_nat1 (show k < 9223372036854775807 by omega)
      cases h2 : bl t k
      · have h3 : blankB (t.data[k]?.getD 0) = false := h2
        exact .inl fun G => ⟨k, Nat.le_refl _, hk, fun j a b => by omega, fun _ => h2, by simp only [go_sem, reduceIte, ↓reduceIte, reduceCtorEq, nA, nS, nM, nB, nE, nL, nT, nN, iL, iT, iE, iA, iM, iS, iG, iB, iN, iZ, h, hb, h1, h3, i1]⟩
      · have h3 : blankB (t.data[k]?.getD 0) = true := h2
        refine .inr ⟨_, k + 1, ?_, by omega, by omega, fun r ⟨f, a, b, c, d, e⟩ => ⟨f, by omega, b, fun j x y => ?_, d, e⟩, fun G => by simp only [go_sem, reduceIte, ↓reduceIte, reduceCtorEq, nA, nS, nM, nB, nE, nL, nT, nN, iL, iT, iE, iA, iM, iS, iG, iB, iN, iZ, h, hb, h1, h3, i1, w1]; rfl⟩
        · simp only [go_sem, reduceIte, ↓reduceIte, reduceCtorEq, nA, nS, nM, nB, nE, nL, nT, nN, iL, iT, iE, iA, iM, iS, iG, iB, iN, iZ, h]
        · rcases Nat.eq_or_lt_of_le x with rfl | x
          · exact h2
          · exact c j x y
    · exact .inl fun G => ⟨k, Nat.le_refl _, hk, fun j a b => by omega, fun x => by omega, by simp only [go_sem, reduceIte, ↓reduceIte, reduceCtorEq, nA, nS, nM, nB, nE, nL, nT, nN, iL, iT, iE, iA, iM, iS, iG, iB, iN, iZ, h, hb, h1]⟩)
  rw [hb] at lp
  obtain ⟨f, _, f2, f3, f4, l1⟩ := lp (t.size + 1) 0 (Nat.zero_le _) (by omega) ⟨E [(0, .s t), (3, .i .i64 0), (4, .i .i64 t.size)], B []⟩ (by simp only [go_sem, reduceIte, ↓reduceIte, reduceCtorEq, nA, nS, nM, nB, nE, nL, nT, nN, iL, iT, iE, iA, iM, iS, iG, iB, iN, iZ, h])
  have lp2 := loop_gen (cx := cx) (blk := 2) (body := loopN Tryz.f161 1) (fun (k : Nat) => ⟨E [(0, .s t), (3, .i .i64 f), (4, .i .i64 k)], B []⟩) (fun k => f ≤ k ∧ k ≤ t.size) (fun k => k)
    (fun k r => ∃ e : Nat, f ≤ e ∧ e ≤ k ∧ (∀ j, e ≤ j → j < k → bl t j = true) ∧ (f < e → bl t (e - 1) = false) ∧ r = some (.ex 2, ⟨E [(0, .s t), (3, .i .i64 f), (4, .i .i64 e)], B []⟩)) (fun k hk => by
    by_cases h1 : (f : Int) < (k : Int)
    · obtain ⟨m, rfl⟩ : ∃ m, k = m + 1 := ⟨k - 1, by omega⟩
      have i1 := idx_nt t.size m (by omega)
      have w1 : (IntKind.i64).wrap (((m + 1 : Nat) : Int) - 1) = (m : Int) := by rw [wrap_id (by omega) (by omega)]; omega
      cases h2 : bl t m
      · have h3 : blankB (t.data[m]?.getD 0) = false := h2
        exact .inl fun G => ⟨m + 1, hk.1, Nat.le_refl _, fun j a b => by omega, fun _ => by simpa using h2, by simp only [go_sem, reduceIte, ↓reduceIte, reduceCtorEq, nA, nS, nM, nB, nE, nL, nT, nN, iL, iT, iE, iA, iM, iS, iG, iB, iN, iZ, h, hb1, h1, h3, i1, w1]⟩
      · have h3 : blankB (t.data[m]?.getD 0) = true := h2
        refine .inr ⟨_, m, ?_, ⟨by omega, by omega⟩, by omega, fun r ⟨e, a, b, c, d, g⟩ => ⟨e, a, by omega, fun j x y => ?_, d, g⟩, fun G => by simp only [go_sem, reduceIte, ↓reduceIte, reduceCtorEq, nA, nS, nM, nB, nE, nL, nT, nN, iL, iT, iE, iA, iM, iS, iG, iB, iN, iZ, h, hb1, h1, h3, i1, w1]; rfl⟩
        · simp only [go_sem, reduceIte, ↓reduceIte, reduceCtorEq, nA, nS, nM, nB, nE, nL, nT, nN, iL, iT, iE, iA, iM, iS, iG, iB, iN, iZ, h]
        · rcases Nat.lt_or_ge j m with y' | y'
          · exact c j x y'
          · obtain rfl : j = m := by omega
            exact h2
    · exact .inl fun G => ⟨k, hk.1, Nat.le_refl _, fun j a b => by omega, fun x => by omega, by simp only [go_sem, reduceIte, ↓reduceIte, reduceCtorEq, nA, nS, nM, nB, nE, nL, nT, nN, iL, iT, iE, iA, iM, iS, iG, iB, iN, iZ, h, hb1, h1]⟩)
  rw [hb1] at lp2
  obtain ⟨e, e1, e2, e3, e4, l2⟩ := lp2 (t.size + 1) t.size ⟨f2, Nat.le_refl _⟩ (by omega) ⟨E [(0, .s t), (3, .i .i64 f), (4, .i .i64 t.size)], B []⟩ (by simp only [go_sem, reduceIte, ↓reduceIte, reduceCtorEq, nA, nS, nM, nB, nE, nL, nT, nN, iL, iT, iE, iA, iM, iS, iG, iB, iN, iZ, h])
  have hc := trim_cut t f e e1 e2 (fun j hj => f3 j (Nat.zero_le _) hj) f4 e3 e4
  have c1 : (0 : Int) ≤ (e : Int) := by omega
  have c2 : (e : Int) ≤ (t.size : Int) := by omega
  have c3 : (0 : Int) ≤ (f : Int) := by omega
  have c4 : (f : Int) ≤ (e : Int) := by omega
  simp only [go_sem, reduceIte, ↓reduceIte, reduceCtorEq, nA, nS, nM, nB, nE, nL, nT, nN, iL, iT, iE, iA, iM, iS, iG, iB, iN, iZ, h, l1, l2, c1, c2, c3, c4, Int.toNat_natCast, hc]) (rfl)
noncomputable def s144 : SP Tryz.prog := mkS tyA 144 Tryz.f144 [s159, s160, s161] { md := [.ro 1], rg := [(0, [1], [1]), (1, [1, 3], [1]), (2, [3, 6], []), (3, [2], []), (4, [3, 11], []), (5, [2], []), (6, [15], []), (7, [2], []), (8, [2], [])], rets := some ([2], []) } Tryz.func144 (by kernel_rfl)
@[go_sem] theorem d144 : s144.g = 144 ∧ s144.fs = ⟨[.ro 1], s144.F, false⟩ := ⟨nr rfl, nr rfl⟩
@[go_sem] theorem e144 (xName : ByteArray) (xValue : ByteArray) : s144.F [.agg [.s xName, .s xValue]] = some (.i .i64 (headerCode (Header.mk xName xValue)), [.u]) := mkS_eq (0) rfl rfl (fun cx h => by
  cases h1 : isWord xName
  · simp only [go_sem, reduceIte, ↓reduceIte, reduceCtorEq, nA, nS, nM, nB, nE, nL, nT, nN, iL, iT, iE, iA, iM, iS, iG, iB, iN, iZ, h, h1, headerCode]
  by_cases h2 : 200 < (xValue.size : Int)
  · simp only [go_sem, reduceIte, ↓reduceIte, reduceCtorEq, nA, nS, nM, nB, nE, nL, nT, nN, iL, iT, iE, iA, iM, iS, iG, iB, iN, iZ, h, h1, h2, headerCode]
  have h3 : (xValue.size : Int) ≤ 1000000 := by omega
  have h4 : xValue.size ≤ 9223372036854775806 := by omega
  have h5 : xValue.size ≤ 9223372036854775807 := by omega
  cases h6 : areP xValue
  · simp only [go_sem, reduceIte, ↓reduceIte, reduceCtorEq, nA, nS, nM, nB, nE, nL, nT, nN, iL, iT, iE, iA, iM, iS, iG, iB, iN, iZ, h, h1, h2, h3, h4, h5, h6, headerCode]
  cases h7 : eqv (trimB xValue) xValue <;> simp only [go_sem, reduceIte, ↓reduceIte, reduceCtorEq, nA, nS, nM, nB, nE, nL, nT, nN, iL, iT, iE, iA, iM, iS, iG, iB, iN, iZ, h, h1, h2, h3, h4, h5, h6, h7, eqv_bytes, eqv_boolne, bne, headerCode]) (rfl)
noncomputable def s115 : SP Tryz.prog := mkS tyA 115 Tryz.f115 [s144] { md := [.ro 1], rg := [(0, [0], []), (1, [0, 7], []), (2, [2], []), (3, [0, 3], []), (4, [0, 3, 11], []), (5, [0, 3], []), (6, [0, 3, 4], []), (7, [0, 3, 4, 20], []), (8, [2], []), (9, [2], [])], lv := [(0, [0, 3], [])], out := [(0, [], [])], rets := some ([2], []) } Tryz.func115 (by kernel_rfl)
@[go_sem] theorem d115 : s115.g = 115 ∧ s115.fs = ⟨[.ro 1], s115.F, false⟩ := ⟨nr rfl, nr rfl⟩
@[go_sem] theorem e115 (hs : List Header) : s115.F [.sl .ro 2 (hs.map (rHeader .ro))] = some (.i .i64 (headersFault hs), [.u]) := mkS_eq (hs.length + 1) rfl rfl (fun cx h => by
  by_cases h1 : 20 < (hs.length : Int)
  · simp only [go_sem, reduceIte, ↓reduceIte, reduceCtorEq, nA, nS, nM, nB, nE, nL, nT, nN, iL, iT, iE, iA, iM, iS, iG, iB, iN, iZ, h, h1, headersFault]
  have hx : hs.length ≤ 9223372036854775806 := by omega
  have hb0 := loopN_eq Tryz.f115 0 _ _ rfl rfl
  obtain ⟨r, hr, hq⟩ := loop_srch (cx := cx) (blk := 0) (body := loopN Tryz.f115 0) hs (fun k (s : Unit) => ⟨E [(0, .sl .ro 2 (hs.map (rHeader .ro))), (3, .i .i64 k)], B []⟩) (fun s => ⟨E [], B []⟩) (fun x s => headerCode x != 0) (fun x s => ()) (fun x s => (.ret, ⟨E [(2, .i .i64 (headerCode x))], B []⟩)) (fun k s => True)
      (fun s hI G => by simp only [go_sem, reduceIte, ↓reduceIte, reduceCtorEq, nA, nS, nM, nB, nE, nL, nT, nN, iL, iT, iE, iA, iM, iS, iG, iB, iN, iZ, h, Int.lt_irrefl, hb0, hx]) (fun k hk s hI => by
        have h1 : ((k : Int) < (hs.length : Int)) := Int.ofNat_lt.2 hk
        exact ⟨_, _, _, fun G => by simp only [go_sem, reduceIte, ↓reduceIte, reduceCtorEq, nA, nS, nM, nB, nE, nL, nT, nN, iL, iT, iE, iA, iM, iS, iG, iB, iN, iZ, h, map_gd (rHeader .ro) hs _ hk, rHeader, h1, idx_nt _ _ hk, wrap_nat1 (show k < 9223372036854775807 by omega), hb0] <;> with_reducible rfl, Iff.rfl, fun hc => ⟨trivial, by simp only [go_sem, reduceIte, ↓reduceIte, reduceCtorEq, nA, nS, nM, nB, nE, nL, nT, nN, iL, iT, iE, iA, iM, iS, iG, iB, iN, iZ, h]⟩⟩) () trivial (hs.length + 1) (Nat.le_refl _)
  rw [hb0] at hr
  rcases hq with ⟨s', e1, _, e3⟩ | ⟨x, s', e1, e3⟩
  · simp only [go_sem, reduceIte, ↓reduceIte, reduceCtorEq, nA, nS, nM, nB, nE, nL, nT, nN, iL, iT, iE, iA, iM, iS, iG, iB, iN, iZ, h, h1, hr, e3, headersFault, firstI_inl e1]
  · simp only [go_sem, reduceIte, ↓reduceIte, reduceCtorEq, nA, nS, nM, nB, nE, nL, nT, nN, iL, iT, iE, iA, iM, iS, iG, iB, iN, iZ, h, h1, hr, e3, headersFault, firstI_inr e1]) (rfl)
noncomputable def s162 : SP Tryz.prog := mkS tyA 162 Tryz.f162 [] { md := [.ro 1], rg := [(0, [0], []), (1, [3], []), (2, [3, 4], []), (3, [3, 4, 10], []), (4, [3, 4], []), (5, [3, 4, 24], []), (6, [3, 4], []), (7, [2], [])], lv := [(0, [3, 4], [])], out := [(0, [3], [])], rets := some ([2], []) } Tryz.func162 (by kernel_rfl)
@[go_sem] theorem d162 : s162.g = 162 ∧ s162.fs = ⟨[.ro 1], s162.F, false⟩ := ⟨nr rfl, nr rfl⟩
@[go_sem] theorem e162 (t : ByteArray) (h0 : t.size ≤ 9223372036854775806) : s162.F [.s t] = some (.s (lowS t), [.u]) := mkS_eq (t.data.toList.length + 1) rfl rfl (fun cx h => by
  have hz : t.data.toList.length ≤ 9223372036854775807 := by rw [← str_size]; omega
  have hx : t.data.toList.length ≤ 9223372036854775806 := by rw [← str_size]; exact h0
  have hb0 := loopN_eq Tryz.f162 0 _ _ rfl rfl
  obtain ⟨hI, hr⟩ := loop_fold (cx := cx) (blk := 0) (body := loopN Tryz.f162 0) t.data.toList (fun k (s : Unit) => ⟨E [(3, .sl .mut 1 ((lowUp t.data.toList k).map rByte)), (4, .i .i64 k)], B []⟩) (fun s => ⟨E [(3, .sl .mut 1 ((t.data.toList.map lowB).map rByte))], B []⟩) (fun x s => s) (fun k s => True)
      (fun s hI G => by simp only [go_sem, reduceIte, ↓reduceIte, reduceCtorEq, nA, nS, nM, nB, nE, nL, nT, nN, iL, iT, iE, iA, iM, iS, iG, iB, iN, iZ, h, Int.lt_irrefl, hb0, lowUp_len t.data.toList t.data.toList.length (Nat.le_refl _), lowUp_all t.data.toList, List.length_map]) (fun k hk s hI => by
        have h1 : ((k : Int) < (t.data.toList.length : Int)) := Int.ofNat_lt.2 hk
        have g1 := lowUp_gd t.data.toList k hk
        have g2 := lowUp_g t.data.toList k hk
        have g3 := lowUp_len t.data.toList k (Nat.le_of_lt hk)
        have g4 : (List.take t.data.toList.length ((lowUp t.data.toList k).map rByte)) = (lowUp t.data.toList k).map rByte := List.take_of_length_le (by rw [List.length_map, g3]; exact Nat.le_refl _)
        rcases lowStep t.data.toList k hk with ⟨a1, a2, w1, w2, hs, hv⟩ | ⟨a1, a2, w1, w2, hs, hv⟩ | ⟨a1, a2, w1, w2, hs, hv⟩
        all_goals exact ⟨trivial, _, fun G => by simp only [go_sem, reduceIte, ↓reduceIte, reduceCtorEq, nA, nS, nM, nB, nE, nL, nT, nN, iL, iT, iE, iA, iM, iS, iG, iB, iN, iZ, h, g1, g2, g3, g4, a1, a2, w1, w2, hs, List.length_map, h1, idx_nt _ _ hk, wrap_nat1 (show k < 9223372036854775807 by omega), hb0] <;> with_reducible rfl, by simp only [go_sem, reduceIte, ↓reduceIte, reduceCtorEq, nA, nS, nM, nB, nE, nL, nT, nN, iL, iT, iE, iA, iM, iS, iG, iB, iN, iZ, h, hv]⟩) () trivial (t.data.toList.length + 1) (Nat.le_refl _)
  rw [hb0] at hr
  rw [lowUp_zero] at hr
  simp only [go_sem, reduceIte, ↓reduceIte, reduceCtorEq, nA, nS, nM, nB, nE, nL, nT, nN, iL, iT, iE, iA, iM, iS, iG, iB, iN, iZ, h, hz, hr, str_size t, lowS]) (rfl)
end Go.Vm.A
