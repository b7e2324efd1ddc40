/- Functions of the program, walked by the evaluator. -/
import Derived.Test.YtfdlhhgejahdcaaGreatDoorFa
set_option autoImplicit false
set_option maxRecDepth 100000
set_option maxHeartbeats 4000000
set_option linter.unusedVariables false
set_option linter.unusedSimpArgs false
namespace Go.Vm.A
open Go.Proofs
open Nat renaming reduceAdd → nA, reduceSub → nS, reduceMul → nM, reduceBEq → nB, reduceEqDiff → nE, reduceLeDiff → nL, reduceLT → nT, reduceBneDiff → nN
open Int renaming reduceLE → iL, reduceLT → iT, reduceEq → iE, reduceAdd → iA, reduceMul → iM, reduceSub → iS, reduceNeg → iG, reduceBEq → iB, reduceBNe → iN, reduceToNat → iZ

noncomputable def s33 : SP Tryz.prog := mkS tyA 33 Tryz.f33 [] { md := [.ro 1], rg := [(0, [1, 2], [1, 2, 3]), (1, [1, 2, 3], [1, 2, 3]), (2, [1, 2, 3], [1, 2, 3]), (3, [1, 2, 3], [1, 2, 3]), (4, [1, 2, 3], [1, 2, 3]), (5, [2, 3], [2, 3]), (6, [2], [2, 3])], rets := some ([2], [2, 3]) } Tryz.func33 (by kernel_rfl)
@[go_sem] theorem d33 : s33.g = 33 ∧ s33.fs = ⟨[.ro 1], s33.F, false⟩ := ⟨nr rfl, nr rfl⟩
@[go_sem] theorem e33 (xReq : Int) (xHead : Bool) (xDue : Int) (xLate : Bool) (h0 : smWaiter (Waiter.mk xReq xHead xDue xLate)) : s33.F [.agg [.i .i64 xReq, .b xHead, .i .i64 xDue, .b xLate]] = some (.agg (rWaiter .mut (Waiter.mk xReq xHead xDue xLate)), [.u]) := mkS_eq (0) rfl rfl (fun cx h => by
  obtain ⟨q0, q1, q2, q3⟩ := h0
  simp only [go_sem, reduceIte, ↓reduceIte, reduceCtorEq, nA, nS, nM, nB, nE, nL, nT, nN, iL, iT, iE, iA, iM, iS, iG, iB, iN, iZ, h, q0, q1, q2, q3]) (by simp only [go_sem, reduceIte, ↓reduceIte, reduceCtorEq, nA, nS, nM, nB, nE, nL, nT, nN, iL, iT, iE, iA, iM, iS, iG, iB, iN, iZ, okRes, hasRo, hasRoL, hasRoLL])
noncomputable def s89 : SP Tryz.prog := mkS tyA 89 Tryz.f89 [s33] { md := [.ro 1], rg := [(0, [0], []), (1, [0, 3], []), (2, [0, 3, 4], []), (3, [0, 3, 4, 11], []), (4, [0, 3, 4], []), (5, [0, 3, 4], []), (6, [2], [])], lv := [(0, [0, 3, 4], [])], out := [(0, [3], [])], rets := some ([2], []) } Tryz.func89 (by kernel_rfl)
@[go_sem] theorem d89 : s89.g = 89 ∧ s89.fs = ⟨[.ro 1], s89.F, false⟩ := ⟨nr rfl, nr rfl⟩
@[go_sem] theorem e89 (xs : List Waiter) (h0 : smL smWaiter xs) : s89.F [.sl .ro 4 (xs.map (rWaiter .ro))] = some (.sl .mut 4 (xs.map (rWaiter .mut)), [.u]) := mkS_eq (xs.length + 1) rfl rfl (fun cx h => by
  have hb := loopN_eq Tryz.f89 0 _ _ rfl rfl
  have hx := h0.1
  have c1 : ((xs.length : Int) * (32 : Nat) ≤ 140737488355328) := by omega
  have c2 : 0 ≤ (xs.length : Int) := by omega
  have hr := (loop_fold (cx := cx) (blk := 0) (body := loopN Tryz.f89 0) xs (fun k (_ : Unit) => ⟨E [(0, .sl .ro 4 (xs.map (rWaiter .ro))), (3, .sl .mut 4 (fillUp (rWaiter .mut) [.i .i64 0, .b false, .i .i64 0, .b false] xs k)), (4, .i .i64 k)], B []⟩) (fun _ => ⟨E [(3, .sl .mut 4 (xs.map (rWaiter .mut)))], B []⟩) (fun _ _ => ()) (fun _ _ => True)
    (fun l _ G => by simp only [go_sem, reduceIte, ↓reduceIte, reduceCtorEq, nA, nS, nM, nB, nE, nL, nT, nN, iL, iT, iE, iA, iM, iS, iG, iB, iN, iZ, h, Int.lt_irrefl, hb, fillUp_all]) (fun k hk l _ => by
      have h1 : ((k : Int) < (xs.length : Int)) := Int.ofNat_lt.2 hk
      have h2 := h0.2 _ (List.getElem_mem hk)
      have h3 : (fillUp (rWaiter .mut) [.i .i64 0, .b false, .i .i64 0, .b false] xs k).set k [.i .i64 xs[k].Req, .b xs[k].Head, .i .i64 xs[k].Due, .b xs[k].Late] = fillUp (rWaiter .mut) [.i .i64 0, .b false, .i .i64 0, .b false] xs (k + 1) := fillUp_set (rWaiter .mut) [.i .i64 0, .b false, .i .i64 0, .b false] xs k hk
      exact ⟨trivial, _, fun G => by simp only [go_sem, reduceIte, ↓reduceIte, reduceCtorEq, nA, nS, nM, nB, nE, nL, nT, nN, iL, iT, iE, iA, iM, iS, iG, iB, iN, iZ, h, h2, h3, map_gd (rWaiter .ro) xs k hk, fillUp_get (rWaiter .mut) [.i .i64 0, .b false, .i .i64 0, .b false] xs k hk, fillUp_getD (rWaiter .mut) [.i .i64 0, .b false, .i .i64 0, .b false] xs k hk, fillUp_len (rWaiter .mut) [.i .i64 0, .b false, .i .i64 0, .b false] xs k (Nat.le_of_lt hk), h1, idx_nt _ _ hk, wrap_nat1 (show k < 9223372036854775807 by omega), hb] <;> with_reducible rfl, by simp only [go_sem, reduceIte, ↓reduceIte, reduceCtorEq, nA, nS, nM, nB, nE, nL, nT, nN, iL, iT, iE, iA, iM, iS, iG, iB, iN, iZ, h]⟩) () trivial (xs.length + 1) (Nat.le_refl _)).2
  rw [hb] at hr
  simp only [go_sem, reduceIte, ↓reduceIte, reduceCtorEq, nA, nS, nM, nB, nE, nL, nT, nN, iL, iT, iE, iA, iM, iS, iG, iB, iN, iZ, h, c1, c2, Int.toNat_natCast, fillUp_zero (rWaiter .mut) [.i .i64 0, .b false, .i .i64 0, .b false], hr]) (by simp only [go_sem, reduceIte, ↓reduceIte, reduceCtorEq, nA, nS, nM, nB, nE, nL, nT, nN, iL, iT, iE, iA, iM, iS, iG, iB, iN, iZ, okRes, hasRo])
noncomputable def s32 : SP Tryz.prog := mkS tyA 32 Tryz.f32 [s20, s89] { md := [.ro 1], rg := [(0, [1, 2], [1, 2, 3]), (1, [1, 2, 3], [1, 2, 3]), (2, [1, 2, 3], [1, 2, 3]), (3, [1, 2, 3], [1, 2, 3]), (4, [1, 2, 3], [1, 2, 3]), (5, [1, 2, 3], [1, 2, 3]), (6, [1, 2, 3], [1, 2, 3]), (7, [1, 2, 3], [1, 2, 3]), (8, [1, 2, 3], [1, 2, 3]), (9, [2, 3], [2, 3]), (10, [2], [2, 3])], rets := some ([2], [2, 3]) } Tryz.func32 (by kernel_rfl)
@[go_sem] theorem d32 : s32.g = 32 ∧ s32.fs = ⟨[.ro 1], s32.F, false⟩ := ⟨nr rfl, nr rfl⟩
@[go_sem] theorem e32 (xId : Int) (xKey : ByteArray) (xBack : Bool) (xOut : Bool) (xDue : Int) (xDoomed : Bool) (xGetMethod : ByteArray) (xGetHost : ByteArray) (xGetPath : ByteArray) (xGetHeaders : List Header) (xWaiters : List Waiter) (h0 : smFlight (Flight.mk xId xKey xBack xOut xDue xDoomed (Request.mk xGetMethod xGetHost xGetPath xGetHeaders) xWaiters)) : s32.F [.agg [.i .i64 xId, .s xKey, .b xBack, .b xOut, .i .i64 xDue, .b xDoomed, .s xGetMethod, .s xGetHost, .s xGetPath, .sl .ro 2 (xGetHeaders.map (rHeader .ro)), .sl .ro 4 (xWaiters.map (rWaiter .ro))]] = some (.agg (rFlight .mut (Flight.mk xId xKey xBack xOut xDue xDoomed (Request.mk xGetMethod xGetHost xGetPath xGetHeaders) xWaiters)), [.u]) := mkS_eq (0) rfl rfl (fun cx h => by
  obtain ⟨q0, q1, q2, q3, q4, q5, q6, q7⟩ := h0
  simp only [go_sem, reduceIte, ↓reduceIte, reduceCtorEq, nA, nS, nM, nB, nE, nL, nT, nN, iL, iT, iE, iA, iM, iS, iG, iB, iN, iZ, h, q0, q1, q2, q3, q4, q5, q6, q7]) (by simp only [go_sem, reduceIte, ↓reduceIte, reduceCtorEq, nA, nS, nM, nB, nE, nL, nT, nN, iL, iT, iE, iA, iM, iS, iG, iB, iN, iZ, okRes, hasRo, hasRoL, hasRoLL])
noncomputable def s133 : SP Tryz.prog := mkS tyA 133 Tryz.f133 [] { md := [.ro 1, .ro 1], rets := some ([3], []) } Tryz.func133 (by kernel_rfl)
@[go_sem] theorem d133 : s133.g = 133 ∧ s133.fs = ⟨[.ro 1, .ro 1], s133.F, false⟩ := ⟨nr rfl, nr rfl⟩
@[go_sem] theorem e133 (wReq : Int) (wHead : Bool) (wDue : Int) (wLate : Bool) (req : Int) : s133.F [.agg [.i .i64 wReq, .b wHead, .i .i64 wDue, .b wLate], .pr [.i .i64 req]] = some (.b ((Waiter.mk wReq wHead wDue wLate).Req == req), [.u, .u]) := mkS_eq (0) rfl rfl (fun cx h => by
  simp only [go_sem, reduceIte, ↓reduceIte, reduceCtorEq, nA, nS, nM, nB, nE, nL, nT, nN, iL, iT, iE, iA, iM, iS, iG, iB, iN, iZ, h]) (rfl)
noncomputable def s91 : SP Tryz.prog := mkS tyA 91 Tryz.f91 [] { md := [.ro 1, .ro 1, .ro 1], rets := some ([6], []) } Tryz.func91 (by kernel_rfl)
@[go_sem] theorem d91 : s91.g = 91 ∧ s91.fs = ⟨[.ro 1, .ro 1, .ro 1], s91.F, false⟩ := ⟨nr rfl, nr rfl⟩
@[go_sem] theorem e91 (a : Int) (b : Int) (c : Int) : s91.F [.i .i64 a, .i .i64 b, .i .i64 c] = some (.b (within a b c), [.u, .u, .u]) := mkS_eq (0) rfl rfl (fun cx h => by
  simp only [go_sem, reduceIte, ↓reduceIte, reduceCtorEq, nA, nS, nM, nB, nE, nL, nT, nN, iL, iT, iE, iA, iM, iS, iG, iB, iN, iZ, h, within]
  by_cases h : b ≤ a <;> simp [h]) (rfl)
noncomputable def s98 : SP Tryz.prog := mkS tyA 98 Tryz.f98 [s91] { md := [.ro 1], rets := some ([2], []) } Tryz.func98 (by kernel_rfl)
@[go_sem] theorem d98 : s98.g = 98 ∧ s98.fs = ⟨[.ro 1], s98.F, false⟩ := ⟨nr rfl, nr rfl⟩
@[go_sem] theorem e98 (a : Int) : s98.F [.i .i64 a] = some (.b (isTime a), [.u]) := mkS_eq (0) rfl rfl (fun cx h => by
  simp only [go_sem, reduceIte, ↓reduceIte, reduceCtorEq, nA, nS, nM, nB, nE, nL, nT, nN, iL, iT, iE, iA, iM, iS, iG, iB, iN, iZ, h, isTime]) (rfl)
noncomputable def s90 : SP Tryz.prog := mkS tyA 90 Tryz.f90 [s98] { md := [.ro 1], rets := some ([2], []) } Tryz.func90 (by kernel_rfl)
@[go_sem] theorem d90 : s90.g = 90 ∧ s90.fs = ⟨[.ro 1], s90.F, false⟩ := ⟨nr rfl, nr rfl⟩
@[go_sem] theorem e90 (wReq : Int) (wHead : Bool) (wDue : Int) (wLate : Bool) : s90.F [.agg [.i .i64 wReq, .b wHead, .i .i64 wDue, .b wLate]] = some (.b (isReqW (Waiter.mk wReq wHead wDue wLate)), [.u]) := mkS_eq (0) rfl rfl (fun cx h => by
  simp only [go_sem, reduceIte, ↓reduceIte, reduceCtorEq, nA, nS, nM, nB, nE, nL, nT, nN, iL, iT, iE, iA, iM, iS, iG, iB, iN, iZ, h]
  simp only [isReqW]
  cases isTime wReq <;> cases isTime wDue <;> rfl) (rfl)
noncomputable def s109 : SP Tryz.prog := mkS tyA 109 Tryz.f109 [s90] { md := [.ro 1], rets := some ([2], []) } Tryz.func109 (by kernel_rfl)
@[go_sem] theorem d109 : s109.g = 109 ∧ s109.fs = ⟨[.ro 1], s109.F, false⟩ := ⟨nr rfl, nr rfl⟩
@[go_sem] theorem e109 (wReq : Int) (wHead : Bool) (wDue : Int) (wLate : Bool) : s109.F [.agg [.i .i64 wReq, .b wHead, .i .i64 wDue, .b wLate]] = some (.b (!isReqW (Waiter.mk wReq wHead wDue wLate)), [.u]) := mkS_eq (0) rfl rfl (fun cx h => by
  simp only [go_sem, reduceIte, ↓reduceIte, reduceCtorEq, nA, nS, nM, nB, nE, nL, nT, nN, iL, iT, iE, iA, iM, iS, iG, iB, iN, iZ, h]) (rfl)
noncomputable def s139 : SP Tryz.prog := mkS tyA 139 Tryz.f139 [s109, s133] { md := [.ro 1, .ro 1], rg := [(0, [0, 1], []), (1, [0, 1, 7, 8], []), (2, [0, 1, 7, 8, 9], []), (3, [0, 1, 5, 7, 8], []), (4, [0, 1, 5, 7, 8, 16], []), (5, [4], []), (6, [0, 1, 7, 8], []), (7, [4], [])], lv := [(0, [0, 1, 7, 8], [])], out := [(0, [], [])], rets := some ([4], []) } Tryz.func139 (by kernel_rfl)
@[go_sem] theorem d139 : s139.g = 139 ∧ s139.fs = ⟨[.ro 1, .ro 1], s139.F, false⟩ := ⟨nr rfl, nr rfl⟩
@[go_sem] theorem e139_133 (xs : List Waiter) (req : Int) (hb : xs.length ≤ 9223372036854775806) : s139.F [.sl .ro 4 (xs.map (rWaiter .ro)), .fn 133 [.pr [.i .i64 req]]] = some (.i .i64 (idxP (fun x => x.Req == req) xs 0), [.u, .u]) := mkS_eq (xs.length + 1) rfl rfl (fun cx h => by
  have hx := hb
  have hb0 := loopN_eq Tryz.f139 0 _ _ rfl rfl
  obtain ⟨r, hr, hq⟩ := loop_srch (cx := cx) (blk := 0) (body := loopN Tryz.f139 0) xs (fun k (s : Nat) => ⟨E [(0, .sl .ro 4 (xs.map (rWaiter .ro))), (1, .fn 133 [.pr [.i .i64 req]]), (7, .i .i64 xs.length), (8, .i .i64 k)], B []⟩) (fun s => ⟨E [], B []⟩) (fun x s => x.Req == req) (fun x s => s + 1) (fun x s => (.ret, ⟨E [(4, .i .i64 s)], B []⟩)) (fun k s => k = s)
      (fun s hI G => by simp only [go_sem, reduceIte, ↓reduceIte, reduceCtorEq, nA, nS, nM, nB, nE, nL, nT, nN, iL, iT, iE, iA, iM, iS, iG, iB, iN, iZ, h, Int.lt_irrefl, hb0, hI]) (fun k hk s hI => by
        have h1 : ((k : Int) < (xs.length : Int)) := Int.ofNat_lt.2 hk
        obtain rfl := hI
        exact ⟨_, _, _, fun G => by simp only [go_sem, reduceIte, ↓reduceIte, reduceCtorEq, nA, nS, nM, nB, nE, nL, nT, nN, iL, iT, iE, iA, iM, iS, iG, iB, iN, iZ, h, map_gd (rWaiter .ro) xs _ hk, decide_eq_true_eq, h1, idx_nt _ _ hk, wrap_nat1 (show k < 9223372036854775807 by omega), hb0] <;> with_reducible rfl, by first | exact Iff.rfl | simp, fun hc => ⟨rfl, by simp only [go_sem, reduceIte, ↓reduceIte, reduceCtorEq, nA, nS, nM, nB, nE, nL, nT, nN, iL, iT, iE, iA, iM, iS, iG, iB, iN, iZ, h]⟩⟩) 0 rfl (xs.length + 1) (Nat.le_refl _)
  rw [hb0] at hr
  rcases hq with ⟨s', e1, _, e3⟩ | ⟨x, s', e1, e3⟩
  · simp only [go_sem, reduceIte, ↓reduceIte, reduceCtorEq, nA, nS, nM, nB, nE, nL, nT, nN, iL, iT, iE, iA, iM, iS, iG, iB, iN, iZ, h, hr, e3, runS_idx e1]
  · simp only [go_sem, reduceIte, ↓reduceIte, reduceCtorEq, nA, nS, nM, nB, nE, nL, nT, nN, iL, iT, iE, iA, iM, iS, iG, iB, iN, iZ, h, hr, e3, runS_idx' e1]) (rfl)
@[go_sem] theorem e139_109 (xs : List Waiter)  (hb : xs.length ≤ 9223372036854775806) : s139.F [.sl .ro 4 (xs.map (rWaiter .ro)), .fn 109 []] = some (.i .i64 (idxP (fun x => !isReqW x) xs 0), [.u, .u]) := mkS_eq (xs.length + 1) rfl rfl (fun cx h => by
  have hx := hb
  have hb0 := loopN_eq Tryz.f139 0 _ _ rfl rfl
  obtain ⟨r, hr, hq⟩ := loop_srch (cx := cx) (blk := 0) (body := loopN Tryz.f139 0) xs (fun k (s : Nat) => ⟨E [(0, .sl .ro 4 (xs.map (rWaiter .ro))), (1, .fn 109 []), (7, .i .i64 xs.length), (8, .i .i64 k)], B []⟩) (fun s => ⟨E [], B []⟩) (fun x s => !isReqW x) (fun x s => s + 1) (fun x s => (.ret, ⟨E [(4, .i .i64 s)], B []⟩)) (fun k s => k = s)
      (fun s hI G => by simp only [go_sem, reduceIte, ↓reduceIte, reduceCtorEq, nA, nS, nM, nB, nE, nL, nT, nN, iL, iT, iE, iA, iM, iS, iG, iB, iN, iZ, h, Int.lt_irrefl, hb0, hI]) (fun k hk s hI => by
        have h1 : ((k : Int) < (xs.length : Int)) := Int.ofNat_lt.2 hk
        obtain rfl := hI
        exact ⟨_, _, _, fun G => by simp only [go_sem, reduceIte, ↓reduceIte, reduceCtorEq, nA, nS, nM, nB, nE, nL, nT, nN, iL, iT, iE, iA, iM, iS, iG, iB, iN, iZ, h, map_gd (rWaiter .ro) xs _ hk, decide_eq_true_eq, h1, idx_nt _ _ hk, wrap_nat1 (show k < 9223372036854775807 by omega), hb0] <;> with_reducible rfl, by first | exact Iff.rfl | simp, fun hc => ⟨rfl, by simp only [go_sem, reduceIte, ↓reduceIte, reduceCtorEq, nA, nS, nM, nB, nE, nL, nT, nN, iL, iT, iE, iA, iM, iS, iG, iB, iN, iZ, h]⟩⟩) 0 rfl (xs.length + 1) (Nat.le_refl _)
  rw [hb0] at hr
  rcases hq with ⟨s', e1, _, e3⟩ | ⟨x, s', e1, e3⟩
  · simp only [go_sem, reduceIte, ↓reduceIte, reduceCtorEq, nA, nS, nM, nB, nE, nL, nT, nN, iL, iT, iE, iA, iM, iS, iG, iB, iN, iZ, h, hr, e3, runS_idx e1]
  · simp only [go_sem, reduceIte, ↓reduceIte, reduceCtorEq, nA, nS, nM, nB, nE, nL, nT, nN, iL, iT, iE, iA, iM, iS, iG, iB, iN, iZ, h, hr, e3, runS_idx' e1]) (rfl)
noncomputable def s108 : SP Tryz.prog := mkS tyA 108 Tryz.f108 [s139] { md := [.ro 1, .ro 1], rets := some ([4], []) } Tryz.func108 (by kernel_rfl)
@[go_sem] theorem d108 : s108.g = 108 ∧ s108.fs = ⟨[.ro 1, .ro 1], s108.F, false⟩ := ⟨nr rfl, nr rfl⟩
@[go_sem] theorem e108_133 (xs : List Waiter) (req : Int) (hb : xs.length ≤ 9223372036854775806) : s108.F [.sl .ro 4 (xs.map (rWaiter .ro)), .fn 133 [.pr [.i .i64 req]]] = some (.b (xs.any (fun x => x.Req == req)), [.u, .u]) := mkS_eq (0) rfl rfl (fun cx h => by
  simp only [go_sem, reduceIte, ↓reduceIte, reduceCtorEq, nA, nS, nM, nB, nE, nL, nT, nN, iL, iT, iE, iA, iM, iS, iG, iB, iN, iZ, h, hb, idxP_any]) (rfl)
@[go_sem] theorem e108_109 (xs : List Waiter)  (hb : xs.length ≤ 9223372036854775806) : s108.F [.sl .ro 4 (xs.map (rWaiter .ro)), .fn 109 []] = some (.b (xs.any (fun x => !isReqW x)), [.u, .u]) := mkS_eq (0) rfl rfl (fun cx h => by
  simp only [go_sem, reduceIte, ↓reduceIte, reduceCtorEq, nA, nS, nM, nB, nE, nL, nT, nN, iL, iT, iE, iA, iM, iS, iG, iB, iN, iZ, h, hb, idxP_any]) (rfl)
noncomputable def s92 : SP Tryz.prog := mkS tyA 92 Tryz.f92 [s108] { md := [.ro 1, .ro 1], rets := some ([4], []), fz := [3] } Tryz.func92 (by kernel_rfl)
@[go_sem] theorem d92 : s92.g = 92 ∧ s92.fs = ⟨[.ro 1, .ro 1], s92.F, false⟩ := ⟨nr rfl, nr rfl⟩
@[go_sem] theorem e92 (fId : Int) (fKey : ByteArray) (fBack : Bool) (fOut : Bool) (fDue : Int) (fDoomed : Bool) (fGetMethod : ByteArray) (fGetHost : ByteArray) (fGetPath : ByteArray) (fGetHeaders : List Header) (fWaiters : List Waiter) (req : Int) (h0 : (Flight.mk fId fKey fBack fOut fDue fDoomed (Request.mk fGetMethod fGetHost fGetPath fGetHeaders) fWaiters).Waiters.length ≤ 9223372036854775806) : s92.F [.agg [.i .i64 fId, .s fKey, .b fBack, .b fOut, .i .i64 fDue, .b fDoomed, .s fGetMethod, .s fGetHost, .s fGetPath, .sl .ro 2 (fGetHeaders.map (rHeader .ro)), .sl .ro 4 (fWaiters.map (rWaiter .ro))], .i .i64 req] = some (.b ((Flight.mk fId fKey fBack fOut fDue fDoomed (Request.mk fGetMethod fGetHost fGetPath fGetHeaders) fWaiters).Waiters.any fun x => x.Req == req), [.u, .u]) := mkS_eq (0) rfl rfl (fun cx h => by
  simp only [go_sem, reduceIte, ↓reduceIte, reduceCtorEq, nA, nS, nM, nB, nE, nL, nT, nN, iL, iT, iE, iA, iM, iS, iG, iB, iN, iZ, h, h0]) (rfl)
@[go_sem] theorem e92_0 (fId : Int) (fKey : ByteArray) (fBack : Bool) (fOut : Bool) (fDue : Int) (fDoomed : Bool) (fGetMethod : ByteArray) (fGetHost : ByteArray) (fGetPath : ByteArray) (fWaiters : List Waiter) (req : Int) (h0 : fWaiters.length ≤ 9223372036854775806) : s92.F [.agg [.i .i64 fId, .s fKey, .b fBack, .b fOut, .i .i64 fDue, .b fDoomed, .s fGetMethod, .s fGetHost, .s fGetPath, .sl .ro 2 [], .sl .ro 4 (fWaiters.map (rWaiter .ro))], .i .i64 req] = some (.b (fWaiters.any fun x => x.Req == req), [.u, .u]) := e92 fId fKey fBack fOut fDue fDoomed fGetMethod fGetHost fGetPath [] fWaiters req h0
noncomputable def s58 : SP Tryz.prog := mkS tyA 58 Tryz.f58 [s92] { md := [.ro 1], rg := [(0, [0], []), (1, [0, 5, 6, 7], []), (2, [0, 5, 6, 7, 8], []), (3, [0, 3, 4, 5, 6, 7], [4]), (4, [0, 5, 6, 7, 18], []), (5, [2], []), (6, [0, 5, 6, 7], []), (7, [2], [])], lv := [(0, [0, 5, 6, 7], [])], out := [(0, [], [])], rets := some ([2], []), plan := [(4, (.take 0 (.take 1 (.take 2 (.take 3 (.take 4 (.take 5 (.one 6 .done))))))))] } Tryz.func58 (by kernel_rfl)
@[go_sem] theorem d58 : s58.g = 58 ∧ s58.fs = ⟨[.ro 1], s58.F, false⟩ := ⟨nr rfl, nr rfl⟩
@[go_sem] theorem e58 (ws : List Waiter) (h0 : ws.length ≤ 9223372036854775806) : s58.F [.sl .ro 4 (ws.map (rWaiter .ro))] = some (.b (tw [] ws), [.u]) := mkS_eq (ws.length + 1) rfl rfl (fun cx h => by
  have hx := h0
  have hb0 := loopN_eq Tryz.f58 0 _ _ rfl rfl
  obtain ⟨r, hr, hq⟩ := loop_srch (cx := cx) (blk := 0) (body := loopN Tryz.f58 0) ws (fun k (s : List Waiter) => ⟨E [(0, .sl .ro 4 (ws.map (rWaiter .ro))), (5, .sl .ro 4 (ws.map (rWaiter .ro))), (6, .i .i64 ws.length), (7, .i .i64 k)], B []⟩) (fun s => ⟨E [], B []⟩) (fun x s => s.any fun y => y.Req == x.Req) (fun x s => s ++ [x]) (fun x s => (.ret, ⟨E [(2, .b true)], B []⟩)) (fun k s => s = ws.take k)
      (fun s hI G => by simp only [go_sem, reduceIte, ↓reduceIte, reduceCtorEq, nA, nS, nM, nB, nE, nL, nT, nN, iL, iT, iE, iA, iM, iS, iG, iB, iN, iZ, h, Int.lt_irrefl, hb0, hx]) (fun k hk s hI => by
        have h1 : ((k : Int) < (ws.length : Int)) := Int.ofNat_lt.2 hk
        have t3 : ws.length ≤ 9223372036854775806 := hx
        have t4 : (ws.map (rWaiter .ro)).take k = (ws.take k).map (rWaiter .ro) := by rw [List.map_take]
        have t5 : (ws.take k).length ≤ 9223372036854775806 := by rw [List.length_take]; omega
        have c1 : (0 : Int) ≤ (k : Int) := by omega
        have c2 : (k : Int) ≤ (ws.length : Int) := by omega
        subst hI
        exact ⟨_, _, _, fun G => by simp only [go_sem, reduceIte, ↓reduceIte, reduceCtorEq, nA, nS, nM, nB, nE, nL, nT, nN, iL, iT, iE, iA, iM, iS, iG, iB, iN, iZ, h, t4, t5, c1, c2, map_gd (rWaiter .ro) ws _ hk, Int.toNat_natCast, List.drop_zero, Nat.sub_zero, h1, idx_nt _ _ hk, wrap_nat1 (show k < 9223372036854775807 by omega), hb0] <;> with_reducible rfl, Iff.rfl, fun hc => ⟨(take_snoc ws k hk).symm, by simp only [go_sem, reduceIte, ↓reduceIte, reduceCtorEq, nA, nS, nM, nB, nE, nL, nT, nN, iL, iT, iE, iA, iM, iS, iG, iB, iN, iZ, h]⟩⟩) [] rfl (ws.length + 1) (Nat.le_refl _)
  rw [hb0] at hr
  rcases hq with ⟨s', e1, _, e3⟩ | ⟨x, s', e1, e3⟩
  · simp only [go_sem, reduceIte, ↓reduceIte, reduceCtorEq, nA, nS, nM, nB, nE, nL, nT, nN, iL, iT, iE, iA, iM, iS, iG, iB, iN, iZ, h, hr, e3, tw_inl e1]
  · simp only [go_sem, reduceIte, ↓reduceIte, reduceCtorEq, nA, nS, nM, nB, nE, nL, nT, nN, iL, iT, iE, iA, iM, iS, iG, iB, iN, iZ, h, hr, e3, tw_inr e1]) (rfl)
noncomputable def s122 : SP Tryz.prog := mkS tyA 122 Tryz.f122 [] { md := [.ro 1], rets := some ([2], []) } Tryz.func122 (by kernel_rfl)
@[go_sem] theorem d122 : s122.g = 122 ∧ s122.fs = ⟨[.ro 1], s122.F, false⟩ := ⟨nr rfl, nr rfl⟩
@[go_sem] theorem e122 (t : ByteArray) : s122.F [.s t] = some (.b (isMethod t), [.u]) := mkS_eq (0) rfl rfl (fun cx h => by
  have hu : isMethod t = (eqv t ⟨#[71, 69, 84]⟩ || eqv t ⟨#[72, 69, 65, 68]⟩) := rfl
  cases h1 : eqv t ⟨#[71, 69, 84]⟩ <;> cases h2 : eqv t ⟨#[72, 69, 65, 68]⟩ <;> simp only [go_sem, reduceIte, ↓reduceIte, reduceCtorEq, nA, nS, nM, nB, nE, nL, nT, nN, iL, iT, iE, iA, iM, iS, iG, iB, iN, iZ, h, eqv_bytes, h1, h2, hu]) (rfl)
noncomputable def s163 : SP Tryz.prog := mkS tyA 163 Tryz.f163 [] { md := [.ro 1], rets := some ([2], []) } Tryz.func163 (by kernel_rfl)
@[go_sem] theorem d163 : s163.g = 163 ∧ s163.fs = ⟨[.ro 1], s163.F, false⟩ := ⟨nr rfl, nr rfl⟩
@[go_sem] theorem e163 (c : UInt8) : s163.F [.i .u8 c.toNat] = some (.b (letterB c), [.u]) := mkS_eq (0) rfl rfl (fun cx h => by
  by_cases h1 : 97 ≤ (c.toNat : Int) <;> by_cases h2 : (c.toNat : Int) ≤ 122 <;> by_cases h3 : 65 ≤ (c.toNat : Int) <;> by_cases h4 : (c.toNat : Int) ≤ 90 <;> simp only [go_sem, reduceIte, ↓reduceIte, reduceCtorEq, nA, nS, nM, nB, nE, nL, nT, nN, iL, iT, iE, iA, iM, iS, iG, iB, iN, iZ, h, h1, h2, h3, h4, letterB]) (rfl)
noncomputable def s164 : SP Tryz.prog := mkS tyA 164 Tryz.f164 [] { md := [.ro 1], rets := some ([2], []) } Tryz.func164 (by kernel_rfl)
@[go_sem] theorem d164 : s164.g = 164 ∧ s164.fs = ⟨[.ro 1], s164.F, false⟩ := ⟨nr rfl, nr rfl⟩
@[go_sem] theorem e164 (c : UInt8) : s164.F [.i .u8 c.toNat] = some (.b (digitB c), [.u]) := mkS_eq (0) rfl rfl (fun cx h => by
  by_cases h1 : 48 ≤ (c.toNat : Int) <;> by_cases h2 : (c.toNat : Int) ≤ 57 <;> simp only [go_sem, reduceIte, ↓reduceIte, reduceCtorEq, nA, nS, nM, nB, nE, nL, nT, nN, iL, iT, iE, iA, iM, iS, iG, iB, iN, iZ, h, h1, h2, digitB]) (rfl)
noncomputable def s185 : SP Tryz.prog := ⟨185, ⟨[.ro 1, .ro 1], idxF, false⟩, idx_ok Tryz.func185 (by kernel_rfl) (by kernel_rfl) (by kernel_rfl) (by kernel_rfl)⟩
@[go_sem] theorem d185 : s185.g = 185 ∧ s185.fs = ⟨[.ro 1, .ro 1], s185.F, false⟩ := ⟨nr rfl, nr rfl⟩
@[go_sem] theorem e185 (s : ByteArray) (c : UInt8) : s185.F [.s s, .i .u8 c.toNat] = some (.i .i64 (ixB s c), [.u, .u]) := by
  show idxF [.s s, .i .u8 c.toNat] = _
  rw [idxF_eq, int_u8]
  rfl
noncomputable def s176 : SP Tryz.prog := mkS tyA 176 Tryz.f176 [s185] { md := [.ro 1, .ro 1], rets := some ([4], []) } Tryz.func176 (by kernel_rfl)
@[go_sem] theorem d176 : s176.g = 176 ∧ s176.fs = ⟨[.ro 1, .ro 1], s176.F, false⟩ := ⟨nr rfl, nr rfl⟩
@[go_sem] theorem e176 (s : ByteArray) (c : UInt8) : s176.F [.s s, .i .u8 c.toNat] = some (.i .i64 (ixB s c), [.u, .u]) := mkS_eq (0) rfl rfl (fun cx h => by
  simp only [go_sem, reduceIte, ↓reduceIte, reduceCtorEq, nA, nS, nM, nB, nE, nL, nT, nN, iL, iT, iE, iA, iM, iS, iG, iB, iN, iZ, h]) (rfl)
noncomputable def s166 : SP Tryz.prog := mkS tyA 166 Tryz.f166 [s176] { md := [.ro 1, .ro 1], rets := some ([4], []) } Tryz.func166 (by kernel_rfl)
@[go_sem] theorem d166 : s166.g = 166 ∧ s166.fs = ⟨[.ro 1, .ro 1], s166.F, false⟩ := ⟨nr rfl, nr rfl⟩
@[go_sem] theorem e166 (s : ByteArray) (c : UInt8) : s166.F [.s s, .i .u8 c.toNat] = some (.i .i64 (ixB s c), [.u, .u]) := mkS_eq (0) rfl rfl (fun cx h => by
  simp only [go_sem, reduceIte, ↓reduceIte, reduceCtorEq, nA, nS, nM, nB, nE, nL, nT, nN, iL, iT, iE, iA, iM, iS, iG, iB, iN, iZ, h]) (rfl)
noncomputable def s165 : SP Tryz.prog := mkS tyA 165 Tryz.f165 [s163, s164, s166] { md := [.ro 1], rets := some ([2], []) } Tryz.func165 (by kernel_rfl)
@[go_sem] theorem d165 : s165.g = 165 ∧ s165.fs = ⟨[.ro 1], s165.F, false⟩ := ⟨nr rfl, nr rfl⟩
@[go_sem] theorem e165 (c : UInt8) : s165.F [.i .u8 c.toNat] = some (.b (wordB c), [.u]) := mkS_eq (0) rfl rfl (fun cx h => by
  have hix := ixB_sym c
  have hu : wordB c = (letterB c || digitB c || symB.contains c) := rfl
  cases h1 : letterB c <;> cases h2 : digitB c <;> cases h3 : symB.contains c <;> simp only [go_sem, reduceIte, ↓reduceIte, reduceCtorEq, nA, nS, nM, nB, nE, nL, nT, nN, iL, iT, iE, iA, iM, iS, iG, iB, iN, iZ, h, h1, h2, h3, hu, hix]) (rfl)
noncomputable def s177 : SP Tryz.prog := mkS tyA 177 Tryz.f177 [] { md := [.ro 1], rets := some ([2], []) } Tryz.func177 (by kernel_rfl)
@[go_sem] theorem d177 : s177.g = 177 ∧ s177.fs = ⟨[.ro 1], s177.F, false⟩ := ⟨nr rfl, nr rfl⟩
@[go_sem] theorem e177 (c : UInt8) : s177.F [.i .u8 c.toNat] = some (.b (plainB c), [.u]) := mkS_eq (0) rfl rfl (fun cx h => by
  cases h1 : ((c.toNat : Int) == 9) <;> by_cases h2 : 32 ≤ (c.toNat : Int) <;> by_cases h3 : (c.toNat : Int) ≤ 126 <;> simp only [go_sem, reduceIte, ↓reduceIte, reduceCtorEq, nA, nS, nM, nB, nE, nL, nT, nN, iL, iT, iE, iA, iM, iS, iG, iB, iN, iZ, h, h1, h2, h3, plainB]) (rfl)
noncomputable def s149 : SP Tryz.prog := mkS tyA 149 Tryz.f149 [s163, s164] { md := [.ro 1], rets := some ([2], []) } Tryz.func149 (by kernel_rfl)
@[go_sem] theorem d149 : s149.g = 149 ∧ s149.fs = ⟨[.ro 1], s149.F, false⟩ := ⟨nr rfl, nr rfl⟩
@[go_sem] theorem e149 (c : UInt8) : s149.F [.i .u8 c.toNat] = some (.b (hostB c), [.u]) := mkS_eq (0) rfl rfl (fun cx h => by
  cases h1 : letterB c <;> cases h2 : digitB c <;> cases h3 : ((c.toNat : Int) == 46) <;> cases h4 : ((c.toNat : Int) == 45) <;> simp only [go_sem, reduceIte, ↓reduceIte, reduceCtorEq, nA, nS, nM, nB, nE, nL, nT, nN, iL, iT, iE, iA, iM, iS, iG, iB, iN, iZ, h, h1, h2, h3, h4, hostB]) (rfl)
noncomputable def s150 : SP Tryz.prog := mkS tyA 150 Tryz.f150 [s165, s166] { md := [.ro 1], rets := some ([2], []) } Tryz.func150 (by kernel_rfl)
@[go_sem] theorem d150 : s150.g = 150 ∧ s150.fs = ⟨[.ro 1], s150.F, false⟩ := ⟨nr rfl, nr rfl⟩
@[go_sem] theorem e150 (c : UInt8) : s150.F [.i .u8 c.toNat] = some (.b (pathB c), [.u]) := mkS_eq (0) rfl rfl (fun cx h => by
  have hix := ixB_psym c
  have hu : pathB c = (wordB c || pSymB.contains c) := rfl
  cases h1 : wordB c <;> cases h3 : pSymB.contains c <;> simp only [go_sem, reduceIte, ↓reduceIte, reduceCtorEq, nA, nS, nM, nB, nE, nL, nT, nN, iL, iT, iE, iA, iM, iS, iG, iB, iN, iZ, h, h1, h3, hu, hix]) (rfl)
noncomputable def s148 : SP Tryz.prog := mkS tyA 148 Tryz.f148 [s149, s150, s164, s165, s177] { md := [.ro 1, .ro 1, .ro 1, .ro 1], rg := [(0, [0, 1, 2, 3], []), (1, [0, 3, 19], []), (2, [8], []), (3, [0, 3, 21, 22], []), (4, [0, 3, 21, 22, 23], []), (5, [0, 3, 9, 21, 22], []), (6, [0, 3, 21, 22, 30], []), (7, [8], []), (8, [0, 3, 21, 22], []), (9, [8], [])], lv := [(0, [0, 3, 21, 22], [])], out := [(0, [], [])], rets := some ([8], []) } Tryz.func148 (by kernel_rfl)
@[go_sem] theorem d148 : s148.g = 148 ∧ s148.fs = ⟨[.ro 1, .ro 1, .ro 1, .ro 1], s148.F, false⟩ := ⟨nr rfl, nr rfl⟩
@[go_sem] theorem e148_165 (t : ByteArray) (lo hi : Int) (hb : hi ≤ 1000000) : s148.F [.s t, .i .i64 lo, .i .i64 hi, .fn 165 []] = some (.b (areB wordB lo hi t), [.u, .u, .u, .u]) := mkS_eq (t.data.toList.length + 1) rfl rfl (fun cx h => by
  by_cases h1 : (t.size : Int) < lo
  · simp only [go_sem, reduceIte, ↓reduceIte, reduceCtorEq, nA, nS, nM, nB, nE, nL, nT, nN, iL, iT, iE, iA, iM, iS, iG, iB, iN, iZ, h, h1, areB_short h1]
  by_cases h2 : hi < (t.size : Int)
  · simp only [go_sem, reduceIte, ↓reduceIte, reduceCtorEq, nA, nS, nM, nB, nE, nL, nT, nN, iL, iT, iE, iA, iM, iS, iG, iB, iN, iZ, h, h1, h2, areB_long h2]
  have hx : t.data.toList.length ≤ 9223372036854775806 := by rw [← str_size]; omega
  have ha := areB_all (p := wordB) h1 h2
  rw [str_size t] at h1 h2
  · have hb0 := loopN_eq Tryz.f148 0 _ _ rfl rfl
    obtain ⟨r, hr, hq⟩ := loop_srch (cx := cx) (blk := 0) (body := loopN Tryz.f148 0) t.data.toList (fun k (s : Unit) => ⟨E [(0, .s t), (3, .fn 165 []), (21, .i .i64 t.size), (22, .i .i64 k)], B []⟩) (fun s => ⟨E [], B []⟩) (fun x s => !wordB x) (fun x s => ()) (fun x s => (.ret, ⟨E [(8, .b false)], B []⟩)) (fun k s => True)
        (fun s hI G => by simp only [go_sem, reduceIte, ↓reduceIte, reduceCtorEq, nA, nS, nM, nB, nE, nL, nT, nN, iL, iT, iE, iA, iM, iS, iG, iB, iN, iZ, h, Int.lt_irrefl, hb0, str_size t]) (fun k hk s hI => by
          have h1 : ((k : Int) < (t.data.toList.length : Int)) := Int.ofNat_lt.2 hk
          have hz := str_at t k hk
          exact ⟨_, _, _, fun G => by simp only [go_sem, reduceIte, ↓reduceIte, reduceCtorEq, nA, nS, nM, nB, nE, nL, nT, nN, iL, iT, iE, iA, iM, iS, iG, iB, iN, iZ, h, hz, str_size t, h1, idx_nt _ _ hk, wrap_nat1 (show k < 9223372036854775807 by omega), hb0] <;> with_reducible rfl, Iff.rfl, fun hc => ⟨trivial, by simp only [go_sem, reduceIte, ↓reduceIte, reduceCtorEq, nA, nS, nM, nB, nE, nL, nT, nN, iL, iT, iE, iA, iM, iS, iG, iB, iN, iZ, h, str_size t]⟩⟩) () trivial (t.data.toList.length + 1) (Nat.le_refl _)
    rw [hb0] at hr
    rcases hq with ⟨s', e1, _, e3⟩ | ⟨x, s', e1, e3⟩
    · simp only [go_sem, reduceIte, ↓reduceIte, reduceCtorEq, nA, nS, nM, nB, nE, nL, nT, nN, iL, iT, iE, iA, iM, iS, iG, iB, iN, iZ, h, h1, h2, str_size t, hr, e3, ha, runS_all e1]
    · simp only [go_sem, reduceIte, ↓reduceIte, reduceCtorEq, nA, nS, nM, nB, nE, nL, nT, nN, iL, iT, iE, iA, iM, iS, iG, iB, iN, iZ, h, h1, h2, str_size t, hr, e3, ha, runS_all' e1]) (rfl)
@[go_sem] theorem e148_177 (t : ByteArray) (lo hi : Int) (hb : hi ≤ 1000000) : s148.F [.s t, .i .i64 lo, .i .i64 hi, .fn 177 []] = some (.b (areB plainB lo hi t), [.u, .u, .u, .u]) := mkS_eq (t.data.toList.length + 1) rfl rfl (fun cx h => by
  by_cases h1 : (t.size : Int) < lo
  · simp only [go_sem, reduceIte, ↓reduceIte, reduceCtorEq, nA, nS, nM, nB, nE, nL, nT, nN, iL, iT, iE, iA, iM, iS, iG, iB, iN, iZ, h, h1, areB_short h1]
  by_cases h2 : hi < (t.size : Int)
  · simp only [go_sem, reduceIte, ↓reduceIte, reduceCtorEq, nA, nS, nM, nB, nE, nL, nT, nN, iL, iT, iE, iA, iM, iS, iG, iB, iN, iZ, h, h1, h2, areB_long h2]
  have hx : t.data.toList.length ≤ 9223372036854775806 := by rw [← str_size]; omega
  have ha := areB_all (p := plainB) h1 h2
  rw [str_size t] at h1 h2
  · have hb0 := loopN_eq Tryz.f148 0 _ _ rfl rfl
    obtain ⟨r, hr, hq⟩ := loop_srch (cx := cx) (blk := 0) (body := loopN Tryz.f148 0) t.data.toList (fun k (s : Unit) => ⟨E [(0, .s t), (3, .fn 177 []), (21, .i .i64 t.size), (22, .i .i64 k)], B []⟩) (fun s => ⟨E [], B []⟩) (fun x s => !plainB x) (fun x s => ()) (fun x s => (.ret, ⟨E [(8, .b false)], B []⟩)) (fun k s => True)
        (fun s hI G => by simp only [go_sem, reduceIte, ↓reduceIte, reduceCtorEq, nA, nS, nM, nB, nE, nL, nT, nN, iL, iT, iE, iA, iM, iS, iG, iB, iN, iZ, h, Int.lt_irrefl, hb0, str_size t]) (fun k hk s hI => by
          have h1 : ((k : Int) < (t.data.toList.length : Int)) := Int.ofNat_lt.2 hk
          have hz := str_at t k hk
          exact ⟨_, _, _, fun G => by simp only [go_sem, reduceIte, ↓reduceIte, reduceCtorEq, nA, nS, nM, nB, nE, nL, nT, nN, iL, iT, iE, iA, iM, iS, iG, iB, iN, iZ, h, hz, str_size t, h1, idx_nt _ _ hk, wrap_nat1 (show k < 9223372036854775807 by omega), hb0] <;> with_reducible rfl, Iff.rfl, fun hc => ⟨trivial, by simp only [go_sem, reduceIte, ↓reduceIte, reduceCtorEq, nA, nS, nM, nB, nE, nL, nT, nN, iL, iT, iE, iA, iM, iS, iG, iB, iN, iZ, h, str_size t]⟩⟩) () trivial (t.data.toList.length + 1) (Nat.le_refl _)
    rw [hb0] at hr
    rcases hq with ⟨s', e1, _, e3⟩ | ⟨x, s', e1, e3⟩
    · simp only [go_sem, reduceIte, ↓reduceIte, reduceCtorEq, nA, nS, nM, nB, nE, nL, nT, nN, iL, iT, iE, iA, iM, iS, iG, iB, iN, iZ, h, h1, h2, str_size t, hr, e3, ha, runS_all e1]
    · simp only [go_sem, reduceIte, ↓reduceIte, reduceCtorEq, nA, nS, nM, nB, nE, nL, nT, nN, iL, iT, iE, iA, iM, iS, iG, iB, iN, iZ, h, h1, h2, str_size t, hr, e3, ha, runS_all' e1]) (rfl)
@[go_sem] theorem e148_149 (t : ByteArray) (lo hi : Int) (hb : hi ≤ 1000000) : s148.F [.s t, .i .i64 lo, .i .i64 hi, .fn 149 []] = some (.b (areB hostB lo hi t), [.u, .u, .u, .u]) := mkS_eq (t.data.toList.length + 1) rfl rfl (fun cx h => by
  by_cases h1 : (t.size : Int) < lo
  · simp only [go_sem, reduceIte, ↓reduceIte, reduceCtorEq, nA, nS, nM, nB, nE, nL, nT, nN, iL, iT, iE, iA, iM, iS, iG, iB, iN, iZ, h, h1, areB_short h1]
  by_cases h2 : hi < (t.size : Int)
  · simp only [go_sem, reduceIte, ↓reduceIte, reduceCtorEq, nA, nS, nM, nB, nE, nL, nT, nN, iL, iT, iE, iA, iM, iS, iG, iB, iN, iZ, h, h1, h2, areB_long h2]
  have hx : t.data.toList.length ≤ 9223372036854775806 := by rw [← str_size]; omega
  have ha := areB_all (p := hostB) h1 h2
  rw [str_size t] at h1 h2
  · have hb0 := loopN_eq Tryz.f148 0 _ _ rfl rfl
    obtain ⟨r, hr, hq⟩ := loop_srch (cx := cx) (blk := 0) (body := loopN Tryz.f148 0) t.data.toList (fun k (s : Unit) => ⟨E [(0, .s t), (3, .fn 149 []), (21, .i .i64 t.size), (22, .i .i64 k)], B []⟩) (fun s => ⟨E [], B []⟩) (fun x s => !hostB x) (fun x s => ()) (fun x s => (.ret, ⟨E [(8, .b false)], B []⟩)) (fun k s => True)
        (fun s hI G => by simp only [go_sem, reduceIte, ↓reduceIte, reduceCtorEq, nA, nS, nM, nB, nE, nL, nT, nN, iL, iT, iE, iA, iM, iS, iG, iB, iN, iZ, h, Int.lt_irrefl, hb0, str_size t]) (fun k hk s hI => by
          have h1 : ((k : Int) < (t.data.toList.length : Int)) := Int.ofNat_lt.2 hk
          have hz := str_at t k hk
          exact ⟨_, _, _, fun G => by simp only [go_sem, reduceIte, ↓reduceIte, reduceCtorEq, nA, nS, nM, nB, nE, nL, nT, nN, iL, iT, iE, iA, iM, iS, iG, iB, iN, iZ, h, hz, str_size t, h1, idx_nt _ _ hk, wrap_nat1 (show k < 9223372036854775807 by omega), hb0] <;> with_reducible rfl, Iff.rfl, fun hc => ⟨trivial, by simp only [go_sem, reduceIte, ↓reduceIte, reduceCtorEq, nA, nS, nM, nB, nE, nL, nT, nN, iL, iT, iE, iA, iM, iS, iG, iB, iN, iZ, h, str_size t]⟩⟩) () trivial (t.data.toList.length + 1) (Nat.le_refl _)
    rw [hb0] at hr
    rcases hq with ⟨s', e1, _, e3⟩ | ⟨x, s', e1, e3⟩
    · simp only [go_sem, reduceIte, ↓reduceIte, reduceCtorEq, nA, nS, nM, nB, nE, nL, nT, nN, iL, iT, iE, iA, iM, iS, iG, iB, iN, iZ, h, h1, h2, str_size t, hr, e3, ha, runS_all e1]
    · simp only [go_sem, reduceIte, ↓reduceIte, reduceCtorEq, nA, nS, nM, nB, nE, nL, nT, nN, iL, iT, iE, iA, iM, iS, iG, iB, iN, iZ, h, h1, h2, str_size t, hr, e3, ha, runS_all' e1]) (rfl)
@[go_sem] theorem e148_150 (t : ByteArray) (lo hi : Int) (hb : hi ≤ 1000000) : s148.F [.s t, .i .i64 lo, .i .i64 hi, .fn 150 []] = some (.b (areB pathB lo hi t), [.u, .u, .u, .u]) := mkS_eq (t.data.toList.length + 1) rfl rfl (fun cx h => by
  by_cases h1 : (t.size : Int) < lo
  · simp only [go_sem, reduceIte, ↓reduceIte, reduceCtorEq, nA, nS, nM, nB, nE, nL, nT, nN, iL, iT, iE, iA, iM, iS, iG, iB, iN, iZ, h, h1, areB_short h1]
  by_cases h2 : hi < (t.size : Int)
  · simp only [go_sem, reduceIte, ↓reduceIte, reduceCtorEq, nA, nS, nM, nB, nE, nL, nT, nN, iL, iT, iE, iA, iM, iS, iG, iB, iN, iZ, h, h1, h2, areB_long h2]
  have hx : t.data.toList.length ≤ 9223372036854775806 := by rw [← str_size]; omega
  have ha := areB_all (p := pathB) h1 h2
  rw [str_size t] at h1 h2
  · have hb0 := loopN_eq Tryz.f148 0 _ _ rfl rfl
    obtain ⟨r, hr, hq⟩ := loop_srch (cx := cx) (blk := 0) (body := loopN Tryz.f148 0) t.data.toList (fun k (s : Unit) => ⟨E [(0, .s t), (3, .fn 150 []), (21, .i .i64 t.size), (22, .i .i64 k)], B []⟩) (fun s => ⟨E [], B []⟩) (fun x s => !pathB x) (fun x s => ()) (fun x s => (.ret, ⟨E [(8, .b false)], B []⟩)) (fun k s => True)
        (fun s hI G => by simp only [go_sem, reduceIte, ↓reduceIte, reduceCtorEq, nA, nS, nM, nB, nE, nL, nT, nN, iL, iT, iE, iA, iM, iS, iG, iB, iN, iZ, h, Int.lt_irrefl, hb0, str_size t]) (fun k hk s hI => by
          have h1 : ((k : Int) < (t.data.toList.length : Int)) := Int.ofNat_lt.2 hk
          have hz := str_at t k hk
          exact ⟨_, _, _, fun G => by simp only [go_sem, reduceIte, ↓reduceIte, reduceCtorEq, nA, nS, nM, nB, nE, nL, nT, nN, iL, iT, iE, iA, iM, iS, iG, iB, iN, iZ, h, hz, str_size t, h1, idx_nt _ _ hk, wrap_nat1 (show k < 9223372036854775807 by omega), hb0] <;> with_reducible rfl, Iff.rfl, fun hc => ⟨trivial, by simp only [go_sem, reduceIte, ↓reduceIte, reduceCtorEq, nA, nS, nM, nB, nE, nL, nT, nN, iL, iT, iE, iA, iM, iS, iG, iB, iN, iZ, h, str_size t]⟩⟩) () trivial (t.data.toList.length + 1) (Nat.le_refl _)
    rw [hb0] at hr
    rcases hq with ⟨s', e1, _, e3⟩ | ⟨x, s', e1, e3⟩
    · simp only [go_sem, reduceIte, ↓reduceIte, reduceCtorEq, nA, nS, nM, nB, nE, nL, nT, nN, iL, iT, iE, iA, iM, iS, iG, iB, iN, iZ, h, h1, h2, str_size t, hr, e3, ha, runS_all e1]
    · simp only [go_sem, reduceIte, ↓reduceIte, reduceCtorEq, nA, nS, nM, nB, nE, nL, nT, nN, iL, iT, iE, iA, iM, iS, iG, iB, iN, iZ, h, h1, h2, str_size t, hr, e3, ha, runS_all' e1]) (rfl)
@[go_sem] theorem e148_164 (t : ByteArray) (lo hi : Int) (hb : hi ≤ 1000000) : s148.F [.s t, .i .i64 lo, .i .i64 hi, .fn 164 []] = some (.b (areB digitB lo hi t), [.u, .u, .u, .u]) := mkS_eq (t.data.toList.length + 1) rfl rfl (fun cx h => by
  by_cases h1 : (t.size : Int) < lo
  · simp only [go_sem, reduceIte, ↓reduceIte, reduceCtorEq, nA, nS, nM, nB, nE, nL, nT, nN, iL, iT, iE, iA, iM, iS, iG, iB, iN, iZ, h, h1, areB_short h1]
  by_cases h2 : hi < (t.size : Int)
  · simp only [go_sem, reduceIte, ↓reduceIte, reduceCtorEq, nA, nS, nM, nB, nE, nL, nT, nN, iL, iT, iE, iA, iM, iS, iG, iB, iN, iZ, h, h1, h2, areB_long h2]
  have hx : t.data.toList.length ≤ 9223372036854775806 := by rw [← str_size]; omega
  have ha := areB_all (p := digitB) h1 h2
  rw [str_size t] at h1 h2
  · have hb0 := loopN_eq Tryz.f148 0 _ _ rfl rfl
    obtain ⟨r, hr, hq⟩ := loop_srch (cx := cx) (blk := 0) (body := loopN Tryz.f148 0) t.data.toList (fun k (s : Unit) => ⟨E [(0, .s t), (3, .fn 164 []), (21, .i .i64 t.size), (22, .i .i64 k)], B []⟩) (fun s => ⟨E [], B []⟩) (fun x s => !digitB x) (fun x s => ()) (fun x s => (.ret, ⟨E [(8, .b false)], B []⟩)) (fun k s => True)
        (fun s hI G => by simp only [go_sem, reduceIte, ↓reduceIte, reduceCtorEq, nA, nS, nM, nB, nE, nL, nT, nN, iL, iT, iE, iA, iM, iS, iG, iB, iN, iZ, h, Int.lt_irrefl, hb0, str_size t]) (fun k hk s hI => by
          have h1 : ((k : Int) < (t.data.toList.length : Int)) := Int.ofNat_lt.2 hk
          have hz := str_at t k hk
          exact ⟨_, _, _, fun G => by simp only [go_sem, reduceIte, ↓reduceIte, reduceCtorEq, nA, nS, nM, nB, nE, nL, nT, nN, iL, iT, iE, iA, iM, iS, iG, iB, iN, iZ, h, hz, str_size t, h1, idx_nt _ _ hk, wrap_nat1 (show k < 9223372036854775807 by omega), hb0] <;> with_reducible rfl, Iff.rfl, fun hc => ⟨trivial, by simp only [go_sem, reduceIte, ↓reduceIte, reduceCtorEq, nA, nS, nM, nB, nE, nL, nT, nN, iL, iT, iE, iA, iM, iS, iG, iB, iN, iZ, h, str_size t]⟩⟩) () trivial (t.data.toList.length + 1) (Nat.le_refl _)
    rw [hb0] at hr
    rcases hq with ⟨s', e1, _, e3⟩ | ⟨x, s', e1, e3⟩
    · simp only [go_sem, reduceIte, ↓reduceIte, reduceCtorEq, nA, nS, nM, nB, nE, nL, nT, nN, iL, iT, iE, iA, iM, iS, iG, iB, iN, iZ, h, h1, h2, str_size t, hr, e3, ha, runS_all e1]
    · simp only [go_sem, reduceIte, ↓reduceIte, reduceCtorEq, nA, nS, nM, nB, nE, nL, nT, nN, iL, iT, iE, iA, iM, iS, iG, iB, iN, iZ, h, h1, h2, str_size t, hr, e3, ha, runS_all' e1]) (rfl)
noncomputable def s123 : SP Tryz.prog := mkS tyA 123 Tryz.f123 [s148, s149] { md := [.ro 1], rets := some ([2], []) } Tryz.func123 (by kernel_rfl)
@[go_sem] theorem d123 : s123.g = 123 ∧ s123.fs = ⟨[.ro 1], s123.F, false⟩ := ⟨nr rfl, nr rfl⟩
@[go_sem] theorem e123 (t : ByteArray) : s123.F [.s t] = some (.b (isHost t), [.u]) := mkS_eq (0) rfl rfl (fun cx h => by
  simp only [go_sem, reduceIte, ↓reduceIte, reduceCtorEq, nA, nS, nM, nB, nE, nL, nT, nN, iL, iT, iE, iA, iM, iS, iG, iB, iN, iZ, h, isHost]) (rfl)
noncomputable def s124 : SP Tryz.prog := mkS tyA 124 Tryz.f124 [s148, s150] { md := [.ro 1], rets := some ([2], []) } Tryz.func124 (by kernel_rfl)
@[go_sem] theorem d124 : s124.g = 124 ∧ s124.fs = ⟨[.ro 1], s124.F, false⟩ := ⟨nr rfl, nr rfl⟩
@[go_sem] theorem e124 (t : ByteArray) : s124.F [.s t] = some (.b (isPath t), [.u]) := mkS_eq (0) rfl rfl (fun cx h => by
  have hu : isPath t = (areB pathB 1 100 t && (((t.data[0]?.getD 0).toNat : Int) == 47)) := rfl
  cases h1 : areB pathB 1 100 t
  · simp only [go_sem, reduceIte, ↓reduceIte, reduceCtorEq, nA, nS, nM, nB, nE, nL, nT, nN, iL, iT, iE, iA, iM, iS, iG, iB, iN, iZ, h, h1, hu]
  have hi : idx? t.size 0 = some 0 := idx_nt t.size 0 (areB_nil h1)
  cases h2 : (((t.data[0]?.getD 0).toNat : Int) == 47) <;> simp only [go_sem, reduceIte, ↓reduceIte, reduceCtorEq, nA, nS, nM, nB, nE, nL, nT, nN, iL, iT, iE, iA, iM, iS, iG, iB, iN, iZ, h, h1, h2, hi, hu]) (rfl)
noncomputable def s167 : SP Tryz.prog := mkS tyA 167 Tryz.f167 [s148, s165] { md := [.ro 1], rets := some ([2], []) } Tryz.func167 (by kernel_rfl)
@[go_sem] theorem d167 : s167.g = 167 ∧ s167.fs = ⟨[.ro 1], s167.F, false⟩ := ⟨nr rfl, nr rfl⟩
@[go_sem] theorem e167 (t : ByteArray) : s167.F [.s t] = some (.b (isWord t), [.u]) := mkS_eq (0) rfl rfl (fun cx h => by
  simp only [go_sem, reduceIte, ↓reduceIte, reduceCtorEq, nA, nS, nM, nB, nE, nL, nT, nN, iL, iT, iE, iA, iM, iS, iG, iB, iN, iZ, h, isWord]) (rfl)
noncomputable def s168 : SP Tryz.prog := mkS tyA 168 Tryz.f168 [s148, s177] { md := [.ro 1], rets := some ([2], []) } Tryz.func168 (by kernel_rfl)
@[go_sem] theorem d168 : s168.g = 168 ∧ s168.fs = ⟨[.ro 1], s168.F, false⟩ := ⟨nr rfl, nr rfl⟩
@[go_sem] theorem e168 (t : ByteArray) (h0 : (t.size : Int) ≤ 1000000) : s168.F [.s t] = some (.b (areP t), [.u]) := mkS_eq (0) rfl rfl (fun cx h => by
  simp only [go_sem, reduceIte, ↓reduceIte, reduceCtorEq, nA, nS, nM, nB, nE, nL, nT, nN, iL, iT, iE, iA, iM, iS, iG, iB, iN, iZ, h, h0, areP_eq]) (rfl)
noncomputable def s169 : SP Tryz.prog := ⟨169, ⟨[.ro 1, .ro 1], trimF, false⟩, trim_ok Tryz.func169 (by kernel_rfl) rfl Go.Proofs.Tryz.trimSpTab⟩
@[go_sem] theorem d169 : s169.g = 169 ∧ s169.fs = ⟨[.ro 1, .ro 1], s169.F, false⟩ := ⟨nr rfl, nr rfl⟩
@[go_sem] theorem e169 (x : ByteArray) (h0 : x.size ≤ 9223372036854775807) : s169.F [.s x, .s ⟨#[32, 9]⟩] = some (.s (trimB x), [.u, .u]) := by
  show trimF [.s x, .s ⟨#[32, 9]⟩] = _
  have hc : (⟨#[32, 9]⟩ : ByteArray).data.toList = [32, 9] ∧ x.size ≤ 9223372036854775807 := ⟨rfl, h0⟩
  exact if_pos hc
noncomputable def s151 : SP Tryz.prog := mkS tyA 151 Tryz.f151 [s167, s168, s169] { md := [.ro 1], rg := [(0, [1], [1]), (1, [1, 3], [1]), (2, [2], []), (3, [1, 8], [1]), (4, [2], []), (5, [13], []), (6, [2], []), (7, [2], [])], rets := some ([2], []), plan := [(5, (.take 0 (.take 1 (.one 2 (.take 3 (.take 4 (.take 5 (.take 6 (.take 8 (.take 9 (.one 7 (.take 10 (.take 11 (.one 12 .done))))))))))))))] } Tryz.func151 (by kernel_rfl)
@[go_sem] theorem d151 : s151.g = 151 ∧ s151.fs = ⟨[.ro 1], s151.F, false⟩ := ⟨nr rfl, nr rfl⟩
@[go_sem] theorem e151 (xName : ByteArray) (xValue : ByteArray) : s151.F [.agg [.s xName, .s xValue]] = some (.i .i64 (headerCode (Header.mk xName xValue)), [.u]) := mkS_eq (0) rfl rfl (fun cx h => by
  cases h1 : isWord xName
  · simp only [go_sem, reduceIte, ↓reduceIte, reduceCtorEq, nA, nS, nM, nB, nE, nL, nT, nN, iL, iT, iE, iA, iM, iS, iG, iB, iN, iZ, h, h1, headerCode]
  by_cases h2 : 200 < (xValue.size : Int)
  · simp only [go_sem, reduceIte, ↓reduceIte, reduceCtorEq, nA, nS, nM, nB, nE, nL, nT, nN, iL, iT, iE, iA, iM, iS, iG, iB, iN, iZ, h, h1, h2, headerCode]
  have h3 : (xValue.size : Int) ≤ 1000000 := by omega
  have h4 : xValue.size ≤ 9223372036854775806 := by omega
  have h5 : xValue.size ≤ 9223372036854775807 := by omega
  cases h6 : areP xValue
  · simp only [go_sem, reduceIte, ↓reduceIte, reduceCtorEq, nA, nS, nM, nB, nE, nL, nT, nN, iL, iT, iE, iA, iM, iS, iG, iB, iN, iZ, h, h1, h2, h3, h4, h5, h6, headerCode]
  cases h7 : eqv (trimB xValue) xValue <;> simp only [go_sem, reduceIte, ↓reduceIte, reduceCtorEq, nA, nS, nM, nB, nE, nL, nT, nN, iL, iT, iE, iA, iM, iS, iG, iB, iN, iZ, h, h1, h2, h3, h4, h5, h6, h7, eqv_bytes, eqv_boolne, bne, headerCode]) (rfl)
noncomputable def s125 : SP Tryz.prog := mkS tyA 125 Tryz.f125 [s151] { md := [.ro 1], rg := [(0, [0], []), (1, [0, 8], []), (2, [2], []), (3, [0, 9, 10, 11], []), (4, [0, 9, 10, 11, 12], []), (5, [0, 4, 9, 10, 11], [4]), (6, [0, 5, 9, 10, 11], []), (7, [0, 5, 9, 10, 11, 18], []), (8, [2], []), (9, [0, 9, 10, 11], []), (10, [2], [])], lv := [(0, [0, 9, 10, 11], [])], out := [(0, [], [])], rets := some ([2], []) } Tryz.func125 (by kernel_rfl)
@[go_sem] theorem d125 : s125.g = 125 ∧ s125.fs = ⟨[.ro 1], s125.F, false⟩ := ⟨nr rfl, nr rfl⟩
@[go_sem] theorem e125 (hs : List Header) : s125.F [.sl .ro 2 (hs.map (rHeader .ro))] = some (.i .i64 (headersFault hs), [.u]) := mkS_eq (hs.length + 1) rfl rfl (fun cx h => by
  by_cases h1 : 20 < (hs.length : Int)
  · simp only [go_sem, reduceIte, ↓reduceIte, reduceCtorEq, nA, nS, nM, nB, nE, nL, nT, nN, iL, iT, iE, iA, iM, iS, iG, iB, iN, iZ, h, h1, headersFault]
  have hx : hs.length ≤ 9223372036854775806 := by omega
  have hb0 := loopN_eq Tryz.f125 0 _ _ rfl rfl
  obtain ⟨r, hr, hq⟩ := loop_srch (cx := cx) (blk := 0) (body := loopN Tryz.f125 0) hs (fun k (s : Unit) => ⟨E [(0, .sl .ro 2 (hs.map (rHeader .ro))), (9, .sl .ro 2 (hs.map (rHeader .ro))), (10, .i .i64 hs.length), (11, .i .i64 k)], B []⟩) (fun s => ⟨E [], B []⟩) (fun x s => headerCode x != 0) (fun x s => ()) (fun x s => (.ret, ⟨E [(2, .i .i64 (headerCode x))], B []⟩)) (fun k s => True)
      (fun s hI G => by simp only [go_sem, reduceIte, ↓reduceIte, reduceCtorEq, nA, nS, nM, nB, nE, nL, nT, nN, iL, iT, iE, iA, iM, iS, iG, iB, iN, iZ, h, Int.lt_irrefl, hb0, hx]) (fun k hk s hI => by
        have h1 : ((k : Int) < (hs.length : Int)) := Int.ofNat_lt.2 hk
        exact ⟨_, _, _, fun G => by simp only [go_sem, reduceIte, ↓reduceIte, reduceCtorEq, nA, nS, nM, nB, nE, nL, nT, nN, iL, iT, iE, iA, iM, iS, iG, iB, iN, iZ, h, map_gd (rHeader .ro) hs _ hk, rHeader, h1, idx_nt _ _ hk, wrap_nat1 (show k < 9223372036854775807 by omega), hb0] <;> with_reducible rfl, Iff.rfl, fun hc => ⟨trivial, by simp only [go_sem, reduceIte, ↓reduceIte, reduceCtorEq, nA, nS, nM, nB, nE, nL, nT, nN, iL, iT, iE, iA, iM, iS, iG, iB, iN, iZ, h]⟩⟩) () trivial (hs.length + 1) (Nat.le_refl _)
  rw [hb0] at hr
  rcases hq with ⟨s', e1, _, e3⟩ | ⟨x, s', e1, e3⟩
  · simp only [go_sem, reduceIte, ↓reduceIte, reduceCtorEq, nA, nS, nM, nB, nE, nL, nT, nN, iL, iT, iE, iA, iM, iS, iG, iB, iN, iZ, h, h1, hr, e3, headersFault, firstI_inl e1]
  · simp only [go_sem, reduceIte, ↓reduceIte, reduceCtorEq, nA, nS, nM, nB, nE, nL, nT, nN, iL, iT, iE, iA, iM, iS, iG, iB, iN, iZ, h, h1, hr, e3, headersFault, firstI_inr e1]) (rfl)
noncomputable def s170 : SP Tryz.prog := mkS tyA 170 Tryz.f170 [] { md := [.ro 1], rg := [(0, [0], []), (1, [3], []), (2, [3, 8, 9, 10], []), (3, [3, 8, 9, 10, 11], []), (4, [3, 4, 5, 8, 9, 10], []), (5, [3, 4, 5, 8, 9, 10, 20], []), (6, [3, 8, 9, 10], []), (7, [3, 8, 9, 10], []), (8, [2], [])], lv := [(0, [3, 8, 9, 10], [])], out := [(0, [3], [])], rets := some ([2], []) } Tryz.func170 (by kernel_rfl)
@[go_sem] theorem d170 : s170.g = 170 ∧ s170.fs = ⟨[.ro 1], s170.F, false⟩ := ⟨nr rfl, nr rfl⟩
@[go_sem] theorem e170 (t : ByteArray) (h0 : t.size ≤ 9223372036854775806) : s170.F [.s t] = some (.s (lowS t), [.u]) := mkS_eq (t.data.toList.length + 1) rfl rfl (fun cx h => by
  have hz : t.data.toList.length ≤ 9223372036854775807 := by rw [← str_size]; omega
  have hx : t.data.toList.length ≤ 9223372036854775806 := by rw [← str_size]; exact h0
  have hb0 := loopN_eq Tryz.f170 0 _ _ rfl rfl
  obtain ⟨hI, hr⟩ := loop_fold (cx := cx) (blk := 0) (body := loopN Tryz.f170 0) t.data.toList (fun k (s : Unit) => ⟨E [(3, .sl .mut 1 ((lowUp t.data.toList k).map rByte)), (8, .rf ⟨true, 3, [], 0⟩ 1 0 t.data.toList.length), (9, .i .i64 t.data.toList.length), (10, .i .i64 k)], B []⟩) (fun s => ⟨E [(3, .sl .mut 1 ((t.data.toList.map lowB).map rByte))], B []⟩) (fun x s => s) (fun k s => True)
      (fun s hI G => by simp only [go_sem, reduceIte, ↓reduceIte, reduceCtorEq, nA, nS, nM, nB, nE, nL, nT, nN, iL, iT, iE, iA, iM, iS, iG, iB, iN, iZ, h, Int.lt_irrefl, hb0, lowUp_len t.data.toList t.data.toList.length (Nat.le_refl _), lowUp_all t.data.toList, List.length_map]) (fun k hk s hI => by
        have h1 : ((k : Int) < (t.data.toList.length : Int)) := Int.ofNat_lt.2 hk
        have g1 := lowUp_gd t.data.toList k hk
        have g2 := lowUp_g t.data.toList k hk
        have g3 := lowUp_len t.data.toList k (Nat.le_of_lt hk)
        have g4 : (List.take t.data.toList.length ((lowUp t.data.toList k).map rByte)) = (lowUp t.data.toList k).map rByte := List.take_of_length_le (by rw [List.length_map, g3]; exact Nat.le_refl _)
        rcases lowStep t.data.toList k hk with ⟨a1, a2, w1, w2, hs, hv⟩ | ⟨a1, a2, w1, w2, hs, hv⟩ | ⟨a1, a2, w1, w2, hs, hv⟩
        all_goals exact ⟨trivial, _, fun G => by simp only [go_sem, reduceIte, ↓reduceIte, reduceCtorEq, nA, nS, nM, nB, nE, nL, nT, nN, iL, iT, iE, iA, iM, iS, iG, iB, iN, iZ, h, g1, g2, g3, g4, a1, a2, w1, w2, hs, List.length_map, h1, idx_nt _ _ hk, wrap_nat1 (show k < 9223372036854775807 by omega), hb0] <;> with_reducible rfl, by simp only [go_sem, reduceIte, ↓reduceIte, reduceCtorEq, nA, nS, nM, nB, nE, nL, nT, nN, iL, iT, iE, iA, iM, iS, iG, iB, iN, iZ, h, hv]⟩) () trivial (t.data.toList.length + 1) (Nat.le_refl _)
  rw [hb0] at hr
  rw [lowUp_zero] at hr
  simp only [go_sem, reduceIte, ↓reduceIte, reduceCtorEq, nA, nS, nM, nB, nE, nL, nT, nN, iL, iT, iE, iA, iM, iS, iG, iB, iN, iZ, h, hz, hr, str_size t, lowS]) (rfl)
noncomputable def s152 : SP Tryz.prog := mkS tyA 152 Tryz.f152 [s170] { md := [.ro 1, .ro 1], rets := some ([4], []) } Tryz.func152 (by kernel_rfl)
@[go_sem] theorem d152 : s152.g = 152 ∧ s152.fs = ⟨[.ro 1, .ro 1], s152.F, false⟩ := ⟨nr rfl, nr rfl⟩
@[go_sem] theorem e152 (a : ByteArray) (b : ByteArray) (h0 : (a.size ≤ 9223372036854775806 ∧ b.size ≤ 9223372036854775806)) : s152.F [.s a, .s b] = some (.b (eqv (lowS a) (lowS b)), [.u, .u]) := mkS_eq (0) rfl rfl (fun cx h => by
  simp only [go_sem, reduceIte, ↓reduceIte, reduceCtorEq, nA, nS, nM, nB, nE, nL, nT, nN, iL, iT, iE, iA, iM, iS, iG, iB, iN, iZ, h, h0.1, h0.2, eqv_bytes]) (rfl)
theorem ffold {α β : Type} (p : α → Bool) (f : α → β) : ∀ (xs : List α) (acc : List β), xs.foldl (fun s x => if p x = true then s ++ [f x] else s) acc = acc ++ (xs.filter p).map f
  | [], acc => by simp
  | x :: xs, acc => by
    rw [List.foldl_cons, ffold p f xs, List.filter_cons]
    cases p x <;> simp
noncomputable def s126 : SP Tryz.prog := mkS tyA 126 Tryz.f126 [s152] { md := [.ro 1, .ro 1], rg := [(0, [0, 1], []), (1, [0, 1, 5], []), (2, [0, 1, 5, 9, 10, 11], []), (3, [0, 1, 5, 9, 10, 11, 12], []), (4, [0, 1, 5, 7, 9, 10, 11], [7]), (5, [0, 1, 5, 7, 9, 10, 11, 18], [7]), (6, [0, 1, 5, 9, 10, 11], []), (7, [0, 1, 5, 9, 10, 11], []), (8, [4], [])], lv := [(0, [0, 1, 5, 9, 10, 11], [])], out := [(0, [5], [])], rets := some ([4], []) } Tryz.func126 (by kernel_rfl)
@[go_sem] theorem d126 : s126.g = 126 ∧ s126.fs = ⟨[.ro 1, .ro 1], s126.F, false⟩ := ⟨nr rfl, nr rfl⟩
@[go_sem] theorem e126 (hs : List Header) (name : ByteArray) (h0 : (hs.length ≤ 20 ∧ smL smHeader hs ∧ okN name = true)) : s126.F [.sl .ro 2 (hs.map (rHeader .ro)), .s name] = some (.sl .mut 1 ((valsOf hs name).map rStr), [.u, .u]) := mkS_eq (hs.length + 1) rfl rfl (fun cx h => by
  have hl := h0.1
  have hx : hs.length ≤ 9223372036854775806 := by omega
  have hb0 := loopN_eq Tryz.f126 0 _ _ rfl rfl
  obtain ⟨hI, hr⟩ := loop_fold (cx := cx) (blk := 0) (body := loopN Tryz.f126 0) hs (fun k (s : List ByteArray) => ⟨E [(0, .sl .ro 2 (hs.map (rHeader .ro))), (1, .s name), (5, .sl .mut 1 (s.map rStr)), (9, .sl .ro 2 (hs.map (rHeader .ro))), (10, .i .i64 hs.length), (11, .i .i64 k)], B []⟩) (fun s => ⟨E [(5, .sl .mut 1 (s.map rStr))], B []⟩) (fun x s => (if eqv (lowS x.Name) (lowS name) = true then s ++ [x.Value] else s)) (fun k s => s.length ≤ k)
      (fun s hI G => by simp only [go_sem, reduceIte, ↓reduceIte, reduceCtorEq, nA, nS, nM, nB, nE, nL, nT, nN, iL, iT, iE, iA, iM, iS, iG, iB, iN, iZ, h, Int.lt_irrefl, hb0, h0.1]) (fun k hk s hI => by
        have h1 : ((k : Int) < (hs.length : Int)) := Int.ofNat_lt.2 hk
        have t3 : (s.length + 1) * 16 ≤ 140737488355328 := by omega
        have t4 : s.map rStr ++ [[.s hs[k].Value]] = (s ++ [hs[k].Value]).map rStr := by simp [rStr]
        obtain ⟨u1, u2⟩ := h0.2.1.2 _ (List.getElem_mem hk)
        have n1 : hs[k].Name.size ≤ 9223372036854775806 ∧ name.size ≤ 9223372036854775806 := ⟨by have : hs[k].Name.size ≤ 1048576 := u1; omega, of_decide_eq_true h0.2.2⟩
        cases d1 : eqv (lowS hs[k].Name) (lowS name)
        all_goals exact ⟨by split <;> (try simp only [List.length_append, List.length_cons, List.length_nil]) <;> omega, _, fun G => by simp only [go_sem, reduceIte, ↓reduceIte, reduceCtorEq, nA, nS, nM, nB, nE, nL, nT, nN, iL, iT, iE, iA, iM, iS, iG, iB, iN, iZ, h, t3, t4, map_gd (rHeader .ro) hs k hk, n1, d1, h1, idx_nt _ _ hk, wrap_nat1 (show k < 9223372036854775807 by omega), hb0] <;> with_reducible rfl, by simp only [go_sem, reduceIte, ↓reduceIte, reduceCtorEq, nA, nS, nM, nB, nE, nL, nT, nN, iL, iT, iE, iA, iM, iS, iG, iB, iN, iZ, h, d1]⟩) [] (by simp) (hs.length + 1) (Nat.le_refl _)
  rw [hb0] at hr
  have hff := ffold (fun x : Header => eqv (lowS x.Name) (lowS name)) (fun x => x.Value) hs []
  simp only [List.nil_append] at hff
  rw [hff] at hr
  simp only [go_sem, reduceIte, ↓reduceIte, reduceCtorEq, nA, nS, nM, nB, nE, nL, nT, nN, iL, iT, iE, iA, iM, iS, iG, iB, iN, iZ, h, hr, valsOf]) (by simp only [go_sem, reduceIte, ↓reduceIte, reduceCtorEq, nA, nS, nM, nB, nE, nL, nT, nN, iL, iT, iE, iA, iM, iS, iG, iB, iN, iZ, okRes, hasRo])
noncomputable def s73 : SP Tryz.prog := mkS tyA 73 Tryz.f73 [s122, s123, s124, s125, s126] { md := [.ro 1], rg := [(0, [1], [1]), (1, [1, 19], [1]), (2, [2], []), (3, [1, 3], [1]), (4, [1, 3, 24], [1]), (5, [2], []), (6, [1, 26], [1]), (7, [2], []), (8, [32], []), (9, [2], []), (10, [2], [])], rets := some ([2], []) } Tryz.func73 (by kernel_rfl)
@[go_sem] theorem d73 : s73.g = 73 ∧ s73.fs = ⟨[.ro 1], s73.F, false⟩ := ⟨nr rfl, nr rfl⟩
@[go_sem] theorem e73 (rMethod : ByteArray) (rHost : ByteArray) (rPath : ByteArray) (rHeaders : List Header) (h0 : smL smHeader (Request.mk rMethod rHost rPath rHeaders).Headers) : s73.F [.agg [.s rMethod, .s rHost, .s rPath, .sl .ro 2 (rHeaders.map (rHeader .ro))]] = some (.i .i64 (requestFault (Request.mk rMethod rHost rPath rHeaders)), [.u]) := mkS_eq (0) rfl rfl (fun cx h => by
  have key : ∀ m : Bool, isMethod rMethod = m → (isMethod rMethod && isHost rHost && isPath rPath) = (m && isHost rHost && isPath rPath) := fun m h => by rw [h]
  have hn1 : okN ⟨#[72, 111, 115, 116]⟩ = true := by decide
  have hn2 : okN ⟨#[104, 111, 115, 116]⟩ = true := by decide
  cases m0 : isMethod rMethod
  · simp only [go_sem, reduceIte, ↓reduceIte, reduceCtorEq, nA, nS, nM, nB, nE, nL, nT, nN, iL, iT, iE, iA, iM, iS, iG, iB, iN, iZ, h, m0, requestFault]
  cases h2 : isHost rHost
  · simp only [go_sem, reduceIte, ↓reduceIte, reduceCtorEq, nA, nS, nM, nB, nE, nL, nT, nN, iL, iT, iE, iA, iM, iS, iG, iB, iN, iZ, h, h2, m0, requestFault]
  cases h3 : isPath rPath
  · simp only [go_sem, reduceIte, ↓reduceIte, reduceCtorEq, nA, nS, nM, nB, nE, nL, nT, nN, iL, iT, iE, iA, iM, iS, iG, iB, iN, iZ, h, h2, h3, m0, requestFault]
  by_cases z : headersFault rHeaders = 0
  rotate_left
  · have z' : (headersFault rHeaders != 0) = true := by simpa using z
    simp only [go_sem, reduceIte, ↓reduceIte, reduceCtorEq, nA, nS, nM, nB, nE, nL, nT, nN, iL, iT, iE, iA, iM, iS, iG, iB, iN, iZ, h, h2, h3, z', m0, requestFault]
  have z' : (headersFault rHeaders != 0) = false := by simpa using z
  have h4 : rHeaders.length ≤ 20 ∧ smL smHeader rHeaders ∧ okN ⟨#[72, 111, 115, 116]⟩ = true := ⟨headersFault_ok z, h0, hn1⟩
  have h5 : rHeaders.length ≤ 20 ∧ smL smHeader rHeaders ∧ okN ⟨#[104, 111, 115, 116]⟩ = true := ⟨headersFault_ok z, h0, hn2⟩
  have h6 := valsOf_pos rHeaders ⟨#[72, 111, 115, 116]⟩
  have h7 := hasV_host rHeaders
  cases h8 : hasV rHeaders ⟨#[72, 111, 115, 116]⟩
  · by_cases h9 : 20 ≤ (rHeaders.length : Int)
    · have h10 : ((rHeaders.length : Int) == 20) = true := by have := h4.1; simp; omega
      simp only [go_sem, reduceIte, ↓reduceIte, reduceCtorEq, nA, nS, nM, nB, nE, nL, nT, nN, iL, iT, iE, iA, iM, iS, iG, iB, iN, iZ, h, h2, h3, z, h4, h5, h6, h7, h8, h9, h10, m0, requestFault]
    · have h10 : ((rHeaders.length : Int) == 20) = false := by have := h4.1; simp; omega
      simp only [go_sem, reduceIte, ↓reduceIte, reduceCtorEq, nA, nS, nM, nB, nE, nL, nT, nN, iL, iT, iE, iA, iM, iS, iG, iB, iN, iZ, h, h2, h3, z, h4, h5, h6, h7, h8, h9, h10, m0, requestFault]
  · simp only [go_sem, reduceIte, ↓reduceIte, reduceCtorEq, nA, nS, nM, nB, nE, nL, nT, nN, iL, iT, iE, iA, iM, iS, iG, iB, iN, iZ, h, h2, h3, z, h4, h5, h6, h7, h8, m0, requestFault]) (rfl)
noncomputable def s107 : SP Tryz.prog := mkS tyA 107 Tryz.f107 [] { md := [.ro 1], rets := some ([2], []) } Tryz.func107 (by kernel_rfl)
@[go_sem] theorem d107 : s107.g = 107 ∧ s107.fs = ⟨[.ro 1], s107.F, false⟩ := ⟨nr rfl, nr rfl⟩
@[go_sem] theorem e107 (t : ByteArray) : s107.F [.s t] = some (.b (isKey t), [.u]) := mkS_eq (0) rfl rfl (fun cx h => by
  by_cases h1 : 1 ≤ (t.size : Int) <;> by_cases h2 : (t.size : Int) ≤ 500 <;> simp only [go_sem, reduceIte, ↓reduceIte, reduceCtorEq, nA, nS, nM, nB, nE, nL, nT, nN, iL, iT, iE, iA, iM, iS, iG, iB, iN, iZ, h, h1, h2, isKey]) (rfl)
noncomputable def s57 : SP Tryz.prog := mkS tyA 57 Tryz.f57 [s58, s73, s98, s107, s108, s109] { md := [.ro 1], rg := [(0, [1], [1]), (1, [1, 4], [1]), (2, [2], []), (3, [1, 15], [1]), (4, [2], []), (5, [1, 3], [1]), (6, [1, 3, 24], [1]), (7, [2], []), (8, [1, 26], [1]), (9, [2], []), (10, [1, 35], [1]), (11, [2], []), (12, [1, 40], [1]), (13, [2], []), (14, [44], []), (15, [2], []), (16, [2], [])], rets := some ([2], []) } Tryz.func57 (by kernel_rfl)
@[go_sem] theorem d57 : s57.g = 57 ∧ s57.fs = ⟨[.ro 1], s57.F, false⟩ := ⟨nr rfl, nr rfl⟩
@[go_sem] theorem e57 (fId : Int) (fKey : ByteArray) (fBack : Bool) (fOut : Bool) (fDue : Int) (fDoomed : Bool) (fGetMethod : ByteArray) (fGetHost : ByteArray) (fGetPath : ByteArray) (fGetHeaders : List Header) (fWaiters : List Waiter) (h0 : smL smHeader (Flight.mk fId fKey fBack fOut fDue fDoomed (Request.mk fGetMethod fGetHost fGetPath fGetHeaders) fWaiters).Get.Headers) : s57.F [.agg [.i .i64 fId, .s fKey, .b fBack, .b fOut, .i .i64 fDue, .b fDoomed, .s fGetMethod, .s fGetHost, .s fGetPath, .sl .ro 2 (fGetHeaders.map (rHeader .ro)), .sl .ro 4 (fWaiters.map (rWaiter .ro))]] = some (.i .i64 (flightFault (Flight.mk fId fKey fBack fOut fDue fDoomed (Request.mk fGetMethod fGetHost fGetPath fGetHeaders) fWaiters)), [.u]) := mkS_eq (0) rfl rfl (fun cx h => by
  have hH : smL smHeader fGetHeaders := h0
  cases t1 : isTime fId
  · simp only [go_sem, reduceIte, ↓reduceIte, reduceCtorEq, nA, nS, nM, nB, nE, nL, nT, nN, iL, iT, iE, iA, iM, iS, iG, iB, iN, iZ, h, t1, flightFault]
  cases t2 : isTime fDue
  · simp only [go_sem, reduceIte, ↓reduceIte, reduceCtorEq, nA, nS, nM, nB, nE, nL, nT, nN, iL, iT, iE, iA, iM, iS, iG, iB, iN, iZ, h, t1, t2, flightFault]
  cases hk : isKey fKey
  · simp only [go_sem, reduceIte, ↓reduceIte, reduceCtorEq, nA, nS, nM, nB, nE, nL, nT, nN, iL, iT, iE, iA, iM, iS, iG, iB, iN, iZ, h, t1, t2, hk, flightFault]
  by_cases z : requestFault (Request.mk fGetMethod fGetHost fGetPath fGetHeaders) = 0
  rotate_left
  · have z' : (requestFault (Request.mk fGetMethod fGetHost fGetPath fGetHeaders) != 0) = true := by simpa using z
    simp only [go_sem, reduceIte, ↓reduceIte, reduceCtorEq, nA, nS, nM, nB, nE, nL, nT, nN, iL, iT, iE, iA, iM, iS, iG, iB, iN, iZ, h, t1, t2, hk, hH, z', flightFault]
  rcases (show (fOut = true ∧ True) ∨ (fOut = false ∧ (fDue != 0) = false) ∨ (fOut = false ∧ (fDue != 0) = true) from by cases fOut <;> cases (fDue != 0) <;> simp) with ⟨o1, o2⟩ | ⟨o1, o2⟩ | ⟨o1, o2⟩
  rotate_left
  rotate_left
  · simp only [go_sem, reduceIte, ↓reduceIte, reduceCtorEq, nA, nS, nM, nB, nE, nL, nT, nN, iL, iT, iE, iA, iM, iS, iG, iB, iN, iZ, h, t1, t2, hk, hH, z, o1, o2, flightFault]
  all_goals
    by_cases w1 : 10 < (fWaiters.length : Int)
    · simp only [go_sem, reduceIte, ↓reduceIte, reduceCtorEq, nA, nS, nM, nB, nE, nL, nT, nN, iL, iT, iE, iA, iM, iS, iG, iB, iN, iZ, h, t1, t2, hk, hH, z, o1, o2, w1, flightFault]
    have hx : fWaiters.length ≤ 9223372036854775806 := by omega
    cases w2 : (fWaiters.any fun x => !isReqW x)
    · cases w3 : tw [] fWaiters <;> simp only [go_sem, reduceIte, ↓reduceIte, reduceCtorEq, nA, nS, nM, nB, nE, nL, nT, nN, iL, iT, iE, iA, iM, iS, iG, iB, iN, iZ, h, t1, t2, hk, hH, z, o1, o2, w1, w2, w3, hx, flightFault]
    · simp only [go_sem, reduceIte, ↓reduceIte, reduceCtorEq, nA, nS, nM, nB, nE, nL, nT, nN, iL, iT, iE, iA, iM, iS, iG, iB, iN, iZ, h, t1, t2, hk, hH, z, o1, o2, w1, w2, hx, flightFault]) (rfl)
noncomputable def s154 : SP Tryz.prog := mkS tyA 154 Tryz.f154 [] { md := [.ro 1], rg := [(0, [0], []), (1, [0, 4], []), (2, [2], []), (3, [2], [])], rets := some ([2], []), nz := true } Tryz.func154 (by kernel_rfl)
@[go_sem] theorem d154 : s154.g = 154 ∧ s154.fs = ⟨[.ro 1], s154.F, false⟩ := ⟨nr rfl, nr rfl⟩
@[go_sem] theorem e154 (xs : List Header) (h0 : smL smHeader xs) : s154.F [.sl .ro 2 (xs.map (rHeader .ro))] = some (.sl .mut 2 (xs.map (rHeader .mut)), [.u]) := mkS_eqN (0) rfl rfl (fun cx h => by
  have h0 := h0.1
  have h1 : (xs.map (rHeader .ro)).all (·.all plain) = true := by simp [rHeader, plain]
  have h2 : xs.length * 32 ≤ 140737488355328 := by omega
  have h3 : xs.map (rHeader .ro) = xs.map (rHeader .mut) := rfl
  rcases Nat.eq_zero_or_pos xs.length with hp | hp
  · obtain rfl := List.length_eq_zero_iff.1 hp
    simp only [go_sem, reduceIte, ↓reduceIte, reduceCtorEq, nA, nS, nM, nB, nE, nL, nT, nN, iL, iT, iE, iA, iM, iS, iG, iB, iN, iZ, h]
  · simp only [go_sem, reduceIte, ↓reduceIte, reduceCtorEq, nA, nS, nM, nB, nE, nL, nT, nN, iL, iT, iE, iA, iM, iS, iG, iB, iN, iZ, h, h1, h2, hp]
    rw [h3]) (by simp only [go_sem, reduceIte, ↓reduceIte, reduceCtorEq, nA, nS, nM, nB, nE, nL, nT, nN, iL, iT, iE, iA, iM, iS, iG, iB, iN, iZ, okRes, hasRo])
noncomputable def s134 : SP Tryz.prog := mkS tyA 134 Tryz.f134 [s154] { md := [.ro 1], rg := [(0, [1, 2], [1, 2]), (1, [1, 2], [1, 2]), (2, [2], [1, 2])], rets := some ([2], [1, 2]) } Tryz.func134 (by kernel_rfl)
@[go_sem] theorem d134 : s134.g = 134 ∧ s134.fs = ⟨[.ro 1], s134.F, false⟩ := ⟨nr rfl, nr rfl⟩
@[go_sem] theorem e134 (rMethod : ByteArray) (rHost : ByteArray) (rPath : ByteArray) (rHeaders : List Header) (h0 : smL smHeader (Request.mk rMethod rHost rPath rHeaders).Headers) : s134.F [.agg [.s rMethod, .s rHost, .s rPath, .sl .ro 2 (rHeaders.map (rHeader .ro))]] = some (.agg (rRequest .mut (Request.mk rMethod rHost rPath rHeaders)), [.u]) := mkS_eq (0) rfl rfl (fun cx h => by
  simp only [go_sem, reduceIte, ↓reduceIte, reduceCtorEq, nA, nS, nM, nB, nE, nL, nT, nN, iL, iT, iE, iA, iM, iS, iG, iB, iN, iZ, h, h0]) (by simp only [go_sem, reduceIte, ↓reduceIte, reduceCtorEq, nA, nS, nM, nB, nE, nL, nT, nN, iL, iT, iE, iA, iM, iS, iG, iB, iN, iZ, okRes, hasRo, hasRoL, hasRoLL])
noncomputable def s135 : SP Tryz.prog := mkS tyA 135 Tryz.f135 [] { md := [.ro 1], rg := [(0, [0], []), (1, [0, 4], []), (2, [2], []), (3, [2], [])], rets := some ([2], []), nz := true } Tryz.func135 (by kernel_rfl)
@[go_sem] theorem d135 : s135.g = 135 ∧ s135.fs = ⟨[.ro 1], s135.F, false⟩ := ⟨nr rfl, nr rfl⟩
@[go_sem] theorem e135 (xs : List Waiter) (h0 : smL smWaiter xs) : s135.F [.sl .ro 4 (xs.map (rWaiter .ro))] = some (.sl .mut 4 (xs.map (rWaiter .mut)), [.u]) := mkS_eqN (0) rfl rfl (fun cx h => by
  have h0 := h0.1
  have h1 : (xs.map (rWaiter .ro)).all (·.all plain) = true := by simp [rWaiter, plain]
  have h2 : xs.length * 32 ≤ 140737488355328 := by omega
  have h3 : xs.map (rWaiter .ro) = xs.map (rWaiter .mut) := rfl
  rcases Nat.eq_zero_or_pos xs.length with hp | hp
  · obtain rfl := List.length_eq_zero_iff.1 hp
    simp only [go_sem, reduceIte, ↓reduceIte, reduceCtorEq, nA, nS, nM, nB, nE, nL, nT, nN, iL, iT, iE, iA, iM, iS, iG, iB, iN, iZ, h]
  · simp only [go_sem, reduceIte, ↓reduceIte, reduceCtorEq, nA, nS, nM, nB, nE, nL, nT, nN, iL, iT, iE, iA, iM, iS, iG, iB, iN, iZ, h, h1, h2, hp]
    rw [h3]) (by simp only [go_sem, reduceIte, ↓reduceIte, reduceCtorEq, nA, nS, nM, nB, nE, nL, nT, nN, iL, iT, iE, iA, iM, iS, iG, iB, iN, iZ, okRes, hasRo])
noncomputable def s93 : SP Tryz.prog := mkS tyA 93 Tryz.f93 [s134, s135] { md := [.ro 1], rg := [(0, [1, 2], [1, 2]), (1, [1, 2], [1, 2]), (2, [2], [1, 2])], rets := some ([2], [1, 2]), plan := [(1, (.take 0 (.take 1 (.take 3 (.take 4 (.one 2 (.take 6 (.one 5 (.one 7 (.take 8 (.one 9 .done)))))))))))] } Tryz.func93 (by kernel_rfl)
@[go_sem] theorem d93 : s93.g = 93 ∧ s93.fs = ⟨[.ro 1], s93.F, false⟩ := ⟨nr rfl, nr rfl⟩
@[go_sem] theorem e93 (fId : Int) (fKey : ByteArray) (fBack : Bool) (fOut : Bool) (fDue : Int) (fDoomed : Bool) (fGetMethod : ByteArray) (fGetHost : ByteArray) (fGetPath : ByteArray) (fGetHeaders : List Header) (fWaiters : List Waiter) (h0 : (smL smHeader (Flight.mk fId fKey fBack fOut fDue fDoomed (Request.mk fGetMethod fGetHost fGetPath fGetHeaders) fWaiters).Get.Headers ∧ smL smWaiter (Flight.mk fId fKey fBack fOut fDue fDoomed (Request.mk fGetMethod fGetHost fGetPath fGetHeaders) fWaiters).Waiters)) : s93.F [.agg [.i .i64 fId, .s fKey, .b fBack, .b fOut, .i .i64 fDue, .b fDoomed, .s fGetMethod, .s fGetHost, .s fGetPath, .sl .ro 2 (fGetHeaders.map (rHeader .ro)), .sl .ro 4 (fWaiters.map (rWaiter .ro))]] = some (.agg (rFlight .mut (Flight.mk fId fKey fBack fOut fDue fDoomed (Request.mk fGetMethod fGetHost fGetPath fGetHeaders) fWaiters)), [.u]) := mkS_eq (0) rfl rfl (fun cx h => by
  simp only [go_sem, reduceIte, ↓reduceIte, reduceCtorEq, nA, nS, nM, nB, nE, nL, nT, nN, iL, iT, iE, iA, iM, iS, iG, iB, iN, iZ, h, h0.1, h0.2]) (by simp only [go_sem, reduceIte, ↓reduceIte, reduceCtorEq, nA, nS, nM, nB, nE, nL, nT, nN, iL, iT, iE, iA, iM, iS, iG, iB, iN, iZ, okRes, hasRo, hasRoL, hasRoLL])
noncomputable def s34 : SP Tryz.prog := mkS tyA 34 Tryz.f34 [s57, s90, s91, s92, s93] { md := [.ro 1, .ro 1, .ro 1], rg := [(0, [2, 3, 4, 6, 46], [3, 4, 6, 8]), (1, [2, 3, 4, 6, 7, 46], [3, 4, 6, 8]), (2, [2, 3, 4, 6, 7, 12, 46], [3, 4, 6, 8]), (3, [6, 46], [6, 8]), (4, [2, 3, 4, 6, 15, 46], [3, 4, 6, 8]), (5, [6, 46], [6, 8]), (6, [2, 3, 4, 6, 25, 46], [3, 4, 6, 8]), (7, [6, 46], [6, 8]), (8, [3, 4, 6, 31, 46], [3, 4, 6, 8]), (9, [6, 46], [6, 8]), (10, [4, 6, 8, 46], [4, 6, 8]), (11, [6, 8, 46], [6, 8]), (12, [6, 46], [6, 8])], rets := some ([6, 46], [6, 8]) } Tryz.func34 (by kernel_rfl)
@[go_sem] theorem d34 : s34.g = 34 ∧ s34.fs = ⟨[.ro 1, .ro 1, .ro 1], s34.F, false⟩ := ⟨nr rfl, nr rfl⟩
@[go_sem] theorem e34 (fId : Int) (fKey : ByteArray) (fBack : Bool) (fOut : Bool) (fDue : Int) (fDoomed : Bool) (fGetMethod : ByteArray) (fGetHost : ByteArray) (fGetPath : ByteArray) (fGetHeaders : List Header) (fWaiters : List Waiter) (wReq : Int) (wHead : Bool) (wDue : Int) (wLate : Bool) (room : Int) (h0 : smFlight (Flight.mk fId fKey fBack fOut fDue fDoomed (Request.mk fGetMethod fGetHost fGetPath fGetHeaders) fWaiters)) : s34.F [.agg [.i .i64 fId, .s fKey, .b fBack, .b fOut, .i .i64 fDue, .b fDoomed, .s fGetMethod, .s fGetHost, .s fGetPath, .sl .ro 2 (fGetHeaders.map (rHeader .ro)), .sl .ro 4 (fWaiters.map (rWaiter .ro))], .agg [.i .i64 wReq, .b wHead, .i .i64 wDue, .b wLate], .i .i64 room] = some (.agg (rFlightResult .mut (joinFlight (Flight.mk fId fKey fBack fOut fDue fDoomed (Request.mk fGetMethod fGetHost fGetPath fGetHeaders) fWaiters) (Waiter.mk wReq wHead wDue wLate) room)), [.u, .u, .u]) := mkS_eq (0) rfl rfl (fun cx h => by
  obtain ⟨u0, u1, u2, u3, u4, u5, u6, u7⟩ := h0
  have hH : smL smHeader fGetHeaders := u6.2.2.2
  by_cases z : flightFault (Flight.mk fId fKey fBack fOut fDue fDoomed (Request.mk fGetMethod fGetHost fGetPath fGetHeaders) fWaiters) = 0
  rotate_left
  · have z' : (flightFault (Flight.mk fId fKey fBack fOut fDue fDoomed (Request.mk fGetMethod fGetHost fGetPath fGetHeaders) fWaiters) != 0) = true := by simpa using z
    simp only [go_sem, reduceIte, ↓reduceIte, reduceCtorEq, nA, nS, nM, nB, nE, nL, nT, nN, iL, iT, iE, iA, iM, iS, iG, iB, iN, iZ, h, hH, z', joinFlight, noFlight]
  have hl : fWaiters.length ≤ 10 := flightFault_ok z
  have hx : fWaiters.length ≤ 9223372036854775806 := by omega
  have z' : (flightFault (Flight.mk fId fKey fBack fOut fDue fDoomed (Request.mk fGetMethod fGetHost fGetPath fGetHeaders) fWaiters) != 0) = false := by simpa using z
  cases t1 : isReqW (Waiter.mk wReq wHead wDue wLate)
  · simp only [go_sem, reduceIte, ↓reduceIte, reduceCtorEq, nA, nS, nM, nB, nE, nL, nT, nN, iL, iT, iE, iA, iM, iS, iG, iB, iN, iZ, h, hH, z, hx, u7, t1, joinFlight, noFlight]
  cases c2 : within room 1 10
  · simp only [go_sem, reduceIte, ↓reduceIte, reduceCtorEq, nA, nS, nM, nB, nE, nL, nT, nN, iL, iT, iE, iA, iM, iS, iG, iB, iN, iZ, h, hH, z, hx, u7, t1, c2, joinFlight, noFlight]
  cases c3 : (fWaiters.any fun x => x.Req == wReq)
  rotate_left
  · simp only [go_sem, reduceIte, ↓reduceIte, reduceCtorEq, nA, nS, nM, nB, nE, nL, nT, nN, iL, iT, iE, iA, iM, iS, iG, iB, iN, iZ, h, hH, z, hx, u7, t1, c2, c3, joinFlight, noFlight]
  by_cases c4 : room ≤ (fWaiters.length : Int)
  · simp only [go_sem, reduceIte, ↓reduceIte, reduceCtorEq, nA, nS, nM, nB, nE, nL, nT, nN, iL, iT, iE, iA, iM, iS, iG, iB, iN, iZ, h, hH, z, hx, u7, t1, c2, c3, c4, joinFlight, noFlight]
  have t4 : fWaiters.map (rWaiter .mut) ++ [[.i .i64 wReq, .b wHead, .i .i64 wDue, .b wLate]] = (fWaiters ++ [Waiter.mk wReq wHead wDue wLate]).map (rWaiter .mut) := by simp [rWaiter]
  have t3 : (fWaiters.length + 1) * 32 ≤ 140737488355328 := by omega
  simp only [go_sem, reduceIte, ↓reduceIte, reduceCtorEq, nA, nS, nM, nB, nE, nL, nT, nN, iL, iT, iE, iA, iM, iS, iG, iB, iN, iZ, h, hH, z, hx, u7, t1, c2, c3, c4, t3, t4, joinFlight, flightWith]) (by simp only [go_sem, reduceIte, ↓reduceIte, reduceCtorEq, nA, nS, nM, nB, nE, nL, nT, nN, iL, iT, iE, iA, iM, iS, iG, iB, iN, iZ, okRes, hasRo, hasRoL, hasRoLL])
noncomputable def s130 : SP Tryz.prog := mkS tyA 130 Tryz.f130 [] { md := [.ro 1, .ro 1], rg := [(0, [2, 3], [2, 3]), (1, [2, 3, 9], [2, 3]), (2, [4], []), (3, [14], []), (4, [4], []), (5, [4], [])], rets := some ([4], []) } Tryz.func130 (by kernel_rfl)
@[go_sem] theorem d130 : s130.g = 130 ∧ s130.fs = ⟨[.ro 1, .ro 1], s130.F, false⟩ := ⟨nr rfl, nr rfl⟩
@[go_sem] theorem e130 (xName : ByteArray) (xValue : ByteArray) (yName : ByteArray) (yValue : ByteArray) (h0 : smHeader (Header.mk xName xValue)) : s130.F [.agg [.s xName, .s xValue], .agg [.s yName, .s yValue]] = some (.b (eqv (Header.mk xName xValue) (Header.mk yName yValue)), [.u, .u]) := mkS_eq (0) rfl rfl (fun cx h => by
  obtain ⟨q0, q1⟩ := h0
  simp only [go_sem, reduceIte, ↓reduceIte, reduceCtorEq, nA, nS, nM, nB, nE, nL, nT, nN, iL, iT, iE, iA, iM, iS, iG, iB, iN, iZ, h, eqv_intne, eqv_bytes, eqv_boolne, q0, q1]
  simp only [eqv_bool, eqv_int, Header.eqv (Header.mk xName xValue) (Header.mk yName yValue), if_b, not_eq_t, if_nb, Bool.and_true]) (rfl)
noncomputable def s76 : SP Tryz.prog := mkS tyA 76 Tryz.f76 [s130] { md := [.ro 1, .ro 1], rg := [(0, [0, 1], []), (1, [0, 1, 10], []), (2, [4], []), (3, [0, 1, 5], []), (4, [0, 1, 5, 14], []), (5, [0, 1, 5], []), (6, [0, 1, 5, 26], []), (7, [4], []), (8, [4], [])], lv := [(0, [0, 1, 5], [])], out := [(0, [], [])], rets := some ([4], []), plan := [(6, (.take 0 (.take 1 (.take 2 (.take 3 (.take 4 (.take 5 (.take 6 (.take 7 (.one 8 (.take 9 .done)))))))))))] } Tryz.func76 (by kernel_rfl)
@[go_sem] theorem d76 : s76.g = 76 ∧ s76.fs = ⟨[.ro 1, .ro 1], s76.F, false⟩ := ⟨nr rfl, nr rfl⟩
@[go_sem] theorem e76 (xs ys : List Header) (h0 : smL smHeader xs) : s76.F [.sl .ro 2 (xs.map (rHeader .ro)), .sl .ro 2 (ys.map (rHeader .ro))] = some (.b (eqv xs ys), [.u, .u]) := mkS_eq (xs.length + 1) rfl rfl (fun cx h => by
  have hb := loopN_eq Tryz.f76 0 _ _ rfl rfl
  have hx := h0.1
  by_cases hl : xs.length = ys.length
  · obtain ⟨r, hr, hq⟩ := loop_list (cx := cx) (blk := 0) (body := loopN Tryz.f76 0) (xs.zip ys) (fun k (_ : Unit) => ⟨E [(0, .sl .ro 2 (xs.map (rHeader .ro))), (1, .sl .ro 2 (ys.map (rHeader .ro))), (5, .i .i64 k)], B []⟩) (fun _ => ⟨E [], B []⟩) (fun x _ => !eqv x.1 x.2) (fun _ _ => ()) (fun _ _ => (.ret, ⟨E [(4, .b false)], B []⟩)) (fun _ _ => True)
      (fun l _ G => by simp only [go_sem, reduceIte, ↓reduceIte, reduceCtorEq, nA, nS, nM, nB, nE, nL, nT, nN, iL, iT, iE, iA, iM, iS, iG, iB, iN, iZ, h, zip_len hl, hl, Int.lt_irrefl, hb]) (fun k hk l _ => by
        have hk : k < xs.length := by rwa [zip_len hl] at hk
        have h1 : ((k : Int) < (xs.length : Int)) := Int.ofNat_lt.2 hk
        have h2 := h0.2 _ (List.getElem_mem hk)
        have h3 : (xs.zip ys)[k] = (xs[k], ys[k]'(by omega)) := by simp
        rw [h3]
        cases hc : eqv xs[k] (ys[k]'(by omega))
        · exact .inl ⟨rfl, fun G => by simp only [go_sem, reduceIte, ↓reduceIte, reduceCtorEq, nA, nS, nM, nB, nE, nL, nT, nN, iL, iT, iE, iA, iM, iS, iG, iB, iN, iZ, h, hc, map_gd (rHeader .ro) xs k hk, map_gd (rHeader .ro) ys k (by omega), idx_nt ys.length k (by omega), h2, h1, idx_nt _ _ hk, wrap_nat1 (show k < 9223372036854775807 by omega), hb]⟩
        · exact .inr ⟨rfl, trivial, _, fun G => by simp only [go_sem, reduceIte, ↓reduceIte, reduceCtorEq, nA, nS, nM, nB, nE, nL, nT, nN, iL, iT, iE, iA, iM, iS, iG, iB, iN, iZ, h, hc, map_gd (rHeader .ro) xs k hk, map_gd (rHeader .ro) ys k (by omega), idx_nt ys.length k (by omega), h2, h1, idx_nt _ _ hk, wrap_nat1 (show k < 9223372036854775807 by omega), hb] <;> with_reducible rfl, by simp only [go_sem, reduceIte, ↓reduceIte, reduceCtorEq, nA, nS, nM, nB, nE, nL, nT, nN, iL, iT, iE, iA, iM, iS, iG, iB, iN, iZ, h]⟩) () trivial (xs.length + 1) (by rw [zip_len hl]; exact Nat.le_refl _)
    rw [hb] at hr
    have hl2 : ((xs.length : Int) != (ys.length : Int)) = false := by simp [hl]
    rcases hq with ⟨s', e1, e2, e3⟩ | ⟨x, s', e1, e3⟩
    · simp only [go_sem, reduceIte, ↓reduceIte, reduceCtorEq, nA, nS, nM, nB, nE, nL, nT, nN, iL, iT, iE, iA, iM, iS, iG, iB, iN, iZ, h, hl2, hr, e3, zip_eqv hl e1]
    · simp only [go_sem, reduceIte, ↓reduceIte, reduceCtorEq, nA, nS, nM, nB, nE, nL, nT, nN, iL, iT, iE, iA, iM, iS, iG, iB, iN, iZ, h, hl2, hr, e3, zip_nev hl e1]
  · have hl2 : ((xs.length : Int) != (ys.length : Int)) = true := by simpa using fun h => hl (Int.ofNat_inj.1 h)
    simp only [go_sem, reduceIte, ↓reduceIte, reduceCtorEq, nA, nS, nM, nB, nE, nL, nT, nN, iL, iT, iE, iA, iM, iS, iG, iB, iN, iZ, h, hl2, len_nev hl]) (rfl)
noncomputable def s24 : SP Tryz.prog := mkS tyA 24 Tryz.f24 [s76] { md := [.ro 1, .ro 1], rg := [(0, [2, 3], [2, 3]), (1, [2, 3, 9], [2, 3]), (2, [4], []), (3, [2, 3, 14], [2, 3]), (4, [4], []), (5, [2, 3, 19], [2, 3]), (6, [4], []), (7, [25], []), (8, [4], []), (9, [4], [])], rets := some ([4], []) } Tryz.func24 (by kernel_rfl)
@[go_sem] theorem d24 : s24.g = 24 ∧ s24.fs = ⟨[.ro 1, .ro 1], s24.F, false⟩ := ⟨nr rfl, nr rfl⟩
@[go_sem] theorem e24 (xMethod : ByteArray) (xHost : ByteArray) (xPath : ByteArray) (xHeaders : List Header) (yMethod : ByteArray) (yHost : ByteArray) (yPath : ByteArray) (yHeaders : List Header) (h0 : smRequest (Request.mk xMethod xHost xPath xHeaders)) : s24.F [.agg [.s xMethod, .s xHost, .s xPath, .sl .ro 2 (xHeaders.map (rHeader .ro))], .agg [.s yMethod, .s yHost, .s yPath, .sl .ro 2 (yHeaders.map (rHeader .ro))]] = some (.b (eqv (Request.mk xMethod xHost xPath xHeaders) (Request.mk yMethod yHost yPath yHeaders)), [.u, .u]) := mkS_eq (0) rfl rfl (fun cx h => by
  obtain ⟨q0, q1, q2, q3⟩ := h0
  simp only [go_sem, reduceIte, ↓reduceIte, reduceCtorEq, nA, nS, nM, nB, nE, nL, nT, nN, iL, iT, iE, iA, iM, iS, iG, iB, iN, iZ, h, eqv_intne, eqv_bytes, eqv_boolne, q0, q1, q2, q3]
  simp only [eqv_bool, eqv_int, Request.eqv (Request.mk xMethod xHost xPath xHeaders) (Request.mk yMethod yHost yPath yHeaders), if_b, not_eq_t, if_nb, Bool.and_true]) (rfl)
noncomputable def s136 : SP Tryz.prog := mkS tyA 136 Tryz.f136 [] { md := [.ro 1, .ro 1], rg := [(0, [2, 3], [2, 3]), (1, [2, 3, 9], [2, 3]), (2, [4], []), (3, [2, 3, 14], [2, 3]), (4, [4], []), (5, [2, 3, 19], [2, 3]), (6, [4], []), (7, [24], []), (8, [4], []), (9, [4], [])], rets := some ([4], []) } Tryz.func136 (by kernel_rfl)
@[go_sem] theorem d136 : s136.g = 136 ∧ s136.fs = ⟨[.ro 1, .ro 1], s136.F, false⟩ := ⟨nr rfl, nr rfl⟩
@[go_sem] theorem e136 (xReq : Int) (xHead : Bool) (xDue : Int) (xLate : Bool) (yReq : Int) (yHead : Bool) (yDue : Int) (yLate : Bool) (h0 : smWaiter (Waiter.mk xReq xHead xDue xLate)) : s136.F [.agg [.i .i64 xReq, .b xHead, .i .i64 xDue, .b xLate], .agg [.i .i64 yReq, .b yHead, .i .i64 yDue, .b yLate]] = some (.b (eqv (Waiter.mk xReq xHead xDue xLate) (Waiter.mk yReq yHead yDue yLate)), [.u, .u]) := mkS_eq (0) rfl rfl (fun cx h => by
  obtain ⟨q0, q1, q2, q3⟩ := h0
  simp only [go_sem, reduceIte, ↓reduceIte, reduceCtorEq, nA, nS, nM, nB, nE, nL, nT, nN, iL, iT, iE, iA, iM, iS, iG, iB, iN, iZ, h, eqv_intne, eqv_bytes, eqv_boolne, q0, q1, q2, q3]
  simp only [eqv_bool, eqv_int, Waiter.eqv (Waiter.mk xReq xHead xDue xLate) (Waiter.mk yReq yHead yDue yLate), if_b, not_eq_t, if_nb, Bool.and_true]) (rfl)
noncomputable def s94 : SP Tryz.prog := mkS tyA 94 Tryz.f94 [s136] { md := [.ro 1, .ro 1], rg := [(0, [0, 1], []), (1, [0, 1, 10], []), (2, [4], []), (3, [0, 1, 5], []), (4, [0, 1, 5, 14], []), (5, [0, 1, 5], []), (6, [0, 1, 5, 26], []), (7, [4], []), (8, [4], [])], lv := [(0, [0, 1, 5], [])], out := [(0, [], [])], rets := some ([4], []), plan := [(6, (.take 0 (.take 1 (.take 2 (.take 3 (.take 4 (.take 5 (.take 6 (.take 7 (.one 8 (.take 9 .done)))))))))))] } Tryz.func94 (by kernel_rfl)
@[go_sem] theorem d94 : s94.g = 94 ∧ s94.fs = ⟨[.ro 1, .ro 1], s94.F, false⟩ := ⟨nr rfl, nr rfl⟩
@[go_sem] theorem e94 (xs ys : List Waiter) (h0 : smL smWaiter xs) : s94.F [.sl .ro 4 (xs.map (rWaiter .ro)), .sl .ro 4 (ys.map (rWaiter .ro))] = some (.b (eqv xs ys), [.u, .u]) := mkS_eq (xs.length + 1) rfl rfl (fun cx h => by
  have hb := loopN_eq Tryz.f94 0 _ _ rfl rfl
  have hx := h0.1
  by_cases hl : xs.length = ys.length
  · obtain ⟨r, hr, hq⟩ := loop_list (cx := cx) (blk := 0) (body := loopN Tryz.f94 0) (xs.zip ys) (fun k (_ : Unit) => ⟨E [(0, .sl .ro 4 (xs.map (rWaiter .ro))), (1, .sl .ro 4 (ys.map (rWaiter .ro))), (5, .i .i64 k)], B []⟩) (fun _ => ⟨E [], B []⟩) (fun x _ => !eqv x.1 x.2) (fun _ _ => ()) (fun _ _ => (.ret, ⟨E [(4, .b false)], B []⟩)) (fun _ _ => True)
      (fun l _ G => by simp only [go_sem, reduceIte, ↓reduceIte, reduceCtorEq, nA, nS, nM, nB, nE, nL, nT, nN, iL, iT, iE, iA, iM, iS, iG, iB, iN, iZ, h, zip_len hl, hl, Int.lt_irrefl, hb]) (fun k hk l _ => by
        have hk : k < xs.length := by rwa [zip_len hl] at hk
        have h1 : ((k : Int) < (xs.length : Int)) := Int.ofNat_lt.2 hk
        have h2 := h0.2 _ (List.getElem_mem hk)
        have h3 : (xs.zip ys)[k] = (xs[k], ys[k]'(by omega)) := by simp
        rw [h3]
        cases hc : eqv xs[k] (ys[k]'(by omega))
        · exact .inl ⟨rfl, fun G => by simp only [go_sem, reduceIte, ↓reduceIte, reduceCtorEq, nA, nS, nM, nB, nE, nL, nT, nN, iL, iT, iE, iA, iM, iS, iG, iB, iN, iZ, h, hc, map_gd (rWaiter .ro) xs k hk, map_gd (rWaiter .ro) ys k (by omega), idx_nt ys.length k (by omega), h2, h1, idx_nt _ _ hk, wrap_nat1 (show k < 9223372036854775807 by omega), hb]⟩
        · exact .inr ⟨rfl, trivial, _, fun G => by simp only [go_sem, reduceIte, ↓reduceIte, reduceCtorEq, nA, nS, nM, nB, nE, nL, nT, nN, iL, iT, iE, iA, iM, iS, iG, iB, iN, iZ, h, hc, map_gd (rWaiter .ro) xs k hk, map_gd (rWaiter .ro) ys k (by omega), idx_nt ys.length k (by omega), h2, h1, idx_nt _ _ hk, wrap_nat1 (show k < 9223372036854775807 by omega), hb] <;> with_reducible rfl, by simp only [go_sem, reduceIte, ↓reduceIte, reduceCtorEq, nA, nS, nM, nB, nE, nL, nT, nN, iL, iT, iE, iA, iM, iS, iG, iB, iN, iZ, h]⟩) () trivial (xs.length + 1) (by rw [zip_len hl]; exact Nat.le_refl _)
    rw [hb] at hr
    have hl2 : ((xs.length : Int) != (ys.length : Int)) = false := by simp [hl]
    rcases hq with ⟨s', e1, e2, e3⟩ | ⟨x, s', e1, e3⟩
    · simp only [go_sem, reduceIte, ↓reduceIte, reduceCtorEq, nA, nS, nM, nB, nE, nL, nT, nN, iL, iT, iE, iA, iM, iS, iG, iB, iN, iZ, h, hl2, hr, e3, zip_eqv hl e1]
    · simp only [go_sem, reduceIte, ↓reduceIte, reduceCtorEq, nA, nS, nM, nB, nE, nL, nT, nN, iL, iT, iE, iA, iM, iS, iG, iB, iN, iZ, h, hl2, hr, e3, zip_nev hl e1]
  · have hl2 : ((xs.length : Int) != (ys.length : Int)) = true := by simpa using fun h => hl (Int.ofNat_inj.1 h)
    simp only [go_sem, reduceIte, ↓reduceIte, reduceCtorEq, nA, nS, nM, nB, nE, nL, nT, nN, iL, iT, iE, iA, iM, iS, iG, iB, iN, iZ, h, hl2, len_nev hl]) (rfl)
noncomputable def s36 : SP Tryz.prog := mkS tyA 36 Tryz.f36 [s24, s94] { md := [.ro 1, .ro 1], rg := [(0, [2, 3], [2, 3]), (1, [2, 3, 9], [2, 3]), (2, [4], []), (3, [2, 3, 14], [2, 3]), (4, [4], []), (5, [2, 3, 19], [2, 3]), (6, [4], []), (7, [2, 3, 24], [2, 3]), (8, [4], []), (9, [2, 3, 29], [2, 3]), (10, [4], []), (11, [2, 3, 34], [2, 3]), (12, [4], []), (13, [2, 3, 40], [2, 3]), (14, [4], []), (15, [46], []), (16, [4], []), (17, [4], [])], rets := some ([4], []) } Tryz.func36 (by kernel_rfl)
@[go_sem] theorem d36 : s36.g = 36 ∧ s36.fs = ⟨[.ro 1, .ro 1], s36.F, false⟩ := ⟨nr rfl, nr rfl⟩
@[go_sem] theorem e36 (xId : Int) (xKey : ByteArray) (xBack : Bool) (xOut : Bool) (xDue : Int) (xDoomed : Bool) (xGetMethod : ByteArray) (xGetHost : ByteArray) (xGetPath : ByteArray) (xGetHeaders : List Header) (xWaiters : List Waiter) (yId : Int) (yKey : ByteArray) (yBack : Bool) (yOut : Bool) (yDue : Int) (yDoomed : Bool) (yGetMethod : ByteArray) (yGetHost : ByteArray) (yGetPath : ByteArray) (yGetHeaders : List Header) (yWaiters : List Waiter) (h0 : smFlight (Flight.mk xId xKey xBack xOut xDue xDoomed (Request.mk xGetMethod xGetHost xGetPath xGetHeaders) xWaiters)) : s36.F [.agg [.i .i64 xId, .s xKey, .b xBack, .b xOut, .i .i64 xDue, .b xDoomed, .s xGetMethod, .s xGetHost, .s xGetPath, .sl .ro 2 (xGetHeaders.map (rHeader .ro)), .sl .ro 4 (xWaiters.map (rWaiter .ro))], .agg [.i .i64 yId, .s yKey, .b yBack, .b yOut, .i .i64 yDue, .b yDoomed, .s yGetMethod, .s yGetHost, .s yGetPath, .sl .ro 2 (yGetHeaders.map (rHeader .ro)), .sl .ro 4 (yWaiters.map (rWaiter .ro))]] = some (.b (eqv (Flight.mk xId xKey xBack xOut xDue xDoomed (Request.mk xGetMethod xGetHost xGetPath xGetHeaders) xWaiters) (Flight.mk yId yKey yBack yOut yDue yDoomed (Request.mk yGetMethod yGetHost yGetPath yGetHeaders) yWaiters)), [.u, .u]) := mkS_eq (0) rfl rfl (fun cx h => by
  obtain ⟨q0, q1, q2, q3, q4, q5, q6, q7⟩ := h0
  simp only [go_sem, reduceIte, ↓reduceIte, reduceCtorEq, nA, nS, nM, nB, nE, nL, nT, nN, iL, iT, iE, iA, iM, iS, iG, iB, iN, iZ, h, eqv_intne, eqv_bytes, eqv_boolne, q0, q1, q2, q3, q4, q5, q6, q7]
  simp only [eqv_bool, eqv_int, Flight.eqv (Flight.mk xId xKey xBack xOut xDue xDoomed (Request.mk xGetMethod xGetHost xGetPath xGetHeaders) xWaiters) (Flight.mk yId yKey yBack yOut yDue yDoomed (Request.mk yGetMethod yGetHost yGetPath yGetHeaders) yWaiters), if_b, not_eq_t, if_nb, Bool.and_true]) (rfl)
noncomputable def s35 : SP Tryz.prog := mkS tyA 35 Tryz.f35 [s36] { md := [.ro 1, .ro 1], rg := [(0, [2, 3], [2, 3]), (1, [2, 3, 9], [2, 3]), (2, [4], []), (3, [15], []), (4, [4], []), (5, [4], [])], rets := some ([4], []) } Tryz.func35 (by kernel_rfl)
@[go_sem] theorem d35 : s35.g = 35 ∧ s35.fs = ⟨[.ro 1, .ro 1], s35.F, false⟩ := ⟨nr rfl, nr rfl⟩
@[go_sem] theorem e35 (xCode : Int) (xFlightId : Int) (xFlightKey : ByteArray) (xFlightBack : Bool) (xFlightOut : Bool) (xFlightDue : Int) (xFlightDoomed : Bool) (xFlightGetMethod : ByteArray) (xFlightGetHost : ByteArray) (xFlightGetPath : ByteArray) (xFlightGetHeaders : List Header) (xFlightWaiters : List Waiter) (yCode : Int) (yFlightId : Int) (yFlightKey : ByteArray) (yFlightBack : Bool) (yFlightOut : Bool) (yFlightDue : Int) (yFlightDoomed : Bool) (yFlightGetMethod : ByteArray) (yFlightGetHost : ByteArray) (yFlightGetPath : ByteArray) (yFlightGetHeaders : List Header) (yFlightWaiters : List Waiter) (h0 : smFlightResult (FlightResult.mk xCode (Flight.mk xFlightId xFlightKey xFlightBack xFlightOut xFlightDue xFlightDoomed (Request.mk xFlightGetMethod xFlightGetHost xFlightGetPath xFlightGetHeaders) xFlightWaiters))) : s35.F [.agg [.i .i64 xCode, .i .i64 xFlightId, .s xFlightKey, .b xFlightBack, .b xFlightOut, .i .i64 xFlightDue, .b xFlightDoomed, .s xFlightGetMethod, .s xFlightGetHost, .s xFlightGetPath, .sl .ro 2 (xFlightGetHeaders.map (rHeader .ro)), .sl .ro 4 (xFlightWaiters.map (rWaiter .ro))], .agg [.i .i64 yCode, .i .i64 yFlightId, .s yFlightKey, .b yFlightBack, .b yFlightOut, .i .i64 yFlightDue, .b yFlightDoomed, .s yFlightGetMethod, .s yFlightGetHost, .s yFlightGetPath, .sl .ro 2 (yFlightGetHeaders.map (rHeader .ro)), .sl .ro 4 (yFlightWaiters.map (rWaiter .ro))]] = some (.b (eqv (FlightResult.mk xCode (Flight.mk xFlightId xFlightKey xFlightBack xFlightOut xFlightDue xFlightDoomed (Request.mk xFlightGetMethod xFlightGetHost xFlightGetPath xFlightGetHeaders) xFlightWaiters)) (FlightResult.mk yCode (Flight.mk yFlightId yFlightKey yFlightBack yFlightOut yFlightDue yFlightDoomed (Request.mk yFlightGetMethod yFlightGetHost yFlightGetPath yFlightGetHeaders) yFlightWaiters))), [.u, .u]) := mkS_eq (0) rfl rfl (fun cx h => by
  obtain ⟨q0, q1⟩ := h0
  simp only [go_sem, reduceIte, ↓reduceIte, reduceCtorEq, nA, nS, nM, nB, nE, nL, nT, nN, iL, iT, iE, iA, iM, iS, iG, iB, iN, iZ, h, eqv_intne, eqv_bytes, eqv_boolne, q0, q1]
  simp only [eqv_bool, eqv_int, FlightResult.eqv (FlightResult.mk xCode (Flight.mk xFlightId xFlightKey xFlightBack xFlightOut xFlightDue xFlightDoomed (Request.mk xFlightGetMethod xFlightGetHost xFlightGetPath xFlightGetHeaders) xFlightWaiters)) (FlightResult.mk yCode (Flight.mk yFlightId yFlightKey yFlightBack yFlightOut yFlightDue yFlightDoomed (Request.mk yFlightGetMethod yFlightGetHost yFlightGetPath yFlightGetHeaders) yFlightWaiters)), if_b, not_eq_t, if_nb, Bool.and_true]) (rfl)
noncomputable def s131 : SP Tryz.prog := mkS tyA 131 Tryz.f131 [] { md := [.ro 1], rg := [(0, [0], []), (1, [0, 5], []), (2, [2], []), (3, [0, 3], []), (4, [0, 3, 7], []), (5, [0, 3], []), (6, [0, 3], []), (7, [2], [])], lv := [(0, [0, 3], [])], out := [(0, [3], [])], rets := some ([2], []) } Tryz.func131 (by kernel_rfl)
@[go_sem] theorem d131 : s131.g = 131 ∧ s131.fs = ⟨[.ro 1], s131.F, false⟩ := ⟨nr rfl, nr rfl⟩
@[go_sem] theorem e131 (k : Int) (h0 : k + 1 ≤ 9223372036854775807) : s131.F [.i .i64 k] = some (.s (mkText k), [.u]) := mkS_eq (k.toNat + 1) rfl rfl (fun cx h => by
  have hb := loopN_eq Tryz.f131 0 _ _ rfl rfl
  have lp := loop_gen (cx := cx) (blk := 0) (body := loopN Tryz.f131 0) (fun (p : Int × ByteArray) => ⟨E [(0, .i .i64 p.1), (3, .s p.2)], B []⟩) (fun p => 0 ≤ p.1 ∧ p.1 + p.2.size ≤ 9223372036854775807) (fun p => p.1.toNat) (fun p r => r = some (.ex 0, ⟨E [(3, .s (digs p.1.toNat p.1 p.2))], B []⟩)) (fun ⟨k, s⟩ ⟨i1, i2⟩ => by
    simp only at i1 i2 ⊢
    by_cases hk : 0 < k
    · have e1 : k.tdiv 10 = k / 10 := Int.tdiv_eq_ediv_of_nonneg i1
      have e2 : k.tmod 10 = k % 10 := Int.tmod_eq_emod_of_nonneg i1
      have w1 : (IntKind.i64).wrap (48 + k.tmod 10) = 48 + k.tmod 10 := wrap_id (by omega) (by omega)
      have w2 : (IntKind.u8).wrap (48 + k.tmod 10) = (48 + k.tmod 10) % 256 := by simp [IntKind.wrap, IntKind.bits, IntKind.signed]
      have w3 : (IntKind.i64).wrap (k.tdiv 10) = k.tdiv 10 := wrap_id (by omega) (by omega)
      have z2 : (#[UInt8.ofNat ((48 + k.tmod 10) % 256).toNat] : Array UInt8).size + s.size ≤ 9223372036854775807 := by show 1 + s.size ≤ _; omega
      refine .inr ⟨_, (k.tdiv 10, ByteArray.mk #[UInt8.ofNat ((48 + k.tmod 10) % 256).toNat] ++ s), ?_, ?_, ?_, ?_, fun G => by simp only [go_sem, reduceIte, ↓reduceIte, reduceCtorEq, nA, nS, nM, nB, nE, nL, nT, nN, iL, iT, iE, iA, iM, iS, iG, iB, iN, iZ, h, hb, hk, w1, w2, w3, z2, strOf]; rfl⟩
      · simp only [go_sem, reduceIte, ↓reduceIte, reduceCtorEq, nA, nS, nM, nB, nE, nL, nT, nN, iL, iT, iE, iA, iM, iS, iG, iB, iN, iZ, h]
      · rw [ByteArray.size_append]; exact ⟨by show 0 ≤ k.tdiv 10; omega, by show k.tdiv 10 + ((1 + s.size : Nat) : Int) ≤ _; omega⟩
      · simp only; omega
      · intro r hr
        rw [hr, show digs k.toNat k s = digs (k.tdiv 10).toNat (k.tdiv 10) (ByteArray.mk #[UInt8.ofNat ((48 + k.tmod 10) % 256).toNat] ++ s) from by
          obtain ⟨m, hm⟩ : ∃ m, k.toNat = m + 1 := ⟨k.toNat - 1, by omega⟩
          rw [hm, digs, if_pos hk]
          exact digs_stop _ _ _ _ (by omega) (Nat.le_refl _)]
    · obtain rfl : k = 0 := by omega
      exact .inl fun G => by simp only [go_sem, reduceIte, ↓reduceIte, reduceCtorEq, nA, nS, nM, nB, nE, nL, nT, nN, iL, iT, iE, iA, iM, iS, iG, iB, iN, iZ, h, hb, digs])
  rw [hb] at lp
  unfold mkText
  by_cases hk : k ≤ 0
  · simp only [go_sem, reduceIte, ↓reduceIte, reduceCtorEq, nA, nS, nM, nB, nE, nL, nT, nN, iL, iT, iE, iA, iM, iS, iG, iB, iN, iZ, h, hk]
  · have l1 := lp (k.toNat + 1) (k, ⟨#[]⟩) ⟨by omega, by show k + ((0 : Nat) : Int) ≤ _; omega⟩ (Nat.lt_succ_self _)
    have z3 : (#[109] : Array UInt8).size + (digs k.toNat k ⟨#[]⟩).size ≤ 9223372036854775807 := by
      have := digs_size k.toNat k ⟨#[]⟩
      show 1 + _ ≤ _
      have e2 : (ByteArray.mk #[]).size = 0 := rfl
      omega
    simp only [go_sem, reduceIte, ↓reduceIte, reduceCtorEq, nA, nS, nM, nB, nE, nL, nT, nN, iL, iT, iE, iA, iM, iS, iG, iB, iN, iZ, h, hk, l1, z3]) (rfl)
noncomputable def s80 : SP Tryz.prog := mkS tyA 80 Tryz.f80 [s131] { md := [.mv, .ro 1], rg := [(0, [0, 1], []), (1, [0, 1, 5], []), (2, [0, 1, 5, 9], []), (3, [0, 1, 5], []), (4, [0, 1, 5], []), (5, [0, 1, 5], []), (6, [0, 1, 5], []), (7, [0, 1, 5], []), (8, [0, 4], [])], lv := [(0, [0, 1, 5], [])], out := [(0, [0, 1], [])], rets := some ([0, 4], []) } Tryz.func80 (by kernel_rfl)
@[go_sem] theorem d80 : s80.g = 80 ∧ s80.fs = ⟨[.mv, .ro 1], s80.F, false⟩ := ⟨nr rfl, nr rfl⟩
@[go_sem] theorem e80 (xs : List Header) (k : Int) (h1 : 0 ≤ k) (h0 : (mkL mkHeaderE xs k).2 ≤ 9223372036854775807) : s80.F [.sl .mut 2 (xs.map (rHeader .mut)), .i .i64 k] = some (.i .i64 (mkL mkHeaderE xs k).2, [.sl .mut 2 ((mkL mkHeaderE xs k).1.map (rHeader .mut)), .u]) := mkS_eq (xs.length + 1) rfl rfl (fun cx h => by
  have hb := loopN_eq Tryz.f80 0 _ _ rfl rfl
  have hx := mkL_cnt mkHeaderE_ge xs k
  have hr := (loop_fold (cx := cx) (blk := 0) (body := loopN Tryz.f80 0) xs (fun i (s : Int) => ⟨E [(0, .sl .mut 2 ((mkUp mkHeaderE xs k i).map (rHeader .mut))), (1, .i .i64 s), (5, .i .i64 i)], B []⟩) (fun _ => ⟨E [(0, .sl .mut 2 ((mkL mkHeaderE xs k).1.map (rHeader .mut))), (1, .i .i64 (mkL mkHeaderE xs k).2)], B []⟩) (fun x s => (mkHeaderE x s).2) (fun i s => s = mkAt mkHeaderE xs k i)
    (fun s hI G => by simp only [go_sem, reduceIte, ↓reduceIte, reduceCtorEq, nA, nS, nM, nB, nE, nL, nT, nN, iL, iT, iE, iA, iM, iS, iG, iB, iN, iZ, h, Int.lt_irrefl, hb, mkUp_len, mkL_take, mkUp_take, mkUp_end, mkL_len, hI, mkAt_end]) (fun i hk s hI => by
      have h2 : ((i : Int) < (xs.length : Int)) := Int.ofNat_lt.2 hk
      have g1 := mkAt_ge mkHeaderE_ge xs k i
      have g2 := mkAt_le mkHeaderE_ge xs k i hk
      rw [← hI] at g1 g2

      have h3 := mkUp_set (f := mkHeaderE) (rHeader .mut) xs k i hk
      rw [← hI] at h3
      simp only [mkHeaderE, rHeader] at h3 g2
      have v0 : (IntKind.i64).wrap (s) = s := wrap_id (by omega) (by omega)
      have t1 : s + 1 ≤ 9223372036854775807 := by omega
      have v1 : (IntKind.i64).wrap (s + 1) = s + 1 := wrap_id (by omega) (by omega)
      have t2 : s + 1 + 1 ≤ 9223372036854775807 := by omega
      have v2 : (IntKind.i64).wrap (s + 1 + 1) = s + 1 + 1 := wrap_id (by omega) (by omega)
      have hL : i < ((mkUp mkHeaderE xs k i).map (rHeader .mut)).length := by rw [List.length_map, mkUp_len]; exact hk
      have hg := fun y => set_get ((mkUp mkHeaderE xs k i).map (rHeader .mut)) i y hL
      have hG := fun y => set_getD ((mkUp mkHeaderE xs k i).map (rHeader .mut)) i y hL
      refine ⟨by rw [mkAt_succ xs k i hk, ← hI], _, fun G => by simp only [go_sem, reduceIte, ↓reduceIte, reduceCtorEq, nA, nS, nM, nB, nE, nL, nT, nN, iL, iT, iE, iA, iM, iS, iG, iB, iN, iZ, h, h3, hg, hG, mkUp_len (f := mkHeaderE) xs k i, mkUp_get (f := mkHeaderE) (rHeader .mut) xs k i hk, mkUp_getD (f := mkHeaderE) (rHeader .mut) xs k i hk, mkUp_take (f := mkHeaderE) (rHeader .mut) xs k i, mkB_def, v0, t1, v1, t2, v2, h2, idx_nt _ _ hk, wrap_nat1 (show i < 9223372036854775807 by omega), hb] <;> with_reducible rfl, by simp only [go_sem, reduceIte, ↓reduceIte, reduceCtorEq, nA, nS, nM, nB, nE, nL, nT, nN, iL, iT, iE, iA, iM, iS, iG, iB, iN, iZ, h, mkHeaderE]⟩) k rfl (xs.length + 1) (Nat.le_refl _)).2
  rw [hb] at hr
  simp only [go_sem, reduceIte, ↓reduceIte, reduceCtorEq, nA, nS, nM, nB, nE, nL, nT, nN, iL, iT, iE, iA, iM, iS, iG, iB, iN, iZ, h, hr, mkUp_zero]) (by simp only [go_sem, reduceIte, ↓reduceIte, reduceCtorEq, nA, nS, nM, nB, nE, nL, nT, nN, iL, iT, iE, iA, iM, iS, iG, iB, iN, iZ, okRes, hasRo])
noncomputable def s26 : SP Tryz.prog := mkS tyA 26 Tryz.f26 [s80] { md := [.mv, .ro 1], rg := [(0, [0, 1, 2], [2]), (1, [0, 1], []), (2, [0, 4], [])], rets := some ([0, 4], []), al := [2] } Tryz.func26 (by kernel_rfl)
@[go_sem] theorem d26 : s26.g = 26 ∧ s26.fs = ⟨[.mv, .ro 1], s26.F, false⟩ := ⟨nr rfl, nr rfl⟩
@[go_sem] theorem e26 (xMethod : ByteArray) (xHost : ByteArray) (xPath : ByteArray) (xHeaders : List Header) (k : Int) (h1 : 0 ≤ k) (h0 : (mkRequestV (Request.mk xMethod xHost xPath xHeaders) k).2 ≤ 9223372036854775807) : s26.F [.agg [.s xMethod, .s xHost, .s xPath, .sl .mut 2 (xHeaders.map (rHeader .mut))], .i .i64 k] = some (.i .i64 (mkRequestV (Request.mk xMethod xHost xPath xHeaders) k).2, [.agg (rRequest .mut (mkRequestV (Request.mk xMethod xHost xPath xHeaders) k).1), .u]) := mkS_eq (0) rfl rfl (fun cx h => by
  obtain ⟨q0, hq0⟩ : ∃ q, (mkL mkHeaderE xHeaders k).2 = q := ⟨_, rfl⟩
  have b0 := mkL_ge mkHeaderE_ge xHeaders k
  rw [hq0] at b0
  have p0 : 0 ≤ k := by omega
  simp only [mkRequestV_eq, hq0] at h0
  have c0 : q0 ≤ 9223372036854775807 := by omega
  have d0 : ¬ (q0 < 0) := by omega
  simp only [go_sem, reduceIte, ↓reduceIte, reduceCtorEq, nA, nS, nM, nB, nE, nL, nT, nN, iL, iT, iE, iA, iM, iS, iG, iB, iN, iZ, h, p0, c0, d0, hq0, mkRequestV_eq]) (by simp only [go_sem, reduceIte, ↓reduceIte, reduceCtorEq, nA, nS, nM, nB, nE, nL, nT, nN, iL, iT, iE, iA, iM, iS, iG, iB, iN, iZ, mkRequestV_eq, okRes, hasRo, hasRoL, hasRoLL])
noncomputable def s95 : SP Tryz.prog := mkS tyA 95 Tryz.f95 [] { md := [.mv, .ro 1], rg := [(0, [0, 1], []), (1, [0, 1, 5], []), (2, [0, 1, 5, 9], []), (3, [0, 1, 5], []), (4, [0, 1, 5], []), (5, [0, 1, 5], []), (6, [0, 1, 5], []), (7, [0, 1, 5], []), (8, [0, 1, 5], []), (9, [0, 1, 5], []), (10, [0, 1, 5], []), (11, [0, 1, 5], []), (12, [0, 4], [])], lv := [(0, [0, 1, 5], [])], out := [(0, [0, 1], [])], rets := some ([0, 4], []) } Tryz.func95 (by kernel_rfl)
@[go_sem] theorem d95 : s95.g = 95 ∧ s95.fs = ⟨[.mv, .ro 1], s95.F, false⟩ := ⟨nr rfl, nr rfl⟩
@[go_sem] theorem e95 (xs : List Waiter) (k : Int) (h1 : 0 ≤ k) (h0 : (mkL mkWaiterE xs k).2 ≤ 9223372036854775807) : s95.F [.sl .mut 4 (xs.map (rWaiter .mut)), .i .i64 k] = some (.i .i64 (mkL mkWaiterE xs k).2, [.sl .mut 4 ((mkL mkWaiterE xs k).1.map (rWaiter .mut)), .u]) := mkS_eq (xs.length + 1) rfl rfl (fun cx h => by
  have hb := loopN_eq Tryz.f95 0 _ _ rfl rfl
  have hx := mkL_cnt mkWaiterE_ge xs k
  have hr := (loop_fold (cx := cx) (blk := 0) (body := loopN Tryz.f95 0) xs (fun i (s : Int) => ⟨E [(0, .sl .mut 4 ((mkUp mkWaiterE xs k i).map (rWaiter .mut))), (1, .i .i64 s), (5, .i .i64 i)], B []⟩) (fun _ => ⟨E [(0, .sl .mut 4 ((mkL mkWaiterE xs k).1.map (rWaiter .mut))), (1, .i .i64 (mkL mkWaiterE xs k).2)], B []⟩) (fun x s => (mkWaiterE x s).2) (fun i s => s = mkAt mkWaiterE xs k i)
    (fun s hI G => by simp only [go_sem, reduceIte, ↓reduceIte, reduceCtorEq, nA, nS, nM, nB, nE, nL, nT, nN, iL, iT, iE, iA, iM, iS, iG, iB, iN, iZ, h, Int.lt_irrefl, hb, mkUp_len, mkL_take, mkUp_take, mkUp_end, mkL_len, hI, mkAt_end]) (fun i hk s hI => by
      have h2 : ((i : Int) < (xs.length : Int)) := Int.ofNat_lt.2 hk
      have g1 := mkAt_ge mkWaiterE_ge xs k i
      have g2 := mkAt_le mkWaiterE_ge xs k i hk
      rw [← hI] at g1 g2

      have h3 := mkUp_set (f := mkWaiterE) (rWaiter .mut) xs k i hk
      rw [← hI] at h3
      simp only [mkWaiterE, rWaiter] at h3 g2
      have v0 : (IntKind.i64).wrap (s) = s := wrap_id (by omega) (by omega)
      have v1 : (IntKind.i64).wrap (s + 1) = s + 1 := wrap_id (by omega) (by omega)
      have v2 : (IntKind.i64).wrap (s + 1 + 1) = s + 1 + 1 := wrap_id (by omega) (by omega)
      have v3 : (IntKind.i64).wrap (s + 1 + 1 + 1) = s + 1 + 1 + 1 := wrap_id (by omega) (by omega)
      have v4 : (IntKind.i64).wrap (s + 1 + 1 + 1 + 1) = s + 1 + 1 + 1 + 1 := wrap_id (by omega) (by omega)
      have hL : i < ((mkUp mkWaiterE xs k i).map (rWaiter .mut)).length := by rw [List.length_map, mkUp_len]; exact hk
      have hg := fun y => set_get ((mkUp mkWaiterE xs k i).map (rWaiter .mut)) i y hL
      have hG := fun y => set_getD ((mkUp mkWaiterE xs k i).map (rWaiter .mut)) i y hL
      refine ⟨by rw [mkAt_succ xs k i hk, ← hI], _, fun G => by simp only [go_sem, reduceIte, ↓reduceIte, reduceCtorEq, nA, nS, nM, nB, nE, nL, nT, nN, iL, iT, iE, iA, iM, iS, iG, iB, iN, iZ, h, h3, hg, hG, mkUp_len (f := mkWaiterE) xs k i, mkUp_get (f := mkWaiterE) (rWaiter .mut) xs k i hk, mkUp_getD (f := mkWaiterE) (rWaiter .mut) xs k i hk, mkUp_take (f := mkWaiterE) (rWaiter .mut) xs k i, mkB_def, v0, v1, v2, v3, v4, h2, idx_nt _ _ hk, wrap_nat1 (show i < 9223372036854775807 by omega), hb] <;> with_reducible rfl, by simp only [go_sem, reduceIte, ↓reduceIte, reduceCtorEq, nA, nS, nM, nB, nE, nL, nT, nN, iL, iT, iE, iA, iM, iS, iG, iB, iN, iZ, h, mkWaiterE]⟩) k rfl (xs.length + 1) (Nat.le_refl _)).2
  rw [hb] at hr
  simp only [go_sem, reduceIte, ↓reduceIte, reduceCtorEq, nA, nS, nM, nB, nE, nL, nT, nN, iL, iT, iE, iA, iM, iS, iG, iB, iN, iZ, h, hr, mkUp_zero]) (by simp only [go_sem, reduceIte, ↓reduceIte, reduceCtorEq, nA, nS, nM, nB, nE, nL, nT, nN, iL, iT, iE, iA, iM, iS, iG, iB, iN, iZ, okRes, hasRo])
noncomputable def s37 : SP Tryz.prog := mkS tyA 37 Tryz.f37 [s26, s95] { md := [.mv, .ro 1], rg := [(0, [0, 1, 2], [2]), (1, [0, 1, 2], [2]), (2, [0, 1], []), (3, [0, 4], [])], rets := some ([0, 4], []), al := [2] } Tryz.func37 (by kernel_rfl)
@[go_sem] theorem d37 : s37.g = 37 ∧ s37.fs = ⟨[.mv, .ro 1], s37.F, false⟩ := ⟨nr rfl, nr rfl⟩
@[go_sem] theorem e37 (xId : Int) (xKey : ByteArray) (xBack : Bool) (xOut : Bool) (xDue : Int) (xDoomed : Bool) (xGetMethod : ByteArray) (xGetHost : ByteArray) (xGetPath : ByteArray) (xGetHeaders : List Header) (xWaiters : List Waiter) (k : Int) (h1 : 0 ≤ k) (h0 : (mkFlightV (Flight.mk xId xKey xBack xOut xDue xDoomed (Request.mk xGetMethod xGetHost xGetPath xGetHeaders) xWaiters) k).2 ≤ 9223372036854775807) : s37.F [.agg [.i .i64 xId, .s xKey, .b xBack, .b xOut, .i .i64 xDue, .b xDoomed, .s xGetMethod, .s xGetHost, .s xGetPath, .sl .mut 2 (xGetHeaders.map (rHeader .mut)), .sl .mut 4 (xWaiters.map (rWaiter .mut))], .i .i64 k] = some (.i .i64 (mkFlightV (Flight.mk xId xKey xBack xOut xDue xDoomed (Request.mk xGetMethod xGetHost xGetPath xGetHeaders) xWaiters) k).2, [.agg (rFlight .mut (mkFlightV (Flight.mk xId xKey xBack xOut xDue xDoomed (Request.mk xGetMethod xGetHost xGetPath xGetHeaders) xWaiters) k).1), .u]) := mkS_eq (0) rfl rfl (fun cx h => by
  obtain ⟨q0, hq0⟩ : ∃ q, (mkRequestV (Request.mk xGetMethod xGetHost xGetPath xGetHeaders) k).2 = q := ⟨_, rfl⟩
  have b0 := mkRequestV_ge (Request.mk xGetMethod xGetHost xGetPath xGetHeaders) k
  rw [hq0] at b0
  have p0 : 0 ≤ k := by omega
  obtain ⟨q1, hq1⟩ : ∃ q, (mkL mkWaiterE xWaiters q0).2 = q := ⟨_, rfl⟩
  have b1 := mkL_ge mkWaiterE_ge xWaiters q0
  rw [hq1] at b1
  have p1 : 0 ≤ q0 := by omega
  simp only [mkFlightV_eq, hq0, hq1] at h0
  have c0 : q0 ≤ 9223372036854775807 := by omega
  have d0 : ¬ (q0 < 0) := by omega
  have c1 : q1 ≤ 9223372036854775807 := by omega
  have d1 : ¬ (q1 < 0) := by omega
  simp only [go_sem, reduceIte, ↓reduceIte, reduceCtorEq, nA, nS, nM, nB, nE, nL, nT, nN, iL, iT, iE, iA, iM, iS, iG, iB, iN, iZ, h, p0, p1, c0, d0, c1, d1, hq0, hq1, mkFlightV_eq]
  simp only [mkRequestV_eq]) (by simp only [go_sem, reduceIte, ↓reduceIte, reduceCtorEq, nA, nS, nM, nB, nE, nL, nT, nN, iL, iT, iE, iA, iM, iS, iG, iB, iN, iZ, mkFlightV_eq, okRes, hasRo, hasRoL, hasRoLL])
noncomputable def s38 : SP Tryz.prog := mkS tyA 38 Tryz.f38 [s37] { md := [.mv, .ro 1], rg := [(0, [0, 1, 2], [2]), (1, [0, 1], []), (2, [0, 4], [])], rets := some ([0, 4], []), al := [2] } Tryz.func38 (by kernel_rfl)
@[go_sem] theorem d38 : s38.g = 38 ∧ s38.fs = ⟨[.mv, .ro 1], s38.F, false⟩ := ⟨nr rfl, nr rfl⟩
@[go_sem] theorem e38 (xCode : Int) (xFlightId : Int) (xFlightKey : ByteArray) (xFlightBack : Bool) (xFlightOut : Bool) (xFlightDue : Int) (xFlightDoomed : Bool) (xFlightGetMethod : ByteArray) (xFlightGetHost : ByteArray) (xFlightGetPath : ByteArray) (xFlightGetHeaders : List Header) (xFlightWaiters : List Waiter) (k : Int) (h1 : 0 ≤ k) (h0 : (mkFlightResultV (FlightResult.mk xCode (Flight.mk xFlightId xFlightKey xFlightBack xFlightOut xFlightDue xFlightDoomed (Request.mk xFlightGetMethod xFlightGetHost xFlightGetPath xFlightGetHeaders) xFlightWaiters)) k).2 ≤ 9223372036854775807) : s38.F [.agg [.i .i64 xCode, .i .i64 xFlightId, .s xFlightKey, .b xFlightBack, .b xFlightOut, .i .i64 xFlightDue, .b xFlightDoomed, .s xFlightGetMethod, .s xFlightGetHost, .s xFlightGetPath, .sl .mut 2 (xFlightGetHeaders.map (rHeader .mut)), .sl .mut 4 (xFlightWaiters.map (rWaiter .mut))], .i .i64 k] = some (.i .i64 (mkFlightResultV (FlightResult.mk xCode (Flight.mk xFlightId xFlightKey xFlightBack xFlightOut xFlightDue xFlightDoomed (Request.mk xFlightGetMethod xFlightGetHost xFlightGetPath xFlightGetHeaders) xFlightWaiters)) k).2, [.agg (rFlightResult .mut (mkFlightResultV (FlightResult.mk xCode (Flight.mk xFlightId xFlightKey xFlightBack xFlightOut xFlightDue xFlightDoomed (Request.mk xFlightGetMethod xFlightGetHost xFlightGetPath xFlightGetHeaders) xFlightWaiters)) k).1), .u]) := mkS_eq (0) rfl rfl (fun cx h => by
  obtain ⟨q0, hq0⟩ : ∃ q, (mkFlightV (Flight.mk xFlightId xFlightKey xFlightBack xFlightOut xFlightDue xFlightDoomed (Request.mk xFlightGetMethod xFlightGetHost xFlightGetPath xFlightGetHeaders) xFlightWaiters) k).2 = q := ⟨_, rfl⟩
  have b0 := mkFlightV_ge (Flight.mk xFlightId xFlightKey xFlightBack xFlightOut xFlightDue xFlightDoomed (Request.mk xFlightGetMethod xFlightGetHost xFlightGetPath xFlightGetHeaders) xFlightWaiters) k
  rw [hq0] at b0
  have p0 : 0 ≤ k := by omega
  simp only [mkFlightResultV_eq, hq0] at h0
  have c0 : q0 ≤ 9223372036854775807 := by omega
  have d0 : ¬ (q0 < 0) := by omega
  simp only [go_sem, reduceIte, ↓reduceIte, reduceCtorEq, nA, nS, nM, nB, nE, nL, nT, nN, iL, iT, iE, iA, iM, iS, iG, iB, iN, iZ, h, p0, c0, d0, hq0, mkFlightResultV_eq]
  simp only [mkFlightV_eq, mkRequestV_eq]) (by simp only [go_sem, reduceIte, ↓reduceIte, reduceCtorEq, nA, nS, nM, nB, nE, nL, nT, nN, iL, iT, iE, iA, iM, iS, iG, iB, iN, iZ, mkFlightResultV_eq, okRes, hasRo, hasRoL, hasRoLL])
end Go.Vm.A
