/- Functions of the program, walked by the evaluator. -/
import Derived.Test.YtahcdlpjkcbjgaaDoorFa
set_option autoImplicit false
set_option maxRecDepth 100000
set_option maxHeartbeats 4000000
set_option linter.unusedVariables false
set_option linter.unusedSimpArgs false
namespace Go.Vm.A
open Go.Proofs
open Nat renaming reduceAdd → nA, reduceSub → nS, reduceMul → nM, reduceBEq → nB, reduceEqDiff → nE, reduceLeDiff → nL, reduceLT → nT, reduceBneDiff → nN
open Int renaming reduceLE → iL, reduceLT → iT, reduceEq → iE, reduceAdd → iA, reduceMul → iM, reduceSub → iS, reduceNeg → iG, reduceBEq → iB, reduceBNe → iN, reduceToNat → iZ

noncomputable def s64 : SP Tryd.prog := mkS tyA 64 Tryd.f64 [] { md := [.ro 1], rg := [(0, [1, 2], [1, 2, 3]), (1, [1, 2, 3], [1, 2, 3]), (2, [1, 2, 3], [1, 2, 3]), (3, [2, 3], [2, 3]), (4, [2], [2, 3])], rets := some ([2], [2, 3]) } Tryd.func64 (by kernel_rfl)
@[go_sem] theorem d64 : s64.g = 64 ∧ s64.fs = ⟨[.ro 1], s64.F, false⟩ := ⟨nr rfl, nr rfl⟩
@[go_sem] theorem e64 (xName : ByteArray) (xValue : ByteArray) (h0 : smHeader (Header.mk xName xValue)) : s64.F [.agg [.s xName, .s xValue]] = some (.agg (rHeader .mut (Header.mk xName xValue)), [.u]) := mkS_eq (0) rfl rfl (fun cx h => by
  obtain ⟨q0, q1⟩ := h0
  simp only [go_sem, reduceIte, ↓reduceIte, reduceCtorEq, nA, nS, nM, nB, nE, nL, nT, nN, iL, iT, iE, iA, iM, iS, iG, iB, iN, iZ, h, q0, q1]) (by simp only [go_sem, reduceIte, ↓reduceIte, reduceCtorEq, nA, nS, nM, nB, nE, nL, nT, nN, iL, iT, iE, iA, iM, iS, iG, iB, iN, iZ, okRes, hasRo, hasRoL, hasRoLL])
noncomputable def s44 : SP Tryd.prog := mkS tyA 44 Tryd.f44 [s64] { md := [.ro 1], rg := [(0, [0], []), (1, [0, 3], []), (2, [0, 3, 4], []), (3, [0, 3, 4, 11], []), (4, [0, 3, 4], []), (5, [0, 3, 4], []), (6, [2], [])], lv := [(0, [0, 3, 4], [])], out := [(0, [3], [])], rets := some ([2], []) } Tryd.func44 (by kernel_rfl)
@[go_sem] theorem d44 : s44.g = 44 ∧ s44.fs = ⟨[.ro 1], s44.F, false⟩ := ⟨nr rfl, nr rfl⟩
@[go_sem] theorem e44 (xs : List Header) (h0 : smL smHeader xs) : s44.F [.sl .ro 2 (xs.map (rHeader .ro))] = some (.sl .mut 2 (xs.map (rHeader .mut)), [.u]) := mkS_eq (xs.length + 1) rfl rfl (fun cx h => by
  have hb := loopN_eq Tryd.f44 0 _ _ rfl rfl
  have hx := h0.1
  have c1 : ((xs.length : Int) * (32 : Nat) ≤ 140737488355328) := by omega
  have c2 : 0 ≤ (xs.length : Int) := by omega
  have hr := (loop_fold (cx := cx) (blk := 0) (body := loopN Tryd.f44 0) xs (fun k (_ : Unit) => ⟨E [(0, .sl .ro 2 (xs.map (rHeader .ro))), (3, .sl .mut 2 (fillUp (rHeader .mut) [.s ⟨#[]⟩, .s ⟨#[]⟩] xs k)), (4, .i .i64 k)], B []⟩) (fun _ => ⟨E [(3, .sl .mut 2 (xs.map (rHeader .mut)))], B []⟩) (fun _ _ => ()) (fun _ _ => True)
    (fun l _ G => by simp only [go_sem, reduceIte, ↓reduceIte, reduceCtorEq, nA, nS, nM, nB, nE, nL, nT, nN, iL, iT, iE, iA, iM, iS, iG, iB, iN, iZ, h, Int.lt_irrefl, hb, fillUp_all]) (fun k hk l _ => by
      have h1 : ((k : Int) < (xs.length : Int)) := Int.ofNat_lt.2 hk
      have h2 := h0.2 _ (List.getElem_mem hk)
      have h3 : (fillUp (rHeader .mut) [.s ⟨#[]⟩, .s ⟨#[]⟩] xs k).set k [.s xs[k].Name, .s xs[k].Value] = fillUp (rHeader .mut) [.s ⟨#[]⟩, .s ⟨#[]⟩] xs (k + 1) := fillUp_set (rHeader .mut) [.s ⟨#[]⟩, .s ⟨#[]⟩] xs k hk
      exact ⟨trivial, _, fun G => by simp only [go_sem, reduceIte, ↓reduceIte, reduceCtorEq, nA, nS, nM, nB, nE, nL, nT, nN, iL, iT, iE, iA, iM, iS, iG, iB, iN, iZ, h, h2, h3, map_gd (rHeader .ro) xs k hk, fillUp_get (rHeader .mut) [.s ⟨#[]⟩, .s ⟨#[]⟩] xs k hk, fillUp_getD (rHeader .mut) [.s ⟨#[]⟩, .s ⟨#[]⟩] xs k hk, fillUp_len (rHeader .mut) [.s ⟨#[]⟩, .s ⟨#[]⟩] xs k (Nat.le_of_lt hk), h1, idx_nt _ _ hk, wrap_nat1 (show k < 9223372036854775807 by omega), hb] <;> with_reducible rfl, by simp only [go_sem, reduceIte, ↓reduceIte, reduceCtorEq, nA, nS, nM, nB, nE, nL, nT, nN, iL, iT, iE, iA, iM, iS, iG, iB, iN, iZ, h]⟩) () trivial (xs.length + 1) (Nat.le_refl _)).2
  rw [hb] at hr
  simp only [go_sem, reduceIte, ↓reduceIte, reduceCtorEq, nA, nS, nM, nB, nE, nL, nT, nN, iL, iT, iE, iA, iM, iS, iG, iB, iN, iZ, h, c1, c2, Int.toNat_natCast, fillUp_zero (rHeader .mut) [.s ⟨#[]⟩, .s ⟨#[]⟩], hr]) (by simp only [go_sem, reduceIte, ↓reduceIte, reduceCtorEq, nA, nS, nM, nB, nE, nL, nT, nN, iL, iT, iE, iA, iM, iS, iG, iB, iN, iZ, okRes, hasRo])
noncomputable def s45 : SP Tryd.prog := mkS tyA 45 Tryd.f45 [] { md := [.ro 1], rg := [(0, [0], []), (1, [0, 3], []), (2, [0, 3, 4], []), (3, [0, 3, 4, 11], []), (4, [0, 3, 4], []), (5, [0, 3, 4], []), (6, [2], [])], lv := [(0, [0, 3, 4], [])], out := [(0, [3], [])], rets := some ([2], []) } Tryd.func45 (by kernel_rfl)
@[go_sem] theorem d45 : s45.g = 45 ∧ s45.fs = ⟨[.ro 1], s45.F, false⟩ := ⟨nr rfl, nr rfl⟩
@[go_sem] theorem e45 (xs : List UInt8) (h0 : smL smByte xs) : s45.F [.sl .ro 1 (xs.map rByte)] = some (.sl .mut 1 (xs.map rByte), [.u]) := mkS_eq (xs.length + 1) rfl rfl (fun cx h => by
  have hb := loopN_eq Tryd.f45 0 _ _ rfl rfl
  have hx := h0.1
  have c1 : ((xs.length : Int) * 1 ≤ 140737488355328) := by omega
  have c2 : 0 ≤ (xs.length : Int) := by omega
  have hr := (loop_fold (cx := cx) (blk := 0) (body := loopN Tryd.f45 0) xs (fun k (_ : Unit) => ⟨E [(0, .sl .ro 1 (xs.map rByte)), (3, .sl .mut 1 (fillUp rByte [.i .u8 0] xs k)), (4, .i .i64 k)], B []⟩) (fun _ => ⟨E [(3, .sl .mut 1 (xs.map rByte))], B []⟩) (fun _ _ => ()) (fun _ _ => True)
    (fun l _ G => by simp only [go_sem, reduceIte, ↓reduceIte, reduceCtorEq, nA, nS, nM, nB, nE, nL, nT, nN, iL, iT, iE, iA, iM, iS, iG, iB, iN, iZ, h, Int.lt_irrefl, hb, fillUp_all]) (fun k hk l _ => by
      have h1 : ((k : Int) < (xs.length : Int)) := Int.ofNat_lt.2 hk
      have h2 := h0.2 _ (List.getElem_mem hk)
      have h3 : (fillUp rByte [.i .u8 0] xs k).set k [.i .u8 xs[k].toNat] = fillUp rByte [.i .u8 0] xs (k + 1) := fillUp_set rByte [.i .u8 0] xs k hk
      exact ⟨trivial, _, fun G => by simp only [go_sem, reduceIte, ↓reduceIte, reduceCtorEq, nA, nS, nM, nB, nE, nL, nT, nN, iL, iT, iE, iA, iM, iS, iG, iB, iN, iZ, h, h2, h3, map_gd rByte xs k hk, fillUp_get rByte [.i .u8 0] xs k hk, fillUp_getD rByte [.i .u8 0] xs k hk, fillUp_len rByte [.i .u8 0] xs k (Nat.le_of_lt hk), h1, idx_nt _ _ hk, wrap_nat1 (show k < 9223372036854775807 by omega), hb] <;> with_reducible rfl, by simp only [go_sem, reduceIte, ↓reduceIte, reduceCtorEq, nA, nS, nM, nB, nE, nL, nT, nN, iL, iT, iE, iA, iM, iS, iG, iB, iN, iZ, h]⟩) () trivial (xs.length + 1) (Nat.le_refl _)).2
  rw [hb] at hr
  simp only [go_sem, reduceIte, ↓reduceIte, reduceCtorEq, nA, nS, nM, nB, nE, nL, nT, nN, iL, iT, iE, iA, iM, iS, iG, iB, iN, iZ, h, c1, c2, Int.toNat_natCast, fillUp_zero rByte [.i .u8 0], hr]) (by simp only [go_sem, reduceIte, ↓reduceIte, reduceCtorEq, nA, nS, nM, nB, nE, nL, nT, nN, iL, iT, iE, iA, iM, iS, iG, iB, iN, iZ, okRes, hasRo])
noncomputable def s19 : SP Tryd.prog := mkS tyA 19 Tryd.f19 [s44, s45] { md := [.ro 1], rg := [(0, [1, 2], [1, 2, 3]), (1, [1, 2, 3], [1, 2, 3]), (2, [1, 2, 3], [1, 2, 3]), (3, [1, 2, 3], [1, 2, 3]), (4, [2, 3], [2, 3]), (5, [2], [2, 3])], rets := some ([2], [2, 3]) } Tryd.func19 (by kernel_rfl)
@[go_sem] theorem d19 : s19.g = 19 ∧ s19.fs = ⟨[.ro 1], s19.F, false⟩ := ⟨nr rfl, nr rfl⟩
@[go_sem] theorem e19 (xStatus : Int) (xHeaders : List Header) (xBody : List UInt8) (h0 : smResponse (Response.mk xStatus xHeaders xBody)) : s19.F [.agg [.i .i64 xStatus, .sl .ro 2 (xHeaders.map (rHeader .ro)), .sl .ro 1 (xBody.map rByte)]] = some (.agg (rResponse .mut (Response.mk xStatus xHeaders xBody)), [.u]) := mkS_eq (0) rfl rfl (fun cx h => by
  obtain ⟨q0, q1, q2⟩ := h0
  simp only [go_sem, reduceIte, ↓reduceIte, reduceCtorEq, nA, nS, nM, nB, nE, nL, nT, nN, iL, iT, iE, iA, iM, iS, iG, iB, iN, iZ, h, q0, q1, q2]) (by simp only [go_sem, reduceIte, ↓reduceIte, reduceCtorEq, nA, nS, nM, nB, nE, nL, nT, nN, iL, iT, iE, iA, iM, iS, iG, iB, iN, iZ, okRes, hasRo, hasRoL, hasRoLL])
noncomputable def s20 : SP Tryd.prog := mkS tyA 20 Tryd.f20 [s44] { md := [.ro 1], rg := [(0, [1, 2], [1, 2, 3]), (1, [1, 2, 3], [1, 2, 3]), (2, [1, 2, 3], [1, 2, 3]), (3, [1, 2, 3], [1, 2, 3]), (4, [1, 2, 3], [1, 2, 3]), (5, [2, 3], [2, 3]), (6, [2], [2, 3])], rets := some ([2], [2, 3]) } Tryd.func20 (by kernel_rfl)
@[go_sem] theorem d20 : s20.g = 20 ∧ s20.fs = ⟨[.ro 1], s20.F, false⟩ := ⟨nr rfl, nr rfl⟩
@[go_sem] theorem e20 (xMethod : ByteArray) (xHost : ByteArray) (xPath : ByteArray) (xHeaders : List Header) (h0 : smRequest (Request.mk xMethod xHost xPath xHeaders)) : s20.F [.agg [.s xMethod, .s xHost, .s xPath, .sl .ro 2 (xHeaders.map (rHeader .ro))]] = some (.agg (rRequest .mut (Request.mk xMethod xHost xPath xHeaders)), [.u]) := mkS_eq (0) rfl rfl (fun cx h => by
  obtain ⟨q0, q1, q2, q3⟩ := h0
  simp only [go_sem, reduceIte, ↓reduceIte, reduceCtorEq, nA, nS, nM, nB, nE, nL, nT, nN, iL, iT, iE, iA, iM, iS, iG, iB, iN, iZ, h, q0, q1, q2, q3]) (by simp only [go_sem, reduceIte, ↓reduceIte, reduceCtorEq, nA, nS, nM, nB, nE, nL, nT, nN, iL, iT, iE, iA, iM, iS, iG, iB, iN, iZ, okRes, hasRo, hasRoL, hasRoLL])
noncomputable def s13 : SP Tryd.prog := mkS tyA 13 Tryd.f13 [s19, s20] { md := [.ro 1], rg := [(0, [1, 2], [1, 2, 3]), (1, [1, 2, 3], [1, 2, 3]), (2, [1, 2, 3], [1, 2, 3]), (3, [1, 2, 3], [1, 2, 3]), (4, [1, 2, 3], [1, 2, 3]), (5, [1, 2, 3], [1, 2, 3]), (6, [1, 2, 3], [1, 2, 3]), (7, [1, 2, 3], [1, 2, 3]), (8, [2, 3], [2, 3]), (9, [2], [2, 3])], rets := some ([2], [2, 3]) } Tryd.func13 (by kernel_rfl)
@[go_sem] theorem d13 : s13.g = 13 ∧ s13.fs = ⟨[.ro 1], s13.F, false⟩ := ⟨nr rfl, nr rfl⟩
@[go_sem] theorem e13 (xKind : Int) (xId : Int) (xDraw : Int) (xRequestMethod : ByteArray) (xRequestHost : ByteArray) (xRequestPath : ByteArray) (xRequestHeaders : List Header) (xResponseStatus : Int) (xResponseHeaders : List Header) (xResponseBody : List UInt8) (xText : ByteArray) (xHard : Bool) (h0 : smEvent (Event.mk xKind xId xDraw (Request.mk xRequestMethod xRequestHost xRequestPath xRequestHeaders) (Response.mk xResponseStatus xResponseHeaders xResponseBody) xText xHard)) : s13.F [.agg [.i .i64 xKind, .i .i64 xId, .i .i64 xDraw, .s xRequestMethod, .s xRequestHost, .s xRequestPath, .sl .ro 2 (xRequestHeaders.map (rHeader .ro)), .i .i64 xResponseStatus, .sl .ro 2 (xResponseHeaders.map (rHeader .ro)), .sl .ro 1 (xResponseBody.map rByte), .s xText, .b xHard]] = some (.agg (rEvent .mut (Event.mk xKind xId xDraw (Request.mk xRequestMethod xRequestHost xRequestPath xRequestHeaders) (Response.mk xResponseStatus xResponseHeaders xResponseBody) xText xHard)), [.u]) := mkS_eq (0) rfl rfl (fun cx h => by
  obtain ⟨q0, q1, q2, q3, q4, q5, q6⟩ := h0
  simp only [go_sem, reduceIte, ↓reduceIte, reduceCtorEq, nA, nS, nM, nB, nE, nL, nT, nN, iL, iT, iE, iA, iM, iS, iG, iB, iN, iZ, h, q0, q1, q2, q3, q4, q5, q6]) (by simp only [go_sem, reduceIte, ↓reduceIte, reduceCtorEq, nA, nS, nM, nB, nE, nL, nT, nN, iL, iT, iE, iA, iM, iS, iG, iB, iN, iZ, okRes, hasRo, hasRoL, hasRoLL])
noncomputable def s22 : SP Tryd.prog := mkS tyA 22 Tryd.f22 [] { md := [.ro 1, .ro 1, .ro 1], rets := some ([6], []) } Tryd.func22 (by kernel_rfl)
@[go_sem] theorem d22 : s22.g = 22 ∧ s22.fs = ⟨[.ro 1, .ro 1, .ro 1], s22.F, false⟩ := ⟨nr rfl, nr rfl⟩
@[go_sem] theorem e22 (a : Int) (b : Int) (c : Int) : s22.F [.i .i64 a, .i .i64 b, .i .i64 c] = some (.b (within a b c), [.u, .u, .u]) := mkS_eq (0) rfl rfl (fun cx h => by
  simp only [go_sem, reduceIte, ↓reduceIte, reduceCtorEq, nA, nS, nM, nB, nE, nL, nT, nN, iL, iT, iE, iA, iM, iS, iG, iB, iN, iZ, h, within]
  by_cases h : b ≤ a <;> simp [h]) (rfl)
noncomputable def s21 : SP Tryd.prog := mkS tyA 21 Tryd.f21 [s22] { md := [.ro 1], rets := some ([2], []) } Tryd.func21 (by kernel_rfl)
@[go_sem] theorem d21 : s21.g = 21 ∧ s21.fs = ⟨[.ro 1], s21.F, false⟩ := ⟨nr rfl, nr rfl⟩
@[go_sem] theorem e21 (a : Int) : s21.F [.i .i64 a] = some (.b (isTime a), [.u]) := mkS_eq (0) rfl rfl (fun cx h => by
  simp only [go_sem, reduceIte, ↓reduceIte, reduceCtorEq, nA, nS, nM, nB, nE, nL, nT, nN, iL, iT, iE, iA, iM, iS, iG, iB, iN, iZ, h, isTime]) (rfl)
noncomputable def s72 : SP Tryd.prog := mkS tyA 72 Tryd.f72 [] { md := [.ro 1, .ro 1], rg := [(0, [0, 1], []), (1, [0, 1, 7, 8], []), (2, [0, 1, 7, 8, 9], []), (3, [0, 1, 5, 7, 8], []), (4, [0, 1, 5, 7, 8, 16], []), (5, [4], []), (6, [0, 1, 7, 8], []), (7, [4], [])], lv := [(0, [0, 1, 7, 8], [])], out := [(0, [], [])], rets := some ([4], []) } Tryd.func72 (by kernel_rfl)
@[go_sem] theorem d72 : s72.g = 72 ∧ s72.fs = ⟨[.ro 1, .ro 1], s72.F, false⟩ := ⟨nr rfl, nr rfl⟩
@[go_sem] theorem e72 (xs : List Int) (v : Int) (h0 : xs.length ≤ 9223372036854775806) : s72.F [.sl .ro 1 (xs.map rInt), .i .i64 v] = some (.i .i64 (idxP (fun x => v == x) xs 0), [.u, .u]) := mkS_eq (xs.length + 1) rfl rfl (fun cx h => by
  have hx := h0
  have hb0 := loopN_eq Tryd.f72 0 _ _ rfl rfl
  obtain ⟨r, hr, hq⟩ := loop_srch (cx := cx) (blk := 0) (body := loopN Tryd.f72 0) xs (fun k (s : Nat) => ⟨E [(0, .sl .ro 1 (xs.map rInt)), (1, .i .i64 v), (7, .i .i64 xs.length), (8, .i .i64 k)], B []⟩) (fun s => ⟨E [], B []⟩) (fun x s => v == x) (fun x s => s + 1) (fun x s => (.ret, ⟨E [(4, .i .i64 s)], B []⟩)) (fun k s => k = s)
      (fun s hI G => by simp only [go_sem, reduceIte, ↓reduceIte, reduceCtorEq, nA, nS, nM, nB, nE, nL, nT, nN, iL, iT, iE, iA, iM, iS, iG, iB, iN, iZ, h, Int.lt_irrefl, hb0, hI]) (fun k hk s hI => by
        have h1 : ((k : Int) < (xs.length : Int)) := Int.ofNat_lt.2 hk
        obtain rfl := hI
        exact ⟨_, _, _, fun G => by simp only [go_sem, reduceIte, ↓reduceIte, reduceCtorEq, nA, nS, nM, nB, nE, nL, nT, nN, iL, iT, iE, iA, iM, iS, iG, iB, iN, iZ, h, map_gd rInt xs _ hk, h1, idx_nt _ _ hk, wrap_nat1 (show k < 9223372036854775807 by omega), hb0] <;> with_reducible rfl, Iff.rfl, fun hc => ⟨rfl, by simp only [go_sem, reduceIte, ↓reduceIte, reduceCtorEq, nA, nS, nM, nB, nE, nL, nT, nN, iL, iT, iE, iA, iM, iS, iG, iB, iN, iZ, h]⟩⟩) 0 rfl (xs.length + 1) (Nat.le_refl _)
  rw [hb0] at hr
  rcases hq with ⟨s', e1, _, e3⟩ | ⟨x, s', e1, e3⟩
  · simp only [go_sem, reduceIte, ↓reduceIte, reduceCtorEq, nA, nS, nM, nB, nE, nL, nT, nN, iL, iT, iE, iA, iM, iS, iG, iB, iN, iZ, h, hr, e3, runS_idx e1]
  · simp only [go_sem, reduceIte, ↓reduceIte, reduceCtorEq, nA, nS, nM, nB, nE, nL, nT, nN, iL, iT, iE, iA, iM, iS, iG, iB, iN, iZ, h, hr, e3, runS_idx' e1]) (rfl)
noncomputable def s53 : SP Tryd.prog := mkS tyA 53 Tryd.f53 [s72] { md := [.ro 1, .ro 1], rets := some ([4], []) } Tryd.func53 (by kernel_rfl)
@[go_sem] theorem d53 : s53.g = 53 ∧ s53.fs = ⟨[.ro 1, .ro 1], s53.F, false⟩ := ⟨nr rfl, nr rfl⟩
@[go_sem] theorem e53 (xs : List Int) (v : Int) (h0 : xs.length ≤ 9223372036854775806) : s53.F [.sl .ro 1 (xs.map rInt), .i .i64 v] = some (.b (isOne v xs), [.u, .u]) := mkS_eq (0) rfl rfl (fun cx h => by
  simp only [go_sem, reduceIte, ↓reduceIte, reduceCtorEq, nA, nS, nM, nB, nE, nL, nT, nN, iL, iT, iE, iA, iM, iS, iG, iB, iN, iZ, h, h0, idxP_any, isOne]) (rfl)
noncomputable def s32 : SP Tryd.prog := mkS tyA 32 Tryd.f32 [s53] { md := [.ro 1, .ro 1], rets := some ([4], []) } Tryd.func32 (by kernel_rfl)
@[go_sem] theorem d32 : s32.g = 32 ∧ s32.fs = ⟨[.ro 1, .ro 1], s32.F, false⟩ := ⟨nr rfl, nr rfl⟩
@[go_sem] theorem e32 (v : Int) (xs : List Int) (h0 : xs.length ≤ 9223372036854775806) : s32.F [.i .i64 v, .sl .ro 1 (xs.map rInt)] = some (.b (isOne v xs), [.u, .u]) := mkS_eq (0) rfl rfl (fun cx h => by
  simp only [go_sem, reduceIte, ↓reduceIte, reduceCtorEq, nA, nS, nM, nB, nE, nL, nT, nN, iL, iT, iE, iA, iM, iS, iG, iB, iN, iZ, h, h0]) (rfl)
@[go_sem] theorem e32_1 (v a0 : Int) : s32.F [.i .i64 v, .sl .ro 1 [[.i .i64 a0]]] = some (.b (isOne v [a0]), [.u, .u]) := e32 v [a0] (by simp)
@[go_sem] theorem e32_2 (v a0 a1 : Int) : s32.F [.i .i64 v, .sl .ro 1 [[.i .i64 a0], [.i .i64 a1]]] = some (.b (isOne v [a0, a1]), [.u, .u]) := e32 v [a0, a1] (by simp)
@[go_sem] theorem e32_3 (v a0 a1 a2 : Int) : s32.F [.i .i64 v, .sl .ro 1 [[.i .i64 a0], [.i .i64 a1], [.i .i64 a2]]] = some (.b (isOne v [a0, a1, a2]), [.u, .u]) := e32 v [a0, a1, a2] (by simp)
@[go_sem] theorem e32_4 (v a0 a1 a2 a3 : Int) : s32.F [.i .i64 v, .sl .ro 1 [[.i .i64 a0], [.i .i64 a1], [.i .i64 a2], [.i .i64 a3]]] = some (.b (isOne v [a0, a1, a2, a3]), [.u, .u]) := e32 v [a0, a1, a2, a3] (by simp)
@[go_sem] theorem e32_5 (v a0 a1 a2 a3 a4 : Int) : s32.F [.i .i64 v, .sl .ro 1 [[.i .i64 a0], [.i .i64 a1], [.i .i64 a2], [.i .i64 a3], [.i .i64 a4]]] = some (.b (isOne v [a0, a1, a2, a3, a4]), [.u, .u]) := e32 v [a0, a1, a2, a3, a4] (by simp)
noncomputable def s54 : SP Tryd.prog := mkS tyA 54 Tryd.f54 [] { md := [.ro 1, .ro 1], rg := [(0, [0, 1], []), (1, [0, 1, 10], []), (2, [4], []), (3, [0, 1, 12, 13], []), (4, [0, 1, 12, 13, 14], []), (5, [0, 1, 5, 12, 13], []), (6, [0, 1, 12, 13, 24], []), (7, [4], []), (8, [0, 1, 12, 13], []), (9, [4], [])], lv := [(0, [0, 1, 12, 13], [])], out := [(0, [], [])], rets := some ([4], []), plan := [(6, (.take 0 (.take 1 (.take 2 (.take 3 (.take 4 (.take 5 (.take 6 (.take 7 (.take 8 .done))))))))))] } Tryd.func54 (by kernel_rfl)
@[go_sem] theorem d54 : s54.g = 54 ∧ s54.fs = ⟨[.ro 1, .ro 1], s54.F, false⟩ := ⟨nr rfl, nr rfl⟩
@[go_sem] theorem e54 (xs ys : List Header) (h0 : smL smHeader xs) : s54.F [.sl .ro 2 (xs.map (rHeader .ro)), .sl .ro 2 (ys.map (rHeader .ro))] = some (.b (eqv xs ys), [.u, .u]) := mkS_eq (xs.length + 1) rfl rfl (fun cx h => by
  have hx := h0.1
  by_cases hl : xs.length = ys.length
  · have hb0 := loopN_eq Tryd.f54 0 _ _ rfl rfl
    obtain ⟨r, hr, hq⟩ := loop_srch (cx := cx) (blk := 0) (body := loopN Tryd.f54 0) (xs.zip ys) (fun k (s : Unit) => ⟨E [(0, .sl .ro 2 (xs.map (rHeader .ro))), (1, .sl .ro 2 (ys.map (rHeader .ro))), (12, .i .i64 xs.length), (13, .i .i64 k)], B []⟩) (fun s => ⟨E [], B []⟩) (fun x s => !eqv x.1 x.2) (fun x s => s) (fun x s => (.ret, ⟨E [(4, .b false)], B []⟩)) (fun k s => True)
        (fun s hI G => by simp only [go_sem, reduceIte, ↓reduceIte, reduceCtorEq, nA, nS, nM, nB, nE, nL, nT, nN, iL, iT, iE, iA, iM, iS, iG, iB, iN, iZ, h, Int.lt_irrefl, hb0, zip_len hl, hl]) (fun k hk s hI => by
          have h1 : ((k : Int) < ((xs.zip ys).length : Int)) := Int.ofNat_lt.2 hk
          have hk' : k < xs.length := by rwa [zip_len hl] at hk
          have h1' : ((k : Int) < (xs.length : Int)) := Int.ofNat_lt.2 hk'
          have h2 := h0.2 _ (List.getElem_mem hk')
          have h3 : (xs.zip ys)[k] = (xs[k], ys[k]'(by omega)) := by simp
          rw [h3]
          have h4 := h2
          obtain ⟨u0, u1⟩ := h2
          exact ⟨_, _, _, fun G => by simp only [go_sem, reduceIte, ↓reduceIte, reduceCtorEq, nA, nS, nM, nB, nE, nL, nT, nN, iL, iT, iE, iA, iM, iS, iG, iB, iN, iZ, h, h1', idx_nt _ _ hk', idx_nt ys.length k (by omega), map_gd (rHeader .ro) xs k hk', map_gd (rHeader .ro) ys k (by omega), wrap_nat1 (show k < 9223372036854775807 by omega), h4, if_oret, Header.eqv xs[k] (ys[k]'(by omega)), u0, u1, eqv_byte, eqv_intne, eqv_int, eqv_bytes, eqv_boolne, h1, idx_nt _ _ hk, wrap_nat1 (show k < 9223372036854775807 by omega), hb0] <;> with_reducible rfl, by first | exact Iff.rfl | (simp only [Header.eqv xs[k] (ys[k]'(by omega))] <;> simp), fun hc => ⟨trivial, by simp only [go_sem, reduceIte, ↓reduceIte, reduceCtorEq, nA, nS, nM, nB, nE, nL, nT, nN, iL, iT, iE, iA, iM, iS, iG, iB, iN, iZ, h]⟩⟩) () trivial (xs.length + 1) (by rw [zip_len hl]; exact Nat.le_refl _)
    rw [hb0] at hr
    have hl2 : ((xs.length : Int) != (ys.length : Int)) = false := by simp [hl]
    rcases hq with ⟨s', e1, _, e3⟩ | ⟨x, s', e1, e3⟩
    · simp only [go_sem, reduceIte, ↓reduceIte, reduceCtorEq, nA, nS, nM, nB, nE, nL, nT, nN, iL, iT, iE, iA, iM, iS, iG, iB, iN, iZ, h, hl2, hr, e3, zip_eqv hl e1]
    · simp only [go_sem, reduceIte, ↓reduceIte, reduceCtorEq, nA, nS, nM, nB, nE, nL, nT, nN, iL, iT, iE, iA, iM, iS, iG, iB, iN, iZ, h, hl2, hr, e3, zip_nev hl e1]
  · have hl2 : ((xs.length : Int) != (ys.length : Int)) = true := by simpa using fun h => hl (Int.ofNat_inj.1 h)
    simp only [go_sem, reduceIte, ↓reduceIte, reduceCtorEq, nA, nS, nM, nB, nE, nL, nT, nN, iL, iT, iE, iA, iM, iS, iG, iB, iN, iZ, h, hl2, len_nev hl]) (rfl)
noncomputable def s33 : SP Tryd.prog := mkS tyA 33 Tryd.f33 [s54] { md := [.ro 1, .ro 1], rets := some ([4], []) } Tryd.func33 (by kernel_rfl)
@[go_sem] theorem d33 : s33.g = 33 ∧ s33.fs = ⟨[.ro 1, .ro 1], s33.F, false⟩ := ⟨nr rfl, nr rfl⟩
@[go_sem] theorem e33 (xMethod : ByteArray) (xHost : ByteArray) (xPath : ByteArray) (xHeaders : List Header) (yMethod : ByteArray) (yHost : ByteArray) (yPath : ByteArray) (yHeaders : List Header) (h0 : smRequest (Request.mk xMethod xHost xPath xHeaders)) : s33.F [.agg [.s xMethod, .s xHost, .s xPath, .sl .ro 2 (xHeaders.map (rHeader .ro))], .agg [.s yMethod, .s yHost, .s yPath, .sl .ro 2 (yHeaders.map (rHeader .ro))]] = some (.b (eqv (Request.mk xMethod xHost xPath xHeaders) (Request.mk yMethod yHost yPath yHeaders)), [.u, .u]) := mkS_eq (0) rfl rfl (fun cx h => by
  obtain ⟨q0, q1, q2, q3⟩ := h0
  simp only [go_sem, reduceIte, ↓reduceIte, reduceCtorEq, nA, nS, nM, nB, nE, nL, nT, nN, iL, iT, iE, iA, iM, iS, iG, iB, iN, iZ, h, eqv_intne, eqv_int, eqv_bytes, eqv_boolne, eqv_bool, eqv_mk, q0, q1, q2, q3]
  simp only [Request.eqv (Request.mk xMethod xHost xPath xHeaders) (Request.mk yMethod yHost yPath yHeaders), if_sb, if_and', if_or', Bool.and_true, Bool.and_assoc]) (rfl)
noncomputable def s55 : SP Tryd.prog := mkS tyA 55 Tryd.f55 [] { md := [.ro 1, .ro 1], rets := some ([4], []) } Tryd.func55 (by kernel_rfl)
@[go_sem] theorem d55 : s55.g = 55 ∧ s55.fs = ⟨[.ro 1, .ro 1], s55.F, false⟩ := ⟨nr rfl, nr rfl⟩
@[go_sem] theorem e55 (x : List UInt8) (y : List UInt8) : s55.F [.sl .ro 1 (x.map rByte), .sl .ro 1 (y.map rByte)] = some (.b (eqv x y), [.u, .u]) := mkS_eq (0) rfl rfl (fun cx h => by
  simp only [go_sem, reduceIte, ↓reduceIte, reduceCtorEq, nA, nS, nM, nB, nE, nL, nT, nN, iL, iT, iE, iA, iM, iS, iG, iB, iN, iZ, h, eqv_bytes, eqv_mk]) (rfl)
noncomputable def s34 : SP Tryd.prog := mkS tyA 34 Tryd.f34 [s54, s55] { md := [.ro 1, .ro 1], rets := some ([4], []) } Tryd.func34 (by kernel_rfl)
@[go_sem] theorem d34 : s34.g = 34 ∧ s34.fs = ⟨[.ro 1, .ro 1], s34.F, false⟩ := ⟨nr rfl, nr rfl⟩
@[go_sem] theorem e34 (xStatus : Int) (xHeaders : List Header) (xBody : List UInt8) (yStatus : Int) (yHeaders : List Header) (yBody : List UInt8) (h0 : smResponse (Response.mk xStatus xHeaders xBody)) : s34.F [.agg [.i .i64 xStatus, .sl .ro 2 (xHeaders.map (rHeader .ro)), .sl .ro 1 (xBody.map rByte)], .agg [.i .i64 yStatus, .sl .ro 2 (yHeaders.map (rHeader .ro)), .sl .ro 1 (yBody.map rByte)]] = some (.b (eqv (Response.mk xStatus xHeaders xBody) (Response.mk yStatus yHeaders yBody)), [.u, .u]) := mkS_eq (0) rfl rfl (fun cx h => by
  obtain ⟨q0, q1, q2⟩ := h0
  simp only [go_sem, reduceIte, ↓reduceIte, reduceCtorEq, nA, nS, nM, nB, nE, nL, nT, nN, iL, iT, iE, iA, iM, iS, iG, iB, iN, iZ, h, eqv_intne, eqv_int, eqv_bytes, eqv_boolne, eqv_bool, eqv_mk, q0, q1, q2]
  simp only [Response.eqv (Response.mk xStatus xHeaders xBody) (Response.mk yStatus yHeaders yBody), if_sb, if_and', if_or', Bool.and_true, Bool.and_assoc]) (rfl)
noncomputable def s56 : SP Tryd.prog := mkS tyA 56 Tryd.f56 [] { md := [.ro 1, .ro 1], rg := [(0, [0, 1], []), (1, [1, 3], []), (2, [2], []), (3, [2], [])], rets := some ([2], []) } Tryd.func56 (by kernel_rfl)
@[go_sem] theorem d56 : s56.g = 56 ∧ s56.fs = ⟨[.ro 1, .ro 1], s56.F, false⟩ := ⟨nr rfl, nr rfl⟩
@[go_sem] theorem e56 (x : Bool) (c : Int) : s56.F [.pr [.b x], .pr [.i .i64 c]] = some (.i .i64 (if x = true then c else 0), [.u, .u]) := mkS_eq (0) rfl rfl (fun cx h => by
  simp only [go_sem, reduceIte, ↓reduceIte, reduceCtorEq, nA, nS, nM, nB, nE, nL, nT, nN, iL, iT, iE, iA, iM, iS, iG, iB, iN, iZ, h, if_i]) (rfl)
noncomputable def s82 : SP Tryd.prog := mkS tyA 82 Tryd.f82 [] { md := [.ro 1], rg := [(0, [0], []), (1, [3], []), (2, [3, 8, 9, 10], []), (3, [3, 8, 9, 10, 11], []), (4, [3, 4, 5, 8, 9, 10], []), (5, [3, 4, 5, 8, 9, 10, 20], []), (6, [3, 8, 9, 10], []), (7, [3, 8, 9, 10], []), (8, [2], [])], lv := [(0, [3, 8, 9, 10], [])], out := [(0, [3], [])], rets := some ([2], []) } Tryd.func82 (by kernel_rfl)
@[go_sem] theorem d82 : s82.g = 82 ∧ s82.fs = ⟨[.ro 1], s82.F, false⟩ := ⟨nr rfl, nr rfl⟩
@[go_sem] theorem e82 (t : ByteArray) (h0 : t.size ≤ 9223372036854775806) : s82.F [.s t] = some (.s (lowS t), [.u]) := mkS_eq (t.data.toList.length + 1) rfl rfl (fun cx h => by
  have hz : t.data.toList.length ≤ 9223372036854775807 := by rw [← str_size]; omega
  have hx : t.data.toList.length ≤ 9223372036854775806 := by rw [← str_size]; exact h0
  have hb0 := loopN_eq Tryd.f82 0 _ _ rfl rfl
  obtain ⟨hI, hr⟩ := loop_fold (cx := cx) (blk := 0) (body := loopN Tryd.f82 0) t.data.toList (fun k (s : Unit) => ⟨E [(3, .sl .mut 1 ((lowUp t.data.toList k).map rByte)), (8, .rf ⟨true, 3, [], 0⟩ 1 0 t.data.toList.length), (9, .i .i64 t.data.toList.length), (10, .i .i64 k)], B []⟩) (fun s => ⟨E [(3, .sl .mut 1 ((t.data.toList.map lowB).map rByte))], B []⟩) (fun x s => s) (fun k s => True)
      (fun s hI G => by simp only [go_sem, reduceIte, ↓reduceIte, reduceCtorEq, nA, nS, nM, nB, nE, nL, nT, nN, iL, iT, iE, iA, iM, iS, iG, iB, iN, iZ, h, Int.lt_irrefl, hb0, lowUp_len t.data.toList t.data.toList.length (Nat.le_refl _), lowUp_all t.data.toList, List.length_map]) (fun k hk s hI => by
        have h1 : ((k : Int) < (t.data.toList.length : Int)) := Int.ofNat_lt.2 hk
        have g1 := lowUp_gd t.data.toList k hk
        have g2 := lowUp_g t.data.toList k hk
        have g3 := lowUp_len t.data.toList k (Nat.le_of_lt hk)
        have g4 : (List.take t.data.toList.length ((lowUp t.data.toList k).map rByte)) = (lowUp t.data.toList k).map rByte := List.take_of_length_le (by rw [List.length_map, g3]; exact Nat.le_refl _)
        rcases lowStep t.data.toList k hk with ⟨a1, a2, w1, w2, hs, hv⟩ | ⟨a1, a2, w1, w2, hs, hv⟩ | ⟨a1, a2, w1, w2, hs, hv⟩
        all_goals exact ⟨trivial, _, fun G => by simp only [go_sem, reduceIte, ↓reduceIte, reduceCtorEq, nA, nS, nM, nB, nE, nL, nT, nN, iL, iT, iE, iA, iM, iS, iG, iB, iN, iZ, h, g1, g2, g3, g4, a1, a2, w1, w2, hs, List.length_map, h1, idx_nt _ _ hk, wrap_nat1 (show k < 9223372036854775807 by omega), hb0] <;> with_reducible rfl, by simp only [go_sem, reduceIte, ↓reduceIte, reduceCtorEq, nA, nS, nM, nB, nE, nL, nT, nN, iL, iT, iE, iA, iM, iS, iG, iB, iN, iZ, h, hv]⟩) () trivial (t.data.toList.length + 1) (Nat.le_refl _)
  rw [hb0] at hr
  rw [lowUp_zero] at hr
  simp only [go_sem, reduceIte, ↓reduceIte, reduceCtorEq, nA, nS, nM, nB, nE, nL, nT, nN, iL, iT, iE, iA, iM, iS, iG, iB, iN, iZ, h, hz, hr, str_size t, lowS]) (rfl)
noncomputable def s66 : SP Tryd.prog := mkS tyA 66 Tryd.f66 [s82] { md := [.ro 1, .ro 1], rets := some ([4], []) } Tryd.func66 (by kernel_rfl)
@[go_sem] theorem d66 : s66.g = 66 ∧ s66.fs = ⟨[.ro 1, .ro 1], s66.F, false⟩ := ⟨nr rfl, nr rfl⟩
@[go_sem] theorem e66 (a : ByteArray) (b : ByteArray) (h0 : (a.size ≤ 9223372036854775806 ∧ b.size ≤ 9223372036854775806)) : s66.F [.s a, .s b] = some (.b (eqv (lowS a) (lowS b)), [.u, .u]) := mkS_eq (0) rfl rfl (fun cx h => by
  simp only [go_sem, reduceIte, ↓reduceIte, reduceCtorEq, nA, nS, nM, nB, nE, nL, nT, nN, iL, iT, iE, iA, iM, iS, iG, iB, iN, iZ, h, h0.1, h0.2, eqv_bytes]) (rfl)
theorem ffold {α β : Type} (p : α → Bool) (f : α → β) : ∀ (xs : List α) (acc : List β), xs.foldl (fun s x => if p x = true then s ++ [f x] else s) acc = acc ++ (xs.filter p).map f
  | [], acc => by simp
  | x :: xs, acc => by
    rw [List.foldl_cons, ffold p f xs, List.filter_cons]
    cases p x <;> simp
noncomputable def s47 : SP Tryd.prog := mkS tyA 47 Tryd.f47 [s66] { md := [.ro 1, .ro 1], rg := [(0, [0, 1], []), (1, [0, 1, 5], []), (2, [0, 1, 5, 9, 10, 11], []), (3, [0, 1, 5, 9, 10, 11, 12], []), (4, [0, 1, 5, 7, 9, 10, 11], [7]), (5, [0, 1, 5, 7, 9, 10, 11, 18], [7]), (6, [0, 1, 5, 9, 10, 11], []), (7, [0, 1, 5, 9, 10, 11], []), (8, [4], [])], lv := [(0, [0, 1, 5, 9, 10, 11], [])], out := [(0, [5], [])], rets := some ([4], []) } Tryd.func47 (by kernel_rfl)
@[go_sem] theorem d47 : s47.g = 47 ∧ s47.fs = ⟨[.ro 1, .ro 1], s47.F, false⟩ := ⟨nr rfl, nr rfl⟩
@[go_sem] theorem e47 (hs : List Header) (name : ByteArray) (h0 : (hs.length ≤ 20 ∧ smL smHeader hs ∧ okN name = true)) : s47.F [.sl .ro 2 (hs.map (rHeader .ro)), .s name] = some (.sl .mut 1 ((valsOf hs name).map rStr), [.u, .u]) := mkS_eq (hs.length + 1) rfl rfl (fun cx h => by
  have hl := h0.1
  have hx : hs.length ≤ 9223372036854775806 := by omega
  have hb0 := loopN_eq Tryd.f47 0 _ _ rfl rfl
  obtain ⟨hI, hr⟩ := loop_fold (cx := cx) (blk := 0) (body := loopN Tryd.f47 0) hs (fun k (s : List ByteArray) => ⟨E [(0, .sl .ro 2 (hs.map (rHeader .ro))), (1, .s name), (5, .sl .mut 1 (s.map rStr)), (9, .sl .ro 2 (hs.map (rHeader .ro))), (10, .i .i64 hs.length), (11, .i .i64 k)], B []⟩) (fun s => ⟨E [(5, .sl .mut 1 (s.map rStr))], B []⟩) (fun x s => (if eqv (lowS x.Name) (lowS name) = true then s ++ [x.Value] else s)) (fun k s => s.length ≤ k)
      (fun s hI G => by simp only [go_sem, reduceIte, ↓reduceIte, reduceCtorEq, nA, nS, nM, nB, nE, nL, nT, nN, iL, iT, iE, iA, iM, iS, iG, iB, iN, iZ, h, Int.lt_irrefl, hb0, h0.1]) (fun k hk s hI => by
        have h1 : ((k : Int) < (hs.length : Int)) := Int.ofNat_lt.2 hk
        have t3 : (s.length + 1) * 16 ≤ 140737488355328 := by omega
        have t4 : s.map rStr ++ [[.s hs[k].Value]] = (s ++ [hs[k].Value]).map rStr := by simp [rStr]
        obtain ⟨u1, u2⟩ := h0.2.1.2 _ (List.getElem_mem hk)
        have n1 : hs[k].Name.size ≤ 9223372036854775806 ∧ name.size ≤ 9223372036854775806 := ⟨by have : hs[k].Name.size ≤ 1048576 := u1; omega, of_decide_eq_true h0.2.2⟩
        cases d1 : eqv (lowS hs[k].Name) (lowS name)
        all_goals exact ⟨by split <;> (try simp only [List.length_append, List.length_cons, List.length_nil]) <;> omega, _, fun G => by simp only [go_sem, reduceIte, ↓reduceIte, reduceCtorEq, nA, nS, nM, nB, nE, nL, nT, nN, iL, iT, iE, iA, iM, iS, iG, iB, iN, iZ, h, t3, t4, map_gd (rHeader .ro) hs k hk, n1, d1, h1, idx_nt _ _ hk, wrap_nat1 (show k < 9223372036854775807 by omega), hb0] <;> with_reducible rfl, by simp only [go_sem, reduceIte, ↓reduceIte, reduceCtorEq, nA, nS, nM, nB, nE, nL, nT, nN, iL, iT, iE, iA, iM, iS, iG, iB, iN, iZ, h, d1]⟩) [] (by simp) (hs.length + 1) (Nat.le_refl _)
  rw [hb0] at hr
  have hff := ffold (fun x : Header => eqv (lowS x.Name) (lowS name)) (fun x => x.Value) hs []
  simp only [List.nil_append] at hff
  rw [hff] at hr
  simp only [go_sem, reduceIte, ↓reduceIte, reduceCtorEq, nA, nS, nM, nB, nE, nL, nT, nN, iL, iT, iE, iA, iM, iS, iG, iB, iN, iZ, h, hr, valsOf]) (by simp only [go_sem, reduceIte, ↓reduceIte, reduceCtorEq, nA, nS, nM, nB, nE, nL, nT, nN, iL, iT, iE, iA, iM, iS, iG, iB, iN, iZ, okRes, hasRo])
noncomputable def s57 : SP Tryd.prog := mkS tyA 57 Tryd.f57 [] { md := [.ro 1], rets := some ([2], []) } Tryd.func57 (by kernel_rfl)
@[go_sem] theorem d57 : s57.g = 57 ∧ s57.fs = ⟨[.ro 1], s57.F, false⟩ := ⟨nr rfl, nr rfl⟩
@[go_sem] theorem e57 (t : ByteArray) : s57.F [.s t] = some (.b (isMethod t), [.u]) := mkS_eq (0) rfl rfl (fun cx h => by
  have hu : isMethod t = (eqv t ⟨#[71, 69, 84]⟩ || eqv t ⟨#[72, 69, 65, 68]⟩) := rfl
  cases h1 : eqv t ⟨#[71, 69, 84]⟩ <;> cases h2 : eqv t ⟨#[72, 69, 65, 68]⟩ <;> simp only [go_sem, reduceIte, ↓reduceIte, reduceCtorEq, nA, nS, nM, nB, nE, nL, nT, nN, iL, iT, iE, iA, iM, iS, iG, iB, iN, iZ, h, eqv_bytes, h1, h2, hu]) (rfl)
noncomputable def s87 : SP Tryd.prog := mkS tyA 87 Tryd.f87 [] { md := [.ro 1], rets := some ([2], []) } Tryd.func87 (by kernel_rfl)
@[go_sem] theorem d87 : s87.g = 87 ∧ s87.fs = ⟨[.ro 1], s87.F, false⟩ := ⟨nr rfl, nr rfl⟩
@[go_sem] theorem e87 (c : UInt8) : s87.F [.i .u8 c.toNat] = some (.b (letterB c), [.u]) := mkS_eq (0) rfl rfl (fun cx h => by
  by_cases h1 : 97 ≤ (c.toNat : Int) <;> by_cases h2 : (c.toNat : Int) ≤ 122 <;> by_cases h3 : 65 ≤ (c.toNat : Int) <;> by_cases h4 : (c.toNat : Int) ≤ 90 <;> simp only [go_sem, reduceIte, ↓reduceIte, reduceCtorEq, nA, nS, nM, nB, nE, nL, nT, nN, iL, iT, iE, iA, iM, iS, iG, iB, iN, iZ, h, h1, h2, h3, h4, letterB]) (rfl)
noncomputable def s88 : SP Tryd.prog := mkS tyA 88 Tryd.f88 [] { md := [.ro 1], rets := some ([2], []) } Tryd.func88 (by kernel_rfl)
@[go_sem] theorem d88 : s88.g = 88 ∧ s88.fs = ⟨[.ro 1], s88.F, false⟩ := ⟨nr rfl, nr rfl⟩
@[go_sem] theorem e88 (c : UInt8) : s88.F [.i .u8 c.toNat] = some (.b (digitB c), [.u]) := mkS_eq (0) rfl rfl (fun cx h => by
  by_cases h1 : 48 ≤ (c.toNat : Int) <;> by_cases h2 : (c.toNat : Int) ≤ 57 <;> simp only [go_sem, reduceIte, ↓reduceIte, reduceCtorEq, nA, nS, nM, nB, nE, nL, nT, nN, iL, iT, iE, iA, iM, iS, iG, iB, iN, iZ, h, h1, h2, digitB]) (rfl)
noncomputable def s112 : SP Tryd.prog := ⟨112, ⟨[.ro 1, .ro 1], idxF, false⟩, idx_ok Tryd.func112 (by kernel_rfl) (by kernel_rfl) (by kernel_rfl) (by kernel_rfl)⟩
@[go_sem] theorem d112 : s112.g = 112 ∧ s112.fs = ⟨[.ro 1, .ro 1], s112.F, false⟩ := ⟨nr rfl, nr rfl⟩
@[go_sem] theorem e112 (s : ByteArray) (c : UInt8) : s112.F [.s s, .i .u8 c.toNat] = some (.i .i64 (ixB s c), [.u, .u]) := by
  show idxF [.s s, .i .u8 c.toNat] = _
  rw [idxF_eq, int_u8]
  rfl
noncomputable def s101 : SP Tryd.prog := mkS tyA 101 Tryd.f101 [s112] { md := [.ro 1, .ro 1], rets := some ([4], []) } Tryd.func101 (by kernel_rfl)
@[go_sem] theorem d101 : s101.g = 101 ∧ s101.fs = ⟨[.ro 1, .ro 1], s101.F, false⟩ := ⟨nr rfl, nr rfl⟩
@[go_sem] theorem e101 (s : ByteArray) (c : UInt8) : s101.F [.s s, .i .u8 c.toNat] = some (.i .i64 (ixB s c), [.u, .u]) := mkS_eq (0) rfl rfl (fun cx h => by
  simp only [go_sem, reduceIte, ↓reduceIte, reduceCtorEq, nA, nS, nM, nB, nE, nL, nT, nN, iL, iT, iE, iA, iM, iS, iG, iB, iN, iZ, h]) (rfl)
noncomputable def s90 : SP Tryd.prog := mkS tyA 90 Tryd.f90 [s101] { md := [.ro 1, .ro 1], rets := some ([4], []) } Tryd.func90 (by kernel_rfl)
@[go_sem] theorem d90 : s90.g = 90 ∧ s90.fs = ⟨[.ro 1, .ro 1], s90.F, false⟩ := ⟨nr rfl, nr rfl⟩
@[go_sem] theorem e90 (s : ByteArray) (c : UInt8) : s90.F [.s s, .i .u8 c.toNat] = some (.i .i64 (ixB s c), [.u, .u]) := mkS_eq (0) rfl rfl (fun cx h => by
  simp only [go_sem, reduceIte, ↓reduceIte, reduceCtorEq, nA, nS, nM, nB, nE, nL, nT, nN, iL, iT, iE, iA, iM, iS, iG, iB, iN, iZ, h]) (rfl)
noncomputable def s89 : SP Tryd.prog := mkS tyA 89 Tryd.f89 [s87, s88, s90] { md := [.ro 1], rets := some ([2], []) } Tryd.func89 (by kernel_rfl)
@[go_sem] theorem d89 : s89.g = 89 ∧ s89.fs = ⟨[.ro 1], s89.F, false⟩ := ⟨nr rfl, nr rfl⟩
@[go_sem] theorem e89 (c : UInt8) : s89.F [.i .u8 c.toNat] = some (.b (wordB c), [.u]) := mkS_eq (0) rfl rfl (fun cx h => by
  have hix := ixB_sym c
  have hu : wordB c = (letterB c || digitB c || symB.contains c) := rfl
  cases h1 : letterB c <;> cases h2 : digitB c <;> cases h3 : symB.contains c <;> simp only [go_sem, reduceIte, ↓reduceIte, reduceCtorEq, nA, nS, nM, nB, nE, nL, nT, nN, iL, iT, iE, iA, iM, iS, iG, iB, iN, iZ, h, h1, h2, h3, hu, hix]) (rfl)
noncomputable def s102 : SP Tryd.prog := mkS tyA 102 Tryd.f102 [] { md := [.ro 1], rets := some ([2], []) } Tryd.func102 (by kernel_rfl)
@[go_sem] theorem d102 : s102.g = 102 ∧ s102.fs = ⟨[.ro 1], s102.F, false⟩ := ⟨nr rfl, nr rfl⟩
@[go_sem] theorem e102 (c : UInt8) : s102.F [.i .u8 c.toNat] = some (.b (plainB c), [.u]) := mkS_eq (0) rfl rfl (fun cx h => by
  cases h1 : ((c.toNat : Int) == 9) <;> by_cases h2 : 32 ≤ (c.toNat : Int) <;> by_cases h3 : (c.toNat : Int) ≤ 126 <;> simp only [go_sem, reduceIte, ↓reduceIte, reduceCtorEq, nA, nS, nM, nB, nE, nL, nT, nN, iL, iT, iE, iA, iM, iS, iG, iB, iN, iZ, h, h1, h2, h3, plainB]) (rfl)
noncomputable def s74 : SP Tryd.prog := mkS tyA 74 Tryd.f74 [s87, s88] { md := [.ro 1], rets := some ([2], []) } Tryd.func74 (by kernel_rfl)
@[go_sem] theorem d74 : s74.g = 74 ∧ s74.fs = ⟨[.ro 1], s74.F, false⟩ := ⟨nr rfl, nr rfl⟩
@[go_sem] theorem e74 (c : UInt8) : s74.F [.i .u8 c.toNat] = some (.b (hostB c), [.u]) := mkS_eq (0) rfl rfl (fun cx h => by
  cases h1 : letterB c <;> cases h2 : digitB c <;> cases h3 : ((c.toNat : Int) == 46) <;> cases h4 : ((c.toNat : Int) == 45) <;> simp only [go_sem, reduceIte, ↓reduceIte, reduceCtorEq, nA, nS, nM, nB, nE, nL, nT, nN, iL, iT, iE, iA, iM, iS, iG, iB, iN, iZ, h, h1, h2, h3, h4, hostB]) (rfl)
noncomputable def s75 : SP Tryd.prog := mkS tyA 75 Tryd.f75 [s89, s90] { md := [.ro 1], rets := some ([2], []) } Tryd.func75 (by kernel_rfl)
@[go_sem] theorem d75 : s75.g = 75 ∧ s75.fs = ⟨[.ro 1], s75.F, false⟩ := ⟨nr rfl, nr rfl⟩
@[go_sem] theorem e75 (c : UInt8) : s75.F [.i .u8 c.toNat] = some (.b (pathB c), [.u]) := mkS_eq (0) rfl rfl (fun cx h => by
  have hix := ixB_psym c
  have hu : pathB c = (wordB c || pSymB.contains c) := rfl
  cases h1 : wordB c <;> cases h3 : pSymB.contains c <;> simp only [go_sem, reduceIte, ↓reduceIte, reduceCtorEq, nA, nS, nM, nB, nE, nL, nT, nN, iL, iT, iE, iA, iM, iS, iG, iB, iN, iZ, h, h1, h3, hu, hix]) (rfl)
noncomputable def s73 : SP Tryd.prog := mkS tyA 73 Tryd.f73 [s74, s75, s88, s89, s102] { md := [.ro 1, .ro 1, .ro 1, .ro 1], rg := [(0, [0, 1, 2, 3], []), (1, [0, 3, 19], []), (2, [8], []), (3, [0, 3, 21, 22], []), (4, [0, 3, 21, 22, 23], []), (5, [0, 3, 9, 21, 22], []), (6, [0, 3, 21, 22, 30], []), (7, [8], []), (8, [0, 3, 21, 22], []), (9, [8], [])], lv := [(0, [0, 3, 21, 22], [])], out := [(0, [], [])], rets := some ([8], []) } Tryd.func73 (by kernel_rfl)
@[go_sem] theorem d73 : s73.g = 73 ∧ s73.fs = ⟨[.ro 1, .ro 1, .ro 1, .ro 1], s73.F, false⟩ := ⟨nr rfl, nr rfl⟩
@[go_sem] theorem e73_89 (t : ByteArray) (lo hi : Int) (hb : hi ≤ 1000000) : s73.F [.s t, .i .i64 lo, .i .i64 hi, .fn 89 []] = some (.b (areB wordB lo hi t), [.u, .u, .u, .u]) := mkS_eq (t.data.toList.length + 1) rfl rfl (fun cx h => by
  by_cases h1 : (t.size : Int) < lo
  · simp only [go_sem, reduceIte, ↓reduceIte, reduceCtorEq, nA, nS, nM, nB, nE, nL, nT, nN, iL, iT, iE, iA, iM, iS, iG, iB, iN, iZ, h, h1, areB_short h1]
  by_cases h2 : hi < (t.size : Int)
  · simp only [go_sem, reduceIte, ↓reduceIte, reduceCtorEq, nA, nS, nM, nB, nE, nL, nT, nN, iL, iT, iE, iA, iM, iS, iG, iB, iN, iZ, h, h1, h2, areB_long h2]
  have hx : t.data.toList.length ≤ 9223372036854775806 := by rw [← str_size]; omega
  have ha := areB_all (p := wordB) h1 h2
  rw [str_size t] at h1 h2
  · have hb0 := loopN_eq Tryd.f73 0 _ _ rfl rfl
    obtain ⟨r, hr, hq⟩ := loop_srch (cx := cx) (blk := 0) (body := loopN Tryd.f73 0) t.data.toList (fun k (s : Unit) => ⟨E [(0, .s t), (3, .fn 89 []), (21, .i .i64 t.size), (22, .i .i64 k)], B []⟩) (fun s => ⟨E [], B []⟩) (fun x s => !wordB x) (fun x s => ()) (fun x s => (.ret, ⟨E [(8, .b false)], B []⟩)) (fun k s => True)
        (fun s hI G => by simp only [go_sem, reduceIte, ↓reduceIte, reduceCtorEq, nA, nS, nM, nB, nE, nL, nT, nN, iL, iT, iE, iA, iM, iS, iG, iB, iN, iZ, h, Int.lt_irrefl, hb0, str_size t]) (fun k hk s hI => by
          have h1 : ((k : Int) < (t.data.toList.length : Int)) := Int.ofNat_lt.2 hk
          have hz := str_at t k hk
          exact ⟨_, _, _, fun G => by simp only [go_sem, reduceIte, ↓reduceIte, reduceCtorEq, nA, nS, nM, nB, nE, nL, nT, nN, iL, iT, iE, iA, iM, iS, iG, iB, iN, iZ, h, hz, str_size t, h1, idx_nt _ _ hk, wrap_nat1 (show k < 9223372036854775807 by omega), hb0] <;> with_reducible rfl, Iff.rfl, fun hc => ⟨trivial, by simp only [go_sem, reduceIte, ↓reduceIte, reduceCtorEq, nA, nS, nM, nB, nE, nL, nT, nN, iL, iT, iE, iA, iM, iS, iG, iB, iN, iZ, h, str_size t]⟩⟩) () trivial (t.data.toList.length + 1) (Nat.le_refl _)
    rw [hb0] at hr
    rcases hq with ⟨s', e1, _, e3⟩ | ⟨x, s', e1, e3⟩
    · simp only [go_sem, reduceIte, ↓reduceIte, reduceCtorEq, nA, nS, nM, nB, nE, nL, nT, nN, iL, iT, iE, iA, iM, iS, iG, iB, iN, iZ, h, h1, h2, str_size t, hr, e3, ha, runS_all e1]
    · simp only [go_sem, reduceIte, ↓reduceIte, reduceCtorEq, nA, nS, nM, nB, nE, nL, nT, nN, iL, iT, iE, iA, iM, iS, iG, iB, iN, iZ, h, h1, h2, str_size t, hr, e3, ha, runS_all' e1]) (rfl)
@[go_sem] theorem e73_102 (t : ByteArray) (lo hi : Int) (hb : hi ≤ 1000000) : s73.F [.s t, .i .i64 lo, .i .i64 hi, .fn 102 []] = some (.b (areB plainB lo hi t), [.u, .u, .u, .u]) := mkS_eq (t.data.toList.length + 1) rfl rfl (fun cx h => by
  by_cases h1 : (t.size : Int) < lo
  · simp only [go_sem, reduceIte, ↓reduceIte, reduceCtorEq, nA, nS, nM, nB, nE, nL, nT, nN, iL, iT, iE, iA, iM, iS, iG, iB, iN, iZ, h, h1, areB_short h1]
  by_cases h2 : hi < (t.size : Int)
  · simp only [go_sem, reduceIte, ↓reduceIte, reduceCtorEq, nA, nS, nM, nB, nE, nL, nT, nN, iL, iT, iE, iA, iM, iS, iG, iB, iN, iZ, h, h1, h2, areB_long h2]
  have hx : t.data.toList.length ≤ 9223372036854775806 := by rw [← str_size]; omega
  have ha := areB_all (p := plainB) h1 h2
  rw [str_size t] at h1 h2
  · have hb0 := loopN_eq Tryd.f73 0 _ _ rfl rfl
    obtain ⟨r, hr, hq⟩ := loop_srch (cx := cx) (blk := 0) (body := loopN Tryd.f73 0) t.data.toList (fun k (s : Unit) => ⟨E [(0, .s t), (3, .fn 102 []), (21, .i .i64 t.size), (22, .i .i64 k)], B []⟩) (fun s => ⟨E [], B []⟩) (fun x s => !plainB x) (fun x s => ()) (fun x s => (.ret, ⟨E [(8, .b false)], B []⟩)) (fun k s => True)
        (fun s hI G => by simp only [go_sem, reduceIte, ↓reduceIte, reduceCtorEq, nA, nS, nM, nB, nE, nL, nT, nN, iL, iT, iE, iA, iM, iS, iG, iB, iN, iZ, h, Int.lt_irrefl, hb0, str_size t]) (fun k hk s hI => by
          have h1 : ((k : Int) < (t.data.toList.length : Int)) := Int.ofNat_lt.2 hk
          have hz := str_at t k hk
          exact ⟨_, _, _, fun G => by simp only [go_sem, reduceIte, ↓reduceIte, reduceCtorEq, nA, nS, nM, nB, nE, nL, nT, nN, iL, iT, iE, iA, iM, iS, iG, iB, iN, iZ, h, hz, str_size t, h1, idx_nt _ _ hk, wrap_nat1 (show k < 9223372036854775807 by omega), hb0] <;> with_reducible rfl, Iff.rfl, fun hc => ⟨trivial, by simp only [go_sem, reduceIte, ↓reduceIte, reduceCtorEq, nA, nS, nM, nB, nE, nL, nT, nN, iL, iT, iE, iA, iM, iS, iG, iB, iN, iZ, h, str_size t]⟩⟩) () trivial (t.data.toList.length + 1) (Nat.le_refl _)
    rw [hb0] at hr
    rcases hq with ⟨s', e1, _, e3⟩ | ⟨x, s', e1, e3⟩
    · simp only [go_sem, reduceIte, ↓reduceIte, reduceCtorEq, nA, nS, nM, nB, nE, nL, nT, nN, iL, iT, iE, iA, iM, iS, iG, iB, iN, iZ, h, h1, h2, str_size t, hr, e3, ha, runS_all e1]
    · simp only [go_sem, reduceIte, ↓reduceIte, reduceCtorEq, nA, nS, nM, nB, nE, nL, nT, nN, iL, iT, iE, iA, iM, iS, iG, iB, iN, iZ, h, h1, h2, str_size t, hr, e3, ha, runS_all' e1]) (rfl)
@[go_sem] theorem e73_74 (t : ByteArray) (lo hi : Int) (hb : hi ≤ 1000000) : s73.F [.s t, .i .i64 lo, .i .i64 hi, .fn 74 []] = some (.b (areB hostB lo hi t), [.u, .u, .u, .u]) := mkS_eq (t.data.toList.length + 1) rfl rfl (fun cx h => by
  by_cases h1 : (t.size : Int) < lo
  · simp only [go_sem, reduceIte, ↓reduceIte, reduceCtorEq, nA, nS, nM, nB, nE, nL, nT, nN, iL, iT, iE, iA, iM, iS, iG, iB, iN, iZ, h, h1, areB_short h1]
  by_cases h2 : hi < (t.size : Int)
  · simp only [go_sem, reduceIte, ↓reduceIte, reduceCtorEq, nA, nS, nM, nB, nE, nL, nT, nN, iL, iT, iE, iA, iM, iS, iG, iB, iN, iZ, h, h1, h2, areB_long h2]
  have hx : t.data.toList.length ≤ 9223372036854775806 := by rw [← str_size]; omega
  have ha := areB_all (p := hostB) h1 h2
  rw [str_size t] at h1 h2
  · have hb0 := loopN_eq Tryd.f73 0 _ _ rfl rfl
    obtain ⟨r, hr, hq⟩ := loop_srch (cx := cx) (blk := 0) (body := loopN Tryd.f73 0) t.data.toList (fun k (s : Unit) => ⟨E [(0, .s t), (3, .fn 74 []), (21, .i .i64 t.size), (22, .i .i64 k)], B []⟩) (fun s => ⟨E [], B []⟩) (fun x s => !hostB x) (fun x s => ()) (fun x s => (.ret, ⟨E [(8, .b false)], B []⟩)) (fun k s => True)
        (fun s hI G => by simp only [go_sem, reduceIte, ↓reduceIte, reduceCtorEq, nA, nS, nM, nB, nE, nL, nT, nN, iL, iT, iE, iA, iM, iS, iG, iB, iN, iZ, h, Int.lt_irrefl, hb0, str_size t]) (fun k hk s hI => by
          have h1 : ((k : Int) < (t.data.toList.length : Int)) := Int.ofNat_lt.2 hk
          have hz := str_at t k hk
          exact ⟨_, _, _, fun G => by simp only [go_sem, reduceIte, ↓reduceIte, reduceCtorEq, nA, nS, nM, nB, nE, nL, nT, nN, iL, iT, iE, iA, iM, iS, iG, iB, iN, iZ, h, hz, str_size t, h1, idx_nt _ _ hk, wrap_nat1 (show k < 9223372036854775807 by omega), hb0] <;> with_reducible rfl, Iff.rfl, fun hc => ⟨trivial, by simp only [go_sem, reduceIte, ↓reduceIte, reduceCtorEq, nA, nS, nM, nB, nE, nL, nT, nN, iL, iT, iE, iA, iM, iS, iG, iB, iN, iZ, h, str_size t]⟩⟩) () trivial (t.data.toList.length + 1) (Nat.le_refl _)
    rw [hb0] at hr
    rcases hq with ⟨s', e1, _, e3⟩ | ⟨x, s', e1, e3⟩
    · simp only [go_sem, reduceIte, ↓reduceIte, reduceCtorEq, nA, nS, nM, nB, nE, nL, nT, nN, iL, iT, iE, iA, iM, iS, iG, iB, iN, iZ, h, h1, h2, str_size t, hr, e3, ha, runS_all e1]
    · simp only [go_sem, reduceIte, ↓reduceIte, reduceCtorEq, nA, nS, nM, nB, nE, nL, nT, nN, iL, iT, iE, iA, iM, iS, iG, iB, iN, iZ, h, h1, h2, str_size t, hr, e3, ha, runS_all' e1]) (rfl)
@[go_sem] theorem e73_75 (t : ByteArray) (lo hi : Int) (hb : hi ≤ 1000000) : s73.F [.s t, .i .i64 lo, .i .i64 hi, .fn 75 []] = some (.b (areB pathB lo hi t), [.u, .u, .u, .u]) := mkS_eq (t.data.toList.length + 1) rfl rfl (fun cx h => by
  by_cases h1 : (t.size : Int) < lo
  · simp only [go_sem, reduceIte, ↓reduceIte, reduceCtorEq, nA, nS, nM, nB, nE, nL, nT, nN, iL, iT, iE, iA, iM, iS, iG, iB, iN, iZ, h, h1, areB_short h1]
  by_cases h2 : hi < (t.size : Int)
  · simp only [go_sem, reduceIte, ↓reduceIte, reduceCtorEq, nA, nS, nM, nB, nE, nL, nT, nN, iL, iT, iE, iA, iM, iS, iG, iB, iN, iZ, h, h1, h2, areB_long h2]
  have hx : t.data.toList.length ≤ 9223372036854775806 := by rw [← str_size]; omega
  have ha := areB_all (p := pathB) h1 h2
  rw [str_size t] at h1 h2
  · have hb0 := loopN_eq Tryd.f73 0 _ _ rfl rfl
    obtain ⟨r, hr, hq⟩ := loop_srch (cx := cx) (blk := 0) (body := loopN Tryd.f73 0) t.data.toList (fun k (s : Unit) => ⟨E [(0, .s t), (3, .fn 75 []), (21, .i .i64 t.size), (22, .i .i64 k)], B []⟩) (fun s => ⟨E [], B []⟩) (fun x s => !pathB x) (fun x s => ()) (fun x s => (.ret, ⟨E [(8, .b false)], B []⟩)) (fun k s => True)
        (fun s hI G => by simp only [go_sem, reduceIte, ↓reduceIte, reduceCtorEq, nA, nS, nM, nB, nE, nL, nT, nN, iL, iT, iE, iA, iM, iS, iG, iB, iN, iZ, h, Int.lt_irrefl, hb0, str_size t]) (fun k hk s hI => by
          have h1 : ((k : Int) < (t.data.toList.length : Int)) := Int.ofNat_lt.2 hk
          have hz := str_at t k hk
          exact ⟨_, _, _, fun G => by simp only [go_sem, reduceIte, ↓reduceIte, reduceCtorEq, nA, nS, nM, nB, nE, nL, nT, nN, iL, iT, iE, iA, iM, iS, iG, iB, iN, iZ, h, hz, str_size t, h1, idx_nt _ _ hk, wrap_nat1 (show k < 9223372036854775807 by omega), hb0] <;> with_reducible rfl, Iff.rfl, fun hc => ⟨trivial, by simp only [go_sem, reduceIte, ↓reduceIte, reduceCtorEq, nA, nS, nM, nB, nE, nL, nT, nN, iL, iT, iE, iA, iM, iS, iG, iB, iN, iZ, h, str_size t]⟩⟩) () trivial (t.data.toList.length + 1) (Nat.le_refl _)
    rw [hb0] at hr
    rcases hq with ⟨s', e1, _, e3⟩ | ⟨x, s', e1, e3⟩
    · simp only [go_sem, reduceIte, ↓reduceIte, reduceCtorEq, nA, nS, nM, nB, nE, nL, nT, nN, iL, iT, iE, iA, iM, iS, iG, iB, iN, iZ, h, h1, h2, str_size t, hr, e3, ha, runS_all e1]
    · simp only [go_sem, reduceIte, ↓reduceIte, reduceCtorEq, nA, nS, nM, nB, nE, nL, nT, nN, iL, iT, iE, iA, iM, iS, iG, iB, iN, iZ, h, h1, h2, str_size t, hr, e3, ha, runS_all' e1]) (rfl)
@[go_sem] theorem e73_88 (t : ByteArray) (lo hi : Int) (hb : hi ≤ 1000000) : s73.F [.s t, .i .i64 lo, .i .i64 hi, .fn 88 []] = some (.b (areB digitB lo hi t), [.u, .u, .u, .u]) := mkS_eq (t.data.toList.length + 1) rfl rfl (fun cx h => by
  by_cases h1 : (t.size : Int) < lo
  · simp only [go_sem, reduceIte, ↓reduceIte, reduceCtorEq, nA, nS, nM, nB, nE, nL, nT, nN, iL, iT, iE, iA, iM, iS, iG, iB, iN, iZ, h, h1, areB_short h1]
  by_cases h2 : hi < (t.size : Int)
  · simp only [go_sem, reduceIte, ↓reduceIte, reduceCtorEq, nA, nS, nM, nB, nE, nL, nT, nN, iL, iT, iE, iA, iM, iS, iG, iB, iN, iZ, h, h1, h2, areB_long h2]
  have hx : t.data.toList.length ≤ 9223372036854775806 := by rw [← str_size]; omega
  have ha := areB_all (p := digitB) h1 h2
  rw [str_size t] at h1 h2
  · have hb0 := loopN_eq Tryd.f73 0 _ _ rfl rfl
    obtain ⟨r, hr, hq⟩ := loop_srch (cx := cx) (blk := 0) (body := loopN Tryd.f73 0) t.data.toList (fun k (s : Unit) => ⟨E [(0, .s t), (3, .fn 88 []), (21, .i .i64 t.size), (22, .i .i64 k)], B []⟩) (fun s => ⟨E [], B []⟩) (fun x s => !digitB x) (fun x s => ()) (fun x s => (.ret, ⟨E [(8, .b false)], B []⟩)) (fun k s => True)
        (fun s hI G => by simp only [go_sem, reduceIte, ↓reduceIte, reduceCtorEq, nA, nS, nM, nB, nE, nL, nT, nN, iL, iT, iE, iA, iM, iS, iG, iB, iN, iZ, h, Int.lt_irrefl, hb0, str_size t]) (fun k hk s hI => by
          have h1 : ((k : Int) < (t.data.toList.length : Int)) := Int.ofNat_lt.2 hk
          have hz := str_at t k hk
          exact ⟨_, _, _, fun G => by simp only [go_sem, reduceIte, ↓reduceIte, reduceCtorEq, nA, nS, nM, nB, nE, nL, nT, nN, iL, iT, iE, iA, iM, iS, iG, iB, iN, iZ, h, hz, str_size t, h1, idx_nt _ _ hk, wrap_nat1 (show k < 9223372036854775807 by omega), hb0] <;> with_reducible rfl, Iff.rfl, fun hc => ⟨trivial, by simp only [go_sem, reduceIte, ↓reduceIte, reduceCtorEq, nA, nS, nM, nB, nE, nL, nT, nN, iL, iT, iE, iA, iM, iS, iG, iB, iN, iZ, h, str_size t]⟩⟩) () trivial (t.data.toList.length + 1) (Nat.le_refl _)
    rw [hb0] at hr
    rcases hq with ⟨s', e1, _, e3⟩ | ⟨x, s', e1, e3⟩
    · simp only [go_sem, reduceIte, ↓reduceIte, reduceCtorEq, nA, nS, nM, nB, nE, nL, nT, nN, iL, iT, iE, iA, iM, iS, iG, iB, iN, iZ, h, h1, h2, str_size t, hr, e3, ha, runS_all e1]
    · simp only [go_sem, reduceIte, ↓reduceIte, reduceCtorEq, nA, nS, nM, nB, nE, nL, nT, nN, iL, iT, iE, iA, iM, iS, iG, iB, iN, iZ, h, h1, h2, str_size t, hr, e3, ha, runS_all' e1]) (rfl)
noncomputable def s58 : SP Tryd.prog := mkS tyA 58 Tryd.f58 [s73, s74] { md := [.ro 1], rets := some ([2], []) } Tryd.func58 (by kernel_rfl)
@[go_sem] theorem d58 : s58.g = 58 ∧ s58.fs = ⟨[.ro 1], s58.F, false⟩ := ⟨nr rfl, nr rfl⟩
@[go_sem] theorem e58 (t : ByteArray) : s58.F [.s t] = some (.b (isHost t), [.u]) := mkS_eq (0) rfl rfl (fun cx h => by
  simp only [go_sem, reduceIte, ↓reduceIte, reduceCtorEq, nA, nS, nM, nB, nE, nL, nT, nN, iL, iT, iE, iA, iM, iS, iG, iB, iN, iZ, h, isHost]) (rfl)
noncomputable def s59 : SP Tryd.prog := mkS tyA 59 Tryd.f59 [s73, s75] { md := [.ro 1], rets := some ([2], []) } Tryd.func59 (by kernel_rfl)
@[go_sem] theorem d59 : s59.g = 59 ∧ s59.fs = ⟨[.ro 1], s59.F, false⟩ := ⟨nr rfl, nr rfl⟩
@[go_sem] theorem e59 (t : ByteArray) : s59.F [.s t] = some (.b (isPath t), [.u]) := mkS_eq (0) rfl rfl (fun cx h => by
  have hu : isPath t = (areB pathB 1 100 t && (((t.data[0]?.getD 0).toNat : Int) == 47)) := rfl
  cases h1 : areB pathB 1 100 t
  · simp only [go_sem, reduceIte, ↓reduceIte, reduceCtorEq, nA, nS, nM, nB, nE, nL, nT, nN, iL, iT, iE, iA, iM, iS, iG, iB, iN, iZ, h, h1, hu]
  have hi : idx? t.size 0 = some 0 := idx_nt t.size 0 (areB_nil h1)
  cases h2 : (((t.data[0]?.getD 0).toNat : Int) == 47) <;> simp only [go_sem, reduceIte, ↓reduceIte, reduceCtorEq, nA, nS, nM, nB, nE, nL, nT, nN, iL, iT, iE, iA, iM, iS, iG, iB, iN, iZ, h, h1, h2, hi, hu]) (rfl)
noncomputable def s91 : SP Tryd.prog := mkS tyA 91 Tryd.f91 [s73, s89] { md := [.ro 1], rets := some ([2], []) } Tryd.func91 (by kernel_rfl)
@[go_sem] theorem d91 : s91.g = 91 ∧ s91.fs = ⟨[.ro 1], s91.F, false⟩ := ⟨nr rfl, nr rfl⟩
@[go_sem] theorem e91 (t : ByteArray) : s91.F [.s t] = some (.b (isWord t), [.u]) := mkS_eq (0) rfl rfl (fun cx h => by
  simp only [go_sem, reduceIte, ↓reduceIte, reduceCtorEq, nA, nS, nM, nB, nE, nL, nT, nN, iL, iT, iE, iA, iM, iS, iG, iB, iN, iZ, h, isWord]) (rfl)
noncomputable def s92 : SP Tryd.prog := mkS tyA 92 Tryd.f92 [s73, s102] { md := [.ro 1], rets := some ([2], []) } Tryd.func92 (by kernel_rfl)
@[go_sem] theorem d92 : s92.g = 92 ∧ s92.fs = ⟨[.ro 1], s92.F, false⟩ := ⟨nr rfl, nr rfl⟩
@[go_sem] theorem e92 (t : ByteArray) (h0 : (t.size : Int) ≤ 1000000) : s92.F [.s t] = some (.b (areP t), [.u]) := mkS_eq (0) rfl rfl (fun cx h => by
  simp only [go_sem, reduceIte, ↓reduceIte, reduceCtorEq, nA, nS, nM, nB, nE, nL, nT, nN, iL, iT, iE, iA, iM, iS, iG, iB, iN, iZ, h, h0, areP_eq]) (rfl)
noncomputable def s93 : SP Tryd.prog := ⟨93, ⟨[.ro 1, .ro 1], trimF, false⟩, trim_ok Tryd.func93 (by kernel_rfl) rfl Go.Proofs.Tryd.trimSpTab⟩
@[go_sem] theorem d93 : s93.g = 93 ∧ s93.fs = ⟨[.ro 1, .ro 1], s93.F, false⟩ := ⟨nr rfl, nr rfl⟩
@[go_sem] theorem e93 (x : ByteArray) (h0 : x.size ≤ 9223372036854775807) : s93.F [.s x, .s ⟨#[32, 9]⟩] = some (.s (trimB x), [.u, .u]) := by
  show trimF [.s x, .s ⟨#[32, 9]⟩] = _
  have hc : (⟨#[32, 9]⟩ : ByteArray).data.toList = [32, 9] ∧ x.size ≤ 9223372036854775807 := ⟨rfl, h0⟩
  exact if_pos hc
noncomputable def s76 : SP Tryd.prog := mkS tyA 76 Tryd.f76 [s91, s92, s93] { md := [.ro 1], rg := [(0, [1], [1]), (1, [1, 3], [1]), (2, [2], []), (3, [1, 8], [1]), (4, [2], []), (5, [13], []), (6, [2], []), (7, [2], [])], rets := some ([2], []), plan := [(5, (.take 0 (.take 1 (.one 2 (.take 3 (.take 4 (.take 5 (.take 6 (.take 8 (.take 9 (.one 7 (.take 10 (.take 11 (.one 12 .done))))))))))))))] } Tryd.func76 (by kernel_rfl)
@[go_sem] theorem d76 : s76.g = 76 ∧ s76.fs = ⟨[.ro 1], s76.F, false⟩ := ⟨nr rfl, nr rfl⟩
@[go_sem] theorem e76 (xName : ByteArray) (xValue : ByteArray) : s76.F [.agg [.s xName, .s xValue]] = some (.i .i64 (headerCode (Header.mk xName xValue)), [.u]) := mkS_eq (0) rfl rfl (fun cx h => by
  cases h1 : isWord xName
  · simp only [go_sem, reduceIte, ↓reduceIte, reduceCtorEq, nA, nS, nM, nB, nE, nL, nT, nN, iL, iT, iE, iA, iM, iS, iG, iB, iN, iZ, h, h1, headerCode]
  by_cases h2 : 200 < (xValue.size : Int)
  · simp only [go_sem, reduceIte, ↓reduceIte, reduceCtorEq, nA, nS, nM, nB, nE, nL, nT, nN, iL, iT, iE, iA, iM, iS, iG, iB, iN, iZ, h, h1, h2, headerCode]
  have h3 : (xValue.size : Int) ≤ 1000000 := by omega
  have h4 : xValue.size ≤ 9223372036854775806 := by omega
  have h5 : xValue.size ≤ 9223372036854775807 := by omega
  cases h6 : areP xValue
  · simp only [go_sem, reduceIte, ↓reduceIte, reduceCtorEq, nA, nS, nM, nB, nE, nL, nT, nN, iL, iT, iE, iA, iM, iS, iG, iB, iN, iZ, h, h1, h2, h3, h4, h5, h6, headerCode]
  cases h7 : eqv (trimB xValue) xValue <;> simp only [go_sem, reduceIte, ↓reduceIte, reduceCtorEq, nA, nS, nM, nB, nE, nL, nT, nN, iL, iT, iE, iA, iM, iS, iG, iB, iN, iZ, h, h1, h2, h3, h4, h5, h6, h7, eqv_bytes, eqv_boolne, bne, headerCode]) (rfl)
noncomputable def s60 : SP Tryd.prog := mkS tyA 60 Tryd.f60 [s76] { md := [.ro 1], rg := [(0, [0], []), (1, [0, 8], []), (2, [2], []), (3, [0, 9, 10, 11], []), (4, [0, 9, 10, 11, 12], []), (5, [0, 4, 9, 10, 11], [4]), (6, [0, 5, 9, 10, 11], []), (7, [0, 5, 9, 10, 11, 18], []), (8, [2], []), (9, [0, 9, 10, 11], []), (10, [2], [])], lv := [(0, [0, 9, 10, 11], [])], out := [(0, [], [])], rets := some ([2], []) } Tryd.func60 (by kernel_rfl)
@[go_sem] theorem d60 : s60.g = 60 ∧ s60.fs = ⟨[.ro 1], s60.F, false⟩ := ⟨nr rfl, nr rfl⟩
@[go_sem] theorem e60 (hs : List Header) : s60.F [.sl .ro 2 (hs.map (rHeader .ro))] = some (.i .i64 (headersFault hs), [.u]) := mkS_eq (hs.length + 1) rfl rfl (fun cx h => by
  by_cases h1 : 20 < (hs.length : Int)
  · simp only [go_sem, reduceIte, ↓reduceIte, reduceCtorEq, nA, nS, nM, nB, nE, nL, nT, nN, iL, iT, iE, iA, iM, iS, iG, iB, iN, iZ, h, h1, headersFault]
  have hx : hs.length ≤ 9223372036854775806 := by omega
  have hb0 := loopN_eq Tryd.f60 0 _ _ rfl rfl
  obtain ⟨r, hr, hq⟩ := loop_srch (cx := cx) (blk := 0) (body := loopN Tryd.f60 0) hs (fun k (s : Unit) => ⟨E [(0, .sl .ro 2 (hs.map (rHeader .ro))), (9, .sl .ro 2 (hs.map (rHeader .ro))), (10, .i .i64 hs.length), (11, .i .i64 k)], B []⟩) (fun s => ⟨E [], B []⟩) (fun x s => headerCode x != 0) (fun x s => ()) (fun x s => (.ret, ⟨E [(2, .i .i64 (headerCode x))], B []⟩)) (fun k s => True)
      (fun s hI G => by simp only [go_sem, reduceIte, ↓reduceIte, reduceCtorEq, nA, nS, nM, nB, nE, nL, nT, nN, iL, iT, iE, iA, iM, iS, iG, iB, iN, iZ, h, Int.lt_irrefl, hb0, hx]) (fun k hk s hI => by
        have h1 : ((k : Int) < (hs.length : Int)) := Int.ofNat_lt.2 hk
        exact ⟨_, _, _, fun G => by simp only [go_sem, reduceIte, ↓reduceIte, reduceCtorEq, nA, nS, nM, nB, nE, nL, nT, nN, iL, iT, iE, iA, iM, iS, iG, iB, iN, iZ, h, map_gd (rHeader .ro) hs _ hk, rHeader, h1, idx_nt _ _ hk, wrap_nat1 (show k < 9223372036854775807 by omega), hb0] <;> with_reducible rfl, Iff.rfl, fun hc => ⟨trivial, by simp only [go_sem, reduceIte, ↓reduceIte, reduceCtorEq, nA, nS, nM, nB, nE, nL, nT, nN, iL, iT, iE, iA, iM, iS, iG, iB, iN, iZ, h]⟩⟩) () trivial (hs.length + 1) (Nat.le_refl _)
  rw [hb0] at hr
  rcases hq with ⟨s', e1, _, e3⟩ | ⟨x, s', e1, e3⟩
  · simp only [go_sem, reduceIte, ↓reduceIte, reduceCtorEq, nA, nS, nM, nB, nE, nL, nT, nN, iL, iT, iE, iA, iM, iS, iG, iB, iN, iZ, h, h1, hr, e3, headersFault, firstI_inl e1]
  · simp only [go_sem, reduceIte, ↓reduceIte, reduceCtorEq, nA, nS, nM, nB, nE, nL, nT, nN, iL, iT, iE, iA, iM, iS, iG, iB, iN, iZ, h, h1, hr, e3, headersFault, firstI_inr e1]) (rfl)
noncomputable def s38 : SP Tryd.prog := mkS tyA 38 Tryd.f38 [s47, s57, s58, s59, s60] { md := [.ro 1], rg := [(0, [1], [1]), (1, [1, 19], [1]), (2, [2], []), (3, [1, 3], [1]), (4, [1, 3, 24], [1]), (5, [2], []), (6, [1, 26], [1]), (7, [2], []), (8, [32], []), (9, [2], []), (10, [2], [])], rets := some ([2], []) } Tryd.func38 (by kernel_rfl)
@[go_sem] theorem d38 : s38.g = 38 ∧ s38.fs = ⟨[.ro 1], s38.F, false⟩ := ⟨nr rfl, nr rfl⟩
@[go_sem] theorem e38 (rMethod : ByteArray) (rHost : ByteArray) (rPath : ByteArray) (rHeaders : List Header) (h0 : smL smHeader (Request.mk rMethod rHost rPath rHeaders).Headers) : s38.F [.agg [.s rMethod, .s rHost, .s rPath, .sl .ro 2 (rHeaders.map (rHeader .ro))]] = some (.i .i64 (requestFault (Request.mk rMethod rHost rPath rHeaders)), [.u]) := mkS_eq (0) rfl rfl (fun cx h => by
  have key : ∀ m : Bool, isMethod rMethod = m → (isMethod rMethod && isHost rHost && isPath rPath) = (m && isHost rHost && isPath rPath) := fun m h => by rw [h]
  have hn1 : okN ⟨#[72, 111, 115, 116]⟩ = true := by decide
  have hn2 : okN ⟨#[104, 111, 115, 116]⟩ = true := by decide
  cases m0 : isMethod rMethod
  · simp only [go_sem, reduceIte, ↓reduceIte, reduceCtorEq, nA, nS, nM, nB, nE, nL, nT, nN, iL, iT, iE, iA, iM, iS, iG, iB, iN, iZ, h, m0, requestFault]
  cases h2 : isHost rHost
  · simp only [go_sem, reduceIte, ↓reduceIte, reduceCtorEq, nA, nS, nM, nB, nE, nL, nT, nN, iL, iT, iE, iA, iM, iS, iG, iB, iN, iZ, h, h2, m0, requestFault]
  cases h3 : isPath rPath
  · simp only [go_sem, reduceIte, ↓reduceIte, reduceCtorEq, nA, nS, nM, nB, nE, nL, nT, nN, iL, iT, iE, iA, iM, iS, iG, iB, iN, iZ, h, h2, h3, m0, requestFault]
  by_cases z : headersFault rHeaders = 0
  rotate_left
  · have z' : (headersFault rHeaders != 0) = true := by simpa using z
    simp only [go_sem, reduceIte, ↓reduceIte, reduceCtorEq, nA, nS, nM, nB, nE, nL, nT, nN, iL, iT, iE, iA, iM, iS, iG, iB, iN, iZ, h, h2, h3, z', m0, requestFault]
  have z' : (headersFault rHeaders != 0) = false := by simpa using z
  have h4 : rHeaders.length ≤ 20 ∧ smL smHeader rHeaders ∧ okN ⟨#[72, 111, 115, 116]⟩ = true := ⟨headersFault_ok z, h0, hn1⟩
  have h5 : rHeaders.length ≤ 20 ∧ smL smHeader rHeaders ∧ okN ⟨#[104, 111, 115, 116]⟩ = true := ⟨headersFault_ok z, h0, hn2⟩
  have h6 := valsOf_pos rHeaders ⟨#[72, 111, 115, 116]⟩
  have h7 := hasV_host rHeaders
  cases h8 : hasV rHeaders ⟨#[72, 111, 115, 116]⟩
  · by_cases h9 : 20 ≤ (rHeaders.length : Int)
    · have h10 : ((rHeaders.length : Int) == 20) = true := by have := h4.1; simp; omega
      simp only [go_sem, reduceIte, ↓reduceIte, reduceCtorEq, nA, nS, nM, nB, nE, nL, nT, nN, iL, iT, iE, iA, iM, iS, iG, iB, iN, iZ, h, h2, h3, z, h4, h5, h6, h7, h8, h9, h10, m0, requestFault]
    · have h10 : ((rHeaders.length : Int) == 20) = false := by have := h4.1; simp; omega
      simp only [go_sem, reduceIte, ↓reduceIte, reduceCtorEq, nA, nS, nM, nB, nE, nL, nT, nN, iL, iT, iE, iA, iM, iS, iG, iB, iN, iZ, h, h2, h3, z, h4, h5, h6, h7, h8, h9, h10, m0, requestFault]
  · simp only [go_sem, reduceIte, ↓reduceIte, reduceCtorEq, nA, nS, nM, nB, nE, nL, nT, nN, iL, iT, iE, iA, iM, iS, iG, iB, iN, iZ, h, h2, h3, z, h4, h5, h6, h7, h8, m0, requestFault]) (rfl)
noncomputable def s61 : SP Tryd.prog := mkS tyA 61 Tryd.f61 [s22] { md := [.ro 1], rets := some ([2], []) } Tryd.func61 (by kernel_rfl)
@[go_sem] theorem d61 : s61.g = 61 ∧ s61.fs = ⟨[.ro 1], s61.F, false⟩ := ⟨nr rfl, nr rfl⟩
@[go_sem] theorem e61 (v : Int) : s61.F [.i .i64 v] = some (.b (within v 200 599), [.u]) := mkS_eq (0) rfl rfl (fun cx h => by
  simp only [go_sem, reduceIte, ↓reduceIte, reduceCtorEq, nA, nS, nM, nB, nE, nL, nT, nN, iL, iT, iE, iA, iM, iS, iG, iB, iN, iZ, h]) (rfl)
noncomputable def s39 : SP Tryd.prog := mkS tyA 39 Tryd.f39 [s60, s61] { md := [.ro 1], rg := [(0, [1], [1]), (1, [1, 7], [1]), (2, [2], []), (3, [1, 3], [1]), (4, [1, 3, 12], [1]), (5, [2], []), (6, [17], []), (7, [2], []), (8, [2], [])], rets := some ([2], []) } Tryd.func39 (by kernel_rfl)
@[go_sem] theorem d39 : s39.g = 39 ∧ s39.fs = ⟨[.ro 1], s39.F, false⟩ := ⟨nr rfl, nr rfl⟩
@[go_sem] theorem e39 (rStatus : Int) (rHeaders : List Header) (rBody : List UInt8) : s39.F [.agg [.i .i64 rStatus, .sl .ro 2 (rHeaders.map (rHeader .ro)), .sl .ro 1 (rBody.map rByte)]] = some (.i .i64 (responseFault (Response.mk rStatus rHeaders rBody)), [.u]) := mkS_eq (0) rfl rfl (fun cx h => by
  cases h1 : within rStatus 200 599
  · simp only [go_sem, reduceIte, ↓reduceIte, reduceCtorEq, nA, nS, nM, nB, nE, nL, nT, nN, iL, iT, iE, iA, iM, iS, iG, iB, iN, iZ, h, h1, responseFault]
  by_cases z : headersFault rHeaders = 0
  rotate_left
  · have z' : (headersFault rHeaders != 0) = true := by simpa using z
    simp only [go_sem, reduceIte, ↓reduceIte, reduceCtorEq, nA, nS, nM, nB, nE, nL, nT, nN, iL, iT, iE, iA, iM, iS, iG, iB, iN, iZ, h, h1, z', responseFault]
  by_cases h2 : 2000 < (rBody.length : Int) <;> simp only [go_sem, reduceIte, ↓reduceIte, reduceCtorEq, nA, nS, nM, nB, nE, nL, nT, nN, iL, iT, iE, iA, iM, iS, iG, iB, iN, iZ, h, h1, z, h2, responseFault]) (rfl)
noncomputable def s37 : SP Tryd.prog := mkS tyA 37 Tryd.f37 [s38, s39] { md := [.ro 1], rg := [(0, [0], []), (1, [0, 3], []), (2, [0, 3, 4], []), (3, [1], []), (4, [0, 9], []), (5, [1], []), (6, [1], [])], rets := some ([1], []) } Tryd.func37 (by kernel_rfl)
@[go_sem] theorem d37 : s37.g = 37 ∧ s37.fs = ⟨[.ro 1], s37.F, false⟩ := ⟨nr rfl, nr rfl⟩
@[go_sem] theorem e37 (eKind : Int) (eId : Int) (eDraw : Int) (eRequestMethod : ByteArray) (eRequestHost : ByteArray) (eRequestPath : ByteArray) (eRequestHeaders : List Header) (eResponseStatus : Int) (eResponseHeaders : List Header) (eResponseBody : List UInt8) (eText : ByteArray) (eHard : Bool) (h0 : smL smHeader eRequestHeaders) : s37.F [.pr [.i .i64 eKind, .i .i64 eId, .i .i64 eDraw, .s eRequestMethod, .s eRequestHost, .s eRequestPath, .sl .ro 2 (eRequestHeaders.map (rHeader .ro)), .i .i64 eResponseStatus, .sl .ro 2 (eResponseHeaders.map (rHeader .ro)), .sl .ro 1 (eResponseBody.map rByte), .s eText, .b eHard]] = some (.i .i64 (kindFault (Event.mk eKind eId eDraw (Request.mk eRequestMethod eRequestHost eRequestPath eRequestHeaders) (Response.mk eResponseStatus eResponseHeaders eResponseBody) eText eHard)), [.u]) := mkS_eq (0) rfl rfl (fun cx h => by
  have hu : kindFault (Event.mk eKind eId eDraw (Request.mk eRequestMethod eRequestHost eRequestPath eRequestHeaders) (Response.mk eResponseStatus eResponseHeaders eResponseBody) eText eHard) = (if (eKind == 1) = true then requestFault (Request.mk eRequestMethod eRequestHost eRequestPath eRequestHeaders) else if (eKind == 2) = true then responseFault (Response.mk eResponseStatus eResponseHeaders eResponseBody) else 0) := rfl
  cases h1 : eKind == 1
  · cases h2 : eKind == 2 <;> simp only [go_sem, reduceIte, ↓reduceIte, reduceCtorEq, nA, nS, nM, nB, nE, nL, nT, nN, iL, iT, iE, iA, iM, iS, iG, iB, iN, iZ, h, h1, h2, hu]
  · simp only [go_sem, reduceIte, ↓reduceIte, reduceCtorEq, nA, nS, nM, nB, nE, nL, nT, nN, iL, iT, iE, iA, iM, iS, iG, iB, iN, iZ, h, h1, h0, hu]) (rfl)
/-! functions that tell a code if something is so -/
def cl (p : Bool × Int) : AV := .fn 56 [.pr [.b p.1], .pr [.i .i64 p.2]]
@[go_sem] theorem cl_def (p : Bool × Int) : cl p = .fn 56 [.pr [.b p.1], .pr [.i .i64 p.2]] := nr rfl
@[go_sem] theorem cl_filt (kp kr : Pl → Bool) : ∀ xs : List (Bool × Int), filtL kp kr (xs.map cl) = xs.map cl
  | [] => rfl
  | x :: xs => by simp only [List.map_cons, filtL, cl_filt kp kr xs, cl, filt]
def clv (p : Bool × Int) : Int := if p.1 = true then p.2 else 0
def firstC : List (Bool × Int) → Int
  | [] => 0
  | p :: r => if (clv p != 0) = true then clv p else firstC r
theorem firstC_inl : ∀ {xs : List (Bool × Int)} {u u' : Unit}, runS (fun x _ => clv x != 0) (fun _ _ => ()) xs u = .inl u' → firstC xs = 0
  | [], _, _, _ => rfl
  | x :: xs, u, u', h => by
    rw [runS_cons] at h
    split at h
    · cases h
    · rename_i hc; rw [firstC, if_neg hc]; exact firstC_inl h
theorem firstC_inr : ∀ {xs : List (Bool × Int)} {u : Unit} {q : (Bool × Int) × Unit}, runS (fun x _ => clv x != 0) (fun _ _ => ()) xs u = .inr q → firstC xs = clv q.1
  | [], _, _, h => by cases h
  | x :: xs, u, q, h => by
    rw [runS_cons] at h
    split at h
    · rename_i hc; injection h with h; subst h; rw [firstC, if_pos hc]
    · rename_i hc; rw [firstC, if_neg hc]; exact firstC_inr h
theorem map_gdA {α : Type} (f : α → AV) (xs : List α) (k : Nat) (h : k < xs.length) : (xs.map f).getD k .u = f xs[k] := by simp [List.getD, h]
noncomputable def s35 : SP Tryd.prog := mkS tyA 35 Tryd.f35 [s37, s56] { md := [.ro 1], rg := [(0, [0], []), (1, [0, 6, 7, 8], []), (2, [0, 6, 7, 8, 9], []), (3, [0, 4, 6, 7, 8], []), (4, [0, 5, 6, 7, 8], []), (5, [0, 5, 6, 7, 8, 15], []), (6, [2], []), (7, [0, 6, 7, 8], []), (8, [2], [])], lv := [(0, [0, 6, 7, 8], [])], out := [(0, [], [])], rets := some ([2], []) } Tryd.func35 (by kernel_rfl)
@[go_sem] theorem d35 : s35.g = 35 ∧ s35.fs = ⟨[.ro 1], s35.F, false⟩ := ⟨nr rfl, nr rfl⟩
theorem e35 (xs : List (Bool × Int)) (hb : xs.length ≤ 1000) : s35.F [.fs (xs.map cl)] = some (.i .i64 (firstC xs), [.u]) := mkS_eq (xs.length + 1) rfl rfl (fun cx h => by
  have hx := hb
  have hb0 := loopN_eq Tryd.f35 0 _ _ rfl rfl
  obtain ⟨r, hr, hq⟩ := loop_srch (cx := cx) (blk := 0) (body := loopN Tryd.f35 0) xs (fun k (s : Unit) => ⟨E [(0, .fs (xs.map cl)), (6, .fs (xs.map cl)), (7, .i .i64 xs.length), (8, .i .i64 k)], B []⟩) (fun s => ⟨E [], B []⟩) (fun x s => clv x != 0) (fun x s => ()) (fun x s => (.ret, ⟨E [(2, .i .i64 (clv x))], B []⟩)) (fun k s => True)
      (fun s hI G => by simp only [go_sem, reduceIte, ↓reduceIte, reduceCtorEq, nA, nS, nM, nB, nE, nL, nT, nN, iL, iT, iE, iA, iM, iS, iG, iB, iN, iZ, h, Int.lt_irrefl, hb0, hx]) (fun k hk s hI => by
        have h1 : ((k : Int) < (xs.length : Int)) := Int.ofNat_lt.2 hk
        have h3 : clv xs[k] = (if xs[k].1 = true then xs[k].2 else 0) := rfl
        exact ⟨_, _, _, fun G => by simp only [go_sem, reduceIte, ↓reduceIte, reduceCtorEq, nA, nS, nM, nB, nE, nL, nT, nN, iL, iT, iE, iA, iM, iS, iG, iB, iN, iZ, h, map_gdA cl xs k hk, h3, h1, idx_nt _ _ hk, wrap_nat1 (show k < 9223372036854775807 by omega), hb0] <;> with_reducible rfl, by simp [h3], fun hc => ⟨trivial, by simp only [go_sem, reduceIte, ↓reduceIte, reduceCtorEq, nA, nS, nM, nB, nE, nL, nT, nN, iL, iT, iE, iA, iM, iS, iG, iB, iN, iZ, h]⟩⟩) () trivial (xs.length + 1) (Nat.le_refl _)
  rw [hb0] at hr
  rcases hq with ⟨s', e1, _, e3⟩ | ⟨x, s', e1, e3⟩
  · simp only [go_sem, reduceIte, ↓reduceIte, reduceCtorEq, nA, nS, nM, nB, nE, nL, nT, nN, iL, iT, iE, iA, iM, iS, iG, iB, iN, iZ, h, hr, e3, firstC_inl e1]
  · simp only [go_sem, reduceIte, ↓reduceIte, reduceCtorEq, nA, nS, nM, nB, nE, nL, nT, nN, iL, iT, iE, iA, iM, iS, iG, iB, iN, iZ, h, hr, e3, firstC_inr e1]) (rfl)
@[go_sem] theorem e35_1 (a0 : Bool) (x0 : Int) : s35.F [.fs [.fn 56 [.pr [.b a0], .pr [.i .i64 x0]]]] = some (.i .i64 (firstC [(a0, x0)]), [.u]) := e35 [(a0, x0)] (by simp)
@[go_sem] theorem e35_2 (a0 : Bool) (x0 : Int) (a1 : Bool) (x1 : Int) : s35.F [.fs [.fn 56 [.pr [.b a0], .pr [.i .i64 x0]], .fn 56 [.pr [.b a1], .pr [.i .i64 x1]]]] = some (.i .i64 (firstC [(a0, x0), (a1, x1)]), [.u]) := e35 [(a0, x0), (a1, x1)] (by simp)
@[go_sem] theorem e35_3 (a0 : Bool) (x0 : Int) (a1 : Bool) (x1 : Int) (a2 : Bool) (x2 : Int) : s35.F [.fs [.fn 56 [.pr [.b a0], .pr [.i .i64 x0]], .fn 56 [.pr [.b a1], .pr [.i .i64 x1]], .fn 56 [.pr [.b a2], .pr [.i .i64 x2]]]] = some (.i .i64 (firstC [(a0, x0), (a1, x1), (a2, x2)]), [.u]) := e35 [(a0, x0), (a1, x1), (a2, x2)] (by simp)
@[go_sem] theorem e35_4 (a0 : Bool) (x0 : Int) (a1 : Bool) (x1 : Int) (a2 : Bool) (x2 : Int) (a3 : Bool) (x3 : Int) : s35.F [.fs [.fn 56 [.pr [.b a0], .pr [.i .i64 x0]], .fn 56 [.pr [.b a1], .pr [.i .i64 x1]], .fn 56 [.pr [.b a2], .pr [.i .i64 x2]], .fn 56 [.pr [.b a3], .pr [.i .i64 x3]]]] = some (.i .i64 (firstC [(a0, x0), (a1, x1), (a2, x2), (a3, x3)]), [.u]) := e35 [(a0, x0), (a1, x1), (a2, x2), (a3, x3)] (by simp)
@[go_sem] theorem e35_5 (a0 : Bool) (x0 : Int) (a1 : Bool) (x1 : Int) (a2 : Bool) (x2 : Int) (a3 : Bool) (x3 : Int) (a4 : Bool) (x4 : Int) : s35.F [.fs [.fn 56 [.pr [.b a0], .pr [.i .i64 x0]], .fn 56 [.pr [.b a1], .pr [.i .i64 x1]], .fn 56 [.pr [.b a2], .pr [.i .i64 x2]], .fn 56 [.pr [.b a3], .pr [.i .i64 x3]], .fn 56 [.pr [.b a4], .pr [.i .i64 x4]]]] = some (.i .i64 (firstC [(a0, x0), (a1, x1), (a2, x2), (a3, x3), (a4, x4)]), [.u]) := e35 [(a0, x0), (a1, x1), (a2, x2), (a3, x3), (a4, x4)] (by simp)
@[go_sem] theorem e35_6 (a0 : Bool) (x0 : Int) (a1 : Bool) (x1 : Int) (a2 : Bool) (x2 : Int) (a3 : Bool) (x3 : Int) (a4 : Bool) (x4 : Int) (a5 : Bool) (x5 : Int) : s35.F [.fs [.fn 56 [.pr [.b a0], .pr [.i .i64 x0]], .fn 56 [.pr [.b a1], .pr [.i .i64 x1]], .fn 56 [.pr [.b a2], .pr [.i .i64 x2]], .fn 56 [.pr [.b a3], .pr [.i .i64 x3]], .fn 56 [.pr [.b a4], .pr [.i .i64 x4]], .fn 56 [.pr [.b a5], .pr [.i .i64 x5]]]] = some (.i .i64 (firstC [(a0, x0), (a1, x1), (a2, x2), (a3, x3), (a4, x4), (a5, x5)]), [.u]) := e35 [(a0, x0), (a1, x1), (a2, x2), (a3, x3), (a4, x4), (a5, x5)] (by simp)
@[go_sem] theorem e35_7 (a0 : Bool) (x0 : Int) (a1 : Bool) (x1 : Int) (a2 : Bool) (x2 : Int) (a3 : Bool) (x3 : Int) (a4 : Bool) (x4 : Int) (a5 : Bool) (x5 : Int) (a6 : Bool) (x6 : Int) : s35.F [.fs [.fn 56 [.pr [.b a0], .pr [.i .i64 x0]], .fn 56 [.pr [.b a1], .pr [.i .i64 x1]], .fn 56 [.pr [.b a2], .pr [.i .i64 x2]], .fn 56 [.pr [.b a3], .pr [.i .i64 x3]], .fn 56 [.pr [.b a4], .pr [.i .i64 x4]], .fn 56 [.pr [.b a5], .pr [.i .i64 x5]], .fn 56 [.pr [.b a6], .pr [.i .i64 x6]]]] = some (.i .i64 (firstC [(a0, x0), (a1, x1), (a2, x2), (a3, x3), (a4, x4), (a5, x5), (a6, x6)]), [.u]) := e35 [(a0, x0), (a1, x1), (a2, x2), (a3, x3), (a4, x4), (a5, x5), (a6, x6)] (by simp)
noncomputable def s36 : SP Tryd.prog := mkS tyA 36 Tryd.f36 [] { md := [.ro 1, .ro 1], wk := true, rets := some ([4], [2, 3]), fz := [2, 3] } Tryd.func36 (by kernel_rfl)
@[go_sem] theorem d36 : s36.g = 36 ∧ s36.fs = ⟨[.ro 1, .ro 1], s36.F, true⟩ := ⟨nr rfl, nr rfl⟩
@[go_sem] theorem e36 (x : Bool) (c : Int) : s36.F [.b x, .i .i64 c] = some (.fn 56 [.pr [.b x], .pr [.i .i64 c]], [.u, .u]) := mkS_eq (0) rfl rfl (fun cx h => by
  simp only [go_sem, reduceIte, ↓reduceIte, reduceCtorEq, nA, nS, nM, nB, nE, nL, nT, nN, iL, iT, iE, iA, iM, iS, iG, iB, iN, iZ, h]) (rfl)
@[go_sem] theorem e33_z (xMethod : ByteArray) (xHost : ByteArray) (xPath : ByteArray) (xHeaders : List Header) (h0 : smRequest (Request.mk xMethod xHost xPath xHeaders)) : s33.F [.agg [.s xMethod, .s xHost, .s xPath, .sl .ro 2 (xHeaders.map (rHeader .ro))], .agg [.s ⟨#[]⟩, .s ⟨#[]⟩, .s ⟨#[]⟩, .sl .ro 2 []]] = some (.b (zeroReq (Request.mk xMethod xHost xPath xHeaders)), [.u, .u]) := (e33 xMethod xHost xPath xHeaders ⟨#[]⟩ ⟨#[]⟩ ⟨#[]⟩ [] h0).trans (by rw [zeroReq_eq])
@[go_sem] theorem e34_z (xStatus : Int) (xHeaders : List Header) (xBody : List UInt8) (h0 : smResponse (Response.mk xStatus xHeaders xBody)) : s34.F [.agg [.i .i64 xStatus, .sl .ro 2 (xHeaders.map (rHeader .ro)), .sl .ro 1 (xBody.map rByte)], .agg [.i .i64 0, .sl .ro 2 [], .sl .ro 1 []]] = some (.b (zeroRes (Response.mk xStatus xHeaders xBody)), [.u, .u]) := (e34 xStatus xHeaders xBody 0 [] [] h0).trans (by rw [zeroRes_eq])
@[go_sem] theorem e35_ev (eKind : Int) (eId : Int) (eDraw : Int) (eRequestMethod : ByteArray) (eRequestHost : ByteArray) (eRequestPath : ByteArray) (eRequestHeaders : List Header) (eResponseStatus : Int) (eResponseHeaders : List Header) (eResponseBody : List UInt8) (eText : ByteArray) (eHard : Bool) (q1 q2 q3 : Bool) (x1 x2 x3 : Int) (h0 : smL smHeader eRequestHeaders) : s35.F [.fs [.fn 56 [.pr [.b q1], .pr [.i .i64 x1]], .fn 56 [.pr [.b q2], .pr [.i .i64 x2]], .fn 37 [.pr [.i .i64 eKind, .i .i64 eId, .i .i64 eDraw, .s eRequestMethod, .s eRequestHost, .s eRequestPath, .sl .ro 2 (eRequestHeaders.map (rHeader .ro)), .i .i64 eResponseStatus, .sl .ro 2 (eResponseHeaders.map (rHeader .ro)), .sl .ro 1 (eResponseBody.map rByte), .s eText, .b eHard]], .fn 56 [.pr [.b q3], .pr [.i .i64 x3]]]] = some (.i .i64 (firstI [(if q1 = true then x1 else 0), (if q2 = true then x2 else 0), kindFault (Event.mk eKind eId eDraw (Request.mk eRequestMethod eRequestHost eRequestPath eRequestHeaders) (Response.mk eResponseStatus eResponseHeaders eResponseBody) eText eHard), (if q3 = true then x3 else 0)]), [.u]) := mkS_eq (5) rfl rfl (fun cx h => by
  have hH := h0
  by_cases z0 : (if q1 = true then x1 else 0) = 0
  rotate_left
  · have y0 : ((if q1 = true then x1 else 0) != 0) = true := by simpa using z0
    simp only [go_sem, reduceIte, ↓reduceIte, reduceCtorEq, nA, nS, nM, nB, nE, nL, nT, nN, iL, iT, iE, iA, iM, iS, iG, iB, iN, iZ, h, hH, y0, firstI_cons, if_i, wrap_0, wrap_1, wrap_2, wrap_3, wrap_4, wrap_5, wrap_6, wrap_7, wrap_8, loopE_1, loopE_2, loopE_3, loopE_4, loopE_5, loopE_6, loopE_7]
  have y0 : ((if q1 = true then x1 else 0) != 0) = false := by simpa using z0
  by_cases z1 : (if q2 = true then x2 else 0) = 0
  rotate_left
  · have y1 : ((if q2 = true then x2 else 0) != 0) = true := by simpa using z1
    simp only [go_sem, reduceIte, ↓reduceIte, reduceCtorEq, nA, nS, nM, nB, nE, nL, nT, nN, iL, iT, iE, iA, iM, iS, iG, iB, iN, iZ, h, hH, y0, y1, firstI_cons, if_i, wrap_0, wrap_1, wrap_2, wrap_3, wrap_4, wrap_5, wrap_6, wrap_7, wrap_8, loopE_1, loopE_2, loopE_3, loopE_4, loopE_5, loopE_6, loopE_7]
  have y1 : ((if q2 = true then x2 else 0) != 0) = false := by simpa using z1
  by_cases z2 : kindFault (Event.mk eKind eId eDraw (Request.mk eRequestMethod eRequestHost eRequestPath eRequestHeaders) (Response.mk eResponseStatus eResponseHeaders eResponseBody) eText eHard) = 0
  rotate_left
  · have y2 : (kindFault (Event.mk eKind eId eDraw (Request.mk eRequestMethod eRequestHost eRequestPath eRequestHeaders) (Response.mk eResponseStatus eResponseHeaders eResponseBody) eText eHard) != 0) = true := by simpa using z2
    simp only [go_sem, reduceIte, ↓reduceIte, reduceCtorEq, nA, nS, nM, nB, nE, nL, nT, nN, iL, iT, iE, iA, iM, iS, iG, iB, iN, iZ, h, hH, y0, y1, y2, firstI_cons, if_i, wrap_0, wrap_1, wrap_2, wrap_3, wrap_4, wrap_5, wrap_6, wrap_7, wrap_8, loopE_1, loopE_2, loopE_3, loopE_4, loopE_5, loopE_6, loopE_7]
  have y2 : (kindFault (Event.mk eKind eId eDraw (Request.mk eRequestMethod eRequestHost eRequestPath eRequestHeaders) (Response.mk eResponseStatus eResponseHeaders eResponseBody) eText eHard) != 0) = false := by simpa using z2
  by_cases z3 : (if q3 = true then x3 else 0) = 0
  rotate_left
  · have y3 : ((if q3 = true then x3 else 0) != 0) = true := by simpa using z3
    simp only [go_sem, reduceIte, ↓reduceIte, reduceCtorEq, nA, nS, nM, nB, nE, nL, nT, nN, iL, iT, iE, iA, iM, iS, iG, iB, iN, iZ, h, hH, y0, y1, y2, y3, firstI_cons, if_i, wrap_0, wrap_1, wrap_2, wrap_3, wrap_4, wrap_5, wrap_6, wrap_7, wrap_8, loopE_1, loopE_2, loopE_3, loopE_4, loopE_5, loopE_6, loopE_7]
  have y3 : ((if q3 = true then x3 else 0) != 0) = false := by simpa using z3
  simp only [go_sem, reduceIte, ↓reduceIte, reduceCtorEq, nA, nS, nM, nB, nE, nL, nT, nN, iL, iT, iE, iA, iM, iS, iG, iB, iN, iZ, h, hH, y0, y1, y2, y3, firstI_cons, firstI_nil, if_i, wrap_0, wrap_1, wrap_2, wrap_3, wrap_4, wrap_5, wrap_6, wrap_7, wrap_8, loopE_1, loopE_2, loopE_3, loopE_4, loopE_5, loopE_6, loopE_7]) (rfl)
noncomputable def s14 : SP Tryd.prog := mkS tyA 14 Tryd.f14 [s21, s22, s32, s33, s34, s35, s36] { md := [.ro 1], rg := [(0, [1], [1]), (1, [1, 3, 4], [1]), (2, [1, 3, 4, 5, 6], [1]), (3, [1, 3, 4, 5, 6, 7, 8], [1]), (4, [1, 9], [1]), (5, [2], [])], rets := some ([2], []), plan := [(1, (.take 0 (.take 1 (.take 2 (.take 3 (.take 4 (.take 5 (.take 9 (.take 10 (.take 11 (.one 6 (.one 7 (.take 8 (.take 12 (.take 13 (.take 14 (.take 15 (.take 16 (.one 17 (.one 18 .done)))))))))))))))))))), (2, (.take 0 (.take 1 (.take 2 (.take 9 (.take 10 (.take 11 (.one 3 (.take 4 (.take 5 (.take 6 (.take 7 (.take 8 (.one 12 (.take 13 (.take 14 (.take 15 (.take 16 (.take 17 (.one 18 (.one 19 .done))))))))))))))))))))), (3, (.take 0 (.take 1 (.take 2 (.take 3 (.take 4 (.take 5 (.take 9 (.take 10 (.take 11 (.one 6 (.one 7 (.take 8 (.take 12 (.take 13 (.take 14 (.one 15 (.one 16 (.take 17 (.one 18 (.one 19 .done))))))))))))))))))))), (5, (.take 0 (.take 1 (.take 3 (.take 4 (.take 14 (.take 15 (.take 16 (.take 17 (.take 18 (.one 2 (.one 5 (.take 6 (.take 7 (.take 8 (.take 9 (.one 10 (.take 11 (.take 12 (.one 13 (.one 19 (.one 20 (.one 21 (.one 22 .done))))))))))))))))))))))))], fz := [1] } Tryd.func14 (by kernel_rfl)
@[go_sem] theorem d14 : s14.g = 14 ∧ s14.fs = ⟨[.ro 1], s14.F, false⟩ := ⟨nr rfl, nr rfl⟩
@[go_sem] theorem e14 (eKind : Int) (eId : Int) (eDraw : Int) (eRequestMethod : ByteArray) (eRequestHost : ByteArray) (eRequestPath : ByteArray) (eRequestHeaders : List Header) (eResponseStatus : Int) (eResponseHeaders : List Header) (eResponseBody : List UInt8) (eText : ByteArray) (eHard : Bool) (h0 : smL smHeader eRequestHeaders ∧ smRequest (Request.mk eRequestMethod eRequestHost eRequestPath eRequestHeaders) ∧ smResponse (Response.mk eResponseStatus eResponseHeaders eResponseBody)) : s14.F [.agg [.i .i64 eKind, .i .i64 eId, .i .i64 eDraw, .s eRequestMethod, .s eRequestHost, .s eRequestPath, .sl .ro 2 (eRequestHeaders.map (rHeader .ro)), .i .i64 eResponseStatus, .sl .ro 2 (eResponseHeaders.map (rHeader .ro)), .sl .ro 1 (eResponseBody.map rByte), .s eText, .b eHard]] = some (.i .i64 (eventFault (Event.mk eKind eId eDraw (Request.mk eRequestMethod eRequestHost eRequestPath eRequestHeaders) (Response.mk eResponseStatus eResponseHeaders eResponseBody) eText eHard)), [.u]) := mkS_eq (0) rfl rfl (fun cx h => by
  obtain ⟨hH, hq, hs⟩ := h0
  have g1 := regN_eq Tryd.f14 1 _ _ rfl rfl
  have g2 := regN_eq Tryd.f14 2 _ _ rfl rfl
  have g3 := regN_eq Tryd.f14 3 _ _ rfl rfl
  have g4 := regN_eq Tryd.f14 4 _ _ rfl rfl
  have r1 : evCode cx 0 (regN Tryd.f14 1) ⟨E [(1, .pr [.i .i64 eKind, .i .i64 eId, .i .i64 eDraw, .s eRequestMethod, .s eRequestHost, .s eRequestPath, .sl .ro 2 (eRequestHeaders.map (rHeader .ro)), .i .i64 eResponseStatus, .sl .ro 2 (eResponseHeaders.map (rHeader .ro)), .sl .ro 1 (eResponseBody.map rByte), .s eText, .b eHard])], B [(1, [])]⟩ = some (.nor, ⟨E [(1, .pr [.i .i64 eKind, .i .i64 eId, .i .i64 eDraw, .s eRequestMethod, .s eRequestHost, .s eRequestPath, .sl .ro 2 (eRequestHeaders.map (rHeader .ro)), .i .i64 eResponseStatus, .sl .ro 2 (eResponseHeaders.map (rHeader .ro)), .sl .ro 1 (eResponseBody.map rByte), .s eText, .b eHard]), (3, .b ((eId == 0) || isOne eKind [1, 2, 3, 4])), (4, .b ((eDraw == 0) || (eKind == 1)))], B [(1, [])]⟩) := by
    rw [g1]
    cases h1 : eId == 0 <;> cases h2 : isOne eKind [1, 2, 3, 4] <;> cases h3 : eDraw == 0 <;> cases h4 : eKind == 1 <;> simp only [go_sem, reduceIte, ↓reduceIte, reduceCtorEq, nA, nS, nM, nB, nE, nL, nT, nN, iL, iT, iE, iA, iM, iS, iG, iB, iN, iZ, h, h1, h2, h3, h4]
  have r2 : ∀ a1 a2 : Bool, evCode cx 0 (regN Tryd.f14 2) ⟨E [(1, .pr [.i .i64 eKind, .i .i64 eId, .i .i64 eDraw, .s eRequestMethod, .s eRequestHost, .s eRequestPath, .sl .ro 2 (eRequestHeaders.map (rHeader .ro)), .i .i64 eResponseStatus, .sl .ro 2 (eResponseHeaders.map (rHeader .ro)), .sl .ro 1 (eResponseBody.map rByte), .s eText, .b eHard]), (3, .b a1), (4, .b a2)], B [(1, [])]⟩ = some (.nor, ⟨E [(1, .pr [.i .i64 eKind, .i .i64 eId, .i .i64 eDraw, .s eRequestMethod, .s eRequestHost, .s eRequestPath, .sl .ro 2 (eRequestHeaders.map (rHeader .ro)), .i .i64 eResponseStatus, .sl .ro 2 (eResponseHeaders.map (rHeader .ro)), .sl .ro 1 (eResponseBody.map rByte), .s eText, .b eHard]), (3, .b a1), (4, .b a2), (5, .b (zeroReq (Request.mk eRequestMethod eRequestHost eRequestPath eRequestHeaders) || (eKind == 1))), (6, .b (zeroRes (Response.mk eResponseStatus eResponseHeaders eResponseBody) || (eKind == 2)))], B [(1, [])]⟩) := fun a1 a2 => by
    rw [g2]
    cases h1 : zeroReq (Request.mk eRequestMethod eRequestHost eRequestPath eRequestHeaders) <;> cases h2 : zeroRes (Response.mk eResponseStatus eResponseHeaders eResponseBody) <;> cases h3 : eKind == 1 <;> cases h4 : eKind == 2 <;> simp only [go_sem, reduceIte, ↓reduceIte, reduceCtorEq, nA, nS, nM, nB, nE, nL, nT, nN, iL, iT, iE, iA, iM, iS, iG, iB, iN, iZ, h, h1, h2, h3, h4, hq, hs]
  have r3 : ∀ a1 a2 a3 a4 : Bool, evCode cx 0 (regN Tryd.f14 3) ⟨E [(1, .pr [.i .i64 eKind, .i .i64 eId, .i .i64 eDraw, .s eRequestMethod, .s eRequestHost, .s eRequestPath, .sl .ro 2 (eRequestHeaders.map (rHeader .ro)), .i .i64 eResponseStatus, .sl .ro 2 (eResponseHeaders.map (rHeader .ro)), .sl .ro 1 (eResponseBody.map rByte), .s eText, .b eHard]), (3, .b a1), (4, .b a2), (5, .b a3), (6, .b a4)], B [(1, [])]⟩ = some (.nor, ⟨E [(1, .pr [.i .i64 eKind, .i .i64 eId, .i .i64 eDraw, .s eRequestMethod, .s eRequestHost, .s eRequestPath, .sl .ro 2 (eRequestHeaders.map (rHeader .ro)), .i .i64 eResponseStatus, .sl .ro 2 (eResponseHeaders.map (rHeader .ro)), .sl .ro 1 (eResponseBody.map rByte), .s eText, .b eHard]), (3, .b a1), (4, .b a2), (5, .b a3), (6, .b a4), (7, .b (eqv eText ⟨#[]⟩ || isOne eKind [5, 6])), (8, .b (!eHard || isOne eKind [5, 6, 7]))], B [(1, [])]⟩) := fun a1 a2 a3 a4 => by
    rw [g3]
    cases h1 : eqv eText ⟨#[]⟩ <;> cases h2 : isOne eKind [5, 6] <;> cases h3 : eHard <;> cases h4 : isOne eKind [5, 6, 7] <;> simp only [go_sem, reduceIte, ↓reduceIte, reduceCtorEq, nA, nS, nM, nB, nE, nL, nT, nN, iL, iT, iE, iA, iM, iS, iG, iB, iN, iZ, h, h1, h2, h3, h4, eqv_bytes]
  have r4 : ∀ a1 a2 a3 a4 a5 a6 : Bool, evCode cx 0 (regN Tryd.f14 4) ⟨E [(1, .pr [.i .i64 eKind, .i .i64 eId, .i .i64 eDraw, .s eRequestMethod, .s eRequestHost, .s eRequestPath, .sl .ro 2 (eRequestHeaders.map (rHeader .ro)), .i .i64 eResponseStatus, .sl .ro 2 (eResponseHeaders.map (rHeader .ro)), .sl .ro 1 (eResponseBody.map rByte), .s eText, .b eHard]), (3, .b a1), (4, .b a2), (5, .b a3), (6, .b a4), (7, .b a5), (8, .b a6)], B [(1, [])]⟩ = some (.nor, ⟨E [(1, .pr [.i .i64 eKind, .i .i64 eId, .i .i64 eDraw, .s eRequestMethod, .s eRequestHost, .s eRequestPath, .sl .ro 2 (eRequestHeaders.map (rHeader .ro)), .i .i64 eResponseStatus, .sl .ro 2 (eResponseHeaders.map (rHeader .ro)), .sl .ro 1 (eResponseBody.map rByte), .s eText, .b eHard]), (9, .b (within eKind 1 7 && a1 && a2 && a3 && a4 && a5 && a6))], B [(1, [])]⟩) := fun a1 a2 a3 a4 a5 a6 => by
    rw [g4]
    cases h1 : within eKind 1 7
    · simp only [go_sem, reduceIte, ↓reduceIte, reduceCtorEq, nA, nS, nM, nB, nE, nL, nT, nN, iL, iT, iE, iA, iM, iS, iG, iB, iN, iZ, h, h1]
    cases a1
    · simp only [go_sem, reduceIte, ↓reduceIte, reduceCtorEq, nA, nS, nM, nB, nE, nL, nT, nN, iL, iT, iE, iA, iM, iS, iG, iB, iN, iZ, h, h1]
    cases a2
    · simp only [go_sem, reduceIte, ↓reduceIte, reduceCtorEq, nA, nS, nM, nB, nE, nL, nT, nN, iL, iT, iE, iA, iM, iS, iG, iB, iN, iZ, h, h1]
    cases a3
    · simp only [go_sem, reduceIte, ↓reduceIte, reduceCtorEq, nA, nS, nM, nB, nE, nL, nT, nN, iL, iT, iE, iA, iM, iS, iG, iB, iN, iZ, h, h1]
    cases a4
    · simp only [go_sem, reduceIte, ↓reduceIte, reduceCtorEq, nA, nS, nM, nB, nE, nL, nT, nN, iL, iT, iE, iA, iM, iS, iG, iB, iN, iZ, h, h1]
    cases a5
    · simp only [go_sem, reduceIte, ↓reduceIte, reduceCtorEq, nA, nS, nM, nB, nE, nL, nT, nN, iL, iT, iE, iA, iM, iS, iG, iB, iN, iZ, h, h1]
    cases a6 <;> simp only [go_sem, reduceIte, ↓reduceIte, reduceCtorEq, nA, nS, nM, nB, nE, nL, nT, nN, iL, iT, iE, iA, iM, iS, iG, iB, iN, iZ, h, h1]
  have hu : eventFault (Event.mk eKind eId eDraw (Request.mk eRequestMethod eRequestHost eRequestPath eRequestHeaders) (Response.mk eResponseStatus eResponseHeaders eResponseBody) eText eHard) = firstI [if (!(within eKind 1 7 && ((eId == 0) || isOne eKind [1, 2, 3, 4]) && ((eDraw == 0) || (eKind == 1)) && (zeroReq (Request.mk eRequestMethod eRequestHost eRequestPath eRequestHeaders) || (eKind == 1)) && (zeroRes (Response.mk eResponseStatus eResponseHeaders eResponseBody) || (eKind == 2)) && (eqv eText ⟨#[]⟩ || isOne eKind [5, 6]) && (!eHard || isOne eKind [5, 6, 7]))) = true then 1 else 0, if (!(isTime eId && within eDraw 0 999)) = true then 3 else 0, kindFault (Event.mk eKind eId eDraw (Request.mk eRequestMethod eRequestHost eRequestPath eRequestHeaders) (Response.mk eResponseStatus eResponseHeaders eResponseBody) eText eHard), if decide (500 < (eText.size : Int)) = true then 2 else 0] := rfl
  generalize hk : kindFault (Event.mk eKind eId eDraw (Request.mk eRequestMethod eRequestHost eRequestPath eRequestHeaders) (Response.mk eResponseStatus eResponseHeaders eResponseBody) eText eHard) = K at hu
  rw [← g1, ← g2, ← g3, ← g4]
  cases t1 : isTime eId
  · simp only [go_sem, reduceIte, ↓reduceIte, reduceCtorEq, nA, nS, nM, nB, nE, nL, nT, nN, iL, iT, iE, iA, iM, iS, iG, iB, iN, iZ, h, hH, hk, r1, r2, r3, r4, t1, hu]
  cases t2 : within eDraw 0 999 <;> simp only [go_sem, reduceIte, ↓reduceIte, reduceCtorEq, nA, nS, nM, nB, nE, nL, nT, nN, iL, iT, iE, iA, iM, iS, iG, iB, iN, iZ, h, hH, hk, r1, r2, r3, r4, t1, t2, hu]) (rfl)
noncomputable def s67 : SP Tryd.prog := mkS tyA 67 Tryd.f67 [] { md := [.ro 1, .ro 1], rg := [(0, [2, 3], [2, 3]), (1, [2, 3, 9], [2, 3]), (2, [4], []), (3, [14], []), (4, [4], []), (5, [4], [])], rets := some ([4], []) } Tryd.func67 (by kernel_rfl)
@[go_sem] theorem d67 : s67.g = 67 ∧ s67.fs = ⟨[.ro 1, .ro 1], s67.F, false⟩ := ⟨nr rfl, nr rfl⟩
@[go_sem] theorem e67 (xName : ByteArray) (xValue : ByteArray) (yName : ByteArray) (yValue : ByteArray) (h0 : smHeader (Header.mk xName xValue)) : s67.F [.agg [.s xName, .s xValue], .agg [.s yName, .s yValue]] = some (.b (eqv (Header.mk xName xValue) (Header.mk yName yValue)), [.u, .u]) := mkS_eq (0) rfl rfl (fun cx h => by
  obtain ⟨q0, q1⟩ := h0
  simp only [go_sem, reduceIte, ↓reduceIte, reduceCtorEq, nA, nS, nM, nB, nE, nL, nT, nN, iL, iT, iE, iA, iM, iS, iG, iB, iN, iZ, h, eqv_intne, eqv_bytes, eqv_boolne, q0, q1]
  simp only [eqv_bool, eqv_int, Header.eqv (Header.mk xName xValue) (Header.mk yName yValue), if_b, not_eq_t, if_nb, Bool.and_true]) (rfl)
noncomputable def s48 : SP Tryd.prog := mkS tyA 48 Tryd.f48 [s67] { md := [.ro 1, .ro 1], rg := [(0, [0, 1], []), (1, [0, 1, 10], []), (2, [4], []), (3, [0, 1, 5], []), (4, [0, 1, 5, 14], []), (5, [0, 1, 5], []), (6, [0, 1, 5, 26], []), (7, [4], []), (8, [4], [])], lv := [(0, [0, 1, 5], [])], out := [(0, [], [])], rets := some ([4], []), plan := [(6, (.take 0 (.take 1 (.take 2 (.take 3 (.take 4 (.take 5 (.take 6 (.take 7 (.one 8 (.take 9 .done)))))))))))] } Tryd.func48 (by kernel_rfl)
@[go_sem] theorem d48 : s48.g = 48 ∧ s48.fs = ⟨[.ro 1, .ro 1], s48.F, false⟩ := ⟨nr rfl, nr rfl⟩
@[go_sem] theorem e48 (xs ys : List Header) (h0 : smL smHeader xs) : s48.F [.sl .ro 2 (xs.map (rHeader .ro)), .sl .ro 2 (ys.map (rHeader .ro))] = some (.b (eqv xs ys), [.u, .u]) := mkS_eq (xs.length + 1) rfl rfl (fun cx h => by
  have hb := loopN_eq Tryd.f48 0 _ _ rfl rfl
  have hx := h0.1
  by_cases hl : xs.length = ys.length
  · obtain ⟨r, hr, hq⟩ := loop_list (cx := cx) (blk := 0) (body := loopN Tryd.f48 0) (xs.zip ys) (fun k (_ : Unit) => ⟨E [(0, .sl .ro 2 (xs.map (rHeader .ro))), (1, .sl .ro 2 (ys.map (rHeader .ro))), (5, .i .i64 k)], B []⟩) (fun _ => ⟨E [], B []⟩) (fun x _ => !eqv x.1 x.2) (fun _ _ => ()) (fun _ _ => (.ret, ⟨E [(4, .b false)], B []⟩)) (fun _ _ => True)
      (fun l _ G => by simp only [go_sem, reduceIte, ↓reduceIte, reduceCtorEq, nA, nS, nM, nB, nE, nL, nT, nN, iL, iT, iE, iA, iM, iS, iG, iB, iN, iZ, h, zip_len hl, hl, Int.lt_irrefl, hb]) (fun k hk l _ => by
        have hk : k < xs.length := by rwa [zip_len hl] at hk
        have h1 : ((k : Int) < (xs.length : Int)) := Int.ofNat_lt.2 hk
        have h2 := h0.2 _ (List.getElem_mem hk)
        have h3 : (xs.zip ys)[k] = (xs[k], ys[k]'(by omega)) := by simp
        rw [h3]
        cases hc : eqv xs[k] (ys[k]'(by omega))
        · exact .inl ⟨rfl, fun G => by simp only [go_sem, reduceIte, ↓reduceIte, reduceCtorEq, nA, nS, nM, nB, nE, nL, nT, nN, iL, iT, iE, iA, iM, iS, iG, iB, iN, iZ, h, hc, map_gd (rHeader .ro) xs k hk, map_gd (rHeader .ro) ys k (by omega), idx_nt ys.length k (by omega), h2, h1, idx_nt _ _ hk, wrap_nat1 (show k < 9223372036854775807 by omega), hb]⟩
        · exact .inr ⟨rfl, trivial, _, fun G => by simp only [go_sem, reduceIte, ↓reduceIte, reduceCtorEq, nA, nS, nM, nB, nE, nL, nT, nN, iL, iT, iE, iA, iM, iS, iG, iB, iN, iZ, h, hc, map_gd (rHeader .ro) xs k hk, map_gd (rHeader .ro) ys k (by omega), idx_nt ys.length k (by omega), h2, h1, idx_nt _ _ hk, wrap_nat1 (show k < 9223372036854775807 by omega), hb] <;> with_reducible rfl, by simp only [go_sem, reduceIte, ↓reduceIte, reduceCtorEq, nA, nS, nM, nB, nE, nL, nT, nN, iL, iT, iE, iA, iM, iS, iG, iB, iN, iZ, h]⟩) () trivial (xs.length + 1) (by rw [zip_len hl]; exact Nat.le_refl _)
    rw [hb] at hr
    have hl2 : ((xs.length : Int) != (ys.length : Int)) = false := by simp [hl]
    rcases hq with ⟨s', e1, e2, e3⟩ | ⟨x, s', e1, e3⟩
    · simp only [go_sem, reduceIte, ↓reduceIte, reduceCtorEq, nA, nS, nM, nB, nE, nL, nT, nN, iL, iT, iE, iA, iM, iS, iG, iB, iN, iZ, h, hl2, hr, e3, zip_eqv hl e1]
    · simp only [go_sem, reduceIte, ↓reduceIte, reduceCtorEq, nA, nS, nM, nB, nE, nL, nT, nN, iL, iT, iE, iA, iM, iS, iG, iB, iN, iZ, h, hl2, hr, e3, zip_nev hl e1]
  · have hl2 : ((xs.length : Int) != (ys.length : Int)) = true := by simpa using fun h => hl (Int.ofNat_inj.1 h)
    simp only [go_sem, reduceIte, ↓reduceIte, reduceCtorEq, nA, nS, nM, nB, nE, nL, nT, nN, iL, iT, iE, iA, iM, iS, iG, iB, iN, iZ, h, hl2, len_nev hl]) (rfl)
noncomputable def s49 : SP Tryd.prog := mkS tyA 49 Tryd.f49 [] { md := [.ro 1, .ro 1], rg := [(0, [0, 1], []), (1, [0, 1, 10], []), (2, [4], []), (3, [0, 1, 5], []), (4, [0, 1, 5, 14], []), (5, [0, 1, 5], []), (6, [0, 1, 5, 25], []), (7, [4], []), (8, [4], [])], lv := [(0, [0, 1, 5], [])], out := [(0, [], [])], rets := some ([4], []), plan := [(6, (.take 0 (.take 1 (.take 2 (.take 3 (.take 4 (.take 5 (.take 6 (.take 7 (.take 8 .done))))))))))] } Tryd.func49 (by kernel_rfl)
@[go_sem] theorem d49 : s49.g = 49 ∧ s49.fs = ⟨[.ro 1, .ro 1], s49.F, false⟩ := ⟨nr rfl, nr rfl⟩
@[go_sem] theorem e49 (xs ys : List UInt8) (h0 : smL smByte xs) : s49.F [.sl .ro 1 (xs.map rByte), .sl .ro 1 (ys.map rByte)] = some (.b (eqv xs ys), [.u, .u]) := mkS_eq (xs.length + 1) rfl rfl (fun cx h => by
  have hb := loopN_eq Tryd.f49 0 _ _ rfl rfl
  have hx := h0.1
  by_cases hl : xs.length = ys.length
  · obtain ⟨r, hr, hq⟩ := loop_list (cx := cx) (blk := 0) (body := loopN Tryd.f49 0) (xs.zip ys) (fun k (_ : Unit) => ⟨E [(0, .sl .ro 1 (xs.map rByte)), (1, .sl .ro 1 (ys.map rByte)), (5, .i .i64 k)], B []⟩) (fun _ => ⟨E [], B []⟩) (fun x _ => !eqv x.1 x.2) (fun _ _ => ()) (fun _ _ => (.ret, ⟨E [(4, .b false)], B []⟩)) (fun _ _ => True)
      (fun l _ G => by simp only [go_sem, reduceIte, ↓reduceIte, reduceCtorEq, nA, nS, nM, nB, nE, nL, nT, nN, iL, iT, iE, iA, iM, iS, iG, iB, iN, iZ, h, zip_len hl, hl, Int.lt_irrefl, hb]) (fun k hk l _ => by
        have hk : k < xs.length := by rwa [zip_len hl] at hk
        have h1 : ((k : Int) < (xs.length : Int)) := Int.ofNat_lt.2 hk
        have h2 := h0.2 _ (List.getElem_mem hk)
        have h3 : (xs.zip ys)[k] = (xs[k], ys[k]'(by omega)) := by simp
        rw [h3]
        cases hc : eqv xs[k] (ys[k]'(by omega))
        · exact .inl ⟨rfl, fun G => by simp only [go_sem, reduceIte, ↓reduceIte, reduceCtorEq, nA, nS, nM, nB, nE, nL, nT, nN, iL, iT, iE, iA, iM, iS, iG, iB, iN, iZ, h, hc, map_gd rByte xs k hk, map_gd rByte ys k (by omega), idx_nt ys.length k (by omega), eqv_byte, h1, idx_nt _ _ hk, wrap_nat1 (show k < 9223372036854775807 by omega), hb]⟩
        · exact .inr ⟨rfl, trivial, _, fun G => by simp only [go_sem, reduceIte, ↓reduceIte, reduceCtorEq, nA, nS, nM, nB, nE, nL, nT, nN, iL, iT, iE, iA, iM, iS, iG, iB, iN, iZ, h, hc, map_gd rByte xs k hk, map_gd rByte ys k (by omega), idx_nt ys.length k (by omega), eqv_byte, h1, idx_nt _ _ hk, wrap_nat1 (show k < 9223372036854775807 by omega), hb] <;> with_reducible rfl, by simp only [go_sem, reduceIte, ↓reduceIte, reduceCtorEq, nA, nS, nM, nB, nE, nL, nT, nN, iL, iT, iE, iA, iM, iS, iG, iB, iN, iZ, h]⟩) () trivial (xs.length + 1) (by rw [zip_len hl]; exact Nat.le_refl _)
    rw [hb] at hr
    have hl2 : ((xs.length : Int) != (ys.length : Int)) = false := by simp [hl]
    rcases hq with ⟨s', e1, e2, e3⟩ | ⟨x, s', e1, e3⟩
    · simp only [go_sem, reduceIte, ↓reduceIte, reduceCtorEq, nA, nS, nM, nB, nE, nL, nT, nN, iL, iT, iE, iA, iM, iS, iG, iB, iN, iZ, h, hl2, hr, e3, zip_eqv hl e1]
    · simp only [go_sem, reduceIte, ↓reduceIte, reduceCtorEq, nA, nS, nM, nB, nE, nL, nT, nN, iL, iT, iE, iA, iM, iS, iG, iB, iN, iZ, h, hl2, hr, e3, zip_nev hl e1]
  · have hl2 : ((xs.length : Int) != (ys.length : Int)) = true := by simpa using fun h => hl (Int.ofNat_inj.1 h)
    simp only [go_sem, reduceIte, ↓reduceIte, reduceCtorEq, nA, nS, nM, nB, nE, nL, nT, nN, iL, iT, iE, iA, iM, iS, iG, iB, iN, iZ, h, hl2, len_nev hl]) (rfl)
noncomputable def s25 : SP Tryd.prog := mkS tyA 25 Tryd.f25 [s48, s49] { md := [.ro 1, .ro 1], rg := [(0, [2, 3], [2, 3]), (1, [2, 3, 9], [2, 3]), (2, [4], []), (3, [2, 3, 15], [2, 3]), (4, [4], []), (5, [21], []), (6, [4], []), (7, [4], [])], rets := some ([4], []) } Tryd.func25 (by kernel_rfl)
@[go_sem] theorem d25 : s25.g = 25 ∧ s25.fs = ⟨[.ro 1, .ro 1], s25.F, false⟩ := ⟨nr rfl, nr rfl⟩
@[go_sem] theorem e25 (xStatus : Int) (xHeaders : List Header) (xBody : List UInt8) (yStatus : Int) (yHeaders : List Header) (yBody : List UInt8) (h0 : smResponse (Response.mk xStatus xHeaders xBody)) : s25.F [.agg [.i .i64 xStatus, .sl .ro 2 (xHeaders.map (rHeader .ro)), .sl .ro 1 (xBody.map rByte)], .agg [.i .i64 yStatus, .sl .ro 2 (yHeaders.map (rHeader .ro)), .sl .ro 1 (yBody.map rByte)]] = some (.b (eqv (Response.mk xStatus xHeaders xBody) (Response.mk yStatus yHeaders yBody)), [.u, .u]) := mkS_eq (0) rfl rfl (fun cx h => by
  obtain ⟨q0, q1, q2⟩ := h0
  simp only [go_sem, reduceIte, ↓reduceIte, reduceCtorEq, nA, nS, nM, nB, nE, nL, nT, nN, iL, iT, iE, iA, iM, iS, iG, iB, iN, iZ, h, eqv_intne, eqv_bytes, eqv_boolne, q0, q1, q2]
  simp only [eqv_bool, eqv_int, Response.eqv (Response.mk xStatus xHeaders xBody) (Response.mk yStatus yHeaders yBody), if_b, not_eq_t, if_nb, Bool.and_true]) (rfl)
noncomputable def s26 : SP Tryd.prog := mkS tyA 26 Tryd.f26 [s48] { md := [.ro 1, .ro 1], rg := [(0, [2, 3], [2, 3]), (1, [2, 3, 9], [2, 3]), (2, [4], []), (3, [2, 3, 14], [2, 3]), (4, [4], []), (5, [2, 3, 19], [2, 3]), (6, [4], []), (7, [25], []), (8, [4], []), (9, [4], [])], rets := some ([4], []) } Tryd.func26 (by kernel_rfl)
@[go_sem] theorem d26 : s26.g = 26 ∧ s26.fs = ⟨[.ro 1, .ro 1], s26.F, false⟩ := ⟨nr rfl, nr rfl⟩
@[go_sem] theorem e26 (xMethod : ByteArray) (xHost : ByteArray) (xPath : ByteArray) (xHeaders : List Header) (yMethod : ByteArray) (yHost : ByteArray) (yPath : ByteArray) (yHeaders : List Header) (h0 : smRequest (Request.mk xMethod xHost xPath xHeaders)) : s26.F [.agg [.s xMethod, .s xHost, .s xPath, .sl .ro 2 (xHeaders.map (rHeader .ro))], .agg [.s yMethod, .s yHost, .s yPath, .sl .ro 2 (yHeaders.map (rHeader .ro))]] = some (.b (eqv (Request.mk xMethod xHost xPath xHeaders) (Request.mk yMethod yHost yPath yHeaders)), [.u, .u]) := mkS_eq (0) rfl rfl (fun cx h => by
  obtain ⟨q0, q1, q2, q3⟩ := h0
  simp only [go_sem, reduceIte, ↓reduceIte, reduceCtorEq, nA, nS, nM, nB, nE, nL, nT, nN, iL, iT, iE, iA, iM, iS, iG, iB, iN, iZ, h, eqv_intne, eqv_bytes, eqv_boolne, q0, q1, q2, q3]
  simp only [eqv_bool, eqv_int, Request.eqv (Request.mk xMethod xHost xPath xHeaders) (Request.mk yMethod yHost yPath yHeaders), if_b, not_eq_t, if_nb, Bool.and_true]) (rfl)
noncomputable def s15 : SP Tryd.prog := mkS tyA 15 Tryd.f15 [s25, s26] { md := [.ro 1, .ro 1], rg := [(0, [2, 3], [2, 3]), (1, [2, 3, 9], [2, 3]), (2, [4], []), (3, [2, 3, 14], [2, 3]), (4, [4], []), (5, [2, 3, 19], [2, 3]), (6, [4], []), (7, [2, 3, 25], [2, 3]), (8, [4], []), (9, [2, 3, 31], [2, 3]), (10, [4], []), (11, [2, 3, 36], [2, 3]), (12, [4], []), (13, [41], []), (14, [4], []), (15, [4], [])], rets := some ([4], []) } Tryd.func15 (by kernel_rfl)
@[go_sem] theorem d15 : s15.g = 15 ∧ s15.fs = ⟨[.ro 1, .ro 1], s15.F, false⟩ := ⟨nr rfl, nr rfl⟩
@[go_sem] theorem e15 (xKind : Int) (xId : Int) (xDraw : Int) (xRequestMethod : ByteArray) (xRequestHost : ByteArray) (xRequestPath : ByteArray) (xRequestHeaders : List Header) (xResponseStatus : Int) (xResponseHeaders : List Header) (xResponseBody : List UInt8) (xText : ByteArray) (xHard : Bool) (yKind : Int) (yId : Int) (yDraw : Int) (yRequestMethod : ByteArray) (yRequestHost : ByteArray) (yRequestPath : ByteArray) (yRequestHeaders : List Header) (yResponseStatus : Int) (yResponseHeaders : List Header) (yResponseBody : List UInt8) (yText : ByteArray) (yHard : Bool) (h0 : smEvent (Event.mk xKind xId xDraw (Request.mk xRequestMethod xRequestHost xRequestPath xRequestHeaders) (Response.mk xResponseStatus xResponseHeaders xResponseBody) xText xHard)) : s15.F [.agg [.i .i64 xKind, .i .i64 xId, .i .i64 xDraw, .s xRequestMethod, .s xRequestHost, .s xRequestPath, .sl .ro 2 (xRequestHeaders.map (rHeader .ro)), .i .i64 xResponseStatus, .sl .ro 2 (xResponseHeaders.map (rHeader .ro)), .sl .ro 1 (xResponseBody.map rByte), .s xText, .b xHard], .agg [.i .i64 yKind, .i .i64 yId, .i .i64 yDraw, .s yRequestMethod, .s yRequestHost, .s yRequestPath, .sl .ro 2 (yRequestHeaders.map (rHeader .ro)), .i .i64 yResponseStatus, .sl .ro 2 (yResponseHeaders.map (rHeader .ro)), .sl .ro 1 (yResponseBody.map rByte), .s yText, .b yHard]] = some (.b (eqv (Event.mk xKind xId xDraw (Request.mk xRequestMethod xRequestHost xRequestPath xRequestHeaders) (Response.mk xResponseStatus xResponseHeaders xResponseBody) xText xHard) (Event.mk yKind yId yDraw (Request.mk yRequestMethod yRequestHost yRequestPath yRequestHeaders) (Response.mk yResponseStatus yResponseHeaders yResponseBody) yText yHard)), [.u, .u]) := mkS_eq (0) rfl rfl (fun cx h => by
  obtain ⟨q0, q1, q2, q3, q4, q5, q6⟩ := h0
  simp only [go_sem, reduceIte, ↓reduceIte, reduceCtorEq, nA, nS, nM, nB, nE, nL, nT, nN, iL, iT, iE, iA, iM, iS, iG, iB, iN, iZ, h, eqv_intne, eqv_bytes, eqv_boolne, q0, q1, q2, q3, q4, q5, q6]
  simp only [eqv_bool, eqv_int, Event.eqv (Event.mk xKind xId xDraw (Request.mk xRequestMethod xRequestHost xRequestPath xRequestHeaders) (Response.mk xResponseStatus xResponseHeaders xResponseBody) xText xHard) (Event.mk yKind yId yDraw (Request.mk yRequestMethod yRequestHost yRequestPath yRequestHeaders) (Response.mk yResponseStatus yResponseHeaders yResponseBody) yText yHard), if_b, not_eq_t, if_nb, Bool.and_true]) (rfl)
noncomputable def s4 : SP Tryd.prog := mkS tyA 4 Tryd.f4 [s11, s12, s13, s14, s15] { md := [.ro 1], rg := [(0, [1], [1]), (1, [1, 3], [1]), (2, [1, 3], [1]), (3, [1, 11], [1]), (4, [2], []), (5, [1, 4], [1]), (6, [1, 4, 5], [1, 5]), (7, [1, 4, 5, 6], [1, 5]), (8, [1, 5, 21], [1, 5]), (9, [2], []), (10, [26], []), (11, [2], []), (12, [2], [])], rets := some ([2], []), plan := [(10, (.take 0 (.take 1 (.one 2 (.one 3 (.take 4 .done))))))] } Tryd.func4 (by kernel_rfl)
@[go_sem] theorem d4 : s4.g = 4 ∧ s4.fs = ⟨[.ro 1], s4.F, false⟩ := ⟨nr rfl, nr rfl⟩
theorem e4 (eKind : Int) (eId : Int) (eDraw : Int) (eRequestMethod : ByteArray) (eRequestHost : ByteArray) (eRequestPath : ByteArray) (eRequestHeaders : List Header) (eResponseStatus : Int) (eResponseHeaders : List Header) (eResponseBody : List UInt8) (eText : ByteArray) (eHard : Bool) (h0 : okEvent (Event.mk eKind eId eDraw (Request.mk eRequestMethod eRequestHost eRequestPath eRequestHeaders) (Response.mk eResponseStatus eResponseHeaders eResponseBody) eText eHard)) : s4.F [.agg [.i .i64 eKind, .i .i64 eId, .i .i64 eDraw, .s eRequestMethod, .s eRequestHost, .s eRequestPath, .sl .ro 2 (eRequestHeaders.map (rHeader .ro)), .i .i64 eResponseStatus, .sl .ro 2 (eResponseHeaders.map (rHeader .ro)), .sl .ro 1 (eResponseBody.map rByte), .s eText, .b eHard]] = some (.b true, [.u]) := mkS_eq (0) rfl rfl (fun cx h => by
  have h0_0 := h0
  by_cases hc0 : szEvent (Event.mk eKind eId eDraw (Request.mk eRequestMethod eRequestHost eRequestPath eRequestHeaders) (Response.mk eResponseStatus eResponseHeaders eResponseBody) eText eHard) 1048576 < 0
  · simp only [go_sem, reduceIte, ↓reduceIte, reduceCtorEq, nA, nS, nM, nB, nE, nL, nT, nN, iL, iT, iE, iA, iM, iS, iG, iB, iN, iZ, h, hc0, h0_0]
  obtain ⟨hs0, hl0⟩ := szEvent_fact _ _ h0_0 (by decide) (by decide) (show 0 ≤ szEvent (Event.mk eKind eId eDraw (Request.mk eRequestMethod eRequestHost eRequestPath eRequestHeaders) (Response.mk eResponseStatus eResponseHeaders eResponseBody) eText eHard) 1048576 by omega)
  simp only [go_sem, reduceIte, ↓reduceIte, reduceCtorEq, nA, nS, nM, nB, nE, nL, nT, nN, iL, iT, iE, iA, iM, iS, iG, iB, iN, iZ, h, hc0, hs0, h0_0, eqv_self, hs0.2.2.2.1, hs0.2.2.2.1.2.2.2, hs0.2.2.2.2.1]) (rfl)
end Go.Vm.A
