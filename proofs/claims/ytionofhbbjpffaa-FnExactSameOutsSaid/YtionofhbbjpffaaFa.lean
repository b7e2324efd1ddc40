/- Functions of the program, walked by the evaluator. -/
import Derived.Test.YtionofhbbjpffaaWb
import Derived.Test.YtionofhbbjpffaaWa
set_option autoImplicit false
set_option maxRecDepth 100000
set_option maxHeartbeats 4000000
set_option linter.unusedVariables false
set_option linter.unusedSimpArgs false
namespace Go.Vm.A
open Go.Proofs
open Nat renaming reduceAdd → nA, reduceSub → nS, reduceMul → nM, reduceBEq → nB, reduceEqDiff → nE, reduceLeDiff → nL, reduceLT → nT, reduceBneDiff → nN
open Int renaming reduceLE → iL, reduceLT → iT, reduceEq → iE, reduceAdd → iA, reduceMul → iM, reduceSub → iS, reduceNeg → iG, reduceBEq → iB, reduceBNe → iN, reduceToNat → iZ

noncomputable def s108 : SP Try.prog := mkS tyA 108 Try.f108 [] { md := [.ro 1, .ro 1], rg := [(0, [1, 2], [2]), (1, [1, 2], [2]), (2, [1, 2, 11], [2]), (3, [4], []), (4, [1], []), (5, [1, 18], []), (6, [4], []), (7, [4], [])], rets := some ([4], []) } Try.func108 (by kernel_rfl)
@[go_sem] theorem d108 : s108.g = 108 ∧ s108.fs = ⟨[.ro 1, .ro 1], s108.F, false⟩ := ⟨nr rfl, nr rfl⟩
@[go_sem] theorem e108 (xName : ByteArray) (xValue : ByteArray) (l : Int) (h0 : okHeader (Header.mk xName xValue)) : s108.F [.agg [.s xName, .s xValue], .i .i64 l] = some (.i .i64 (szHeader (Header.mk xName xValue) l), [.u, .u]) := mkS_eq (0) rfl rfl (fun cx h => by
  obtain ⟨q0, q1⟩ := h0
  simp only [go_sem, reduceIte, ↓reduceIte, reduceCtorEq, nA, nS, nM, nB, nE, nL, nT, nN, iL, iT, iE, iA, iM, iS, iG, iB, iN, iZ, h, q0, q1]
  simp only [szHeader, szs, szn, if_i, decide_eq_true_eq]) (rfl)
noncomputable def s98 : SP Try.prog := mkS tyA 98 Try.f98 [s108] { md := [.ro 1, .ro 1], rg := [(0, [0, 1], []), (1, [0, 1], []), (2, [0, 1, 11], []), (3, [4], []), (4, [0, 1, 5], []), (5, [0, 1, 5, 15], []), (6, [0, 1, 5], []), (7, [0, 1, 5], []), (8, [0, 1, 5, 25], []), (9, [4], []), (10, [4], [])], lv := [(0, [0, 1, 5], [])], out := [(0, [1], [])], rets := some ([4], []) } Try.func98 (by kernel_rfl)
@[go_sem] theorem d98 : s98.g = 98 ∧ s98.fs = ⟨[.ro 1, .ro 1], s98.F, false⟩ := ⟨nr rfl, nr rfl⟩
@[go_sem] theorem e98 (xs : List Header) (l : Int) (h0 : okL okHeader xs) : s98.F [.sl .ro 2 (xs.map (rHeader .ro)), .i .i64 l] = some (.i .i64 (szL szHeader xs l), [.u, .u]) := mkS_eq (xs.length + 1) rfl rfl (fun cx h => by
  have hb := loopN_eq Try.f98 0 _ _ rfl rfl
  have hx := h0.1
  obtain ⟨r, hr, hq⟩ := loop_list (cx := cx) (blk := 0) (body := loopN Try.f98 0) xs (fun k l => ⟨E [(0, .sl .ro 2 (xs.map (rHeader .ro))), (1, .i .i64 l), (5, .i .i64 k)], B []⟩) (fun l => ⟨E [(1, .i .i64 l)], B []⟩) (fun x l => decide (szHeader x l < 0)) (fun x l => szHeader x l) (fun _ _ => (.ret, ⟨E [(4, .i .i64 (-1))], B []⟩)) (fun _ _ => True)
    (fun l _ G => by simp only [go_sem, reduceIte, ↓reduceIte, reduceCtorEq, nA, nS, nM, nB, nE, nL, nT, nN, iL, iT, iE, iA, iM, iS, iG, iB, iN, iZ, h, Int.lt_irrefl, hb]) (fun k hk l _ => by
      have h1 : ((k : Int) < (xs.length : Int)) := Int.ofNat_lt.2 hk
      have h2 := h0.2 _ (List.getElem_mem hk)
      by_cases hc : szHeader xs[k] l < 0
      · exact .inl ⟨decide_eq_true hc, fun G => by simp only [go_sem, reduceIte, ↓reduceIte, reduceCtorEq, nA, nS, nM, nB, nE, nL, nT, nN, iL, iT, iE, iA, iM, iS, iG, iB, iN, iZ, h, h2, hc, map_gd (rHeader .ro) xs k hk, h1, idx_nt _ _ hk, wrap_nat1 (show k < 9223372036854775807 by omega), hb]⟩
      · exact .inr ⟨decide_eq_false hc, trivial, _, fun G => by simp only [go_sem, reduceIte, ↓reduceIte, reduceCtorEq, nA, nS, nM, nB, nE, nL, nT, nN, iL, iT, iE, iA, iM, iS, iG, iB, iN, iZ, h, h2, hc, map_gd (rHeader .ro) xs k hk, h1, idx_nt _ _ hk, wrap_nat1 (show k < 9223372036854775807 by omega), hb] <;> rfl, by simp only [go_sem, reduceIte, ↓reduceIte, reduceCtorEq, nA, nS, nM, nB, nE, nL, nT, nN, iL, iT, iE, iA, iM, iS, iG, iB, iN, iZ, h]⟩) ((IntKind.i64).wrap (l - (xs.length : Int))) trivial (xs.length + 1) (Nat.le_refl _)
  rw [hb] at hr
  unfold szL szs
  by_cases hc : (IntKind.i64).wrap (l - (xs.length : Int)) < 0
  · simp only [go_sem, reduceIte, ↓reduceIte, reduceCtorEq, nA, nS, nM, nB, nE, nL, nT, nN, iL, iT, iE, iA, iM, iS, iG, iB, iN, iZ, h, hc]
  · rcases hq with ⟨s', e1, e2, e3⟩ | ⟨x, s', e1, e3⟩
    · simp only [go_sem, reduceIte, ↓reduceIte, reduceCtorEq, nA, nS, nM, nB, nE, nL, nT, nN, iL, iT, iE, iA, iM, iS, iG, iB, iN, iZ, h, hc, hr, e3, szO_inl e1, Option.getD_some]
    · simp only [go_sem, reduceIte, ↓reduceIte, reduceCtorEq, nA, nS, nM, nB, nE, nL, nT, nN, iL, iT, iE, iA, iM, iS, iG, iB, iN, iZ, h, hc, hr, e3, szO_inr e1, Option.getD_none]) (rfl)
noncomputable def s99 : SP Try.prog := mkS tyA 99 Try.f99 [] { md := [.ro 1, .ro 1], rg := [(0, [0, 1], []), (1, [1], []), (2, [1, 10], []), (3, [4], []), (4, [4], [])], rets := some ([4], []) } Try.func99 (by kernel_rfl)
@[go_sem] theorem d99 : s99.g = 99 ∧ s99.fs = ⟨[.ro 1, .ro 1], s99.F, false⟩ := ⟨nr rfl, nr rfl⟩
@[go_sem] theorem e99 (xs : List UInt8) (l : Int) : s99.F [.sl .ro 1 (xs.map rByte), .i .i64 l] = some (.i .i64 (szByteS xs l), [.u, .u]) := mkS_eq (0) rfl rfl (fun cx h => by
  simp only [go_sem, reduceIte, ↓reduceIte, reduceCtorEq, nA, nS, nM, nB, nE, nL, nT, nN, iL, iT, iE, iA, iM, iS, iG, iB, iN, iZ, h]
  simp only [szByteS, szs, szn, if_i, decide_eq_true_eq]) (rfl)
noncomputable def s69 : SP Try.prog := mkS tyA 69 Try.f69 [s98, s99] { md := [.ro 1, .ro 1], rg := [(0, [1, 2], [2]), (1, [1, 2], [2]), (2, [1, 2, 10], [2]), (3, [4], []), (4, [1], []), (5, [1, 16], []), (6, [4], []), (7, [4], [])], rets := some ([4], []) } Try.func69 (by kernel_rfl)
@[go_sem] theorem d69 : s69.g = 69 ∧ s69.fs = ⟨[.ro 1, .ro 1], s69.F, false⟩ := ⟨nr rfl, nr rfl⟩
@[go_sem] theorem e69 (xStatus : Int) (xHeaders : List Header) (xBody : List UInt8) (l : Int) (h0 : okResponse (Response.mk xStatus xHeaders xBody)) : s69.F [.agg [.i .i64 xStatus, .sl .ro 2 (xHeaders.map (rHeader .ro)), .sl .ro 1 (xBody.map rByte)], .i .i64 l] = some (.i .i64 (szResponse (Response.mk xStatus xHeaders xBody) l), [.u, .u]) := mkS_eq (0) rfl rfl (fun cx h => by
  obtain ⟨q0, q1, q2⟩ := h0
  simp only [go_sem, reduceIte, ↓reduceIte, reduceCtorEq, nA, nS, nM, nB, nE, nL, nT, nN, iL, iT, iE, iA, iM, iS, iG, iB, iN, iZ, h, q0, q1, q2]
  simp only [szResponse, szs, szn, if_i, decide_eq_true_eq]) (rfl)
noncomputable def s70 : SP Try.prog := mkS tyA 70 Try.f70 [s98] { md := [.ro 1, .ro 1], rg := [(0, [1, 2], [2]), (1, [1, 2], [2]), (2, [1, 2, 11], [2]), (3, [4], []), (4, [1, 2], [2]), (5, [1, 2, 18], [2]), (6, [4], []), (7, [1, 2], [2]), (8, [1, 2, 25], [2]), (9, [4], []), (10, [1], []), (11, [1, 31], []), (12, [4], []), (13, [4], [])], rets := some ([4], []) } Try.func70 (by kernel_rfl)
@[go_sem] theorem d70 : s70.g = 70 ∧ s70.fs = ⟨[.ro 1, .ro 1], s70.F, false⟩ := ⟨nr rfl, nr rfl⟩
@[go_sem] theorem e70 (xMethod : ByteArray) (xHost : ByteArray) (xPath : ByteArray) (xHeaders : List Header) (l : Int) (h0 : okRequest (Request.mk xMethod xHost xPath xHeaders)) : s70.F [.agg [.s xMethod, .s xHost, .s xPath, .sl .ro 2 (xHeaders.map (rHeader .ro))], .i .i64 l] = some (.i .i64 (szRequest (Request.mk xMethod xHost xPath xHeaders) l), [.u, .u]) := mkS_eq (0) rfl rfl (fun cx h => by
  obtain ⟨q0, q1, q2, q3⟩ := h0
  simp only [go_sem, reduceIte, ↓reduceIte, reduceCtorEq, nA, nS, nM, nB, nE, nL, nT, nN, iL, iT, iE, iA, iM, iS, iG, iB, iN, iZ, h, q0, q1, q2, q3]
  simp only [szRequest, szs, szn, if_i, decide_eq_true_eq]) (rfl)
noncomputable def s39 : SP Try.prog := mkS tyA 39 Try.f39 [s69, s70] { md := [.ro 1, .ro 1], rg := [(0, [1, 2], [2]), (1, [1, 2], [2]), (2, [1, 2, 11], [2]), (3, [4], []), (4, [1, 2], [2]), (5, [1, 2, 17], [2]), (6, [4], []), (7, [1], []), (8, [1, 23], []), (9, [4], []), (10, [4], [])], rets := some ([4], []) } Try.func39 (by kernel_rfl)
@[go_sem] theorem d39 : s39.g = 39 ∧ s39.fs = ⟨[.ro 1, .ro 1], s39.F, false⟩ := ⟨nr rfl, nr rfl⟩
@[go_sem] theorem e39 (xKind : Int) (xId : Int) (xSource : ByteArray) (xResponseStatus : Int) (xResponseHeaders : List Header) (xResponseBody : List UInt8) (xRequestMethod : ByteArray) (xRequestHost : ByteArray) (xRequestPath : ByteArray) (xRequestHeaders : List Header) (l : Int) (h0 : okOut (Out.mk xKind xId xSource (Response.mk xResponseStatus xResponseHeaders xResponseBody) (Request.mk xRequestMethod xRequestHost xRequestPath xRequestHeaders))) : s39.F [.agg [.i .i64 xKind, .i .i64 xId, .s xSource, .i .i64 xResponseStatus, .sl .ro 2 (xResponseHeaders.map (rHeader .ro)), .sl .ro 1 (xResponseBody.map rByte), .s xRequestMethod, .s xRequestHost, .s xRequestPath, .sl .ro 2 (xRequestHeaders.map (rHeader .ro))], .i .i64 l] = some (.i .i64 (szOut (Out.mk xKind xId xSource (Response.mk xResponseStatus xResponseHeaders xResponseBody) (Request.mk xRequestMethod xRequestHost xRequestPath xRequestHeaders)) l), [.u, .u]) := mkS_eq (0) rfl rfl (fun cx h => by
  obtain ⟨q0, q1, q2, q3, q4⟩ := h0
  simp only [go_sem, reduceIte, ↓reduceIte, reduceCtorEq, nA, nS, nM, nB, nE, nL, nT, nN, iL, iT, iE, iA, iM, iS, iG, iB, iN, iZ, h, q0, q1, q2, q3, q4]
  simp only [szOut, szs, szn, if_i, decide_eq_true_eq]) (rfl)
noncomputable def s13 : SP Try.prog := mkS tyA 13 Try.f13 [s39] { md := [.ro 1, .ro 1], rg := [(0, [0, 1], []), (1, [0, 1], []), (2, [0, 1, 11], []), (3, [4], []), (4, [0, 1, 5], []), (5, [0, 1, 5, 15], []), (6, [0, 1, 5], []), (7, [0, 1, 5], []), (8, [0, 1, 5, 25], []), (9, [4], []), (10, [4], [])], lv := [(0, [0, 1, 5], [])], out := [(0, [1], [])], rets := some ([4], []) } Try.func13 (by kernel_rfl)
@[go_sem] theorem d13 : s13.g = 13 ∧ s13.fs = ⟨[.ro 1, .ro 1], s13.F, false⟩ := ⟨nr rfl, nr rfl⟩
@[go_sem] theorem e13 (xs : List Out) (l : Int) (h0 : okL okOut xs) : s13.F [.sl .ro 10 (xs.map (rOut .ro)), .i .i64 l] = some (.i .i64 (szL szOut xs l), [.u, .u]) := mkS_eq (xs.length + 1) rfl rfl (fun cx h => by
  have hb := loopN_eq Try.f13 0 _ _ rfl rfl
  have hx := h0.1
  obtain ⟨r, hr, hq⟩ := loop_list (cx := cx) (blk := 0) (body := loopN Try.f13 0) xs (fun k l => ⟨E [(0, .sl .ro 10 (xs.map (rOut .ro))), (1, .i .i64 l), (5, .i .i64 k)], B []⟩) (fun l => ⟨E [(1, .i .i64 l)], B []⟩) (fun x l => decide (szOut x l < 0)) (fun x l => szOut x l) (fun _ _ => (.ret, ⟨E [(4, .i .i64 (-1))], B []⟩)) (fun _ _ => True)
    (fun l _ G => by simp only [go_sem, reduceIte, ↓reduceIte, reduceCtorEq, nA, nS, nM, nB, nE, nL, nT, nN, iL, iT, iE, iA, iM, iS, iG, iB, iN, iZ, h, Int.lt_irrefl, hb]) (fun k hk l _ => by
      have h1 : ((k : Int) < (xs.length : Int)) := Int.ofNat_lt.2 hk
      have h2 := h0.2 _ (List.getElem_mem hk)
      by_cases hc : szOut xs[k] l < 0
      · exact .inl ⟨decide_eq_true hc, fun G => by simp only [go_sem, reduceIte, ↓reduceIte, reduceCtorEq, nA, nS, nM, nB, nE, nL, nT, nN, iL, iT, iE, iA, iM, iS, iG, iB, iN, iZ, h, h2, hc, map_gd (rOut .ro) xs k hk, h1, idx_nt _ _ hk, wrap_nat1 (show k < 9223372036854775807 by omega), hb]⟩
      · exact .inr ⟨decide_eq_false hc, trivial, _, fun G => by simp only [go_sem, reduceIte, ↓reduceIte, reduceCtorEq, nA, nS, nM, nB, nE, nL, nT, nN, iL, iT, iE, iA, iM, iS, iG, iB, iN, iZ, h, h2, hc, map_gd (rOut .ro) xs k hk, h1, idx_nt _ _ hk, wrap_nat1 (show k < 9223372036854775807 by omega), hb] <;> rfl, by simp only [go_sem, reduceIte, ↓reduceIte, reduceCtorEq, nA, nS, nM, nB, nE, nL, nT, nN, iL, iT, iE, iA, iM, iS, iG, iB, iN, iZ, h]⟩) ((IntKind.i64).wrap (l - (xs.length : Int))) trivial (xs.length + 1) (Nat.le_refl _)
  rw [hb] at hr
  unfold szL szs
  by_cases hc : (IntKind.i64).wrap (l - (xs.length : Int)) < 0
  · simp only [go_sem, reduceIte, ↓reduceIte, reduceCtorEq, nA, nS, nM, nB, nE, nL, nT, nN, iL, iT, iE, iA, iM, iS, iG, iB, iN, iZ, h, hc]
  · rcases hq with ⟨s', e1, e2, e3⟩ | ⟨x, s', e1, e3⟩
    · simp only [go_sem, reduceIte, ↓reduceIte, reduceCtorEq, nA, nS, nM, nB, nE, nL, nT, nN, iL, iT, iE, iA, iM, iS, iG, iB, iN, iZ, h, hc, hr, e3, szO_inl e1, Option.getD_some]
    · simp only [go_sem, reduceIte, ↓reduceIte, reduceCtorEq, nA, nS, nM, nB, nE, nL, nT, nN, iL, iT, iE, iA, iM, iS, iG, iB, iN, iZ, h, hc, hr, e3, szO_inr e1, Option.getD_none]) (rfl)
noncomputable def s109 : SP Try.prog := mkS tyA 109 Try.f109 [] { md := [.ro 1], rg := [(0, [1, 2], [1, 2, 3]), (1, [1, 2, 3], [1, 2, 3]), (2, [1, 2, 3], [1, 2, 3]), (3, [2, 3], [2, 3]), (4, [2], [2, 3])], rets := some ([2], [2, 3]) } Try.func109 (by kernel_rfl)
@[go_sem] theorem d109 : s109.g = 109 ∧ s109.fs = ⟨[.ro 1], s109.F, false⟩ := ⟨nr rfl, nr rfl⟩
@[go_sem] theorem e109 (xName : ByteArray) (xValue : ByteArray) (h0 : smHeader (Header.mk xName xValue)) : s109.F [.agg [.s xName, .s xValue]] = some (.agg (rHeader .mut (Header.mk xName xValue)), [.u]) := mkS_eq (0) rfl rfl (fun cx h => by
  obtain ⟨q0, q1⟩ := h0
  simp only [go_sem, reduceIte, ↓reduceIte, reduceCtorEq, nA, nS, nM, nB, nE, nL, nT, nN, iL, iT, iE, iA, iM, iS, iG, iB, iN, iZ, h, q0, q1]) (by simp only [go_sem, reduceIte, ↓reduceIte, reduceCtorEq, nA, nS, nM, nB, nE, nL, nT, nN, iL, iT, iE, iA, iM, iS, iG, iB, iN, iZ, okRes, hasRo, hasRoL, hasRoLL])
noncomputable def s100 : SP Try.prog := mkS tyA 100 Try.f100 [s109] { md := [.ro 1], rg := [(0, [0], []), (1, [0, 3], []), (2, [0, 3, 4], []), (3, [0, 3, 4, 11], []), (4, [0, 3, 4], []), (5, [0, 3, 4], []), (6, [2], [])], lv := [(0, [0, 3, 4], [])], out := [(0, [3], [])], rets := some ([2], []) } Try.func100 (by kernel_rfl)
@[go_sem] theorem d100 : s100.g = 100 ∧ s100.fs = ⟨[.ro 1], s100.F, false⟩ := ⟨nr rfl, nr rfl⟩
@[go_sem] theorem e100 (xs : List Header) (h0 : smL smHeader xs) : s100.F [.sl .ro 2 (xs.map (rHeader .ro))] = some (.sl .mut 2 (xs.map (rHeader .mut)), [.u]) := mkS_eq (xs.length + 1) rfl rfl (fun cx h => by
  have hb := loopN_eq Try.f100 0 _ _ rfl rfl
  have hx := h0.1
  have c1 : ((xs.length : Int) * (32 : Nat) ≤ 140737488355328) := by omega
  have c2 : 0 ≤ (xs.length : Int) := by omega
  have hr := (loop_fold (cx := cx) (blk := 0) (body := loopN Try.f100 0) xs (fun k (_ : Unit) => ⟨E [(0, .sl .ro 2 (xs.map (rHeader .ro))), (3, .sl .mut 2 (fillUp (rHeader .mut) [.s ⟨#[]⟩, .s ⟨#[]⟩] xs k)), (4, .i .i64 k)], B []⟩) (fun _ => ⟨E [(3, .sl .mut 2 (xs.map (rHeader .mut)))], B []⟩) (fun _ _ => ()) (fun _ _ => True)
    (fun l _ G => by simp only [go_sem, reduceIte, ↓reduceIte, reduceCtorEq, nA, nS, nM, nB, nE, nL, nT, nN, iL, iT, iE, iA, iM, iS, iG, iB, iN, iZ, h, Int.lt_irrefl, hb, fillUp_all]) (fun k hk l _ => by
      have h1 : ((k : Int) < (xs.length : Int)) := Int.ofNat_lt.2 hk
      have h2 := h0.2 _ (List.getElem_mem hk)
      have h3 : (fillUp (rHeader .mut) [.s ⟨#[]⟩, .s ⟨#[]⟩] xs k).set k [.s xs[k].Name, .s xs[k].Value] = fillUp (rHeader .mut) [.s ⟨#[]⟩, .s ⟨#[]⟩] xs (k + 1) := fillUp_set (rHeader .mut) [.s ⟨#[]⟩, .s ⟨#[]⟩] xs k hk
      exact ⟨trivial, _, fun G => by simp only [go_sem, reduceIte, ↓reduceIte, reduceCtorEq, nA, nS, nM, nB, nE, nL, nT, nN, iL, iT, iE, iA, iM, iS, iG, iB, iN, iZ, h, h2, h3, map_gd (rHeader .ro) xs k hk, fillUp_get (rHeader .mut) [.s ⟨#[]⟩, .s ⟨#[]⟩] xs k hk, fillUp_getD (rHeader .mut) [.s ⟨#[]⟩, .s ⟨#[]⟩] xs k hk, fillUp_len (rHeader .mut) [.s ⟨#[]⟩, .s ⟨#[]⟩] xs k (Nat.le_of_lt hk), h1, idx_nt _ _ hk, wrap_nat1 (show k < 9223372036854775807 by omega), hb] <;> rfl, by simp only [go_sem, reduceIte, ↓reduceIte, reduceCtorEq, nA, nS, nM, nB, nE, nL, nT, nN, iL, iT, iE, iA, iM, iS, iG, iB, iN, iZ, h]⟩) () trivial (xs.length + 1) (Nat.le_refl _)).2
  rw [hb] at hr
  simp only [go_sem, reduceIte, ↓reduceIte, reduceCtorEq, nA, nS, nM, nB, nE, nL, nT, nN, iL, iT, iE, iA, iM, iS, iG, iB, iN, iZ, h, c1, c2, Int.toNat_natCast, fillUp_zero (rHeader .mut) [.s ⟨#[]⟩, .s ⟨#[]⟩], hr]) (by simp only [go_sem, reduceIte, ↓reduceIte, reduceCtorEq, nA, nS, nM, nB, nE, nL, nT, nN, iL, iT, iE, iA, iM, iS, iG, iB, iN, iZ, okRes, hasRo])
noncomputable def s101 : SP Try.prog := mkS tyA 101 Try.f101 [] { md := [.ro 1], rg := [(0, [0], []), (1, [0, 3], []), (2, [0, 3, 4], []), (3, [0, 3, 4, 11], []), (4, [0, 3, 4], []), (5, [0, 3, 4], []), (6, [2], [])], lv := [(0, [0, 3, 4], [])], out := [(0, [3], [])], rets := some ([2], []) } Try.func101 (by kernel_rfl)
@[go_sem] theorem d101 : s101.g = 101 ∧ s101.fs = ⟨[.ro 1], s101.F, false⟩ := ⟨nr rfl, nr rfl⟩
@[go_sem] theorem e101 (xs : List UInt8) (h0 : smL smByte xs) : s101.F [.sl .ro 1 (xs.map rByte)] = some (.sl .mut 1 (xs.map rByte), [.u]) := mkS_eq (xs.length + 1) rfl rfl (fun cx h => by
  have hb := loopN_eq Try.f101 0 _ _ rfl rfl
  have hx := h0.1
  have c1 : ((xs.length : Int) * (1 : Nat) ≤ 140737488355328) := by omega
  have c2 : 0 ≤ (xs.length : Int) := by omega
  have hr := (loop_fold (cx := cx) (blk := 0) (body := loopN Try.f101 0) xs (fun k (_ : Unit) => ⟨E [(0, .sl .ro 1 (xs.map rByte)), (3, .sl .mut 1 (fillUp rByte [.i .u8 0] xs k)), (4, .i .i64 k)], B []⟩) (fun _ => ⟨E [(3, .sl .mut 1 (xs.map rByte))], B []⟩) (fun _ _ => ()) (fun _ _ => True)
    (fun l _ G => by simp only [go_sem, reduceIte, ↓reduceIte, reduceCtorEq, nA, nS, nM, nB, nE, nL, nT, nN, iL, iT, iE, iA, iM, iS, iG, iB, iN, iZ, h, Int.lt_irrefl, hb, fillUp_all]) (fun k hk l _ => by
      have h1 : ((k : Int) < (xs.length : Int)) := Int.ofNat_lt.2 hk
      have h2 := h0.2 _ (List.getElem_mem hk)
      have h3 : (fillUp rByte [.i .u8 0] xs k).set k [.i .u8 xs[k].toNat] = fillUp rByte [.i .u8 0] xs (k + 1) := fillUp_set rByte [.i .u8 0] xs k hk
      exact ⟨trivial, _, fun G => by simp only [go_sem, reduceIte, ↓reduceIte, reduceCtorEq, nA, nS, nM, nB, nE, nL, nT, nN, iL, iT, iE, iA, iM, iS, iG, iB, iN, iZ, h, h2, h3, map_gd rByte xs k hk, fillUp_get rByte [.i .u8 0] xs k hk, fillUp_getD rByte [.i .u8 0] xs k hk, fillUp_len rByte [.i .u8 0] xs k (Nat.le_of_lt hk), h1, idx_nt _ _ hk, wrap_nat1 (show k < 9223372036854775807 by omega), hb] <;> rfl, by simp only [go_sem, reduceIte, ↓reduceIte, reduceCtorEq, nA, nS, nM, nB, nE, nL, nT, nN, iL, iT, iE, iA, iM, iS, iG, iB, iN, iZ, h]⟩) () trivial (xs.length + 1) (Nat.le_refl _)).2
  rw [hb] at hr
  simp only [go_sem, reduceIte, ↓reduceIte, reduceCtorEq, nA, nS, nM, nB, nE, nL, nT, nN, iL, iT, iE, iA, iM, iS, iG, iB, iN, iZ, h, c1, c2, Int.toNat_natCast, fillUp_zero rByte [.i .u8 0], hr]) (by simp only [go_sem, reduceIte, ↓reduceIte, reduceCtorEq, nA, nS, nM, nB, nE, nL, nT, nN, iL, iT, iE, iA, iM, iS, iG, iB, iN, iZ, okRes, hasRo])
noncomputable def s71 : SP Try.prog := mkS tyA 71 Try.f71 [s100, s101] { md := [.ro 1], rg := [(0, [1, 2], [1, 2, 3]), (1, [1, 2, 3], [1, 2, 3]), (2, [1, 2, 3], [1, 2, 3]), (3, [1, 2, 3], [1, 2, 3]), (4, [2, 3], [2, 3]), (5, [2], [2, 3])], rets := some ([2], [2, 3]) } Try.func71 (by kernel_rfl)
@[go_sem] theorem d71 : s71.g = 71 ∧ s71.fs = ⟨[.ro 1], s71.F, false⟩ := ⟨nr rfl, nr rfl⟩
@[go_sem] theorem e71 (xStatus : Int) (xHeaders : List Header) (xBody : List UInt8) (h0 : smResponse (Response.mk xStatus xHeaders xBody)) : s71.F [.agg [.i .i64 xStatus, .sl .ro 2 (xHeaders.map (rHeader .ro)), .sl .ro 1 (xBody.map rByte)]] = some (.agg (rResponse .mut (Response.mk xStatus xHeaders xBody)), [.u]) := mkS_eq (0) rfl rfl (fun cx h => by
  obtain ⟨q0, q1, q2⟩ := h0
  simp only [go_sem, reduceIte, ↓reduceIte, reduceCtorEq, nA, nS, nM, nB, nE, nL, nT, nN, iL, iT, iE, iA, iM, iS, iG, iB, iN, iZ, h, q0, q1, q2]) (by simp only [go_sem, reduceIte, ↓reduceIte, reduceCtorEq, nA, nS, nM, nB, nE, nL, nT, nN, iL, iT, iE, iA, iM, iS, iG, iB, iN, iZ, okRes, hasRo, hasRoL, hasRoLL])
noncomputable def s72 : SP Try.prog := mkS tyA 72 Try.f72 [s100] { md := [.ro 1], rg := [(0, [1, 2], [1, 2, 3]), (1, [1, 2, 3], [1, 2, 3]), (2, [1, 2, 3], [1, 2, 3]), (3, [1, 2, 3], [1, 2, 3]), (4, [1, 2, 3], [1, 2, 3]), (5, [2, 3], [2, 3]), (6, [2], [2, 3])], rets := some ([2], [2, 3]) } Try.func72 (by kernel_rfl)
@[go_sem] theorem d72 : s72.g = 72 ∧ s72.fs = ⟨[.ro 1], s72.F, false⟩ := ⟨nr rfl, nr rfl⟩
@[go_sem] theorem e72 (xMethod : ByteArray) (xHost : ByteArray) (xPath : ByteArray) (xHeaders : List Header) (h0 : smRequest (Request.mk xMethod xHost xPath xHeaders)) : s72.F [.agg [.s xMethod, .s xHost, .s xPath, .sl .ro 2 (xHeaders.map (rHeader .ro))]] = some (.agg (rRequest .mut (Request.mk xMethod xHost xPath xHeaders)), [.u]) := mkS_eq (0) rfl rfl (fun cx h => by
  obtain ⟨q0, q1, q2, q3⟩ := h0
  simp only [go_sem, reduceIte, ↓reduceIte, reduceCtorEq, nA, nS, nM, nB, nE, nL, nT, nN, iL, iT, iE, iA, iM, iS, iG, iB, iN, iZ, h, q0, q1, q2, q3]) (by simp only [go_sem, reduceIte, ↓reduceIte, reduceCtorEq, nA, nS, nM, nB, nE, nL, nT, nN, iL, iT, iE, iA, iM, iS, iG, iB, iN, iZ, okRes, hasRo, hasRoL, hasRoLL])
noncomputable def s40 : SP Try.prog := mkS tyA 40 Try.f40 [s71, s72] { md := [.ro 1], rg := [(0, [1, 2], [1, 2, 3]), (1, [1, 2, 3], [1, 2, 3]), (2, [1, 2, 3], [1, 2, 3]), (3, [1, 2, 3], [1, 2, 3]), (4, [1, 2, 3], [1, 2, 3]), (5, [1, 2, 3], [1, 2, 3]), (6, [2, 3], [2, 3]), (7, [2], [2, 3])], rets := some ([2], [2, 3]) } Try.func40 (by kernel_rfl)
@[go_sem] theorem d40 : s40.g = 40 ∧ s40.fs = ⟨[.ro 1], s40.F, false⟩ := ⟨nr rfl, nr rfl⟩
@[go_sem] theorem e40 (xKind : Int) (xId : Int) (xSource : ByteArray) (xResponseStatus : Int) (xResponseHeaders : List Header) (xResponseBody : List UInt8) (xRequestMethod : ByteArray) (xRequestHost : ByteArray) (xRequestPath : ByteArray) (xRequestHeaders : List Header) (h0 : smOut (Out.mk xKind xId xSource (Response.mk xResponseStatus xResponseHeaders xResponseBody) (Request.mk xRequestMethod xRequestHost xRequestPath xRequestHeaders))) : s40.F [.agg [.i .i64 xKind, .i .i64 xId, .s xSource, .i .i64 xResponseStatus, .sl .ro 2 (xResponseHeaders.map (rHeader .ro)), .sl .ro 1 (xResponseBody.map rByte), .s xRequestMethod, .s xRequestHost, .s xRequestPath, .sl .ro 2 (xRequestHeaders.map (rHeader .ro))]] = some (.agg (rOut .mut (Out.mk xKind xId xSource (Response.mk xResponseStatus xResponseHeaders xResponseBody) (Request.mk xRequestMethod xRequestHost xRequestPath xRequestHeaders))), [.u]) := mkS_eq (0) rfl rfl (fun cx h => by
  obtain ⟨q0, q1, q2, q3, q4⟩ := h0
  simp only [go_sem, reduceIte, ↓reduceIte, reduceCtorEq, nA, nS, nM, nB, nE, nL, nT, nN, iL, iT, iE, iA, iM, iS, iG, iB, iN, iZ, h, q0, q1, q2, q3, q4]) (by simp only [go_sem, reduceIte, ↓reduceIte, reduceCtorEq, nA, nS, nM, nB, nE, nL, nT, nN, iL, iT, iE, iA, iM, iS, iG, iB, iN, iZ, okRes, hasRo, hasRoL, hasRoLL])
noncomputable def s15 : SP Try.prog := mkS tyA 15 Try.f15 [s40] { md := [.ro 1], rg := [(0, [0], []), (1, [0, 3], []), (2, [0, 3, 4], []), (3, [0, 3, 4, 11], []), (4, [0, 3, 4], []), (5, [0, 3, 4], []), (6, [2], [])], lv := [(0, [0, 3, 4], [])], out := [(0, [3], [])], rets := some ([2], []) } Try.func15 (by kernel_rfl)
@[go_sem] theorem d15 : s15.g = 15 ∧ s15.fs = ⟨[.ro 1], s15.F, false⟩ := ⟨nr rfl, nr rfl⟩
@[go_sem] theorem e15 (xs : List Out) (h0 : smL smOut xs) : s15.F [.sl .ro 10 (xs.map (rOut .ro))] = some (.sl .mut 10 (xs.map (rOut .mut)), [.u]) := mkS_eq (xs.length + 1) rfl rfl (fun cx h => by
  have hb := loopN_eq Try.f15 0 _ _ rfl rfl
  have hx := h0.1
  have c1 : ((xs.length : Int) * (160 : Nat) ≤ 140737488355328) := by omega
  have c2 : 0 ≤ (xs.length : Int) := by omega
  have hr := (loop_fold (cx := cx) (blk := 0) (body := loopN Try.f15 0) xs (fun k (_ : Unit) => ⟨E [(0, .sl .ro 10 (xs.map (rOut .ro))), (3, .sl .mut 10 (fillUp (rOut .mut) [.i .i64 0, .i .i64 0, .s ⟨#[]⟩, .i .i64 0, .sl .mut 2 [], .sl .mut 1 [], .s ⟨#[]⟩, .s ⟨#[]⟩, .s ⟨#[]⟩, .sl .mut 2 []] xs k)), (4, .i .i64 k)], B []⟩) (fun _ => ⟨E [(3, .sl .mut 10 (xs.map (rOut .mut)))], B []⟩) (fun _ _ => ()) (fun _ _ => True)
    (fun l _ G => by simp only [go_sem, reduceIte, ↓reduceIte, reduceCtorEq, nA, nS, nM, nB, nE, nL, nT, nN, iL, iT, iE, iA, iM, iS, iG, iB, iN, iZ, h, Int.lt_irrefl, hb, fillUp_all]) (fun k hk l _ => by
      have h1 : ((k : Int) < (xs.length : Int)) := Int.ofNat_lt.2 hk
      have h2 := h0.2 _ (List.getElem_mem hk)
      have h3 : (fillUp (rOut .mut) [.i .i64 0, .i .i64 0, .s ⟨#[]⟩, .i .i64 0, .sl .mut 2 [], .sl .mut 1 [], .s ⟨#[]⟩, .s ⟨#[]⟩, .s ⟨#[]⟩, .sl .mut 2 []] xs k).set k [.i .i64 xs[k].Kind, .i .i64 xs[k].Id, .s xs[k].Source, .i .i64 xs[k].Response.Status, .sl .mut 2 (xs[k].Response.Headers.map (rHeader .mut)), .sl .mut 1 (xs[k].Response.Body.map rByte), .s xs[k].Request.Method, .s xs[k].Request.Host, .s xs[k].Request.Path, .sl .mut 2 (xs[k].Request.Headers.map (rHeader .mut))] = fillUp (rOut .mut) [.i .i64 0, .i .i64 0, .s ⟨#[]⟩, .i .i64 0, .sl .mut 2 [], .sl .mut 1 [], .s ⟨#[]⟩, .s ⟨#[]⟩, .s ⟨#[]⟩, .sl .mut 2 []] xs (k + 1) := fillUp_set (rOut .mut) [.i .i64 0, .i .i64 0, .s ⟨#[]⟩, .i .i64 0, .sl .mut 2 [], .sl .mut 1 [], .s ⟨#[]⟩, .s ⟨#[]⟩, .s ⟨#[]⟩, .sl .mut 2 []] xs k hk
      exact ⟨trivial, _, fun G => by simp only [go_sem, reduceIte, ↓reduceIte, reduceCtorEq, nA, nS, nM, nB, nE, nL, nT, nN, iL, iT, iE, iA, iM, iS, iG, iB, iN, iZ, h, h2, h3, map_gd (rOut .ro) xs k hk, fillUp_get (rOut .mut) [.i .i64 0, .i .i64 0, .s ⟨#[]⟩, .i .i64 0, .sl .mut 2 [], .sl .mut 1 [], .s ⟨#[]⟩, .s ⟨#[]⟩, .s ⟨#[]⟩, .sl .mut 2 []] xs k hk, fillUp_getD (rOut .mut) [.i .i64 0, .i .i64 0, .s ⟨#[]⟩, .i .i64 0, .sl .mut 2 [], .sl .mut 1 [], .s ⟨#[]⟩, .s ⟨#[]⟩, .s ⟨#[]⟩, .sl .mut 2 []] xs k hk, fillUp_len (rOut .mut) [.i .i64 0, .i .i64 0, .s ⟨#[]⟩, .i .i64 0, .sl .mut 2 [], .sl .mut 1 [], .s ⟨#[]⟩, .s ⟨#[]⟩, .s ⟨#[]⟩, .sl .mut 2 []] xs k (Nat.le_of_lt hk), h1, idx_nt _ _ hk, wrap_nat1 (show k < 9223372036854775807 by omega), hb] <;> rfl, by simp only [go_sem, reduceIte, ↓reduceIte, reduceCtorEq, nA, nS, nM, nB, nE, nL, nT, nN, iL, iT, iE, iA, iM, iS, iG, iB, iN, iZ, h]⟩) () trivial (xs.length + 1) (Nat.le_refl _)).2
  rw [hb] at hr
  simp only [go_sem, reduceIte, ↓reduceIte, reduceCtorEq, nA, nS, nM, nB, nE, nL, nT, nN, iL, iT, iE, iA, iM, iS, iG, iB, iN, iZ, h, c1, c2, Int.toNat_natCast, fillUp_zero (rOut .mut) [.i .i64 0, .i .i64 0, .s ⟨#[]⟩, .i .i64 0, .sl .mut 2 [], .sl .mut 1 [], .s ⟨#[]⟩, .s ⟨#[]⟩, .s ⟨#[]⟩, .sl .mut 2 []], hr]) (by simp only [go_sem, reduceIte, ↓reduceIte, reduceCtorEq, nA, nS, nM, nB, nE, nL, nT, nN, iL, iT, iE, iA, iM, iS, iG, iB, iN, iZ, okRes, hasRo])
noncomputable def s96 : SP Try.prog := mkS tyA 96 Try.f96 [] { md := [.ro 1, .ro 1], rg := [(0, [2, 3], [2, 3]), (1, [2, 3, 9], [2, 3]), (2, [4], []), (3, [14], []), (4, [4], []), (5, [4], [])], rets := some ([4], []) } Try.func96 (by kernel_rfl)
@[go_sem] theorem d96 : s96.g = 96 ∧ s96.fs = ⟨[.ro 1, .ro 1], s96.F, false⟩ := ⟨nr rfl, nr rfl⟩
@[go_sem] theorem e96 (xName : ByteArray) (xValue : ByteArray) (yName : ByteArray) (yValue : ByteArray) (h0 : smHeader (Header.mk xName xValue)) : s96.F [.agg [.s xName, .s xValue], .agg [.s yName, .s yValue]] = some (.b (eqv (Header.mk xName xValue) (Header.mk yName yValue)), [.u, .u]) := mkS_eq (0) rfl rfl (fun cx h => by
  obtain ⟨q0, q1⟩ := h0
  simp only [go_sem, reduceIte, ↓reduceIte, reduceCtorEq, nA, nS, nM, nB, nE, nL, nT, nN, iL, iT, iE, iA, iM, iS, iG, iB, iN, iZ, h, eqv_intne, eqv_bytes, eqv_boolne, q0, q1]
  simp only [Header.eqv (Header.mk xName xValue) (Header.mk yName yValue), if_b, not_eq_t, if_nb, Bool.and_true]) (rfl)
noncomputable def s63 : SP Try.prog := mkS tyA 63 Try.f63 [s96] { md := [.ro 1, .ro 1], rg := [(0, [0, 1], []), (1, [0, 1, 10], []), (2, [4], []), (3, [0, 1, 5], []), (4, [0, 1, 5, 14], []), (5, [0, 1, 5], []), (6, [0, 1, 5, 26], []), (7, [4], []), (8, [4], [])], lv := [(0, [0, 1, 5], [])], out := [(0, [], [])], rets := some ([4], []), plan := [(6, (.take 0 (.take 1 (.take 2 (.take 3 (.take 4 (.take 5 (.take 6 (.take 7 (.one 8 (.take 9 .done)))))))))))] } Try.func63 (by kernel_rfl)
@[go_sem] theorem d63 : s63.g = 63 ∧ s63.fs = ⟨[.ro 1, .ro 1], s63.F, false⟩ := ⟨nr rfl, nr rfl⟩
@[go_sem] theorem e63 (xs ys : List Header) (h0 : smL smHeader xs) : s63.F [.sl .ro 2 (xs.map (rHeader .ro)), .sl .ro 2 (ys.map (rHeader .ro))] = some (.b (eqv xs ys), [.u, .u]) := mkS_eq (xs.length + 1) rfl rfl (fun cx h => by
  have hb := loopN_eq Try.f63 0 _ _ rfl rfl
  have hx := h0.1
  by_cases hl : xs.length = ys.length
  · obtain ⟨r, hr, hq⟩ := loop_list (cx := cx) (blk := 0) (body := loopN Try.f63 0) (xs.zip ys) (fun k (_ : Unit) => ⟨E [(0, .sl .ro 2 (xs.map (rHeader .ro))), (1, .sl .ro 2 (ys.map (rHeader .ro))), (5, .i .i64 k)], B []⟩) (fun _ => ⟨E [], B []⟩) (fun x _ => !eqv x.1 x.2) (fun _ _ => ()) (fun _ _ => (.ret, ⟨E [(4, .b false)], B []⟩)) (fun _ _ => True)
      (fun l _ G => by simp only [go_sem, reduceIte, ↓reduceIte, reduceCtorEq, nA, nS, nM, nB, nE, nL, nT, nN, iL, iT, iE, iA, iM, iS, iG, iB, iN, iZ, h, zip_len hl, hl, Int.lt_irrefl, hb]) (fun k hk l _ => by
        have hk : k < xs.length := by rwa [zip_len hl] at hk
        have h1 : ((k : Int) < (xs.length : Int)) := Int.ofNat_lt.2 hk
        have h2 := h0.2 _ (List.getElem_mem hk)
        have h3 : (xs.zip ys)[k] = (xs[k], ys[k]'(by omega)) := by simp
        rw [h3]
        cases hc : eqv xs[k] (ys[k]'(by omega))
        · exact .inl ⟨rfl, fun G => by simp only [go_sem, reduceIte, ↓reduceIte, reduceCtorEq, nA, nS, nM, nB, nE, nL, nT, nN, iL, iT, iE, iA, iM, iS, iG, iB, iN, iZ, h, hc, map_gd (rHeader .ro) xs k hk, map_gd (rHeader .ro) ys k (by omega), idx_nt ys.length k (by omega), h2, h1, idx_nt _ _ hk, wrap_nat1 (show k < 9223372036854775807 by omega), hb]⟩
        · exact .inr ⟨rfl, trivial, _, fun G => by simp only [go_sem, reduceIte, ↓reduceIte, reduceCtorEq, nA, nS, nM, nB, nE, nL, nT, nN, iL, iT, iE, iA, iM, iS, iG, iB, iN, iZ, h, hc, map_gd (rHeader .ro) xs k hk, map_gd (rHeader .ro) ys k (by omega), idx_nt ys.length k (by omega), h2, h1, idx_nt _ _ hk, wrap_nat1 (show k < 9223372036854775807 by omega), hb] <;> rfl, by simp only [go_sem, reduceIte, ↓reduceIte, reduceCtorEq, nA, nS, nM, nB, nE, nL, nT, nN, iL, iT, iE, iA, iM, iS, iG, iB, iN, iZ, h]⟩) () trivial (xs.length + 1) (by rw [zip_len hl]; exact Nat.le_refl _)
    rw [hb] at hr
    have hl2 : ((xs.length : Int) != (ys.length : Int)) = false := by simp [hl]
    rcases hq with ⟨s', e1, e2, e3⟩ | ⟨x, s', e1, e3⟩
    · simp only [go_sem, reduceIte, ↓reduceIte, reduceCtorEq, nA, nS, nM, nB, nE, nL, nT, nN, iL, iT, iE, iA, iM, iS, iG, iB, iN, iZ, h, hl2, hr, e3, zip_eqv hl e1]
    · simp only [go_sem, reduceIte, ↓reduceIte, reduceCtorEq, nA, nS, nM, nB, nE, nL, nT, nN, iL, iT, iE, iA, iM, iS, iG, iB, iN, iZ, h, hl2, hr, e3, zip_nev hl e1]
  · have hl2 : ((xs.length : Int) != (ys.length : Int)) = true := by simpa using fun h => hl (Int.ofNat_inj.1 h)
    simp only [go_sem, reduceIte, ↓reduceIte, reduceCtorEq, nA, nS, nM, nB, nE, nL, nT, nN, iL, iT, iE, iA, iM, iS, iG, iB, iN, iZ, h, hl2, len_nev hl]) (rfl)
noncomputable def s64 : SP Try.prog := mkS tyA 64 Try.f64 [] { md := [.ro 1, .ro 1], rg := [(0, [0, 1], []), (1, [0, 1, 10], []), (2, [4], []), (3, [0, 1, 5], []), (4, [0, 1, 5, 14], []), (5, [0, 1, 5], []), (6, [0, 1, 5, 25], []), (7, [4], []), (8, [4], [])], lv := [(0, [0, 1, 5], [])], out := [(0, [], [])], rets := some ([4], []), plan := [(6, (.take 0 (.take 1 (.take 2 (.take 3 (.take 4 (.take 5 (.take 6 (.take 7 (.take 8 .done))))))))))] } Try.func64 (by kernel_rfl)
@[go_sem] theorem d64 : s64.g = 64 ∧ s64.fs = ⟨[.ro 1, .ro 1], s64.F, false⟩ := ⟨nr rfl, nr rfl⟩
@[go_sem] theorem e64 (xs ys : List UInt8) (h0 : smL smByte xs) : s64.F [.sl .ro 1 (xs.map rByte), .sl .ro 1 (ys.map rByte)] = some (.b (eqv xs ys), [.u, .u]) := mkS_eq (xs.length + 1) rfl rfl (fun cx h => by
  have hb := loopN_eq Try.f64 0 _ _ rfl rfl
  have hx := h0.1
  by_cases hl : xs.length = ys.length
  · obtain ⟨r, hr, hq⟩ := loop_list (cx := cx) (blk := 0) (body := loopN Try.f64 0) (xs.zip ys) (fun k (_ : Unit) => ⟨E [(0, .sl .ro 1 (xs.map rByte)), (1, .sl .ro 1 (ys.map rByte)), (5, .i .i64 k)], B []⟩) (fun _ => ⟨E [], B []⟩) (fun x _ => !eqv x.1 x.2) (fun _ _ => ()) (fun _ _ => (.ret, ⟨E [(4, .b false)], B []⟩)) (fun _ _ => True)
      (fun l _ G => by simp only [go_sem, reduceIte, ↓reduceIte, reduceCtorEq, nA, nS, nM, nB, nE, nL, nT, nN, iL, iT, iE, iA, iM, iS, iG, iB, iN, iZ, h, zip_len hl, hl, Int.lt_irrefl, hb]) (fun k hk l _ => by
        have hk : k < xs.length := by rwa [zip_len hl] at hk
        have h1 : ((k : Int) < (xs.length : Int)) := Int.ofNat_lt.2 hk
        have h2 := h0.2 _ (List.getElem_mem hk)
        have h3 : (xs.zip ys)[k] = (xs[k], ys[k]'(by omega)) := by simp
        rw [h3]
        cases hc : eqv xs[k] (ys[k]'(by omega))
        · exact .inl ⟨rfl, fun G => by simp only [go_sem, reduceIte, ↓reduceIte, reduceCtorEq, nA, nS, nM, nB, nE, nL, nT, nN, iL, iT, iE, iA, iM, iS, iG, iB, iN, iZ, h, hc, map_gd rByte xs k hk, map_gd rByte ys k (by omega), idx_nt ys.length k (by omega), eqv_byte, h1, idx_nt _ _ hk, wrap_nat1 (show k < 9223372036854775807 by omega), hb]⟩
        · exact .inr ⟨rfl, trivial, _, fun G => by simp only [go_sem, reduceIte, ↓reduceIte, reduceCtorEq, nA, nS, nM, nB, nE, nL, nT, nN, iL, iT, iE, iA, iM, iS, iG, iB, iN, iZ, h, hc, map_gd rByte xs k hk, map_gd rByte ys k (by omega), idx_nt ys.length k (by omega), eqv_byte, h1, idx_nt _ _ hk, wrap_nat1 (show k < 9223372036854775807 by omega), hb] <;> rfl, by simp only [go_sem, reduceIte, ↓reduceIte, reduceCtorEq, nA, nS, nM, nB, nE, nL, nT, nN, iL, iT, iE, iA, iM, iS, iG, iB, iN, iZ, h]⟩) () trivial (xs.length + 1) (by rw [zip_len hl]; exact Nat.le_refl _)
    rw [hb] at hr
    have hl2 : ((xs.length : Int) != (ys.length : Int)) = false := by simp [hl]
    rcases hq with ⟨s', e1, e2, e3⟩ | ⟨x, s', e1, e3⟩
    · simp only [go_sem, reduceIte, ↓reduceIte, reduceCtorEq, nA, nS, nM, nB, nE, nL, nT, nN, iL, iT, iE, iA, iM, iS, iG, iB, iN, iZ, h, hl2, hr, e3, zip_eqv hl e1]
    · simp only [go_sem, reduceIte, ↓reduceIte, reduceCtorEq, nA, nS, nM, nB, nE, nL, nT, nN, iL, iT, iE, iA, iM, iS, iG, iB, iN, iZ, h, hl2, hr, e3, zip_nev hl e1]
  · have hl2 : ((xs.length : Int) != (ys.length : Int)) = true := by simpa using fun h => hl (Int.ofNat_inj.1 h)
    simp only [go_sem, reduceIte, ↓reduceIte, reduceCtorEq, nA, nS, nM, nB, nE, nL, nT, nN, iL, iT, iE, iA, iM, iS, iG, iB, iN, iZ, h, hl2, len_nev hl]) (rfl)
noncomputable def s36 : SP Try.prog := mkS tyA 36 Try.f36 [s63, s64] { md := [.ro 1, .ro 1], rg := [(0, [2, 3], [2, 3]), (1, [2, 3, 9], [2, 3]), (2, [4], []), (3, [2, 3, 15], [2, 3]), (4, [4], []), (5, [21], []), (6, [4], []), (7, [4], [])], rets := some ([4], []) } Try.func36 (by kernel_rfl)
@[go_sem] theorem d36 : s36.g = 36 ∧ s36.fs = ⟨[.ro 1, .ro 1], s36.F, false⟩ := ⟨nr rfl, nr rfl⟩
@[go_sem] theorem e36 (xStatus : Int) (xHeaders : List Header) (xBody : List UInt8) (yStatus : Int) (yHeaders : List Header) (yBody : List UInt8) (h0 : smResponse (Response.mk xStatus xHeaders xBody)) : s36.F [.agg [.i .i64 xStatus, .sl .ro 2 (xHeaders.map (rHeader .ro)), .sl .ro 1 (xBody.map rByte)], .agg [.i .i64 yStatus, .sl .ro 2 (yHeaders.map (rHeader .ro)), .sl .ro 1 (yBody.map rByte)]] = some (.b (eqv (Response.mk xStatus xHeaders xBody) (Response.mk yStatus yHeaders yBody)), [.u, .u]) := mkS_eq (0) rfl rfl (fun cx h => by
  obtain ⟨q0, q1, q2⟩ := h0
  simp only [go_sem, reduceIte, ↓reduceIte, reduceCtorEq, nA, nS, nM, nB, nE, nL, nT, nN, iL, iT, iE, iA, iM, iS, iG, iB, iN, iZ, h, eqv_intne, eqv_bytes, eqv_boolne, q0, q1, q2]
  simp only [Response.eqv (Response.mk xStatus xHeaders xBody) (Response.mk yStatus yHeaders yBody), if_b, not_eq_t, if_nb, Bool.and_true]) (rfl)
noncomputable def s76 : SP Try.prog := mkS tyA 76 Try.f76 [s63] { md := [.ro 1, .ro 1], rg := [(0, [2, 3], [2, 3]), (1, [2, 3, 9], [2, 3]), (2, [4], []), (3, [2, 3, 14], [2, 3]), (4, [4], []), (5, [2, 3, 19], [2, 3]), (6, [4], []), (7, [25], []), (8, [4], []), (9, [4], [])], rets := some ([4], []) } Try.func76 (by kernel_rfl)
@[go_sem] theorem d76 : s76.g = 76 ∧ s76.fs = ⟨[.ro 1, .ro 1], s76.F, false⟩ := ⟨nr rfl, nr rfl⟩
@[go_sem] theorem e76 (xMethod : ByteArray) (xHost : ByteArray) (xPath : ByteArray) (xHeaders : List Header) (yMethod : ByteArray) (yHost : ByteArray) (yPath : ByteArray) (yHeaders : List Header) (h0 : smRequest (Request.mk xMethod xHost xPath xHeaders)) : s76.F [.agg [.s xMethod, .s xHost, .s xPath, .sl .ro 2 (xHeaders.map (rHeader .ro))], .agg [.s yMethod, .s yHost, .s yPath, .sl .ro 2 (yHeaders.map (rHeader .ro))]] = some (.b (eqv (Request.mk xMethod xHost xPath xHeaders) (Request.mk yMethod yHost yPath yHeaders)), [.u, .u]) := mkS_eq (0) rfl rfl (fun cx h => by
  obtain ⟨q0, q1, q2, q3⟩ := h0
  simp only [go_sem, reduceIte, ↓reduceIte, reduceCtorEq, nA, nS, nM, nB, nE, nL, nT, nN, iL, iT, iE, iA, iM, iS, iG, iB, iN, iZ, h, eqv_intne, eqv_bytes, eqv_boolne, q0, q1, q2, q3]
  simp only [Request.eqv (Request.mk xMethod xHost xPath xHeaders) (Request.mk yMethod yHost yPath yHeaders), if_b, not_eq_t, if_nb, Bool.and_true]) (rfl)
noncomputable def s42 : SP Try.prog := mkS tyA 42 Try.f42 [s36, s76] { md := [.ro 1, .ro 1], rg := [(0, [2, 3], [2, 3]), (1, [2, 3, 9], [2, 3]), (2, [4], []), (3, [2, 3, 14], [2, 3]), (4, [4], []), (5, [2, 3, 19], [2, 3]), (6, [4], []), (7, [2, 3, 25], [2, 3]), (8, [4], []), (9, [31], []), (10, [4], []), (11, [4], [])], rets := some ([4], []) } Try.func42 (by kernel_rfl)
@[go_sem] theorem d42 : s42.g = 42 ∧ s42.fs = ⟨[.ro 1, .ro 1], s42.F, false⟩ := ⟨nr rfl, nr rfl⟩
@[go_sem] theorem e42 (xKind : Int) (xId : Int) (xSource : ByteArray) (xResponseStatus : Int) (xResponseHeaders : List Header) (xResponseBody : List UInt8) (xRequestMethod : ByteArray) (xRequestHost : ByteArray) (xRequestPath : ByteArray) (xRequestHeaders : List Header) (yKind : Int) (yId : Int) (ySource : ByteArray) (yResponseStatus : Int) (yResponseHeaders : List Header) (yResponseBody : List UInt8) (yRequestMethod : ByteArray) (yRequestHost : ByteArray) (yRequestPath : ByteArray) (yRequestHeaders : List Header) (h0 : smOut (Out.mk xKind xId xSource (Response.mk xResponseStatus xResponseHeaders xResponseBody) (Request.mk xRequestMethod xRequestHost xRequestPath xRequestHeaders))) : s42.F [.agg [.i .i64 xKind, .i .i64 xId, .s xSource, .i .i64 xResponseStatus, .sl .ro 2 (xResponseHeaders.map (rHeader .ro)), .sl .ro 1 (xResponseBody.map rByte), .s xRequestMethod, .s xRequestHost, .s xRequestPath, .sl .ro 2 (xRequestHeaders.map (rHeader .ro))], .agg [.i .i64 yKind, .i .i64 yId, .s ySource, .i .i64 yResponseStatus, .sl .ro 2 (yResponseHeaders.map (rHeader .ro)), .sl .ro 1 (yResponseBody.map rByte), .s yRequestMethod, .s yRequestHost, .s yRequestPath, .sl .ro 2 (yRequestHeaders.map (rHeader .ro))]] = some (.b (eqv (Out.mk xKind xId xSource (Response.mk xResponseStatus xResponseHeaders xResponseBody) (Request.mk xRequestMethod xRequestHost xRequestPath xRequestHeaders)) (Out.mk yKind yId ySource (Response.mk yResponseStatus yResponseHeaders yResponseBody) (Request.mk yRequestMethod yRequestHost yRequestPath yRequestHeaders))), [.u, .u]) := mkS_eq (0) rfl rfl (fun cx h => by
  obtain ⟨q0, q1, q2, q3, q4⟩ := h0
  simp only [go_sem, reduceIte, ↓reduceIte, reduceCtorEq, nA, nS, nM, nB, nE, nL, nT, nN, iL, iT, iE, iA, iM, iS, iG, iB, iN, iZ, h, eqv_intne, eqv_bytes, eqv_boolne, q0, q1, q2, q3, q4]
  simp only [Out.eqv (Out.mk xKind xId xSource (Response.mk xResponseStatus xResponseHeaders xResponseBody) (Request.mk xRequestMethod xRequestHost xRequestPath xRequestHeaders)) (Out.mk yKind yId ySource (Response.mk yResponseStatus yResponseHeaders yResponseBody) (Request.mk yRequestMethod yRequestHost yRequestPath yRequestHeaders)), if_b, not_eq_t, if_nb, Bool.and_true]) (rfl)
noncomputable def s18 : SP Try.prog := mkS tyA 18 Try.f18 [s42] { md := [.ro 1, .ro 1], rg := [(0, [0, 1], []), (1, [0, 1, 10], []), (2, [4], []), (3, [0, 1, 5], []), (4, [0, 1, 5, 14], []), (5, [0, 1, 5], []), (6, [0, 1, 5, 26], []), (7, [4], []), (8, [4], [])], lv := [(0, [0, 1, 5], [])], out := [(0, [], [])], rets := some ([4], []), plan := [(6, (.take 0 (.take 1 (.take 2 (.take 3 (.take 4 (.take 5 (.take 6 (.take 7 (.one 8 (.take 9 .done)))))))))))] } Try.func18 (by kernel_rfl)
@[go_sem] theorem d18 : s18.g = 18 ∧ s18.fs = ⟨[.ro 1, .ro 1], s18.F, false⟩ := ⟨nr rfl, nr rfl⟩
@[go_sem] theorem e18 (xs ys : List Out) (h0 : smL smOut xs) : s18.F [.sl .ro 10 (xs.map (rOut .ro)), .sl .ro 10 (ys.map (rOut .ro))] = some (.b (eqv xs ys), [.u, .u]) := mkS_eq (xs.length + 1) rfl rfl (fun cx h => by
  have hb := loopN_eq Try.f18 0 _ _ rfl rfl
  have hx := h0.1
  by_cases hl : xs.length = ys.length
  · obtain ⟨r, hr, hq⟩ := loop_list (cx := cx) (blk := 0) (body := loopN Try.f18 0) (xs.zip ys) (fun k (_ : Unit) => ⟨E [(0, .sl .ro 10 (xs.map (rOut .ro))), (1, .sl .ro 10 (ys.map (rOut .ro))), (5, .i .i64 k)], B []⟩) (fun _ => ⟨E [], B []⟩) (fun x _ => !eqv x.1 x.2) (fun _ _ => ()) (fun _ _ => (.ret, ⟨E [(4, .b false)], B []⟩)) (fun _ _ => True)
      (fun l _ G => by simp only [go_sem, reduceIte, ↓reduceIte, reduceCtorEq, nA, nS, nM, nB, nE, nL, nT, nN, iL, iT, iE, iA, iM, iS, iG, iB, iN, iZ, h, zip_len hl, hl, Int.lt_irrefl, hb]) (fun k hk l _ => by
        have hk : k < xs.length := by rwa [zip_len hl] at hk
        have h1 : ((k : Int) < (xs.length : Int)) := Int.ofNat_lt.2 hk
        have h2 := h0.2 _ (List.getElem_mem hk)
        have h3 : (xs.zip ys)[k] = (xs[k], ys[k]'(by omega)) := by simp
        rw [h3]
        cases hc : eqv xs[k] (ys[k]'(by omega))
        · exact .inl ⟨rfl, fun G => by simp only [go_sem, reduceIte, ↓reduceIte, reduceCtorEq, nA, nS, nM, nB, nE, nL, nT, nN, iL, iT, iE, iA, iM, iS, iG, iB, iN, iZ, h, hc, map_gd (rOut .ro) xs k hk, map_gd (rOut .ro) ys k (by omega), idx_nt ys.length k (by omega), h2, h1, idx_nt _ _ hk, wrap_nat1 (show k < 9223372036854775807 by omega), hb]⟩
        · exact .inr ⟨rfl, trivial, _, fun G => by simp only [go_sem, reduceIte, ↓reduceIte, reduceCtorEq, nA, nS, nM, nB, nE, nL, nT, nN, iL, iT, iE, iA, iM, iS, iG, iB, iN, iZ, h, hc, map_gd (rOut .ro) xs k hk, map_gd (rOut .ro) ys k (by omega), idx_nt ys.length k (by omega), h2, h1, idx_nt _ _ hk, wrap_nat1 (show k < 9223372036854775807 by omega), hb] <;> rfl, by simp only [go_sem, reduceIte, ↓reduceIte, reduceCtorEq, nA, nS, nM, nB, nE, nL, nT, nN, iL, iT, iE, iA, iM, iS, iG, iB, iN, iZ, h]⟩) () trivial (xs.length + 1) (by rw [zip_len hl]; exact Nat.le_refl _)
    rw [hb] at hr
    have hl2 : ((xs.length : Int) != (ys.length : Int)) = false := by simp [hl]
    rcases hq with ⟨s', e1, e2, e3⟩ | ⟨x, s', e1, e3⟩
    · simp only [go_sem, reduceIte, ↓reduceIte, reduceCtorEq, nA, nS, nM, nB, nE, nL, nT, nN, iL, iT, iE, iA, iM, iS, iG, iB, iN, iZ, h, hl2, hr, e3, zip_eqv hl e1]
    · simp only [go_sem, reduceIte, ↓reduceIte, reduceCtorEq, nA, nS, nM, nB, nE, nL, nT, nN, iL, iT, iE, iA, iM, iS, iG, iB, iN, iZ, h, hl2, hr, e3, zip_nev hl e1]
  · have hl2 : ((xs.length : Int) != (ys.length : Int)) = true := by simpa using fun h => hl (Int.ofNat_inj.1 h)
    simp only [go_sem, reduceIte, ↓reduceIte, reduceCtorEq, nA, nS, nM, nB, nE, nL, nT, nN, iL, iT, iE, iA, iM, iS, iG, iB, iN, iZ, h, hl2, len_nev hl]) (rfl)
noncomputable def s77 : SP Try.prog := mkS tyA 77 Try.f77 [] { md := [.ro 1, .ro 1], rg := [(0, [0, 1], []), (1, [0, 1, 10], []), (2, [4], []), (3, [0, 1, 5], []), (4, [0, 1, 5, 14], []), (5, [0, 1, 5], []), (6, [0, 1, 5, 25], []), (7, [4], []), (8, [4], [])], lv := [(0, [0, 1, 5], [])], out := [(0, [], [])], rets := some ([4], []), plan := [(6, (.take 0 (.take 1 (.take 2 (.take 3 (.take 4 (.take 5 (.take 6 (.take 7 (.take 8 .done))))))))))] } Try.func77 (by kernel_rfl)
@[go_sem] theorem d77 : s77.g = 77 ∧ s77.fs = ⟨[.ro 1, .ro 1], s77.F, false⟩ := ⟨nr rfl, nr rfl⟩
@[go_sem] theorem e77 (xs ys : List Header) (h0 : smL smHeader xs) : s77.F [.sl .ro 2 (xs.map (rHeader .ro)), .sl .ro 2 (ys.map (rHeader .ro))] = some (.b (eqv xs ys), [.u, .u]) := mkS_eq (xs.length + 1) rfl rfl (fun cx h => by
  have hx := h0.1
  by_cases hl : xs.length = ys.length
  · have hb0 := loopN_eq Try.f77 0 _ _ rfl rfl
    obtain ⟨r, hr, hq⟩ := loop_srch (cx := cx) (blk := 0) (body := loopN Try.f77 0) (xs.zip ys) (fun k (s : Unit) => ⟨E [(0, .sl .ro 2 (xs.map (rHeader .ro))), (1, .sl .ro 2 (ys.map (rHeader .ro))), (5, .i .i64 k)], B []⟩) (fun s => ⟨E [], B []⟩) (fun x s => !eqv x.1 x.2) (fun x s => s) (fun x s => (.ret, ⟨E [(4, .b false)], B []⟩)) (fun k s => True)
        (fun s hI G => by simp only [go_sem, reduceIte, ↓reduceIte, reduceCtorEq, nA, nS, nM, nB, nE, nL, nT, nN, iL, iT, iE, iA, iM, iS, iG, iB, iN, iZ, h, Int.lt_irrefl, hb0, zip_len hl, hl]) (fun k hk s hI => by
          have h1 : ((k : Int) < ((xs.zip ys).length : Int)) := Int.ofNat_lt.2 hk
          have hk' : k < xs.length := by rwa [zip_len hl] at hk
          have h1' : ((k : Int) < (xs.length : Int)) := Int.ofNat_lt.2 hk'
          have h2 := h0.2 _ (List.getElem_mem hk')
          have h3 : (xs.zip ys)[k] = (xs[k], ys[k]'(by omega)) := by simp
          rw [h3]
          have h4 := h2
          obtain ⟨u0, u1⟩ := h2
          exact ⟨_, _, _, fun G => by simp only [go_sem, reduceIte, ↓reduceIte, reduceCtorEq, nA, nS, nM, nB, nE, nL, nT, nN, iL, iT, iE, iA, iM, iS, iG, iB, iN, iZ, h, h1', idx_nt _ _ hk', idx_nt ys.length k (by omega), map_gd (rHeader .ro) xs k hk', map_gd (rHeader .ro) ys k (by omega), wrap_nat1 (show k < 9223372036854775807 by omega), h4, if_oret, Header.eqv xs[k] (ys[k]'(by omega)), u0, u1, eqv_byte, eqv_intne, eqv_int, eqv_bytes, eqv_boolne, h1, idx_nt _ _ hk, wrap_nat1 (show k < 9223372036854775807 by omega), hb0] <;> rfl, by first | exact Iff.rfl | (simp only [Header.eqv xs[k] (ys[k]'(by omega))] <;> simp), fun hc => ⟨trivial, by simp only [go_sem, reduceIte, ↓reduceIte, reduceCtorEq, nA, nS, nM, nB, nE, nL, nT, nN, iL, iT, iE, iA, iM, iS, iG, iB, iN, iZ, h]⟩⟩) () trivial (xs.length + 1) (by rw [zip_len hl]; exact Nat.le_refl _)
    rw [hb0] at hr
    have hl2 : ((xs.length : Int) != (ys.length : Int)) = false := by simp [hl]
    rcases hq with ⟨s', e1, _, e3⟩ | ⟨x, s', e1, e3⟩
    · simp only [go_sem, reduceIte, ↓reduceIte, reduceCtorEq, nA, nS, nM, nB, nE, nL, nT, nN, iL, iT, iE, iA, iM, iS, iG, iB, iN, iZ, h, hl2, hr, e3, zip_eqv hl e1]
    · simp only [go_sem, reduceIte, ↓reduceIte, reduceCtorEq, nA, nS, nM, nB, nE, nL, nT, nN, iL, iT, iE, iA, iM, iS, iG, iB, iN, iZ, h, hl2, hr, e3, zip_nev hl e1]
  · have hl2 : ((xs.length : Int) != (ys.length : Int)) = true := by simpa using fun h => hl (Int.ofNat_inj.1 h)
    simp only [go_sem, reduceIte, ↓reduceIte, reduceCtorEq, nA, nS, nM, nB, nE, nL, nT, nN, iL, iT, iE, iA, iM, iS, iG, iB, iN, iZ, h, hl2, len_nev hl]) (rfl)
noncomputable def s46 : SP Try.prog := mkS tyA 46 Try.f46 [s77] { md := [.ro 1, .ro 1], rets := some ([4], []) } Try.func46 (by kernel_rfl)
@[go_sem] theorem d46 : s46.g = 46 ∧ s46.fs = ⟨[.ro 1, .ro 1], s46.F, false⟩ := ⟨nr rfl, nr rfl⟩
@[go_sem] theorem e46 (xStatus : Int) (xHeaders : List Header) (xBody : List UInt8) (yStatus : Int) (yHeaders : List Header) (yBody : List UInt8) (h0 : smResponse (Response.mk xStatus xHeaders xBody)) : s46.F [.agg [.i .i64 xStatus, .sl .ro 2 (xHeaders.map (rHeader .ro)), .sl .ro 1 (xBody.map rByte)], .agg [.i .i64 yStatus, .sl .ro 2 (yHeaders.map (rHeader .ro)), .sl .ro 1 (yBody.map rByte)]] = some (.b (eqv (Response.mk xStatus xHeaders xBody) (Response.mk yStatus yHeaders yBody)), [.u, .u]) := mkS_eq (0) rfl rfl (fun cx h => by
  obtain ⟨q0, q1, q2⟩ := h0
  simp only [go_sem, reduceIte, ↓reduceIte, reduceCtorEq, nA, nS, nM, nB, nE, nL, nT, nN, iL, iT, iE, iA, iM, iS, iG, iB, iN, iZ, h, eqv_intne, eqv_int, eqv_bytes, eqv_boolne, eqv_bool, eqv_mk, q0, q1, q2]
  simp only [Response.eqv (Response.mk xStatus xHeaders xBody) (Response.mk yStatus yHeaders yBody), if_sb, if_and', if_or', Bool.and_true, Bool.and_assoc]) (rfl)
noncomputable def s47 : SP Try.prog := mkS tyA 47 Try.f47 [s77] { md := [.ro 1, .ro 1], rets := some ([4], []) } Try.func47 (by kernel_rfl)
@[go_sem] theorem d47 : s47.g = 47 ∧ s47.fs = ⟨[.ro 1, .ro 1], s47.F, false⟩ := ⟨nr rfl, nr rfl⟩
@[go_sem] theorem e47 (xMethod : ByteArray) (xHost : ByteArray) (xPath : ByteArray) (xHeaders : List Header) (yMethod : ByteArray) (yHost : ByteArray) (yPath : ByteArray) (yHeaders : List Header) (h0 : smRequest (Request.mk xMethod xHost xPath xHeaders)) : s47.F [.agg [.s xMethod, .s xHost, .s xPath, .sl .ro 2 (xHeaders.map (rHeader .ro))], .agg [.s yMethod, .s yHost, .s yPath, .sl .ro 2 (yHeaders.map (rHeader .ro))]] = some (.b (eqv (Request.mk xMethod xHost xPath xHeaders) (Request.mk yMethod yHost yPath yHeaders)), [.u, .u]) := mkS_eq (0) rfl rfl (fun cx h => by
  obtain ⟨q0, q1, q2, q3⟩ := h0
  simp only [go_sem, reduceIte, ↓reduceIte, reduceCtorEq, nA, nS, nM, nB, nE, nL, nT, nN, iL, iT, iE, iA, iM, iS, iG, iB, iN, iZ, h, eqv_intne, eqv_int, eqv_bytes, eqv_boolne, eqv_bool, eqv_mk, q0, q1, q2, q3]
  simp only [Request.eqv (Request.mk xMethod xHost xPath xHeaders) (Request.mk yMethod yHost yPath yHeaders), if_sb, if_and', if_or', Bool.and_true, Bool.and_assoc]) (rfl)
noncomputable def s21 : SP Try.prog := mkS tyA 21 Try.f21 [s46, s47] { md := [.ro 1, .ro 1], rg := [(0, [0, 1], []), (1, [0, 1, 10], []), (2, [4], []), (3, [0, 1, 5], []), (4, [0, 1, 5, 14], []), (5, [0, 1, 5], []), (6, [0, 1, 5, 81], []), (7, [4], []), (8, [4], [])], lv := [(0, [0, 1, 5], [])], out := [(0, [], [])], rets := some ([4], []), plan := [(6, (.take 0 (.take 1 (.take 2 (.take 3 (.take 4 (.take 5 (.take 6 (.take 7 (.take 8 (.take 9 (.take 10 (.take 11 (.take 12 (.take 13 (.take 14 (.take 15 (.take 16 (.take 17 (.take 18 (.take 19 (.take 20 (.take 21 (.take 22 (.take 23 (.take 24 (.take 25 (.take 26 (.take 27 (.take 28 (.take 29 (.take 30 (.take 31 (.take 32 (.take 33 (.take 34 (.take 35 (.take 36 (.take 37 (.take 38 (.take 39 (.take 40 (.take 41 (.take 42 (.take 43 (.take 44 (.take 45 (.take 46 (.take 47 (.one 48 (.take 49 (.take 50 (.take 51 (.take 52 (.take 53 (.take 54 (.take 55 (.take 56 (.take 57 (.take 58 (.take 59 (.take 60 (.take 61 (.one 62 (.take 63 (.take 64 .done))))))))))))))))))))))))))))))))))))))))))))))))))))))))))))))))))] } Try.func21 (by kernel_rfl)
@[go_sem] theorem d21 : s21.g = 21 ∧ s21.fs = ⟨[.ro 1, .ro 1], s21.F, false⟩ := ⟨nr rfl, nr rfl⟩
@[go_sem] theorem e21 (xs ys : List Out) (h0 : smL smOut xs) : s21.F [.sl .ro 10 (xs.map (rOut .ro)), .sl .ro 10 (ys.map (rOut .ro))] = some (.b (eqv xs ys), [.u, .u]) := mkS_eq (xs.length + 1) rfl rfl (fun cx h => by
  have hx := h0.1
  by_cases hl : xs.length = ys.length
  · have hb0 := loopN_eq Try.f21 0 _ _ rfl rfl
    obtain ⟨r, hr, hq⟩ := loop_srch (cx := cx) (blk := 0) (body := loopN Try.f21 0) (xs.zip ys) (fun k (s : Unit) => ⟨E [(0, .sl .ro 10 (xs.map (rOut .ro))), (1, .sl .ro 10 (ys.map (rOut .ro))), (5, .i .i64 k)], B []⟩) (fun s => ⟨E [], B []⟩) (fun x s => !eqv x.1 x.2) (fun x s => s) (fun x s => (.ret, ⟨E [(4, .b false)], B []⟩)) (fun k s => True)
        (fun s hI G => by simp only [go_sem, reduceIte, ↓reduceIte, reduceCtorEq, nA, nS, nM, nB, nE, nL, nT, nN, iL, iT, iE, iA, iM, iS, iG, iB, iN, iZ, h, Int.lt_irrefl, hb0, zip_len hl, hl]) (fun k hk s hI => by
          have h1 : ((k : Int) < ((xs.zip ys).length : Int)) := Int.ofNat_lt.2 hk
          have hk' : k < xs.length := by rwa [zip_len hl] at hk
          have h1' : ((k : Int) < (xs.length : Int)) := Int.ofNat_lt.2 hk'
          have h2 := h0.2 _ (List.getElem_mem hk')
          have h3 : (xs.zip ys)[k] = (xs[k], ys[k]'(by omega)) := by simp
          rw [h3]
          have h4 := h2
          obtain ⟨u0, u1, u2, u3, u4⟩ := h2
          exact ⟨_, _, _, fun G => by simp only [go_sem, reduceIte, ↓reduceIte, reduceCtorEq, nA, nS, nM, nB, nE, nL, nT, nN, iL, iT, iE, iA, iM, iS, iG, iB, iN, iZ, h, h1', idx_nt _ _ hk', idx_nt ys.length k (by omega), map_gd (rOut .ro) xs k hk', map_gd (rOut .ro) ys k (by omega), wrap_nat1 (show k < 9223372036854775807 by omega), h4, if_oret, Out.eqv xs[k] (ys[k]'(by omega)), u0, u1, u2, u3, u4, eqv_byte, eqv_intne, eqv_int, eqv_bytes, eqv_boolne, h1, idx_nt _ _ hk, wrap_nat1 (show k < 9223372036854775807 by omega), hb0] <;> rfl, by first | exact Iff.rfl | (simp only [Out.eqv xs[k] (ys[k]'(by omega))] <;> simp), fun hc => ⟨trivial, by simp only [go_sem, reduceIte, ↓reduceIte, reduceCtorEq, nA, nS, nM, nB, nE, nL, nT, nN, iL, iT, iE, iA, iM, iS, iG, iB, iN, iZ, h]⟩⟩) () trivial (xs.length + 1) (by rw [zip_len hl]; exact Nat.le_refl _)
    rw [hb0] at hr
    have hl2 : ((xs.length : Int) != (ys.length : Int)) = false := by simp [hl]
    rcases hq with ⟨s', e1, _, e3⟩ | ⟨x, s', e1, e3⟩
    · simp only [go_sem, reduceIte, ↓reduceIte, reduceCtorEq, nA, nS, nM, nB, nE, nL, nT, nN, iL, iT, iE, iA, iM, iS, iG, iB, iN, iZ, h, hl2, hr, e3, zip_eqv hl e1]
    · simp only [go_sem, reduceIte, ↓reduceIte, reduceCtorEq, nA, nS, nM, nB, nE, nL, nT, nN, iL, iT, iE, iA, iM, iS, iG, iB, iN, iZ, h, hl2, hr, e3, zip_nev hl e1]
  · have hl2 : ((xs.length : Int) != (ys.length : Int)) = true := by simpa using fun h => hl (Int.ofNat_inj.1 h)
    simp only [go_sem, reduceIte, ↓reduceIte, reduceCtorEq, nA, nS, nM, nB, nE, nL, nT, nN, iL, iT, iE, iA, iM, iS, iG, iB, iN, iZ, h, hl2, len_nev hl]) (rfl)
noncomputable def s78 : SP Try.prog := mkS tyA 78 Try.f78 [] { md := [.ro 1, .ro 1], rg := [(0, [0, 1], []), (1, [0, 1, 10], []), (2, [4], []), (3, [0, 1, 12, 13], []), (4, [0, 1, 12, 13, 14], []), (5, [0, 1, 5, 12, 13], []), (6, [0, 1, 12, 13, 24], []), (7, [4], []), (8, [0, 1, 12, 13], []), (9, [4], [])], lv := [(0, [0, 1, 12, 13], [])], out := [(0, [], [])], rets := some ([4], []), plan := [(6, (.take 0 (.take 1 (.take 2 (.take 3 (.take 4 (.take 5 (.take 6 (.take 7 (.take 8 .done))))))))))] } Try.func78 (by kernel_rfl)
@[go_sem] theorem d78 : s78.g = 78 ∧ s78.fs = ⟨[.ro 1, .ro 1], s78.F, false⟩ := ⟨nr rfl, nr rfl⟩
@[go_sem] theorem e78 (xs ys : List Header) (h0 : smL smHeader xs) : s78.F [.sl .ro 2 (xs.map (rHeader .ro)), .sl .ro 2 (ys.map (rHeader .ro))] = some (.b (eqv xs ys), [.u, .u]) := mkS_eq (xs.length + 1) rfl rfl (fun cx h => by
  have hx := h0.1
  by_cases hl : xs.length = ys.length
  · have hb0 := loopN_eq Try.f78 0 _ _ rfl rfl
    obtain ⟨r, hr, hq⟩ := loop_srch (cx := cx) (blk := 0) (body := loopN Try.f78 0) (xs.zip ys) (fun k (s : Unit) => ⟨E [(0, .sl .ro 2 (xs.map (rHeader .ro))), (1, .sl .ro 2 (ys.map (rHeader .ro))), (12, .i .i64 xs.length), (13, .i .i64 k)], B []⟩) (fun s => ⟨E [], B []⟩) (fun x s => !eqv x.1 x.2) (fun x s => s) (fun x s => (.ret, ⟨E [(4, .b false)], B []⟩)) (fun k s => True)
        (fun s hI G => by simp only [go_sem, reduceIte, ↓reduceIte, reduceCtorEq, nA, nS, nM, nB, nE, nL, nT, nN, iL, iT, iE, iA, iM, iS, iG, iB, iN, iZ, h, Int.lt_irrefl, hb0, zip_len hl, hl]) (fun k hk s hI => by
          have h1 : ((k : Int) < ((xs.zip ys).length : Int)) := Int.ofNat_lt.2 hk
          have hk' : k < xs.length := by rwa [zip_len hl] at hk
          have h1' : ((k : Int) < (xs.length : Int)) := Int.ofNat_lt.2 hk'
          have h2 := h0.2 _ (List.getElem_mem hk')
          have h3 : (xs.zip ys)[k] = (xs[k], ys[k]'(by omega)) := by simp
          rw [h3]
          have h4 := h2
          obtain ⟨u0, u1⟩ := h2
          exact ⟨_, _, _, fun G => by simp only [go_sem, reduceIte, ↓reduceIte, reduceCtorEq, nA, nS, nM, nB, nE, nL, nT, nN, iL, iT, iE, iA, iM, iS, iG, iB, iN, iZ, h, h1', idx_nt _ _ hk', idx_nt ys.length k (by omega), map_gd (rHeader .ro) xs k hk', map_gd (rHeader .ro) ys k (by omega), wrap_nat1 (show k < 9223372036854775807 by omega), h4, if_oret, Header.eqv xs[k] (ys[k]'(by omega)), u0, u1, eqv_byte, eqv_intne, eqv_int, eqv_bytes, eqv_boolne, h1, idx_nt _ _ hk, wrap_nat1 (show k < 9223372036854775807 by omega), hb0] <;> rfl, by first | exact Iff.rfl | (simp only [Header.eqv xs[k] (ys[k]'(by omega))] <;> simp), fun hc => ⟨trivial, by simp only [go_sem, reduceIte, ↓reduceIte, reduceCtorEq, nA, nS, nM, nB, nE, nL, nT, nN, iL, iT, iE, iA, iM, iS, iG, iB, iN, iZ, h]⟩⟩) () trivial (xs.length + 1) (by rw [zip_len hl]; exact Nat.le_refl _)
    rw [hb0] at hr
    have hl2 : ((xs.length : Int) != (ys.length : Int)) = false := by simp [hl]
    rcases hq with ⟨s', e1, _, e3⟩ | ⟨x, s', e1, e3⟩
    · simp only [go_sem, reduceIte, ↓reduceIte, reduceCtorEq, nA, nS, nM, nB, nE, nL, nT, nN, iL, iT, iE, iA, iM, iS, iG, iB, iN, iZ, h, hl2, hr, e3, zip_eqv hl e1]
    · simp only [go_sem, reduceIte, ↓reduceIte, reduceCtorEq, nA, nS, nM, nB, nE, nL, nT, nN, iL, iT, iE, iA, iM, iS, iG, iB, iN, iZ, h, hl2, hr, e3, zip_nev hl e1]
  · have hl2 : ((xs.length : Int) != (ys.length : Int)) = true := by simpa using fun h => hl (Int.ofNat_inj.1 h)
    simp only [go_sem, reduceIte, ↓reduceIte, reduceCtorEq, nA, nS, nM, nB, nE, nL, nT, nN, iL, iT, iE, iA, iM, iS, iG, iB, iN, iZ, h, hl2, len_nev hl]) (rfl)
noncomputable def s79 : SP Try.prog := mkS tyA 79 Try.f79 [] { md := [.ro 1, .ro 1], rets := some ([4], []) } Try.func79 (by kernel_rfl)
@[go_sem] theorem d79 : s79.g = 79 ∧ s79.fs = ⟨[.ro 1, .ro 1], s79.F, false⟩ := ⟨nr rfl, nr rfl⟩
@[go_sem] theorem e79 (x : List UInt8) (y : List UInt8) : s79.F [.sl .ro 1 (x.map rByte), .sl .ro 1 (y.map rByte)] = some (.b (eqv x y), [.u, .u]) := mkS_eq (0) rfl rfl (fun cx h => by
  simp only [go_sem, reduceIte, ↓reduceIte, reduceCtorEq, nA, nS, nM, nB, nE, nL, nT, nN, iL, iT, iE, iA, iM, iS, iG, iB, iN, iZ, h, eqv_bytes, eqv_mk]) (rfl)
noncomputable def s50 : SP Try.prog := mkS tyA 50 Try.f50 [s78, s79] { md := [.ro 1, .ro 1], rets := some ([4], []) } Try.func50 (by kernel_rfl)
@[go_sem] theorem d50 : s50.g = 50 ∧ s50.fs = ⟨[.ro 1, .ro 1], s50.F, false⟩ := ⟨nr rfl, nr rfl⟩
@[go_sem] theorem e50 (xStatus : Int) (xHeaders : List Header) (xBody : List UInt8) (yStatus : Int) (yHeaders : List Header) (yBody : List UInt8) (h0 : smResponse (Response.mk xStatus xHeaders xBody)) : s50.F [.agg [.i .i64 xStatus, .sl .ro 2 (xHeaders.map (rHeader .ro)), .sl .ro 1 (xBody.map rByte)], .agg [.i .i64 yStatus, .sl .ro 2 (yHeaders.map (rHeader .ro)), .sl .ro 1 (yBody.map rByte)]] = some (.b (eqv (Response.mk xStatus xHeaders xBody) (Response.mk yStatus yHeaders yBody)), [.u, .u]) := mkS_eq (0) rfl rfl (fun cx h => by
  obtain ⟨q0, q1, q2⟩ := h0
  simp only [go_sem, reduceIte, ↓reduceIte, reduceCtorEq, nA, nS, nM, nB, nE, nL, nT, nN, iL, iT, iE, iA, iM, iS, iG, iB, iN, iZ, h, eqv_intne, eqv_int, eqv_bytes, eqv_boolne, eqv_bool, eqv_mk, q0, q1, q2]
  simp only [Response.eqv (Response.mk xStatus xHeaders xBody) (Response.mk yStatus yHeaders yBody), if_sb, if_and', if_or', Bool.and_true, Bool.and_assoc]) (rfl)
noncomputable def s51 : SP Try.prog := mkS tyA 51 Try.f51 [s78] { md := [.ro 1, .ro 1], rets := some ([4], []) } Try.func51 (by kernel_rfl)
@[go_sem] theorem d51 : s51.g = 51 ∧ s51.fs = ⟨[.ro 1, .ro 1], s51.F, false⟩ := ⟨nr rfl, nr rfl⟩
@[go_sem] theorem e51 (xMethod : ByteArray) (xHost : ByteArray) (xPath : ByteArray) (xHeaders : List Header) (yMethod : ByteArray) (yHost : ByteArray) (yPath : ByteArray) (yHeaders : List Header) (h0 : smRequest (Request.mk xMethod xHost xPath xHeaders)) : s51.F [.agg [.s xMethod, .s xHost, .s xPath, .sl .ro 2 (xHeaders.map (rHeader .ro))], .agg [.s yMethod, .s yHost, .s yPath, .sl .ro 2 (yHeaders.map (rHeader .ro))]] = some (.b (eqv (Request.mk xMethod xHost xPath xHeaders) (Request.mk yMethod yHost yPath yHeaders)), [.u, .u]) := mkS_eq (0) rfl rfl (fun cx h => by
  obtain ⟨q0, q1, q2, q3⟩ := h0
  simp only [go_sem, reduceIte, ↓reduceIte, reduceCtorEq, nA, nS, nM, nB, nE, nL, nT, nN, iL, iT, iE, iA, iM, iS, iG, iB, iN, iZ, h, eqv_intne, eqv_int, eqv_bytes, eqv_boolne, eqv_bool, eqv_mk, q0, q1, q2, q3]
  simp only [Request.eqv (Request.mk xMethod xHost xPath xHeaders) (Request.mk yMethod yHost yPath yHeaders), if_sb, if_and', if_or', Bool.and_true, Bool.and_assoc]) (rfl)
noncomputable def s49 : SP Try.prog := mkS tyA 49 Try.f49 [s50, s51] { md := [.ro 1, .ro 1], rets := some ([4], []) } Try.func49 (by kernel_rfl)
@[go_sem] theorem d49 : s49.g = 49 ∧ s49.fs = ⟨[.ro 1, .ro 1], s49.F, false⟩ := ⟨nr rfl, nr rfl⟩
@[go_sem] theorem e49 (xKind : Int) (xId : Int) (xSource : ByteArray) (xResponseStatus : Int) (xResponseHeaders : List Header) (xResponseBody : List UInt8) (xRequestMethod : ByteArray) (xRequestHost : ByteArray) (xRequestPath : ByteArray) (xRequestHeaders : List Header) (yKind : Int) (yId : Int) (ySource : ByteArray) (yResponseStatus : Int) (yResponseHeaders : List Header) (yResponseBody : List UInt8) (yRequestMethod : ByteArray) (yRequestHost : ByteArray) (yRequestPath : ByteArray) (yRequestHeaders : List Header) (h0 : smOut (Out.mk xKind xId xSource (Response.mk xResponseStatus xResponseHeaders xResponseBody) (Request.mk xRequestMethod xRequestHost xRequestPath xRequestHeaders))) : s49.F [.agg [.i .i64 xKind, .i .i64 xId, .s xSource, .i .i64 xResponseStatus, .sl .ro 2 (xResponseHeaders.map (rHeader .ro)), .sl .ro 1 (xResponseBody.map rByte), .s xRequestMethod, .s xRequestHost, .s xRequestPath, .sl .ro 2 (xRequestHeaders.map (rHeader .ro))], .agg [.i .i64 yKind, .i .i64 yId, .s ySource, .i .i64 yResponseStatus, .sl .ro 2 (yResponseHeaders.map (rHeader .ro)), .sl .ro 1 (yResponseBody.map rByte), .s yRequestMethod, .s yRequestHost, .s yRequestPath, .sl .ro 2 (yRequestHeaders.map (rHeader .ro))]] = some (.b (eqv (Out.mk xKind xId xSource (Response.mk xResponseStatus xResponseHeaders xResponseBody) (Request.mk xRequestMethod xRequestHost xRequestPath xRequestHeaders)) (Out.mk yKind yId ySource (Response.mk yResponseStatus yResponseHeaders yResponseBody) (Request.mk yRequestMethod yRequestHost yRequestPath yRequestHeaders))), [.u, .u]) := mkS_eq (0) rfl rfl (fun cx h => by
  obtain ⟨q0, q1, q2, q3, q4⟩ := h0
  simp only [go_sem, reduceIte, ↓reduceIte, reduceCtorEq, nA, nS, nM, nB, nE, nL, nT, nN, iL, iT, iE, iA, iM, iS, iG, iB, iN, iZ, h, eqv_intne, eqv_int, eqv_bytes, eqv_boolne, eqv_bool, eqv_mk, q0, q1, q2, q3, q4]
  simp only [Out.eqv (Out.mk xKind xId xSource (Response.mk xResponseStatus xResponseHeaders xResponseBody) (Request.mk xRequestMethod xRequestHost xRequestPath xRequestHeaders)) (Out.mk yKind yId ySource (Response.mk yResponseStatus yResponseHeaders yResponseBody) (Request.mk yRequestMethod yRequestHost yRequestPath yRequestHeaders)), if_sb, if_and', if_or', Bool.and_true, Bool.and_assoc]) (rfl)
noncomputable def s48 : SP Try.prog := mkS tyA 48 Try.f48 [s49] { md := [.ro 1, .ro 1, .ro 1], rg := [(0, [0, 1, 2], []), (1, [0, 1, 2, 14], []), (2, [6], []), (3, [0, 1, 2, 15, 16, 17], []), (4, [0, 1, 2, 15, 16, 17, 18], []), (5, [0, 1, 2, 7, 8, 15, 16, 17], [8]), (6, [0, 1, 2, 8, 9, 15, 16, 17, 22], [8, 9]), (7, [0, 1, 2, 15, 16, 17, 30], []), (8, [6], []), (9, [0, 1, 2, 15, 16, 17], []), (10, [6], [])], lv := [(0, [0, 1, 2, 15, 16, 17], [])], out := [(0, [], [])], rets := some ([6], []) } Try.func48 (by kernel_rfl)
@[go_sem] theorem d48 : s48.g = 48 ∧ s48.fs = ⟨[.ro 1, .ro 1, .ro 1], s48.F, false⟩ := ⟨nr rfl, nr rfl⟩
@[go_sem] theorem e48 (xs ys : List Out) (h0 : smL smOut xs) : s48.F [.sl .ro 10 (xs.map (rOut .ro)), .sl .ro 10 (ys.map (rOut .ro)), .fn 49 []] = some (.b (eqv xs ys), [.u, .u, .u]) := mkS_eq (xs.length + 1) rfl rfl (fun cx h => by
  have hx := h0.1
  by_cases hl : xs.length = ys.length
  · have hb0 := loopN_eq Try.f48 0 _ _ rfl rfl
    obtain ⟨r, hr, hq⟩ := loop_srch (cx := cx) (blk := 0) (body := loopN Try.f48 0) (xs.zip ys) (fun k (s : Unit) => ⟨E [(0, .sl .ro 10 (xs.map (rOut .ro))), (1, .sl .ro 10 (ys.map (rOut .ro))), (2, .fn 49 []), (15, .sl .ro 10 (xs.map (rOut .ro))), (16, .i .i64 xs.length), (17, .i .i64 k)], B []⟩) (fun s => ⟨E [], B []⟩) (fun x s => !eqv x.1 x.2) (fun x s => s) (fun x s => (.ret, ⟨E [(6, .b false)], B []⟩)) (fun k s => True)
        (fun s hI G => by simp only [go_sem, reduceIte, ↓reduceIte, reduceCtorEq, nA, nS, nM, nB, nE, nL, nT, nN, iL, iT, iE, iA, iM, iS, iG, iB, iN, iZ, h, Int.lt_irrefl, hb0, zip_len hl, hl]) (fun k hk s hI => by
          have h1 : ((k : Int) < ((xs.zip ys).length : Int)) := Int.ofNat_lt.2 hk
          have hk' : k < xs.length := by rwa [zip_len hl] at hk
          have h1' : ((k : Int) < (xs.length : Int)) := Int.ofNat_lt.2 hk'
          have h2 := h0.2 _ (List.getElem_mem hk')
          have h3 : (xs.zip ys)[k] = (xs[k], ys[k]'(by omega)) := by simp
          rw [h3]
          have h4 := h2
          obtain ⟨u0, u1, u2, u3, u4⟩ := h2
          exact ⟨_, _, _, fun G => by simp only [go_sem, reduceIte, ↓reduceIte, reduceCtorEq, nA, nS, nM, nB, nE, nL, nT, nN, iL, iT, iE, iA, iM, iS, iG, iB, iN, iZ, h, h1', idx_nt _ _ hk', idx_nt ys.length k (by omega), map_gd (rOut .ro) xs k hk', map_gd (rOut .ro) ys k (by omega), wrap_nat1 (show k < 9223372036854775807 by omega), h4, if_oret, Out.eqv xs[k] (ys[k]'(by omega)), u0, u1, u2, u3, u4, eqv_byte, eqv_intne, eqv_int, eqv_bytes, eqv_boolne, h1, idx_nt _ _ hk, wrap_nat1 (show k < 9223372036854775807 by omega), hb0] <;> rfl, by first | exact Iff.rfl | (simp only [Out.eqv xs[k] (ys[k]'(by omega))] <;> simp), fun hc => ⟨trivial, by simp only [go_sem, reduceIte, ↓reduceIte, reduceCtorEq, nA, nS, nM, nB, nE, nL, nT, nN, iL, iT, iE, iA, iM, iS, iG, iB, iN, iZ, h]⟩⟩) () trivial (xs.length + 1) (by rw [zip_len hl]; exact Nat.le_refl _)
    rw [hb0] at hr
    have hl2 : ((xs.length : Int) != (ys.length : Int)) = false := by simp [hl]
    rcases hq with ⟨s', e1, _, e3⟩ | ⟨x, s', e1, e3⟩
    · simp only [go_sem, reduceIte, ↓reduceIte, reduceCtorEq, nA, nS, nM, nB, nE, nL, nT, nN, iL, iT, iE, iA, iM, iS, iG, iB, iN, iZ, h, hl2, hr, e3, zip_eqv hl e1]
    · simp only [go_sem, reduceIte, ↓reduceIte, reduceCtorEq, nA, nS, nM, nB, nE, nL, nT, nN, iL, iT, iE, iA, iM, iS, iG, iB, iN, iZ, h, hl2, hr, e3, zip_nev hl e1]
  · have hl2 : ((xs.length : Int) != (ys.length : Int)) = true := by simpa using fun h => hl (Int.ofNat_inj.1 h)
    simp only [go_sem, reduceIte, ↓reduceIte, reduceCtorEq, nA, nS, nM, nB, nE, nL, nT, nN, iL, iT, iE, iA, iM, iS, iG, iB, iN, iZ, h, hl2, len_nev hl]) (rfl)
noncomputable def s22 : SP Try.prog := mkS tyA 22 Try.f22 [s48, s49] { md := [.ro 1, .ro 1], rets := some ([4], []) } Try.func22 (by kernel_rfl)
@[go_sem] theorem d22 : s22.g = 22 ∧ s22.fs = ⟨[.ro 1, .ro 1], s22.F, false⟩ := ⟨nr rfl, nr rfl⟩
@[go_sem] theorem e22 (xs : List Out) (ys : List Out) (h0 : smL smOut xs) : s22.F [.sl .ro 10 (xs.map (rOut .ro)), .sl .ro 10 (ys.map (rOut .ro))] = some (.b (eqv xs ys), [.u, .u]) := mkS_eq (0) rfl rfl (fun cx h => by
  simp only [go_sem, reduceIte, ↓reduceIte, reduceCtorEq, nA, nS, nM, nB, nE, nL, nT, nN, iL, iT, iE, iA, iM, iS, iG, iB, iN, iZ, h, h0]) (rfl)
noncomputable def s6 : SP Try.prog := mkS tyA 6 Try.f6 [s13, s15, s18, s21, s22] { md := [.ro 1, .ro 1], rg := [(0, [0, 1], []), (1, [0, 1, 5], []), (2, [0, 1, 5], []), (3, [0, 1, 5, 14], []), (4, [4], []), (5, [0, 1, 5], []), (6, [0, 1, 19], []), (7, [4], []), (8, [0, 1, 6], []), (9, [0, 1, 6, 7], []), (10, [0, 1, 6, 7, 8], []), (11, [0, 1, 6, 7, 8, 9], []), (12, [0, 1, 7, 8, 34], []), (13, [4], []), (14, [1, 8, 39], []), (15, [4], []), (16, [44], []), (17, [4], []), (18, [4], [])], rets := some ([4], []) } Try.func6 (by kernel_rfl)
@[go_sem] theorem d6 : s6.g = 6 ∧ s6.fs = ⟨[.ro 1, .ro 1], s6.F, false⟩ := ⟨nr rfl, nr rfl⟩
theorem e6 (xs : List Out) (ys : List Out) (h0 : (okL okOut) xs ∧ (okL okOut) ys) : s6.F [.sl .ro 10 (xs.map (rOut .ro)), .sl .ro 10 (ys.map (rOut .ro))] = some (.b true, [.u, .u]) := mkS_eq (0) rfl rfl (fun cx h => by
  have h0_0 := h0.1
  by_cases hc0 : szL szOut xs 1048576 < 0
  · simp only [go_sem, reduceIte, ↓reduceIte, reduceCtorEq, nA, nS, nM, nB, nE, nL, nT, nN, iL, iT, iE, iA, iM, iS, iG, iB, iN, iZ, h, hc0, h0_0]
  obtain ⟨hs0, hl0⟩ := (szL_fact szOut_fact) _ _ h0_0 (by decide) (by decide) (show 0 ≤ szL szOut xs 1048576 by omega)
  have h0_1 := h0.2
  by_cases hc1 : szL szOut ys (szL szOut xs 1048576) < 0
  · simp only [go_sem, reduceIte, ↓reduceIte, reduceCtorEq, nA, nS, nM, nB, nE, nL, nT, nN, iL, iT, iE, iA, iM, iS, iG, iB, iN, iZ, h, hc1, h0_1, hc0, h0_0]
  obtain ⟨hs1, hl1⟩ := (szL_fact szOut_fact) _ _ h0_1 (by omega) (by omega) (show 0 ≤ szL szOut ys (szL szOut xs 1048576) by omega)
  simp only [go_sem, reduceIte, ↓reduceIte, reduceCtorEq, nA, nS, nM, nB, nE, nL, nT, nN, iL, iT, iE, iA, iM, iS, iG, iB, iN, iZ, h, hc0, hc1, hs0, hs1, h0_0, h0_1, eqv_self]) (rfl)
end Go.Vm.A
