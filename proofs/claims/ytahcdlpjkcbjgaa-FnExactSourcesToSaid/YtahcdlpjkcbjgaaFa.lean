/- Functions of the program, walked by the evaluator. -/
import Derived.Test.YtahcdlpjkcbjgaaWb
import Derived.Test.YtahcdlpjkcbjgaaWa
set_option autoImplicit false
set_option maxRecDepth 100000
set_option maxHeartbeats 4000000
set_option linter.unusedVariables false
set_option linter.unusedSimpArgs false
namespace Go.Vm.A
open Go.Proofs
open Nat renaming reduceAdd → nA, reduceSub → nS, reduceMul → nM, reduceBEq → nB, reduceEqDiff → nE, reduceLeDiff → nL, reduceLT → nT, reduceBneDiff → nN
open Int renaming reduceLE → iL, reduceLT → iT, reduceEq → iE, reduceAdd → iA, reduceMul → iM, reduceSub → iS, reduceNeg → iG, reduceBEq → iB, reduceBNe → iN, reduceToNat → iZ

noncomputable def s112 : SP Try.prog := mkS tyA 112 Try.f112 [] { md := [.ro 1, .ro 1], rg := [(0, [1, 2], [2]), (1, [1, 2], [2]), (2, [1, 2, 11], [2]), (3, [4], []), (4, [1], []), (5, [1, 18], []), (6, [4], []), (7, [4], [])], rets := some ([4], []) } Try.func112 (by kernel_rfl)
@[go_sem] theorem d112 : s112.g = 112 ∧ s112.fs = ⟨[.ro 1, .ro 1], s112.F, false⟩ := ⟨nr rfl, nr rfl⟩
@[go_sem] theorem e112 (xName : ByteArray) (xValue : ByteArray) (l : Int) (h0 : okHeader (Header.mk xName xValue)) : s112.F [.agg [.s xName, .s xValue], .i .i64 l] = some (.i .i64 (szHeader (Header.mk xName xValue) l), [.u, .u]) := mkS_eq (0) rfl rfl (fun cx h => by
  obtain ⟨q0, q1⟩ := h0
  simp only [go_sem, reduceIte, ↓reduceIte, reduceCtorEq, nA, nS, nM, nB, nE, nL, nT, nN, iL, iT, iE, iA, iM, iS, iG, iB, iN, iZ, h, q0, q1]
  simp only [szHeader, szs, szn, if_i, decide_eq_true_eq]) (rfl)
noncomputable def s105 : SP Try.prog := mkS tyA 105 Try.f105 [s112] { md := [.ro 1, .ro 1], rg := [(0, [0, 1], []), (1, [0, 1], []), (2, [0, 1, 11], []), (3, [4], []), (4, [0, 1, 5], []), (5, [0, 1, 5, 15], []), (6, [0, 1, 5], []), (7, [0, 1, 5], []), (8, [0, 1, 5, 25], []), (9, [4], []), (10, [4], [])], lv := [(0, [0, 1, 5], [])], out := [(0, [1], [])], rets := some ([4], []) } Try.func105 (by kernel_rfl)
@[go_sem] theorem d105 : s105.g = 105 ∧ s105.fs = ⟨[.ro 1, .ro 1], s105.F, false⟩ := ⟨nr rfl, nr rfl⟩
@[go_sem] theorem e105 (xs : List Header) (l : Int) (h0 : okL okHeader xs) : s105.F [.sl .ro 2 (xs.map (rHeader .ro)), .i .i64 l] = some (.i .i64 (szL szHeader xs l), [.u, .u]) := mkS_eq (xs.length + 1) rfl rfl (fun cx h => by
  have hb := loopN_eq Try.f105 0 _ _ rfl rfl
  have hx := h0.1
  obtain ⟨r, hr, hq⟩ := loop_list (cx := cx) (blk := 0) (body := loopN Try.f105 0) xs (fun k l => ⟨E [(0, .sl .ro 2 (xs.map (rHeader .ro))), (1, .i .i64 l), (5, .i .i64 k)], B []⟩) (fun l => ⟨E [(1, .i .i64 l)], B []⟩) (fun x l => decide (szHeader x l < 0)) (fun x l => szHeader x l) (fun _ _ => (.ret, ⟨E [(4, .i .i64 (-1))], B []⟩)) (fun _ _ => True)
    (fun l _ G => by simp only [go_sem, reduceIte, ↓reduceIte, reduceCtorEq, nA, nS, nM, nB, nE, nL, nT, nN, iL, iT, iE, iA, iM, iS, iG, iB, iN, iZ, h, Int.lt_irrefl, hb]) (fun k hk l _ => by
      have h1 : ((k : Int) < (xs.length : Int)) := Int.ofNat_lt.2 hk
      have h2 := h0.2 _ (List.getElem_mem hk)
      by_cases hc : szHeader xs[k] l < 0
      · exact .inl ⟨decide_eq_true hc, fun G => by simp only [go_sem, reduceIte, ↓reduceIte, reduceCtorEq, nA, nS, nM, nB, nE, nL, nT, nN, iL, iT, iE, iA, iM, iS, iG, iB, iN, iZ, h, h2, hc, map_gd (rHeader .ro) xs k hk, h1, idx_nt _ _ hk, wrap_nat1 (show k < 9223372036854775807 by omega), hb]⟩
      · exact .inr ⟨decide_eq_false hc, trivial, _, fun G => by simp only [go_sem, reduceIte, ↓reduceIte, reduceCtorEq, nA, nS, nM, nB, nE, nL, nT, nN, iL, iT, iE, iA, iM, iS, iG, iB, iN, iZ, h, h2, hc, map_gd (rHeader .ro) xs k hk, h1, idx_nt _ _ hk, wrap_nat1 (show k < 9223372036854775807 by omega), hb] <;> with_reducible rfl, by simp only [go_sem, reduceIte, ↓reduceIte, reduceCtorEq, nA, nS, nM, nB, nE, nL, nT, nN, iL, iT, iE, iA, iM, iS, iG, iB, iN, iZ, h]⟩) ((IntKind.i64).wrap (l - (xs.length : Int))) trivial (xs.length + 1) (Nat.le_refl _)
  rw [hb] at hr
  unfold szL szs
  by_cases hc : (IntKind.i64).wrap (l - (xs.length : Int)) < 0
  · simp only [go_sem, reduceIte, ↓reduceIte, reduceCtorEq, nA, nS, nM, nB, nE, nL, nT, nN, iL, iT, iE, iA, iM, iS, iG, iB, iN, iZ, h, hc]
  · rcases hq with ⟨s', e1, e2, e3⟩ | ⟨x, s', e1, e3⟩
    · simp only [go_sem, reduceIte, ↓reduceIte, reduceCtorEq, nA, nS, nM, nB, nE, nL, nT, nN, iL, iT, iE, iA, iM, iS, iG, iB, iN, iZ, h, hc, hr, e3, szO_inl e1, Option.getD_some]
    · simp only [go_sem, reduceIte, ↓reduceIte, reduceCtorEq, nA, nS, nM, nB, nE, nL, nT, nN, iL, iT, iE, iA, iM, iS, iG, iB, iN, iZ, h, hc, hr, e3, szO_inr e1, Option.getD_none]) (rfl)
noncomputable def s106 : SP Try.prog := mkS tyA 106 Try.f106 [] { md := [.ro 1, .ro 1], rg := [(0, [0, 1], []), (1, [1], []), (2, [1, 10], []), (3, [4], []), (4, [4], [])], rets := some ([4], []) } Try.func106 (by kernel_rfl)
@[go_sem] theorem d106 : s106.g = 106 ∧ s106.fs = ⟨[.ro 1, .ro 1], s106.F, false⟩ := ⟨nr rfl, nr rfl⟩
@[go_sem] theorem e106 (xs : List UInt8) (l : Int) : s106.F [.sl .ro 1 (xs.map rByte), .i .i64 l] = some (.i .i64 (szByteS xs l), [.u, .u]) := mkS_eq (0) rfl rfl (fun cx h => by
  simp only [go_sem, reduceIte, ↓reduceIte, reduceCtorEq, nA, nS, nM, nB, nE, nL, nT, nN, iL, iT, iE, iA, iM, iS, iG, iB, iN, iZ, h]
  simp only [szByteS, szF, szs, szn, if_i, decide_eq_true_eq]) (rfl)
noncomputable def s95 : SP Try.prog := mkS tyA 95 Try.f95 [s105, s106] { md := [.ro 1, .ro 1], rg := [(0, [1, 2], [2]), (1, [1, 2], [2]), (2, [1, 2, 10], [2]), (3, [4], []), (4, [1], []), (5, [1, 16], []), (6, [4], []), (7, [4], [])], rets := some ([4], []) } Try.func95 (by kernel_rfl)
@[go_sem] theorem d95 : s95.g = 95 ∧ s95.fs = ⟨[.ro 1, .ro 1], s95.F, false⟩ := ⟨nr rfl, nr rfl⟩
@[go_sem] theorem e95 (xStatus : Int) (xHeaders : List Header) (xBody : List UInt8) (l : Int) (h0 : okResponse (Response.mk xStatus xHeaders xBody)) : s95.F [.agg [.i .i64 xStatus, .sl .ro 2 (xHeaders.map (rHeader .ro)), .sl .ro 1 (xBody.map rByte)], .i .i64 l] = some (.i .i64 (szResponse (Response.mk xStatus xHeaders xBody) l), [.u, .u]) := mkS_eq (0) rfl rfl (fun cx h => by
  obtain ⟨q0, q1, q2⟩ := h0
  simp only [go_sem, reduceIte, ↓reduceIte, reduceCtorEq, nA, nS, nM, nB, nE, nL, nT, nN, iL, iT, iE, iA, iM, iS, iG, iB, iN, iZ, h, q0, q1, q2]
  simp only [szResponse, szs, szn, if_i, decide_eq_true_eq]) (rfl)
noncomputable def s96 : SP Try.prog := mkS tyA 96 Try.f96 [s105] { md := [.ro 1, .ro 1], rg := [(0, [1, 2], [2]), (1, [1, 2], [2]), (2, [1, 2, 11], [2]), (3, [4], []), (4, [1, 2], [2]), (5, [1, 2, 18], [2]), (6, [4], []), (7, [1, 2], [2]), (8, [1, 2, 25], [2]), (9, [4], []), (10, [1], []), (11, [1, 31], []), (12, [4], []), (13, [4], [])], rets := some ([4], []) } Try.func96 (by kernel_rfl)
@[go_sem] theorem d96 : s96.g = 96 ∧ s96.fs = ⟨[.ro 1, .ro 1], s96.F, false⟩ := ⟨nr rfl, nr rfl⟩
@[go_sem] theorem e96 (xMethod : ByteArray) (xHost : ByteArray) (xPath : ByteArray) (xHeaders : List Header) (l : Int) (h0 : okRequest (Request.mk xMethod xHost xPath xHeaders)) : s96.F [.agg [.s xMethod, .s xHost, .s xPath, .sl .ro 2 (xHeaders.map (rHeader .ro))], .i .i64 l] = some (.i .i64 (szRequest (Request.mk xMethod xHost xPath xHeaders) l), [.u, .u]) := mkS_eq (0) rfl rfl (fun cx h => by
  obtain ⟨q0, q1, q2, q3⟩ := h0
  simp only [go_sem, reduceIte, ↓reduceIte, reduceCtorEq, nA, nS, nM, nB, nE, nL, nT, nN, iL, iT, iE, iA, iM, iS, iG, iB, iN, iZ, h, q0, q1, q2, q3]
  simp only [szRequest, szs, szn, if_i, decide_eq_true_eq]) (rfl)
noncomputable def s63 : SP Try.prog := mkS tyA 63 Try.f63 [s95, s96] { md := [.ro 1, .ro 1], rg := [(0, [1, 2], [2]), (1, [1, 2], [2]), (2, [1, 2, 11], [2]), (3, [4], []), (4, [1, 2], [2]), (5, [1, 2, 17], [2]), (6, [4], []), (7, [1], []), (8, [1, 23], []), (9, [4], []), (10, [4], [])], rets := some ([4], []) } Try.func63 (by kernel_rfl)
@[go_sem] theorem d63 : s63.g = 63 ∧ s63.fs = ⟨[.ro 1, .ro 1], s63.F, false⟩ := ⟨nr rfl, nr rfl⟩
@[go_sem] theorem e63 (xKind : Int) (xId : Int) (xSource : ByteArray) (xResponseStatus : Int) (xResponseHeaders : List Header) (xResponseBody : List UInt8) (xRequestMethod : ByteArray) (xRequestHost : ByteArray) (xRequestPath : ByteArray) (xRequestHeaders : List Header) (l : Int) (h0 : okOut (Out.mk xKind xId xSource (Response.mk xResponseStatus xResponseHeaders xResponseBody) (Request.mk xRequestMethod xRequestHost xRequestPath xRequestHeaders))) : s63.F [.agg [.i .i64 xKind, .i .i64 xId, .s xSource, .i .i64 xResponseStatus, .sl .ro 2 (xResponseHeaders.map (rHeader .ro)), .sl .ro 1 (xResponseBody.map rByte), .s xRequestMethod, .s xRequestHost, .s xRequestPath, .sl .ro 2 (xRequestHeaders.map (rHeader .ro))], .i .i64 l] = some (.i .i64 (szOut (Out.mk xKind xId xSource (Response.mk xResponseStatus xResponseHeaders xResponseBody) (Request.mk xRequestMethod xRequestHost xRequestPath xRequestHeaders)) l), [.u, .u]) := mkS_eq (0) rfl rfl (fun cx h => by
  obtain ⟨q0, q1, q2, q3, q4⟩ := h0
  simp only [go_sem, reduceIte, ↓reduceIte, reduceCtorEq, nA, nS, nM, nB, nE, nL, nT, nN, iL, iT, iE, iA, iM, iS, iG, iB, iN, iZ, h, q0, q1, q2, q3, q4]
  simp only [szOut, szs, szn, if_i, decide_eq_true_eq]) (rfl)
noncomputable def s20 : SP Try.prog := mkS tyA 20 Try.f20 [s63] { md := [.ro 1, .ro 1], rg := [(0, [0, 1], []), (1, [0, 1], []), (2, [0, 1, 11], []), (3, [4], []), (4, [0, 1, 5], []), (5, [0, 1, 5, 15], []), (6, [0, 1, 5], []), (7, [0, 1, 5], []), (8, [0, 1, 5, 25], []), (9, [4], []), (10, [4], [])], lv := [(0, [0, 1, 5], [])], out := [(0, [1], [])], rets := some ([4], []) } Try.func20 (by kernel_rfl)
@[go_sem] theorem d20 : s20.g = 20 ∧ s20.fs = ⟨[.ro 1, .ro 1], s20.F, false⟩ := ⟨nr rfl, nr rfl⟩
@[go_sem] theorem e20 (xs : List Out) (l : Int) (h0 : okL okOut xs) : s20.F [.sl .ro 10 (xs.map (rOut .ro)), .i .i64 l] = some (.i .i64 (szL szOut xs l), [.u, .u]) := mkS_eq (xs.length + 1) rfl rfl (fun cx h => by
  have hb := loopN_eq Try.f20 0 _ _ rfl rfl
  have hx := h0.1
  obtain ⟨r, hr, hq⟩ := loop_list (cx := cx) (blk := 0) (body := loopN Try.f20 0) xs (fun k l => ⟨E [(0, .sl .ro 10 (xs.map (rOut .ro))), (1, .i .i64 l), (5, .i .i64 k)], B []⟩) (fun l => ⟨E [(1, .i .i64 l)], B []⟩) (fun x l => decide (szOut x l < 0)) (fun x l => szOut x l) (fun _ _ => (.ret, ⟨E [(4, .i .i64 (-1))], B []⟩)) (fun _ _ => True)
    (fun l _ G => by simp only [go_sem, reduceIte, ↓reduceIte, reduceCtorEq, nA, nS, nM, nB, nE, nL, nT, nN, iL, iT, iE, iA, iM, iS, iG, iB, iN, iZ, h, Int.lt_irrefl, hb]) (fun k hk l _ => by
      have h1 : ((k : Int) < (xs.length : Int)) := Int.ofNat_lt.2 hk
      have h2 := h0.2 _ (List.getElem_mem hk)
      by_cases hc : szOut xs[k] l < 0
      · exact .inl ⟨decide_eq_true hc, fun G => by simp only [go_sem, reduceIte, ↓reduceIte, reduceCtorEq, nA, nS, nM, nB, nE, nL, nT, nN, iL, iT, iE, iA, iM, iS, iG, iB, iN, iZ, h, h2, hc, map_gd (rOut .ro) xs k hk, h1, idx_nt _ _ hk, wrap_nat1 (show k < 9223372036854775807 by omega), hb]⟩
      · exact .inr ⟨decide_eq_false hc, trivial, _, fun G => by simp only [go_sem, reduceIte, ↓reduceIte, reduceCtorEq, nA, nS, nM, nB, nE, nL, nT, nN, iL, iT, iE, iA, iM, iS, iG, iB, iN, iZ, h, h2, hc, map_gd (rOut .ro) xs k hk, h1, idx_nt _ _ hk, wrap_nat1 (show k < 9223372036854775807 by omega), hb] <;> with_reducible rfl, by simp only [go_sem, reduceIte, ↓reduceIte, reduceCtorEq, nA, nS, nM, nB, nE, nL, nT, nN, iL, iT, iE, iA, iM, iS, iG, iB, iN, iZ, h]⟩) ((IntKind.i64).wrap (l - (xs.length : Int))) trivial (xs.length + 1) (Nat.le_refl _)
  rw [hb] at hr
  unfold szL szs
  by_cases hc : (IntKind.i64).wrap (l - (xs.length : Int)) < 0
  · simp only [go_sem, reduceIte, ↓reduceIte, reduceCtorEq, nA, nS, nM, nB, nE, nL, nT, nN, iL, iT, iE, iA, iM, iS, iG, iB, iN, iZ, h, hc]
  · rcases hq with ⟨s', e1, e2, e3⟩ | ⟨x, s', e1, e3⟩
    · simp only [go_sem, reduceIte, ↓reduceIte, reduceCtorEq, nA, nS, nM, nB, nE, nL, nT, nN, iL, iT, iE, iA, iM, iS, iG, iB, iN, iZ, h, hc, hr, e3, szO_inl e1, Option.getD_some]
    · simp only [go_sem, reduceIte, ↓reduceIte, reduceCtorEq, nA, nS, nM, nB, nE, nL, nT, nN, iL, iT, iE, iA, iM, iS, iG, iB, iN, iZ, h, hc, hr, e3, szO_inr e1, Option.getD_none]) (rfl)
def within (a b c : Int) : Bool := decide (b ≤ a) && decide (a ≤ c)
theorem within_t {a b c : Int} : within a b c = true ↔ b ≤ a ∧ a ≤ c := by simp [within]
theorem within_f {a b c : Int} : within a b c = false ↔ ¬ (b ≤ a ∧ a ≤ c) := by rw [← within_t]; simp
noncomputable def s92 : SP Try.prog := mkS tyA 92 Try.f92 [] { md := [.ro 1, .ro 1, .ro 1], rets := some ([6], []) } Try.func92 (by kernel_rfl)
@[go_sem] theorem d92 : s92.g = 92 ∧ s92.fs = ⟨[.ro 1, .ro 1, .ro 1], s92.F, false⟩ := ⟨nr rfl, nr rfl⟩
@[go_sem] theorem e92 (a : Int) (b : Int) (c : Int) : s92.F [.i .i64 a, .i .i64 b, .i .i64 c] = some (.b (within a b c), [.u, .u, .u]) := mkS_eq (0) rfl rfl (fun cx h => by
  simp only [go_sem, reduceIte, ↓reduceIte, reduceCtorEq, nA, nS, nM, nB, nE, nL, nT, nN, iL, iT, iE, iA, iM, iS, iG, iB, iN, iZ, h, within]
  by_cases h : b ≤ a <;> simp [h]) (rfl)
def isTime (a : Int) : Bool := within a 0 1000000000000000
theorem isTime_t {a : Int} : isTime a = true ↔ 0 ≤ a ∧ a ≤ 1000000000000000 := within_t
noncomputable def s64 : SP Try.prog := mkS tyA 64 Try.f64 [s92] { md := [.ro 1], rets := some ([2], []) } Try.func64 (by kernel_rfl)
@[go_sem] theorem d64 : s64.g = 64 ∧ s64.fs = ⟨[.ro 1], s64.F, false⟩ := ⟨nr rfl, nr rfl⟩
@[go_sem] theorem e64 (a : Int) : s64.F [.i .i64 a] = some (.b (isTime a), [.u]) := mkS_eq (0) rfl rfl (fun cx h => by
  simp only [go_sem, reduceIte, ↓reduceIte, reduceCtorEq, nA, nS, nM, nB, nE, nL, nT, nN, iL, iT, iE, iA, iM, iS, iG, iB, iN, iZ, h, isTime]) (rfl)
theorem ffold {α β : Type} (p : α → Bool) (f : α → β) : ∀ (xs : List α) (acc : List β), xs.foldl (fun s x => if p x = true then s ++ [f x] else s) acc = acc ++ (xs.filter p).map f
  | [], acc => by simp
  | x :: xs, acc => by
    rw [List.foldl_cons, ffold p f xs, List.filter_cons]
    cases p x <;> simp
def isAns (id : Int) (x : Out) : Bool := x.Kind == 1 && x.Id == id
def answersOf (id : Int) (xs : List Out) : List Out := xs.filter (isAns id)
theorem answersOf_len (id : Int) (xs : List Out) : (answersOf id xs).length ≤ xs.length := List.length_filter_le _ _
noncomputable def s65 : SP Try.prog := mkS tyA 65 Try.f65 [] { md := [.ro 1, .ro 1], wk := true, rg := [(0, [0, 1], []), (1, [0, 1, 5], []), (2, [0, 1, 5, 6], []), (3, [0, 1, 5, 6, 11], []), (4, [0, 1, 5, 6], []), (5, [0, 1, 5, 6, 28], []), (6, [0, 1, 5, 6], []), (7, [4], [])], lv := [(0, [0, 1, 5, 6], [])], out := [(0, [5], [])], rets := some ([4], []) } Try.func65 (by kernel_rfl)
@[go_sem] theorem d65 : s65.g = 65 ∧ s65.fs = ⟨[.ro 1, .ro 1], s65.F, true⟩ := ⟨nr rfl, nr rfl⟩
@[go_sem] theorem e65 (outs : List Out) (id : Int) (h0 : outs.length ≤ 2000) : s65.F [.sl .ro 10 (outs.map (rOut .ro)), .i .i64 id] = some (.sl .mut 10 ((answersOf id outs).map (rOut .ro)), [.u, .u]) := mkS_eq (outs.length + 1) rfl rfl (fun cx h => by
  have hb0 := loopN_eq Try.f65 0 _ _ rfl rfl
  obtain ⟨hI, hr⟩ := loop_fold (cx := cx) (blk := 0) (body := loopN Try.f65 0) outs (fun k (s : List Out) => ⟨E [(0, .sl .ro 10 (outs.map (rOut .ro))), (1, .i .i64 id), (5, .sl .mut 10 (s.map (rOut .ro))), (6, .i .i64 k)], B []⟩) (fun s => ⟨E [(5, .sl .mut 10 (s.map (rOut .ro)))], B []⟩) (fun x s => (if isAns id x = true then s ++ [x] else s)) (fun k s => s.length ≤ k)
      (fun s hI G => by simp only [go_sem, reduceIte, ↓reduceIte, reduceCtorEq, nA, nS, nM, nB, nE, nL, nT, nN, iL, iT, iE, iA, iM, iS, iG, iB, iN, iZ, h, Int.lt_irrefl, hb0, h0]) (fun k hk s hI => by
        have h1 : ((k : Int) < (outs.length : Int)) := Int.ofNat_lt.2 hk
        have t3 : (s.length + 1) * 160 ≤ 140737488355328 := by omega
        have t4 : s.map (rOut .ro) ++ [rOut .ro outs[k]] = (s ++ [outs[k]]).map (rOut .ro) := by simp
        simp only [rOut] at t4
        have hd : isAns id outs[k] = (outs[k].Kind == 1 && outs[k].Id == id) := rfl
        cases d1 : outs[k].Kind == 1 <;> cases d2 : outs[k].Id == id
        all_goals exact ⟨by split <;> (try simp only [List.length_append, List.length_cons, List.length_nil]) <;> omega, _, fun G => by simp only [go_sem, reduceIte, ↓reduceIte, reduceCtorEq, nA, nS, nM, nB, nE, nL, nT, nN, iL, iT, iE, iA, iM, iS, iG, iB, iN, iZ, h, t3, t4, map_gd (rOut .ro) outs k hk, d1, d2, h1, idx_nt _ _ hk, wrap_nat1 (show k < 9223372036854775807 by omega), hb0] <;> with_reducible rfl, by simp only [go_sem, reduceIte, ↓reduceIte, reduceCtorEq, nA, nS, nM, nB, nE, nL, nT, nN, iL, iT, iE, iA, iM, iS, iG, iB, iN, iZ, h, hd, d1, d2]⟩) [] (by simp) (outs.length + 1) (Nat.le_refl _)
  rw [hb0] at hr
  rw [ffold (isAns id) (fun x => x)] at hr
  simp only [List.nil_append, List.map_id'] at hr
  simp only [go_sem, reduceIte, ↓reduceIte, reduceCtorEq, nA, nS, nM, nB, nE, nL, nT, nN, iL, iT, iE, iA, iM, iS, iG, iB, iN, iZ, h, hr, answersOf]) (rfl)
def sourcesTo (outs : List Out) (id : Int) : NamesResult :=
  if 2000 < (outs.length : Int) then ⟨2, []⟩ else if isTime id = false then ⟨3, []⟩
  else if 20 < ((answersOf id outs).length : Int) then ⟨2, []⟩ else ⟨0, (answersOf id outs).map (·.Source)⟩
theorem sourcesTo_sm (outs : List Out) (id : Int) (h : smL smOut outs) : smNamesResult (sourcesTo outs id) := by
  unfold sourcesTo
  repeat' split
  all_goals refine ⟨trivial, ?_⟩
  all_goals try exact ⟨Nat.zero_le _, fun x hx => by cases hx⟩
  refine ⟨by simp only [List.length_map]; omega, fun x hx => ?_⟩
  obtain ⟨o, ho, rfl⟩ := List.mem_map.1 hx
  exact (h.2 o (List.mem_filter.1 ho).1).2.2.1
theorem foldm {α β : Type} (f : α → β) : ∀ (xs : List α) (acc : List β), xs.foldl (fun s x => s ++ [f x]) acc = acc ++ xs.map f
  | [], acc => by simp
  | x :: xs, acc => by rw [List.foldl_cons, foldm f xs]; simp
noncomputable def s21 : SP Try.prog := mkS tyA 21 Try.f21 [s64, s65] { md := [.ro 1, .ro 1], rg := [(0, [0, 1, 4], [4, 6]), (1, [0, 1, 4, 10], [4, 6]), (2, [4], [4, 6]), (3, [0, 1, 4, 14], [4, 6]), (4, [4], [4, 6]), (5, [4, 5], [4, 6]), (6, [4, 5, 21], [4, 6]), (7, [4], [4, 6]), (8, [4, 5, 6], [4, 6]), (9, [4, 5, 6, 7], [4, 6]), (10, [4, 5, 6, 7, 27], [4, 6]), (11, [4, 5, 6, 7], [4, 6]), (12, [4, 5, 6, 7], [4, 6]), (13, [4], [4, 6])], lv := [(0, [4, 5, 6, 7], [4, 6])], out := [(0, [4, 6], [4, 6])], rets := some ([4], [4, 6]), plan := [(12, (.take 0 (.take 1 (.take 2 (.take 3 (.take 4 (.take 5 (.take 6 (.one 7 (.one 8 (.one 9 (.one 10 .done))))))))))))] } Try.func21 (by kernel_rfl)
@[go_sem] theorem d21 : s21.g = 21 ∧ s21.fs = ⟨[.ro 1, .ro 1], s21.F, false⟩ := ⟨nr rfl, nr rfl⟩
@[go_sem] theorem e21 (outs : List Out) (id : Int) : s21.F [.sl .ro 10 (outs.map (rOut .ro)), .i .i64 id] = some (.agg (rNamesResult .mut (sourcesTo outs id)), [.u, .u]) := mkS_eq (outs.length + 1) rfl rfl (fun cx h => by
  by_cases c1 : 2000 < (outs.length : Int)
  · simp only [go_sem, reduceIte, ↓reduceIte, reduceCtorEq, nA, nS, nM, nB, nE, nL, nT, nN, iL, iT, iE, iA, iM, iS, iG, iB, iN, iZ, h, sourcesTo, c1]
  have hx : outs.length ≤ 2000 := by omega
  cases c2 : isTime id
  · simp only [go_sem, reduceIte, ↓reduceIte, reduceCtorEq, nA, nS, nM, nB, nE, nL, nT, nN, iL, iT, iE, iA, iM, iS, iG, iB, iN, iZ, h, sourcesTo, c1, c2]
  obtain ⟨ys, hy0⟩ : ∃ ys, answersOf id outs = ys := ⟨_, rfl⟩
  by_cases c3 : 20 < (ys.length : Int)
  · simp only [go_sem, reduceIte, ↓reduceIte, reduceCtorEq, nA, nS, nM, nB, nE, nL, nT, nN, iL, iT, iE, iA, iM, iS, iG, iB, iN, iZ, h, sourcesTo, c1, c2, c3, hx, hy0]
  have hy : ys.length ≤ 20 := by omega
  have hb0 := loopN_eq Try.f21 0 _ _ rfl rfl
  obtain ⟨hI, hr⟩ := loop_fold (cx := cx) (blk := 0) (body := loopN Try.f21 0) ys (fun k (s : List ByteArray) => ⟨E [(4, .p ⟨false, 4, [], 0⟩), (5, .sl .mut 10 (ys.map (rOut .ro))), (6, .p ⟨false, 6, [], 0⟩), (7, .i .i64 k)], B [(4, [.i .i64 0, .sl .mut 1 []]), (6, [.i .i64 0, .sl .mut 1 (s.map rStr)])]⟩) (fun s => ⟨E [(4, .p ⟨false, 4, [], 0⟩), (6, .p ⟨false, 6, [], 0⟩)], B [(4, [.i .i64 0, .sl .mut 1 []]), (6, [.i .i64 0, .sl .mut 1 (s.map rStr)])]⟩) (fun x s => s ++ [x.Source]) (fun k s => s.length = k)
      (fun s hI G => by simp only [go_sem, reduceIte, ↓reduceIte, reduceCtorEq, nA, nS, nM, nB, nE, nL, nT, nN, iL, iT, iE, iA, iM, iS, iG, iB, iN, iZ, h, Int.lt_irrefl, hb0, hy, show List.take ys.length (List.map (rOut .ro) ys) = List.map (rOut .ro) ys from List.take_of_length_le (by simp)]) (fun k hk s hI => by
        have h1 : ((k : Int) < (ys.length : Int)) := Int.ofNat_lt.2 hk
        have t3 : (s.length + 1) * 16 ≤ 140737488355328 := by omega
        have t4 : s.map rStr ++ [[.s ys[k].Source]] = (s ++ [ys[k].Source]).map rStr := by simp [rStr]
        have t5 : List.take ys.length (List.map (rOut .ro) ys) = List.map (rOut .ro) ys := List.take_of_length_le (by simp)
        exact ⟨by simp only [List.length_append, List.length_cons, List.length_nil]; omega, _, fun G => by simp only [go_sem, reduceIte, ↓reduceIte, reduceCtorEq, nA, nS, nM, nB, nE, nL, nT, nN, iL, iT, iE, iA, iM, iS, iG, iB, iN, iZ, h, t3, t4, t5, map_gd (rOut .ro) ys k hk, gd_map (rOut .ro) ys k hk, h1, idx_nt _ _ hk, wrap_nat1 (show k < 9223372036854775807 by omega), hb0] <;> with_reducible rfl, by simp only [go_sem, reduceIte, ↓reduceIte, reduceCtorEq, nA, nS, nM, nB, nE, nL, nT, nN, iL, iT, iE, iA, iM, iS, iG, iB, iN, iZ, h]⟩) [] rfl (outs.length + 1) (by rw [← hy0]; exact Nat.succ_le_succ (answersOf_len id outs))
  rw [hb0] at hr
  have hm := foldm (·.Source) ys []
  rw [List.nil_append] at hm
  rw [hm] at hr
  simp only [go_sem, reduceIte, ↓reduceIte, reduceCtorEq, nA, nS, nM, nB, nE, nL, nT, nN, iL, iT, iE, iA, iM, iS, iG, iB, iN, iZ, h, sourcesTo, c1, c2, c3, hx, hy0, hr, List.take_length]) (by simp only [go_sem, reduceIte, ↓reduceIte, reduceCtorEq, nA, nS, nM, nB, nE, nL, nT, nN, iL, iT, iE, iA, iM, iS, iG, iB, iN, iZ, okRes, hasRo, hasRoL, hasRoLL])
noncomputable def s113 : SP Try.prog := mkS tyA 113 Try.f113 [] { md := [.ro 1], rg := [(0, [1, 2], [1, 2, 3]), (1, [1, 2, 3], [1, 2, 3]), (2, [1, 2, 3], [1, 2, 3]), (3, [2, 3], [2, 3]), (4, [2], [2, 3])], rets := some ([2], [2, 3]) } Try.func113 (by kernel_rfl)
@[go_sem] theorem d113 : s113.g = 113 ∧ s113.fs = ⟨[.ro 1], s113.F, false⟩ := ⟨nr rfl, nr rfl⟩
@[go_sem] theorem e113 (xName : ByteArray) (xValue : ByteArray) (h0 : smHeader (Header.mk xName xValue)) : s113.F [.agg [.s xName, .s xValue]] = some (.agg (rHeader .mut (Header.mk xName xValue)), [.u]) := mkS_eq (0) rfl rfl (fun cx h => by
  obtain ⟨q0, q1⟩ := h0
  simp only [go_sem, reduceIte, ↓reduceIte, reduceCtorEq, nA, nS, nM, nB, nE, nL, nT, nN, iL, iT, iE, iA, iM, iS, iG, iB, iN, iZ, h, q0, q1]) (by simp only [go_sem, reduceIte, ↓reduceIte, reduceCtorEq, nA, nS, nM, nB, nE, nL, nT, nN, iL, iT, iE, iA, iM, iS, iG, iB, iN, iZ, okRes, hasRo, hasRoL, hasRoLL])
noncomputable def s107 : SP Try.prog := mkS tyA 107 Try.f107 [s113] { md := [.ro 1], rg := [(0, [0], []), (1, [0, 3], []), (2, [0, 3, 4], []), (3, [0, 3, 4, 11], []), (4, [0, 3, 4], []), (5, [0, 3, 4], []), (6, [2], [])], lv := [(0, [0, 3, 4], [])], out := [(0, [3], [])], rets := some ([2], []) } Try.func107 (by kernel_rfl)
@[go_sem] theorem d107 : s107.g = 107 ∧ s107.fs = ⟨[.ro 1], s107.F, false⟩ := ⟨nr rfl, nr rfl⟩
@[go_sem] theorem e107 (xs : List Header) (h0 : smL smHeader xs) : s107.F [.sl .ro 2 (xs.map (rHeader .ro))] = some (.sl .mut 2 (xs.map (rHeader .mut)), [.u]) := mkS_eq (xs.length + 1) rfl rfl (fun cx h => by
  have hb := loopN_eq Try.f107 0 _ _ rfl rfl
  have hx := h0.1
  have c1 : ((xs.length : Int) * (32 : Nat) ≤ 140737488355328) := by omega
  have c2 : 0 ≤ (xs.length : Int) := by omega
  have hr := (loop_fold (cx := cx) (blk := 0) (body := loopN Try.f107 0) xs (fun k (_ : Unit) => ⟨E [(0, .sl .ro 2 (xs.map (rHeader .ro))), (3, .sl .mut 2 (fillUp (rHeader .mut) [.s ⟨#[]⟩, .s ⟨#[]⟩] xs k)), (4, .i .i64 k)], B []⟩) (fun _ => ⟨E [(3, .sl .mut 2 (xs.map (rHeader .mut)))], B []⟩) (fun _ _ => ()) (fun _ _ => True)
    (fun l _ G => by simp only [go_sem, reduceIte, ↓reduceIte, reduceCtorEq, nA, nS, nM, nB, nE, nL, nT, nN, iL, iT, iE, iA, iM, iS, iG, iB, iN, iZ, h, Int.lt_irrefl, hb, fillUp_all]) (fun k hk l _ => by
      have h1 : ((k : Int) < (xs.length : Int)) := Int.ofNat_lt.2 hk
      have h2 := h0.2 _ (List.getElem_mem hk)
      have h3 : (fillUp (rHeader .mut) [.s ⟨#[]⟩, .s ⟨#[]⟩] xs k).set k [.s xs[k].Name, .s xs[k].Value] = fillUp (rHeader .mut) [.s ⟨#[]⟩, .s ⟨#[]⟩] xs (k + 1) := fillUp_set (rHeader .mut) [.s ⟨#[]⟩, .s ⟨#[]⟩] xs k hk
      exact ⟨trivial, _, fun G => by simp only [go_sem, reduceIte, ↓reduceIte, reduceCtorEq, nA, nS, nM, nB, nE, nL, nT, nN, iL, iT, iE, iA, iM, iS, iG, iB, iN, iZ, h, h2, h3, map_gd (rHeader .ro) xs k hk, fillUp_get (rHeader .mut) [.s ⟨#[]⟩, .s ⟨#[]⟩] xs k hk, fillUp_getD (rHeader .mut) [.s ⟨#[]⟩, .s ⟨#[]⟩] xs k hk, fillUp_len (rHeader .mut) [.s ⟨#[]⟩, .s ⟨#[]⟩] xs k (Nat.le_of_lt hk), h1, idx_nt _ _ hk, wrap_nat1 (show k < 9223372036854775807 by omega), hb] <;> with_reducible rfl, by simp only [go_sem, reduceIte, ↓reduceIte, reduceCtorEq, nA, nS, nM, nB, nE, nL, nT, nN, iL, iT, iE, iA, iM, iS, iG, iB, iN, iZ, h]⟩) () trivial (xs.length + 1) (Nat.le_refl _)).2
  rw [hb] at hr
  simp only [go_sem, reduceIte, ↓reduceIte, reduceCtorEq, nA, nS, nM, nB, nE, nL, nT, nN, iL, iT, iE, iA, iM, iS, iG, iB, iN, iZ, h, c1, c2, Int.toNat_natCast, fillUp_zero (rHeader .mut) [.s ⟨#[]⟩, .s ⟨#[]⟩], hr]) (by simp only [go_sem, reduceIte, ↓reduceIte, reduceCtorEq, nA, nS, nM, nB, nE, nL, nT, nN, iL, iT, iE, iA, iM, iS, iG, iB, iN, iZ, okRes, hasRo])
noncomputable def s108 : SP Try.prog := mkS tyA 108 Try.f108 [] { md := [.ro 1], rg := [(0, [0], []), (1, [0, 3], []), (2, [0, 3, 4], []), (3, [0, 3, 4, 11], []), (4, [0, 3, 4], []), (5, [0, 3, 4], []), (6, [2], [])], lv := [(0, [0, 3, 4], [])], out := [(0, [3], [])], rets := some ([2], []) } Try.func108 (by kernel_rfl)
@[go_sem] theorem d108 : s108.g = 108 ∧ s108.fs = ⟨[.ro 1], s108.F, false⟩ := ⟨nr rfl, nr rfl⟩
@[go_sem] theorem e108 (xs : List UInt8) (h0 : smL smByte xs) : s108.F [.sl .ro 1 (xs.map rByte)] = some (.sl .mut 1 (xs.map rByte), [.u]) := mkS_eq (xs.length + 1) rfl rfl (fun cx h => by
  have hb := loopN_eq Try.f108 0 _ _ rfl rfl
  have hx := h0.1
  have c1 : ((xs.length : Int) * 1 ≤ 140737488355328) := by omega
  have c2 : 0 ≤ (xs.length : Int) := by omega
  have hr := (loop_fold (cx := cx) (blk := 0) (body := loopN Try.f108 0) xs (fun k (_ : Unit) => ⟨E [(0, .sl .ro 1 (xs.map rByte)), (3, .sl .mut 1 (fillUp rByte [.i .u8 0] xs k)), (4, .i .i64 k)], B []⟩) (fun _ => ⟨E [(3, .sl .mut 1 (xs.map rByte))], B []⟩) (fun _ _ => ()) (fun _ _ => True)
    (fun l _ G => by simp only [go_sem, reduceIte, ↓reduceIte, reduceCtorEq, nA, nS, nM, nB, nE, nL, nT, nN, iL, iT, iE, iA, iM, iS, iG, iB, iN, iZ, h, Int.lt_irrefl, hb, fillUp_all]) (fun k hk l _ => by
      have h1 : ((k : Int) < (xs.length : Int)) := Int.ofNat_lt.2 hk
      have h2 := h0.2 _ (List.getElem_mem hk)
      have h3 : (fillUp rByte [.i .u8 0] xs k).set k [.i .u8 xs[k].toNat] = fillUp rByte [.i .u8 0] xs (k + 1) := fillUp_set rByte [.i .u8 0] xs k hk
      exact ⟨trivial, _, fun G => by simp only [go_sem, reduceIte, ↓reduceIte, reduceCtorEq, nA, nS, nM, nB, nE, nL, nT, nN, iL, iT, iE, iA, iM, iS, iG, iB, iN, iZ, h, h2, h3, map_gd rByte xs k hk, fillUp_get rByte [.i .u8 0] xs k hk, fillUp_getD rByte [.i .u8 0] xs k hk, fillUp_len rByte [.i .u8 0] xs k (Nat.le_of_lt hk), h1, idx_nt _ _ hk, wrap_nat1 (show k < 9223372036854775807 by omega), hb] <;> with_reducible rfl, by simp only [go_sem, reduceIte, ↓reduceIte, reduceCtorEq, nA, nS, nM, nB, nE, nL, nT, nN, iL, iT, iE, iA, iM, iS, iG, iB, iN, iZ, h]⟩) () trivial (xs.length + 1) (Nat.le_refl _)).2
  rw [hb] at hr
  simp only [go_sem, reduceIte, ↓reduceIte, reduceCtorEq, nA, nS, nM, nB, nE, nL, nT, nN, iL, iT, iE, iA, iM, iS, iG, iB, iN, iZ, h, c1, c2, Int.toNat_natCast, fillUp_zero rByte [.i .u8 0], hr]) (by simp only [go_sem, reduceIte, ↓reduceIte, reduceCtorEq, nA, nS, nM, nB, nE, nL, nT, nN, iL, iT, iE, iA, iM, iS, iG, iB, iN, iZ, okRes, hasRo])
noncomputable def s97 : SP Try.prog := mkS tyA 97 Try.f97 [s107, s108] { md := [.ro 1], rg := [(0, [1, 2], [1, 2, 3]), (1, [1, 2, 3], [1, 2, 3]), (2, [1, 2, 3], [1, 2, 3]), (3, [1, 2, 3], [1, 2, 3]), (4, [2, 3], [2, 3]), (5, [2], [2, 3])], rets := some ([2], [2, 3]) } Try.func97 (by kernel_rfl)
@[go_sem] theorem d97 : s97.g = 97 ∧ s97.fs = ⟨[.ro 1], s97.F, false⟩ := ⟨nr rfl, nr rfl⟩
@[go_sem] theorem e97 (xStatus : Int) (xHeaders : List Header) (xBody : List UInt8) (h0 : smResponse (Response.mk xStatus xHeaders xBody)) : s97.F [.agg [.i .i64 xStatus, .sl .ro 2 (xHeaders.map (rHeader .ro)), .sl .ro 1 (xBody.map rByte)]] = some (.agg (rResponse .mut (Response.mk xStatus xHeaders xBody)), [.u]) := mkS_eq (0) rfl rfl (fun cx h => by
  obtain ⟨q0, q1, q2⟩ := h0
  simp only [go_sem, reduceIte, ↓reduceIte, reduceCtorEq, nA, nS, nM, nB, nE, nL, nT, nN, iL, iT, iE, iA, iM, iS, iG, iB, iN, iZ, h, q0, q1, q2]) (by simp only [go_sem, reduceIte, ↓reduceIte, reduceCtorEq, nA, nS, nM, nB, nE, nL, nT, nN, iL, iT, iE, iA, iM, iS, iG, iB, iN, iZ, okRes, hasRo, hasRoL, hasRoLL])
noncomputable def s98 : SP Try.prog := mkS tyA 98 Try.f98 [s107] { md := [.ro 1], rg := [(0, [1, 2], [1, 2, 3]), (1, [1, 2, 3], [1, 2, 3]), (2, [1, 2, 3], [1, 2, 3]), (3, [1, 2, 3], [1, 2, 3]), (4, [1, 2, 3], [1, 2, 3]), (5, [2, 3], [2, 3]), (6, [2], [2, 3])], rets := some ([2], [2, 3]) } Try.func98 (by kernel_rfl)
@[go_sem] theorem d98 : s98.g = 98 ∧ s98.fs = ⟨[.ro 1], s98.F, false⟩ := ⟨nr rfl, nr rfl⟩
@[go_sem] theorem e98 (xMethod : ByteArray) (xHost : ByteArray) (xPath : ByteArray) (xHeaders : List Header) (h0 : smRequest (Request.mk xMethod xHost xPath xHeaders)) : s98.F [.agg [.s xMethod, .s xHost, .s xPath, .sl .ro 2 (xHeaders.map (rHeader .ro))]] = some (.agg (rRequest .mut (Request.mk xMethod xHost xPath xHeaders)), [.u]) := mkS_eq (0) rfl rfl (fun cx h => by
  obtain ⟨q0, q1, q2, q3⟩ := h0
  simp only [go_sem, reduceIte, ↓reduceIte, reduceCtorEq, nA, nS, nM, nB, nE, nL, nT, nN, iL, iT, iE, iA, iM, iS, iG, iB, iN, iZ, h, q0, q1, q2, q3]) (by simp only [go_sem, reduceIte, ↓reduceIte, reduceCtorEq, nA, nS, nM, nB, nE, nL, nT, nN, iL, iT, iE, iA, iM, iS, iG, iB, iN, iZ, okRes, hasRo, hasRoL, hasRoLL])
noncomputable def s66 : SP Try.prog := mkS tyA 66 Try.f66 [s97, s98] { md := [.ro 1], rg := [(0, [1, 2], [1, 2, 3]), (1, [1, 2, 3], [1, 2, 3]), (2, [1, 2, 3], [1, 2, 3]), (3, [1, 2, 3], [1, 2, 3]), (4, [1, 2, 3], [1, 2, 3]), (5, [1, 2, 3], [1, 2, 3]), (6, [2, 3], [2, 3]), (7, [2], [2, 3])], rets := some ([2], [2, 3]) } Try.func66 (by kernel_rfl)
@[go_sem] theorem d66 : s66.g = 66 ∧ s66.fs = ⟨[.ro 1], s66.F, false⟩ := ⟨nr rfl, nr rfl⟩
@[go_sem] theorem e66 (xKind : Int) (xId : Int) (xSource : ByteArray) (xResponseStatus : Int) (xResponseHeaders : List Header) (xResponseBody : List UInt8) (xRequestMethod : ByteArray) (xRequestHost : ByteArray) (xRequestPath : ByteArray) (xRequestHeaders : List Header) (h0 : smOut (Out.mk xKind xId xSource (Response.mk xResponseStatus xResponseHeaders xResponseBody) (Request.mk xRequestMethod xRequestHost xRequestPath xRequestHeaders))) : s66.F [.agg [.i .i64 xKind, .i .i64 xId, .s xSource, .i .i64 xResponseStatus, .sl .ro 2 (xResponseHeaders.map (rHeader .ro)), .sl .ro 1 (xResponseBody.map rByte), .s xRequestMethod, .s xRequestHost, .s xRequestPath, .sl .ro 2 (xRequestHeaders.map (rHeader .ro))]] = some (.agg (rOut .mut (Out.mk xKind xId xSource (Response.mk xResponseStatus xResponseHeaders xResponseBody) (Request.mk xRequestMethod xRequestHost xRequestPath xRequestHeaders))), [.u]) := mkS_eq (0) rfl rfl (fun cx h => by
  obtain ⟨q0, q1, q2, q3, q4⟩ := h0
  simp only [go_sem, reduceIte, ↓reduceIte, reduceCtorEq, nA, nS, nM, nB, nE, nL, nT, nN, iL, iT, iE, iA, iM, iS, iG, iB, iN, iZ, h, q0, q1, q2, q3, q4]) (by simp only [go_sem, reduceIte, ↓reduceIte, reduceCtorEq, nA, nS, nM, nB, nE, nL, nT, nN, iL, iT, iE, iA, iM, iS, iG, iB, iN, iZ, okRes, hasRo, hasRoL, hasRoLL])
noncomputable def s22 : SP Try.prog := mkS tyA 22 Try.f22 [s66] { md := [.ro 1], rg := [(0, [0], []), (1, [0, 3], []), (2, [0, 3, 4], []), (3, [0, 3, 4, 11], []), (4, [0, 3, 4], []), (5, [0, 3, 4], []), (6, [2], [])], lv := [(0, [0, 3, 4], [])], out := [(0, [3], [])], rets := some ([2], []) } Try.func22 (by kernel_rfl)
@[go_sem] theorem d22 : s22.g = 22 ∧ s22.fs = ⟨[.ro 1], s22.F, false⟩ := ⟨nr rfl, nr rfl⟩
@[go_sem] theorem e22 (xs : List Out) (h0 : smL smOut xs) : s22.F [.sl .ro 10 (xs.map (rOut .ro))] = some (.sl .mut 10 (xs.map (rOut .mut)), [.u]) := mkS_eq (xs.length + 1) rfl rfl (fun cx h => by
  have hb := loopN_eq Try.f22 0 _ _ rfl rfl
  have hx := h0.1
  have c1 : ((xs.length : Int) * (160 : Nat) ≤ 140737488355328) := by omega
  have c2 : 0 ≤ (xs.length : Int) := by omega
  have hr := (loop_fold (cx := cx) (blk := 0) (body := loopN Try.f22 0) xs (fun k (_ : Unit) => ⟨E [(0, .sl .ro 10 (xs.map (rOut .ro))), (3, .sl .mut 10 (fillUp (rOut .mut) [.i .i64 0, .i .i64 0, .s ⟨#[]⟩, .i .i64 0, .sl .mut 2 [], .sl .mut 1 [], .s ⟨#[]⟩, .s ⟨#[]⟩, .s ⟨#[]⟩, .sl .mut 2 []] xs k)), (4, .i .i64 k)], B []⟩) (fun _ => ⟨E [(3, .sl .mut 10 (xs.map (rOut .mut)))], B []⟩) (fun _ _ => ()) (fun _ _ => True)
    (fun l _ G => by simp only [go_sem, reduceIte, ↓reduceIte, reduceCtorEq, nA, nS, nM, nB, nE, nL, nT, nN, iL, iT, iE, iA, iM, iS, iG, iB, iN, iZ, h, Int.lt_irrefl, hb, fillUp_all]) (fun k hk l _ => by
      have h1 : ((k : Int) < (xs.length : Int)) := Int.ofNat_lt.2 hk
      have h2 := h0.2 _ (List.getElem_mem hk)
      have h3 : (fillUp (rOut .mut) [.i .i64 0, .i .i64 0, .s ⟨#[]⟩, .i .i64 0, .sl .mut 2 [], .sl .mut 1 [], .s ⟨#[]⟩, .s ⟨#[]⟩, .s ⟨#[]⟩, .sl .mut 2 []] xs k).set k [.i .i64 xs[k].Kind, .i .i64 xs[k].Id, .s xs[k].Source, .i .i64 xs[k].Response.Status, .sl .mut 2 (xs[k].Response.Headers.map (rHeader .mut)), .sl .mut 1 (xs[k].Response.Body.map rByte), .s xs[k].Request.Method, .s xs[k].Request.Host, .s xs[k].Request.Path, .sl .mut 2 (xs[k].Request.Headers.map (rHeader .mut))] = fillUp (rOut .mut) [.i .i64 0, .i .i64 0, .s ⟨#[]⟩, .i .i64 0, .sl .mut 2 [], .sl .mut 1 [], .s ⟨#[]⟩, .s ⟨#[]⟩, .s ⟨#[]⟩, .sl .mut 2 []] xs (k + 1) := fillUp_set (rOut .mut) [.i .i64 0, .i .i64 0, .s ⟨#[]⟩, .i .i64 0, .sl .mut 2 [], .sl .mut 1 [], .s ⟨#[]⟩, .s ⟨#[]⟩, .s ⟨#[]⟩, .sl .mut 2 []] xs k hk
      exact ⟨trivial, _, fun G => by simp only [go_sem, reduceIte, ↓reduceIte, reduceCtorEq, nA, nS, nM, nB, nE, nL, nT, nN, iL, iT, iE, iA, iM, iS, iG, iB, iN, iZ, h, h2, h3, map_gd (rOut .ro) xs k hk, fillUp_get (rOut .mut) [.i .i64 0, .i .i64 0, .s ⟨#[]⟩, .i .i64 0, .sl .mut 2 [], .sl .mut 1 [], .s ⟨#[]⟩, .s ⟨#[]⟩, .s ⟨#[]⟩, .sl .mut 2 []] xs k hk, fillUp_getD (rOut .mut) [.i .i64 0, .i .i64 0, .s ⟨#[]⟩, .i .i64 0, .sl .mut 2 [], .sl .mut 1 [], .s ⟨#[]⟩, .s ⟨#[]⟩, .s ⟨#[]⟩, .sl .mut 2 []] xs k hk, fillUp_len (rOut .mut) [.i .i64 0, .i .i64 0, .s ⟨#[]⟩, .i .i64 0, .sl .mut 2 [], .sl .mut 1 [], .s ⟨#[]⟩, .s ⟨#[]⟩, .s ⟨#[]⟩, .sl .mut 2 []] xs k (Nat.le_of_lt hk), h1, idx_nt _ _ hk, wrap_nat1 (show k < 9223372036854775807 by omega), hb] <;> with_reducible rfl, by simp only [go_sem, reduceIte, ↓reduceIte, reduceCtorEq, nA, nS, nM, nB, nE, nL, nT, nN, iL, iT, iE, iA, iM, iS, iG, iB, iN, iZ, h]⟩) () trivial (xs.length + 1) (Nat.le_refl _)).2
  rw [hb] at hr
  simp only [go_sem, reduceIte, ↓reduceIte, reduceCtorEq, nA, nS, nM, nB, nE, nL, nT, nN, iL, iT, iE, iA, iM, iS, iG, iB, iN, iZ, h, c1, c2, Int.toNat_natCast, fillUp_zero (rOut .mut) [.i .i64 0, .i .i64 0, .s ⟨#[]⟩, .i .i64 0, .sl .mut 2 [], .sl .mut 1 [], .s ⟨#[]⟩, .s ⟨#[]⟩, .s ⟨#[]⟩, .sl .mut 2 []], hr]) (by simp only [go_sem, reduceIte, ↓reduceIte, reduceCtorEq, nA, nS, nM, nB, nE, nL, nT, nN, iL, iT, iE, iA, iM, iS, iG, iB, iN, iZ, okRes, hasRo])
noncomputable def s49 : SP Try.prog := mkS tyA 49 Try.f49 [] { md := [.ro 1, .ro 1, .ro 1], rets := some ([6], []) } Try.func49 (by kernel_rfl)
@[go_sem] theorem d49 : s49.g = 49 ∧ s49.fs = ⟨[.ro 1, .ro 1, .ro 1], s49.F, false⟩ := ⟨nr rfl, nr rfl⟩
@[go_sem] theorem e49 (a : Int) (b : Int) (c : Int) : s49.F [.i .i64 a, .i .i64 b, .i .i64 c] = some (.b (within a b c), [.u, .u, .u]) := mkS_eq (0) rfl rfl (fun cx h => by
  simp only [go_sem, reduceIte, ↓reduceIte, reduceCtorEq, nA, nS, nM, nB, nE, nL, nT, nN, iL, iT, iE, iA, iM, iS, iG, iB, iN, iZ, h, within]
  by_cases h : b ≤ a <;> simp [h]) (rfl)
noncomputable def s50 : SP Try.prog := mkS tyA 50 Try.f50 [s49] { md := [.ro 1], rets := some ([2], []) } Try.func50 (by kernel_rfl)
@[go_sem] theorem d50 : s50.g = 50 ∧ s50.fs = ⟨[.ro 1], s50.F, false⟩ := ⟨nr rfl, nr rfl⟩
@[go_sem] theorem e50 (a : Int) : s50.F [.i .i64 a] = some (.b (isTime a), [.u]) := mkS_eq (0) rfl rfl (fun cx h => by
  simp only [go_sem, reduceIte, ↓reduceIte, reduceCtorEq, nA, nS, nM, nB, nE, nL, nT, nN, iL, iT, iE, iA, iM, iS, iG, iB, iN, iZ, h, isTime]) (rfl)
noncomputable def s109 : SP Try.prog := mkS tyA 109 Try.f109 [] { md := [.ro 1, .ro 1], rg := [(0, [0, 1], []), (1, [1, 3], []), (2, [2], []), (3, [2], [])], rets := some ([2], []) } Try.func109 (by kernel_rfl)
@[go_sem] theorem d109 : s109.g = 109 ∧ s109.fs = ⟨[.ro 1, .ro 1], s109.F, false⟩ := ⟨nr rfl, nr rfl⟩
@[go_sem] theorem e109 (x : Bool) (c : Int) : s109.F [.pr [.b x], .pr [.i .i64 c]] = some (.i .i64 (if x = true then c else 0), [.u, .u]) := mkS_eq (0) rfl rfl (fun cx h => by
  simp only [go_sem, reduceIte, ↓reduceIte, reduceCtorEq, nA, nS, nM, nB, nE, nL, nT, nN, iL, iT, iE, iA, iM, iS, iG, iB, iN, iZ, h, if_i]) (rfl)
/-! functions that tell a code if something is so -/
def cl (p : Bool × Int) : AV := .fn 109 [.pr [.b p.1], .pr [.i .i64 p.2]]
@[go_sem] theorem cl_def (p : Bool × Int) : cl p = .fn 109 [.pr [.b p.1], .pr [.i .i64 p.2]] := nr rfl
@[go_sem] theorem cl_filt (kp kr : Pl → Bool) : ∀ xs : List (Bool × Int), filtL kp kr (xs.map cl) = xs.map cl
  | [] => rfl
  | x :: xs => by simp only [List.map_cons, filtL, cl_filt kp kr xs, cl, filt]
def clv (p : Bool × Int) : Int := if p.1 = true then p.2 else 0
def firstC : List (Bool × Int) → Int
  | [] => 0
  | p :: r => if (clv p != 0) = true then clv p else firstC r
theorem firstC_inl : ∀ {xs : List (Bool × Int)} {u u' : Unit}, runS (fun x _ => clv x != 0) (fun _ _ => ()) xs u = .inl u' → firstC xs = 0
  | [], _, _, _ => rfl
  | x :: xs, u, u', h => by
    rw [runS_cons] at h
    split at h
    · cases h
    · rename_i hc; rw [firstC, if_neg hc]; exact firstC_inl h
theorem firstC_inr : ∀ {xs : List (Bool × Int)} {u : Unit} {q : (Bool × Int) × Unit}, runS (fun x _ => clv x != 0) (fun _ _ => ()) xs u = .inr q → firstC xs = clv q.1
  | [], _, _, h => by cases h
  | x :: xs, u, q, h => by
    rw [runS_cons] at h
    split at h
    · rename_i hc; injection h with h; subst h; rw [firstC, if_pos hc]
    · rename_i hc; rw [firstC, if_neg hc]; exact firstC_inr h
theorem map_gdA {α : Type} (f : α → AV) (xs : List α) (k : Nat) (h : k < xs.length) : (xs.map f).getD k .u = f xs[k] := by simp [List.getD, h]
noncomputable def s99 : SP Try.prog := mkS tyA 99 Try.f99 [s109] { md := [.ro 1], rg := [(0, [0], []), (1, [0, 6, 7, 8], []), (2, [0, 6, 7, 8, 9], []), (3, [0, 4, 6, 7, 8], []), (4, [0, 5, 6, 7, 8], []), (5, [0, 5, 6, 7, 8, 15], []), (6, [2], []), (7, [0, 6, 7, 8], []), (8, [2], [])], lv := [(0, [0, 6, 7, 8], [])], out := [(0, [], [])], rets := some ([2], []) } Try.func99 (by kernel_rfl)
@[go_sem] theorem d99 : s99.g = 99 ∧ s99.fs = ⟨[.ro 1], s99.F, false⟩ := ⟨nr rfl, nr rfl⟩
theorem e99 (xs : List (Bool × Int)) (hb : xs.length ≤ 1000) : s99.F [.fs (xs.map cl)] = some (.i .i64 (firstC xs), [.u]) := mkS_eq (xs.length + 1) rfl rfl (fun cx h => by
  have hx := hb
  have hb0 := loopN_eq Try.f99 0 _ _ rfl rfl
  obtain ⟨r, hr, hq⟩ := loop_srch (cx := cx) (blk := 0) (body := loopN Try.f99 0) xs (fun k (s : Unit) => ⟨E [(0, .fs (xs.map cl)), (6, .fs (xs.map cl)), (7, .i .i64 xs.length), (8, .i .i64 k)], B []⟩) (fun s => ⟨E [], B []⟩) (fun x s => clv x != 0) (fun x s => ()) (fun x s => (.ret, ⟨E [(2, .i .i64 (clv x))], B []⟩)) (fun k s => True)
      (fun s hI G => by simp only [go_sem, reduceIte, ↓reduceIte, reduceCtorEq, nA, nS, nM, nB, nE, nL, nT, nN, iL, iT, iE, iA, iM, iS, iG, iB, iN, iZ, h, Int.lt_irrefl, hb0, hx]) (fun k hk s hI => by
        have h1 : ((k : Int) < (xs.length : Int)) := Int.ofNat_lt.2 hk
        have h3 : clv xs[k] = (if xs[k].1 = true then xs[k].2 else 0) := rfl
        exact ⟨_, _, _, fun G => by simp only [go_sem, reduceIte, ↓reduceIte, reduceCtorEq, nA, nS, nM, nB, nE, nL, nT, nN, iL, iT, iE, iA, iM, iS, iG, iB, iN, iZ, h, map_gdA cl xs k hk, h3, h1, idx_nt _ _ hk, wrap_nat1 (show k < 9223372036854775807 by omega), hb0] <;> with_reducible rfl, by simp [h3], fun hc => ⟨trivial, by simp only [go_sem, reduceIte, ↓reduceIte, reduceCtorEq, nA, nS, nM, nB, nE, nL, nT, nN, iL, iT, iE, iA, iM, iS, iG, iB, iN, iZ, h]⟩⟩) () trivial (xs.length + 1) (Nat.le_refl _)
  rw [hb0] at hr
  rcases hq with ⟨s', e1, _, e3⟩ | ⟨x, s', e1, e3⟩
  · simp only [go_sem, reduceIte, ↓reduceIte, reduceCtorEq, nA, nS, nM, nB, nE, nL, nT, nN, iL, iT, iE, iA, iM, iS, iG, iB, iN, iZ, h, hr, e3, firstC_inl e1]
  · simp only [go_sem, reduceIte, ↓reduceIte, reduceCtorEq, nA, nS, nM, nB, nE, nL, nT, nN, iL, iT, iE, iA, iM, iS, iG, iB, iN, iZ, h, hr, e3, firstC_inr e1]) (rfl)
@[go_sem] theorem e99_1 (a0 : Bool) (x0 : Int) : s99.F [.fs [.fn 109 [.pr [.b a0], .pr [.i .i64 x0]]]] = some (.i .i64 (firstC [(a0, x0)]), [.u]) := e99 [(a0, x0)] (by simp)
@[go_sem] theorem e99_2 (a0 : Bool) (x0 : Int) (a1 : Bool) (x1 : Int) : s99.F [.fs [.fn 109 [.pr [.b a0], .pr [.i .i64 x0]], .fn 109 [.pr [.b a1], .pr [.i .i64 x1]]]] = some (.i .i64 (firstC [(a0, x0), (a1, x1)]), [.u]) := e99 [(a0, x0), (a1, x1)] (by simp)
@[go_sem] theorem e99_3 (a0 : Bool) (x0 : Int) (a1 : Bool) (x1 : Int) (a2 : Bool) (x2 : Int) : s99.F [.fs [.fn 109 [.pr [.b a0], .pr [.i .i64 x0]], .fn 109 [.pr [.b a1], .pr [.i .i64 x1]], .fn 109 [.pr [.b a2], .pr [.i .i64 x2]]]] = some (.i .i64 (firstC [(a0, x0), (a1, x1), (a2, x2)]), [.u]) := e99 [(a0, x0), (a1, x1), (a2, x2)] (by simp)
@[go_sem] theorem e99_4 (a0 : Bool) (x0 : Int) (a1 : Bool) (x1 : Int) (a2 : Bool) (x2 : Int) (a3 : Bool) (x3 : Int) : s99.F [.fs [.fn 109 [.pr [.b a0], .pr [.i .i64 x0]], .fn 109 [.pr [.b a1], .pr [.i .i64 x1]], .fn 109 [.pr [.b a2], .pr [.i .i64 x2]], .fn 109 [.pr [.b a3], .pr [.i .i64 x3]]]] = some (.i .i64 (firstC [(a0, x0), (a1, x1), (a2, x2), (a3, x3)]), [.u]) := e99 [(a0, x0), (a1, x1), (a2, x2), (a3, x3)] (by simp)
@[go_sem] theorem e99_5 (a0 : Bool) (x0 : Int) (a1 : Bool) (x1 : Int) (a2 : Bool) (x2 : Int) (a3 : Bool) (x3 : Int) (a4 : Bool) (x4 : Int) : s99.F [.fs [.fn 109 [.pr [.b a0], .pr [.i .i64 x0]], .fn 109 [.pr [.b a1], .pr [.i .i64 x1]], .fn 109 [.pr [.b a2], .pr [.i .i64 x2]], .fn 109 [.pr [.b a3], .pr [.i .i64 x3]], .fn 109 [.pr [.b a4], .pr [.i .i64 x4]]]] = some (.i .i64 (firstC [(a0, x0), (a1, x1), (a2, x2), (a3, x3), (a4, x4)]), [.u]) := e99 [(a0, x0), (a1, x1), (a2, x2), (a3, x3), (a4, x4)] (by simp)
@[go_sem] theorem e99_6 (a0 : Bool) (x0 : Int) (a1 : Bool) (x1 : Int) (a2 : Bool) (x2 : Int) (a3 : Bool) (x3 : Int) (a4 : Bool) (x4 : Int) (a5 : Bool) (x5 : Int) : s99.F [.fs [.fn 109 [.pr [.b a0], .pr [.i .i64 x0]], .fn 109 [.pr [.b a1], .pr [.i .i64 x1]], .fn 109 [.pr [.b a2], .pr [.i .i64 x2]], .fn 109 [.pr [.b a3], .pr [.i .i64 x3]], .fn 109 [.pr [.b a4], .pr [.i .i64 x4]], .fn 109 [.pr [.b a5], .pr [.i .i64 x5]]]] = some (.i .i64 (firstC [(a0, x0), (a1, x1), (a2, x2), (a3, x3), (a4, x4), (a5, x5)]), [.u]) := e99 [(a0, x0), (a1, x1), (a2, x2), (a3, x3), (a4, x4), (a5, x5)] (by simp)
@[go_sem] theorem e99_7 (a0 : Bool) (x0 : Int) (a1 : Bool) (x1 : Int) (a2 : Bool) (x2 : Int) (a3 : Bool) (x3 : Int) (a4 : Bool) (x4 : Int) (a5 : Bool) (x5 : Int) (a6 : Bool) (x6 : Int) : s99.F [.fs [.fn 109 [.pr [.b a0], .pr [.i .i64 x0]], .fn 109 [.pr [.b a1], .pr [.i .i64 x1]], .fn 109 [.pr [.b a2], .pr [.i .i64 x2]], .fn 109 [.pr [.b a3], .pr [.i .i64 x3]], .fn 109 [.pr [.b a4], .pr [.i .i64 x4]], .fn 109 [.pr [.b a5], .pr [.i .i64 x5]], .fn 109 [.pr [.b a6], .pr [.i .i64 x6]]]] = some (.i .i64 (firstC [(a0, x0), (a1, x1), (a2, x2), (a3, x3), (a4, x4), (a5, x5), (a6, x6)]), [.u]) := e99 [(a0, x0), (a1, x1), (a2, x2), (a3, x3), (a4, x4), (a5, x5), (a6, x6)] (by simp)
noncomputable def s100 : SP Try.prog := mkS tyA 100 Try.f100 [] { md := [.ro 1, .ro 1], wk := true, rets := some ([4], [2, 3]), fz := [2, 3] } Try.func100 (by kernel_rfl)
@[go_sem] theorem d100 : s100.g = 100 ∧ s100.fs = ⟨[.ro 1, .ro 1], s100.F, true⟩ := ⟨nr rfl, nr rfl⟩
@[go_sem] theorem e100 (x : Bool) (c : Int) : s100.F [.b x, .i .i64 c] = some (.fn 109 [.pr [.b x], .pr [.i .i64 c]], [.u, .u]) := mkS_eq (0) rfl rfl (fun cx h => by
  simp only [go_sem, reduceIte, ↓reduceIte, reduceCtorEq, nA, nS, nM, nB, nE, nL, nT, nN, iL, iT, iE, iA, iM, iS, iG, iB, iN, iZ, h]) (rfl)
def outsCode (n : Nat) (id : Int) : Int := if 2000 < (n : Int) then 2 else if isTime id = true then 0 else 3
noncomputable def s67 : SP Try.prog := mkS tyA 67 Try.f67 [s50, s99, s100] { md := [.ro 1, .ro 1], rets := some ([4], []) } Try.func67 (by kernel_rfl)
@[go_sem] theorem d67 : s67.g = 67 ∧ s67.fs = ⟨[.ro 1, .ro 1], s67.F, false⟩ := ⟨nr rfl, nr rfl⟩
@[go_sem] theorem e67 (outs : List Out) (id : Int) : s67.F [.sl .ro 10 (outs.map (rOut .ro)), .i .i64 id] = some (.i .i64 (outsCode outs.length id), [.u, .u]) := mkS_eq (0) rfl rfl (fun cx h => by
  simp only [go_sem, reduceIte, ↓reduceIte, reduceCtorEq, nA, nS, nM, nB, nE, nL, nT, nN, iL, iT, iE, iA, iM, iS, iG, iB, iN, iZ, h, firstC, clv, outsCode]
  by_cases h1 : 2000 < (outs.length : Int) <;> cases isTime id <;> simp [h1]) (rfl)
noncomputable def s68 : SP Try.prog := mkS tyA 68 Try.f68 [] { md := [.ro 1, .ro 1], rg := [(0, [0, 1], []), (1, [0, 1, 5], []), (2, [0, 1, 5, 9, 10, 11], []), (3, [0, 1, 5, 9, 10, 11, 12], []), (4, [0, 1, 5, 7, 9, 10, 11], [7]), (5, [0, 1, 5, 7, 9, 10, 11, 23], [7]), (6, [0, 1, 5, 9, 10, 11], []), (7, [0, 1, 5, 9, 10, 11], []), (8, [4], [])], lv := [(0, [0, 1, 5, 9, 10, 11], [])], out := [(0, [5], [])], rets := some ([4], []) } Try.func68 (by kernel_rfl)
@[go_sem] theorem d68 : s68.g = 68 ∧ s68.fs = ⟨[.ro 1, .ro 1], s68.F, false⟩ := ⟨nr rfl, nr rfl⟩
@[go_sem] theorem e68 (outs : List Out) (id : Int) (h0 : outs.length ≤ 2000) : s68.F [.sl .ro 10 (outs.map (rOut .ro)), .i .i64 id] = some (.sl .mut 1 (((answersOf id outs).map (·.Source)).map rStr), [.u, .u]) := mkS_eq (outs.length + 1) rfl rfl (fun cx h => by
  have hb0 := loopN_eq Try.f68 0 _ _ rfl rfl
  obtain ⟨hI, hr⟩ := loop_fold (cx := cx) (blk := 0) (body := loopN Try.f68 0) outs (fun k (s : List ByteArray) => ⟨E [(0, .sl .ro 10 (outs.map (rOut .ro))), (1, .i .i64 id), (5, .sl .mut 1 (s.map rStr)), (9, .sl .ro 10 (outs.map (rOut .ro))), (10, .i .i64 outs.length), (11, .i .i64 k)], B []⟩) (fun s => ⟨E [(5, .sl .mut 1 (s.map rStr))], B []⟩) (fun x s => (if isAns id x = true then s ++ [x.Source] else s)) (fun k s => s.length ≤ k)
      (fun s hI G => by simp only [go_sem, reduceIte, ↓reduceIte, reduceCtorEq, nA, nS, nM, nB, nE, nL, nT, nN, iL, iT, iE, iA, iM, iS, iG, iB, iN, iZ, h, Int.lt_irrefl, hb0, h0]) (fun k hk s hI => by
        have h1 : ((k : Int) < (outs.length : Int)) := Int.ofNat_lt.2 hk
        have t3 : (s.length + 1) * 16 ≤ 140737488355328 := by omega
        have t4 : s.map rStr ++ [[.s outs[k].Source]] = (s ++ [outs[k].Source]).map rStr := by simp [rStr]
        have hd : isAns id outs[k] = (outs[k].Kind == 1 && outs[k].Id == id) := rfl
        cases d1 : outs[k].Kind == 1 <;> cases d2 : outs[k].Id == id
        all_goals exact ⟨by split <;> (try simp only [List.length_append, List.length_cons, List.length_nil]) <;> omega, _, fun G => by simp only [go_sem, reduceIte, ↓reduceIte, reduceCtorEq, nA, nS, nM, nB, nE, nL, nT, nN, iL, iT, iE, iA, iM, iS, iG, iB, iN, iZ, h, t3, t4, map_gd (rOut .ro) outs k hk, d1, d2, h1, idx_nt _ _ hk, wrap_nat1 (show k < 9223372036854775807 by omega), hb0] <;> with_reducible rfl, by simp only [go_sem, reduceIte, ↓reduceIte, reduceCtorEq, nA, nS, nM, nB, nE, nL, nT, nN, iL, iT, iE, iA, iM, iS, iG, iB, iN, iZ, h, hd, d1, d2]⟩) [] (by simp) (outs.length + 1) (Nat.le_refl _)
  rw [hb0] at hr
  rw [ffold (isAns id) (fun x => x.Source)] at hr
  simp only [List.nil_append] at hr
  simp only [go_sem, reduceIte, ↓reduceIte, reduceCtorEq, nA, nS, nM, nB, nE, nL, nT, nN, iL, iT, iE, iA, iM, iS, iG, iB, iN, iZ, h, hr, answersOf]) (by simp only [go_sem, reduceIte, ↓reduceIte, reduceCtorEq, nA, nS, nM, nB, nE, nL, nT, nN, iL, iT, iE, iA, iM, iS, iG, iB, iN, iZ, okRes, hasRo])
noncomputable def s23 : SP Try.prog := mkS tyA 23 Try.f23 [s67, s68] { md := [.ro 1, .ro 1], rg := [(0, [0, 1, 4, 6, 21], [4]), (1, [0, 1, 4, 5, 6, 21], [4]), (2, [0, 1, 4, 5, 6, 11, 21], [4]), (3, [4, 6, 21], [4]), (4, [4, 6, 21], [4]), (5, [4, 6, 19, 21], [4]), (6, [4, 6, 21], [4]), (7, [4, 6, 21], [4])], rets := some ([4, 6, 21], [4]) } Try.func23 (by kernel_rfl)
@[go_sem] theorem d23 : s23.g = 23 ∧ s23.fs = ⟨[.ro 1, .ro 1], s23.F, false⟩ := ⟨nr rfl, nr rfl⟩
@[go_sem] theorem e23 (outs : List Out) (id : Int) : s23.F [.sl .ro 10 (outs.map (rOut .ro)), .i .i64 id] = some (.agg (rNamesResult .mut (sourcesTo outs id)), [.u, .u]) := mkS_eq (0) rfl rfl (fun cx h => by
  by_cases c1 : 2000 < (outs.length : Int)
  · simp only [go_sem, reduceIte, ↓reduceIte, reduceCtorEq, nA, nS, nM, nB, nE, nL, nT, nN, iL, iT, iE, iA, iM, iS, iG, iB, iN, iZ, h, sourcesTo, outsCode, c1]
  have hx : outs.length ≤ 2000 := by omega
  cases c2 : isTime id
  · simp only [go_sem, reduceIte, ↓reduceIte, reduceCtorEq, nA, nS, nM, nB, nE, nL, nT, nN, iL, iT, iE, iA, iM, iS, iG, iB, iN, iZ, h, sourcesTo, outsCode, c1, c2]
  by_cases c3 : 20 < ((answersOf id outs).length : Int)
  · simp only [go_sem, reduceIte, ↓reduceIte, reduceCtorEq, nA, nS, nM, nB, nE, nL, nT, nN, iL, iT, iE, iA, iM, iS, iG, iB, iN, iZ, h, sourcesTo, outsCode, c1, c2, c3, hx]
  · simp only [go_sem, reduceIte, ↓reduceIte, reduceCtorEq, nA, nS, nM, nB, nE, nL, nT, nN, iL, iT, iE, iA, iM, iS, iG, iB, iN, iZ, h, sourcesTo, outsCode, c1, c2, c3, hx]) (by simp only [go_sem, reduceIte, ↓reduceIte, reduceCtorEq, nA, nS, nM, nB, nE, nL, nT, nN, iL, iT, iE, iA, iM, iS, iG, iB, iN, iZ, okRes, hasRo, hasRoL, hasRoLL])
noncomputable def s69 : SP Try.prog := mkS tyA 69 Try.f69 [] { md := [.ro 1, .ro 1], rg := [(0, [0, 1], []), (1, [0, 1, 10], []), (2, [4], []), (3, [0, 1, 5], []), (4, [0, 1, 5, 14], []), (5, [0, 1, 5], []), (6, [0, 1, 5, 25], []), (7, [4], []), (8, [4], [])], lv := [(0, [0, 1, 5], [])], out := [(0, [], [])], rets := some ([4], []), plan := [(6, (.take 0 (.take 1 (.take 2 (.take 3 (.take 4 (.take 5 (.take 6 (.take 7 (.take 8 .done))))))))))] } Try.func69 (by kernel_rfl)
@[go_sem] theorem d69 : s69.g = 69 ∧ s69.fs = ⟨[.ro 1, .ro 1], s69.F, false⟩ := ⟨nr rfl, nr rfl⟩
@[go_sem] theorem e69 (xs ys : List ByteArray) (h0 : smL smStr xs) : s69.F [.sl .ro 1 (xs.map rStr), .sl .ro 1 (ys.map rStr)] = some (.b (eqv xs ys), [.u, .u]) := mkS_eq (xs.length + 1) rfl rfl (fun cx h => by
  have hb := loopN_eq Try.f69 0 _ _ rfl rfl
  have hx := h0.1
  by_cases hl : xs.length = ys.length
  · obtain ⟨r, hr, hq⟩ := loop_list (cx := cx) (blk := 0) (body := loopN Try.f69 0) (xs.zip ys) (fun k (_ : Unit) => ⟨E [(0, .sl .ro 1 (xs.map rStr)), (1, .sl .ro 1 (ys.map rStr)), (5, .i .i64 k)], B []⟩) (fun _ => ⟨E [], B []⟩) (fun x _ => !eqv x.1 x.2) (fun _ _ => ()) (fun _ _ => (.ret, ⟨E [(4, .b false)], B []⟩)) (fun _ _ => True)
      (fun l _ G => by simp only [go_sem, reduceIte, ↓reduceIte, reduceCtorEq, nA, nS, nM, nB, nE, nL, nT, nN, iL, iT, iE, iA, iM, iS, iG, iB, iN, iZ, h, zip_len hl, hl, Int.lt_irrefl, hb]) (fun k hk l _ => by
        have hk : k < xs.length := by rwa [zip_len hl] at hk
        have h1 : ((k : Int) < (xs.length : Int)) := Int.ofNat_lt.2 hk
        have h2 := h0.2 _ (List.getElem_mem hk)
        have h3 : (xs.zip ys)[k] = (xs[k], ys[k]'(by omega)) := by simp
        rw [h3]
        cases hc : eqv xs[k] (ys[k]'(by omega))
        · exact .inl ⟨rfl, fun G => by simp only [go_sem, reduceIte, ↓reduceIte, reduceCtorEq, nA, nS, nM, nB, nE, nL, nT, nN, iL, iT, iE, iA, iM, iS, iG, iB, iN, iZ, h, hc, map_gd rStr xs k hk, map_gd rStr ys k (by omega), idx_nt ys.length k (by omega), eqv_bytes, h1, idx_nt _ _ hk, wrap_nat1 (show k < 9223372036854775807 by omega), hb]⟩
        · exact .inr ⟨rfl, trivial, _, fun G => by simp only [go_sem, reduceIte, ↓reduceIte, reduceCtorEq, nA, nS, nM, nB, nE, nL, nT, nN, iL, iT, iE, iA, iM, iS, iG, iB, iN, iZ, h, hc, map_gd rStr xs k hk, map_gd rStr ys k (by omega), idx_nt ys.length k (by omega), eqv_bytes, h1, idx_nt _ _ hk, wrap_nat1 (show k < 9223372036854775807 by omega), hb] <;> with_reducible rfl, by simp only [go_sem, reduceIte, ↓reduceIte, reduceCtorEq, nA, nS, nM, nB, nE, nL, nT, nN, iL, iT, iE, iA, iM, iS, iG, iB, iN, iZ, h]⟩) () trivial (xs.length + 1) (by rw [zip_len hl]; exact Nat.le_refl _)
    rw [hb] at hr
    have hl2 : ((xs.length : Int) != (ys.length : Int)) = false := by simp [hl]
    rcases hq with ⟨s', e1, e2, e3⟩ | ⟨x, s', e1, e3⟩
    · simp only [go_sem, reduceIte, ↓reduceIte, reduceCtorEq, nA, nS, nM, nB, nE, nL, nT, nN, iL, iT, iE, iA, iM, iS, iG, iB, iN, iZ, h, hl2, hr, e3, zip_eqv hl e1]
    · simp only [go_sem, reduceIte, ↓reduceIte, reduceCtorEq, nA, nS, nM, nB, nE, nL, nT, nN, iL, iT, iE, iA, iM, iS, iG, iB, iN, iZ, h, hl2, hr, e3, zip_nev hl e1]
  · have hl2 : ((xs.length : Int) != (ys.length : Int)) = true := by simpa using fun h => hl (Int.ofNat_inj.1 h)
    simp only [go_sem, reduceIte, ↓reduceIte, reduceCtorEq, nA, nS, nM, nB, nE, nL, nT, nN, iL, iT, iE, iA, iM, iS, iG, iB, iN, iZ, h, hl2, len_nev hl]) (rfl)
noncomputable def s24 : SP Try.prog := mkS tyA 24 Try.f24 [s69] { md := [.ro 1, .ro 1], rg := [(0, [2, 3], [2, 3]), (1, [2, 3, 9], [2, 3]), (2, [4], []), (3, [15], []), (4, [4], []), (5, [4], [])], rets := some ([4], []) } Try.func24 (by kernel_rfl)
@[go_sem] theorem d24 : s24.g = 24 ∧ s24.fs = ⟨[.ro 1, .ro 1], s24.F, false⟩ := ⟨nr rfl, nr rfl⟩
@[go_sem] theorem e24 (xCode : Int) (xNames : List ByteArray) (yCode : Int) (yNames : List ByteArray) (h0 : smNamesResult (NamesResult.mk xCode xNames)) : s24.F [.agg [.i .i64 xCode, .sl .ro 1 (xNames.map rStr)], .agg [.i .i64 yCode, .sl .ro 1 (yNames.map rStr)]] = some (.b (eqv (NamesResult.mk xCode xNames) (NamesResult.mk yCode yNames)), [.u, .u]) := mkS_eq (0) rfl rfl (fun cx h => by
  obtain ⟨q0, q1⟩ := h0
  simp only [go_sem, reduceIte, ↓reduceIte, reduceCtorEq, nA, nS, nM, nB, nE, nL, nT, nN, iL, iT, iE, iA, iM, iS, iG, iB, iN, iZ, h, eqv_intne, eqv_bytes, eqv_boolne, q0, q1]
  simp only [eqv_bool, eqv_int, NamesResult.eqv (NamesResult.mk xCode xNames) (NamesResult.mk yCode yNames), if_b, not_eq_t, if_nb, Bool.and_true]) (rfl)
noncomputable def s114 : SP Try.prog := mkS tyA 114 Try.f114 [] { md := [.ro 1, .ro 1], rg := [(0, [2, 3], [2, 3]), (1, [2, 3, 9], [2, 3]), (2, [4], []), (3, [14], []), (4, [4], []), (5, [4], [])], rets := some ([4], []) } Try.func114 (by kernel_rfl)
@[go_sem] theorem d114 : s114.g = 114 ∧ s114.fs = ⟨[.ro 1, .ro 1], s114.F, false⟩ := ⟨nr rfl, nr rfl⟩
@[go_sem] theorem e114 (xName : ByteArray) (xValue : ByteArray) (yName : ByteArray) (yValue : ByteArray) (h0 : smHeader (Header.mk xName xValue)) : s114.F [.agg [.s xName, .s xValue], .agg [.s yName, .s yValue]] = some (.b (eqv (Header.mk xName xValue) (Header.mk yName yValue)), [.u, .u]) := mkS_eq (0) rfl rfl (fun cx h => by
  obtain ⟨q0, q1⟩ := h0
  simp only [go_sem, reduceIte, ↓reduceIte, reduceCtorEq, nA, nS, nM, nB, nE, nL, nT, nN, iL, iT, iE, iA, iM, iS, iG, iB, iN, iZ, h, eqv_intne, eqv_bytes, eqv_boolne, q0, q1]
  simp only [eqv_bool, eqv_int, Header.eqv (Header.mk xName xValue) (Header.mk yName yValue), if_b, not_eq_t, if_nb, Bool.and_true]) (rfl)
noncomputable def s110 : SP Try.prog := mkS tyA 110 Try.f110 [s114] { md := [.ro 1, .ro 1], rg := [(0, [0, 1], []), (1, [0, 1, 10], []), (2, [4], []), (3, [0, 1, 5], []), (4, [0, 1, 5, 14], []), (5, [0, 1, 5], []), (6, [0, 1, 5, 26], []), (7, [4], []), (8, [4], [])], lv := [(0, [0, 1, 5], [])], out := [(0, [], [])], rets := some ([4], []), plan := [(6, (.take 0 (.take 1 (.take 2 (.take 3 (.take 4 (.take 5 (.take 6 (.take 7 (.one 8 (.take 9 .done)))))))))))] } Try.func110 (by kernel_rfl)
@[go_sem] theorem d110 : s110.g = 110 ∧ s110.fs = ⟨[.ro 1, .ro 1], s110.F, false⟩ := ⟨nr rfl, nr rfl⟩
@[go_sem] theorem e110 (xs ys : List Header) (h0 : smL smHeader xs) : s110.F [.sl .ro 2 (xs.map (rHeader .ro)), .sl .ro 2 (ys.map (rHeader .ro))] = some (.b (eqv xs ys), [.u, .u]) := mkS_eq (xs.length + 1) rfl rfl (fun cx h => by
  have hb := loopN_eq Try.f110 0 _ _ rfl rfl
  have hx := h0.1
  by_cases hl : xs.length = ys.length
  · obtain ⟨r, hr, hq⟩ := loop_list (cx := cx) (blk := 0) (body := loopN Try.f110 0) (xs.zip ys) (fun k (_ : Unit) => ⟨E [(0, .sl .ro 2 (xs.map (rHeader .ro))), (1, .sl .ro 2 (ys.map (rHeader .ro))), (5, .i .i64 k)], B []⟩) (fun _ => ⟨E [], B []⟩) (fun x _ => !eqv x.1 x.2) (fun _ _ => ()) (fun _ _ => (.ret, ⟨E [(4, .b false)], B []⟩)) (fun _ _ => True)
      (fun l _ G => by simp only [go_sem, reduceIte, ↓reduceIte, reduceCtorEq, nA, nS, nM, nB, nE, nL, nT, nN, iL, iT, iE, iA, iM, iS, iG, iB, iN, iZ, h, zip_len hl, hl, Int.lt_irrefl, hb]) (fun k hk l _ => by
        have hk : k < xs.length := by rwa [zip_len hl] at hk
        have h1 : ((k : Int) < (xs.length : Int)) := Int.ofNat_lt.2 hk
        have h2 := h0.2 _ (List.getElem_mem hk)
        have h3 : (xs.zip ys)[k] = (xs[k], ys[k]'(by omega)) := by simp
        rw [h3]
        cases hc : eqv xs[k] (ys[k]'(by omega))
        · exact .inl ⟨rfl, fun G => by simp only [go_sem, reduceIte, ↓reduceIte, reduceCtorEq, nA, nS, nM, nB, nE, nL, nT, nN, iL, iT, iE, iA, iM, iS, iG, iB, iN, iZ, h, hc, map_gd (rHeader .ro) xs k hk, map_gd (rHeader .ro) ys k (by omega), idx_nt ys.length k (by omega), h2, h1, idx_nt _ _ hk, wrap_nat1 (show k < 9223372036854775807 by omega), hb]⟩
        · exact .inr ⟨rfl, trivial, _, fun G => by simp only [go_sem, reduceIte, ↓reduceIte, reduceCtorEq, nA, nS, nM, nB, nE, nL, nT, nN, iL, iT, iE, iA, iM, iS, iG, iB, iN, iZ, h, hc, map_gd (rHeader .ro) xs k hk, map_gd (rHeader .ro) ys k (by omega), idx_nt ys.length k (by omega), h2, h1, idx_nt _ _ hk, wrap_nat1 (show k < 9223372036854775807 by omega), hb] <;> with_reducible rfl, by simp only [go_sem, reduceIte, ↓reduceIte, reduceCtorEq, nA, nS, nM, nB, nE, nL, nT, nN, iL, iT, iE, iA, iM, iS, iG, iB, iN, iZ, h]⟩) () trivial (xs.length + 1) (by rw [zip_len hl]; exact Nat.le_refl _)
    rw [hb] at hr
    have hl2 : ((xs.length : Int) != (ys.length : Int)) = false := by simp [hl]
    rcases hq with ⟨s', e1, e2, e3⟩ | ⟨x, s', e1, e3⟩
    · simp only [go_sem, reduceIte, ↓reduceIte, reduceCtorEq, nA, nS, nM, nB, nE, nL, nT, nN, iL, iT, iE, iA, iM, iS, iG, iB, iN, iZ, h, hl2, hr, e3, zip_eqv hl e1]
    · simp only [go_sem, reduceIte, ↓reduceIte, reduceCtorEq, nA, nS, nM, nB, nE, nL, nT, nN, iL, iT, iE, iA, iM, iS, iG, iB, iN, iZ, h, hl2, hr, e3, zip_nev hl e1]
  · have hl2 : ((xs.length : Int) != (ys.length : Int)) = true := by simpa using fun h => hl (Int.ofNat_inj.1 h)
    simp only [go_sem, reduceIte, ↓reduceIte, reduceCtorEq, nA, nS, nM, nB, nE, nL, nT, nN, iL, iT, iE, iA, iM, iS, iG, iB, iN, iZ, h, hl2, len_nev hl]) (rfl)
noncomputable def s111 : SP Try.prog := mkS tyA 111 Try.f111 [] { md := [.ro 1, .ro 1], rg := [(0, [0, 1], []), (1, [0, 1, 10], []), (2, [4], []), (3, [0, 1, 5], []), (4, [0, 1, 5, 14], []), (5, [0, 1, 5], []), (6, [0, 1, 5, 25], []), (7, [4], []), (8, [4], [])], lv := [(0, [0, 1, 5], [])], out := [(0, [], [])], rets := some ([4], []), plan := [(6, (.take 0 (.take 1 (.take 2 (.take 3 (.take 4 (.take 5 (.take 6 (.take 7 (.take 8 .done))))))))))] } Try.func111 (by kernel_rfl)
@[go_sem] theorem d111 : s111.g = 111 ∧ s111.fs = ⟨[.ro 1, .ro 1], s111.F, false⟩ := ⟨nr rfl, nr rfl⟩
@[go_sem] theorem e111 (xs ys : List UInt8) (h0 : smL smByte xs) : s111.F [.sl .ro 1 (xs.map rByte), .sl .ro 1 (ys.map rByte)] = some (.b (eqv xs ys), [.u, .u]) := mkS_eq (xs.length + 1) rfl rfl (fun cx h => by
  have hb := loopN_eq Try.f111 0 _ _ rfl rfl
  have hx := h0.1
  by_cases hl : xs.length = ys.length
  · obtain ⟨r, hr, hq⟩ := loop_list (cx := cx) (blk := 0) (body := loopN Try.f111 0) (xs.zip ys) (fun k (_ : Unit) => ⟨E [(0, .sl .ro 1 (xs.map rByte)), (1, .sl .ro 1 (ys.map rByte)), (5, .i .i64 k)], B []⟩) (fun _ => ⟨E [], B []⟩) (fun x _ => !eqv x.1 x.2) (fun _ _ => ()) (fun _ _ => (.ret, ⟨E [(4, .b false)], B []⟩)) (fun _ _ => True)
      (fun l _ G => by simp only [go_sem, reduceIte, ↓reduceIte, reduceCtorEq, nA, nS, nM, nB, nE, nL, nT, nN, iL, iT, iE, iA, iM, iS, iG, iB, iN, iZ, h, zip_len hl, hl, Int.lt_irrefl, hb]) (fun k hk l _ => by
        have hk : k < xs.length := by rwa [zip_len hl] at hk
        have h1 : ((k : Int) < (xs.length : Int)) := Int.ofNat_lt.2 hk
        have h2 := h0.2 _ (List.getElem_mem hk)
        have h3 : (xs.zip ys)[k] = (xs[k], ys[k]'(by omega)) := by simp
        rw [h3]
        cases hc : eqv xs[k] (ys[k]'(by omega))
        · exact .inl ⟨rfl, fun G => by simp only [go_sem, reduceIte, ↓reduceIte, reduceCtorEq, nA, nS, nM, nB, nE, nL, nT, nN, iL, iT, iE, iA, iM, iS, iG, iB, iN, iZ, h, hc, map_gd rByte xs k hk, map_gd rByte ys k (by omega), idx_nt ys.length k (by omega), eqv_byte, h1, idx_nt _ _ hk, wrap_nat1 (show k < 9223372036854775807 by omega), hb]⟩
        · exact .inr ⟨rfl, trivial, _, fun G => by simp only [go_sem, reduceIte, ↓reduceIte, reduceCtorEq, nA, nS, nM, nB, nE, nL, nT, nN, iL, iT, iE, iA, iM, iS, iG, iB, iN, iZ, h, hc, map_gd rByte xs k hk, map_gd rByte ys k (by omega), idx_nt ys.length k (by omega), eqv_byte, h1, idx_nt _ _ hk, wrap_nat1 (show k < 9223372036854775807 by omega), hb] <;> with_reducible rfl, by simp only [go_sem, reduceIte, ↓reduceIte, reduceCtorEq, nA, nS, nM, nB, nE, nL, nT, nN, iL, iT, iE, iA, iM, iS, iG, iB, iN, iZ, h]⟩) () trivial (xs.length + 1) (by rw [zip_len hl]; exact Nat.le_refl _)
    rw [hb] at hr
    have hl2 : ((xs.length : Int) != (ys.length : Int)) = false := by simp [hl]
    rcases hq with ⟨s', e1, e2, e3⟩ | ⟨x, s', e1, e3⟩
    · simp only [go_sem, reduceIte, ↓reduceIte, reduceCtorEq, nA, nS, nM, nB, nE, nL, nT, nN, iL, iT, iE, iA, iM, iS, iG, iB, iN, iZ, h, hl2, hr, e3, zip_eqv hl e1]
    · simp only [go_sem, reduceIte, ↓reduceIte, reduceCtorEq, nA, nS, nM, nB, nE, nL, nT, nN, iL, iT, iE, iA, iM, iS, iG, iB, iN, iZ, h, hl2, hr, e3, zip_nev hl e1]
  · have hl2 : ((xs.length : Int) != (ys.length : Int)) = true := by simpa using fun h => hl (Int.ofNat_inj.1 h)
    simp only [go_sem, reduceIte, ↓reduceIte, reduceCtorEq, nA, nS, nM, nB, nE, nL, nT, nN, iL, iT, iE, iA, iM, iS, iG, iB, iN, iZ, h, hl2, len_nev hl]) (rfl)
noncomputable def s101 : SP Try.prog := mkS tyA 101 Try.f101 [s110, s111] { md := [.ro 1, .ro 1], rg := [(0, [2, 3], [2, 3]), (1, [2, 3, 9], [2, 3]), (2, [4], []), (3, [2, 3, 15], [2, 3]), (4, [4], []), (5, [21], []), (6, [4], []), (7, [4], [])], rets := some ([4], []) } Try.func101 (by kernel_rfl)
@[go_sem] theorem d101 : s101.g = 101 ∧ s101.fs = ⟨[.ro 1, .ro 1], s101.F, false⟩ := ⟨nr rfl, nr rfl⟩
@[go_sem] theorem e101 (xStatus : Int) (xHeaders : List Header) (xBody : List UInt8) (yStatus : Int) (yHeaders : List Header) (yBody : List UInt8) (h0 : smResponse (Response.mk xStatus xHeaders xBody)) : s101.F [.agg [.i .i64 xStatus, .sl .ro 2 (xHeaders.map (rHeader .ro)), .sl .ro 1 (xBody.map rByte)], .agg [.i .i64 yStatus, .sl .ro 2 (yHeaders.map (rHeader .ro)), .sl .ro 1 (yBody.map rByte)]] = some (.b (eqv (Response.mk xStatus xHeaders xBody) (Response.mk yStatus yHeaders yBody)), [.u, .u]) := mkS_eq (0) rfl rfl (fun cx h => by
  obtain ⟨q0, q1, q2⟩ := h0
  simp only [go_sem, reduceIte, ↓reduceIte, reduceCtorEq, nA, nS, nM, nB, nE, nL, nT, nN, iL, iT, iE, iA, iM, iS, iG, iB, iN, iZ, h, eqv_intne, eqv_bytes, eqv_boolne, q0, q1, q2]
  simp only [eqv_bool, eqv_int, Response.eqv (Response.mk xStatus xHeaders xBody) (Response.mk yStatus yHeaders yBody), if_b, not_eq_t, if_nb, Bool.and_true]) (rfl)
noncomputable def s102 : SP Try.prog := mkS tyA 102 Try.f102 [s110] { md := [.ro 1, .ro 1], rg := [(0, [2, 3], [2, 3]), (1, [2, 3, 9], [2, 3]), (2, [4], []), (3, [2, 3, 14], [2, 3]), (4, [4], []), (5, [2, 3, 19], [2, 3]), (6, [4], []), (7, [25], []), (8, [4], []), (9, [4], [])], rets := some ([4], []) } Try.func102 (by kernel_rfl)
@[go_sem] theorem d102 : s102.g = 102 ∧ s102.fs = ⟨[.ro 1, .ro 1], s102.F, false⟩ := ⟨nr rfl, nr rfl⟩
@[go_sem] theorem e102 (xMethod : ByteArray) (xHost : ByteArray) (xPath : ByteArray) (xHeaders : List Header) (yMethod : ByteArray) (yHost : ByteArray) (yPath : ByteArray) (yHeaders : List Header) (h0 : smRequest (Request.mk xMethod xHost xPath xHeaders)) : s102.F [.agg [.s xMethod, .s xHost, .s xPath, .sl .ro 2 (xHeaders.map (rHeader .ro))], .agg [.s yMethod, .s yHost, .s yPath, .sl .ro 2 (yHeaders.map (rHeader .ro))]] = some (.b (eqv (Request.mk xMethod xHost xPath xHeaders) (Request.mk yMethod yHost yPath yHeaders)), [.u, .u]) := mkS_eq (0) rfl rfl (fun cx h => by
  obtain ⟨q0, q1, q2, q3⟩ := h0
  simp only [go_sem, reduceIte, ↓reduceIte, reduceCtorEq, nA, nS, nM, nB, nE, nL, nT, nN, iL, iT, iE, iA, iM, iS, iG, iB, iN, iZ, h, eqv_intne, eqv_bytes, eqv_boolne, q0, q1, q2, q3]
  simp only [eqv_bool, eqv_int, Request.eqv (Request.mk xMethod xHost xPath xHeaders) (Request.mk yMethod yHost yPath yHeaders), if_b, not_eq_t, if_nb, Bool.and_true]) (rfl)
noncomputable def s70 : SP Try.prog := mkS tyA 70 Try.f70 [s101, s102] { md := [.ro 1, .ro 1], rg := [(0, [2, 3], [2, 3]), (1, [2, 3, 9], [2, 3]), (2, [4], []), (3, [2, 3, 14], [2, 3]), (4, [4], []), (5, [2, 3, 19], [2, 3]), (6, [4], []), (7, [2, 3, 25], [2, 3]), (8, [4], []), (9, [31], []), (10, [4], []), (11, [4], [])], rets := some ([4], []) } Try.func70 (by kernel_rfl)
@[go_sem] theorem d70 : s70.g = 70 ∧ s70.fs = ⟨[.ro 1, .ro 1], s70.F, false⟩ := ⟨nr rfl, nr rfl⟩
@[go_sem] theorem e70 (xKind : Int) (xId : Int) (xSource : ByteArray) (xResponseStatus : Int) (xResponseHeaders : List Header) (xResponseBody : List UInt8) (xRequestMethod : ByteArray) (xRequestHost : ByteArray) (xRequestPath : ByteArray) (xRequestHeaders : List Header) (yKind : Int) (yId : Int) (ySource : ByteArray) (yResponseStatus : Int) (yResponseHeaders : List Header) (yResponseBody : List UInt8) (yRequestMethod : ByteArray) (yRequestHost : ByteArray) (yRequestPath : ByteArray) (yRequestHeaders : List Header) (h0 : smOut (Out.mk xKind xId xSource (Response.mk xResponseStatus xResponseHeaders xResponseBody) (Request.mk xRequestMethod xRequestHost xRequestPath xRequestHeaders))) : s70.F [.agg [.i .i64 xKind, .i .i64 xId, .s xSource, .i .i64 xResponseStatus, .sl .ro 2 (xResponseHeaders.map (rHeader .ro)), .sl .ro 1 (xResponseBody.map rByte), .s xRequestMethod, .s xRequestHost, .s xRequestPath, .sl .ro 2 (xRequestHeaders.map (rHeader .ro))], .agg [.i .i64 yKind, .i .i64 yId, .s ySource, .i .i64 yResponseStatus, .sl .ro 2 (yResponseHeaders.map (rHeader .ro)), .sl .ro 1 (yResponseBody.map rByte), .s yRequestMethod, .s yRequestHost, .s yRequestPath, .sl .ro 2 (yRequestHeaders.map (rHeader .ro))]] = some (.b (eqv (Out.mk xKind xId xSource (Response.mk xResponseStatus xResponseHeaders xResponseBody) (Request.mk xRequestMethod xRequestHost xRequestPath xRequestHeaders)) (Out.mk yKind yId ySource (Response.mk yResponseStatus yResponseHeaders yResponseBody) (Request.mk yRequestMethod yRequestHost yRequestPath yRequestHeaders))), [.u, .u]) := mkS_eq (0) rfl rfl (fun cx h => by
  obtain ⟨q0, q1, q2, q3, q4⟩ := h0
  simp only [go_sem, reduceIte, ↓reduceIte, reduceCtorEq, nA, nS, nM, nB, nE, nL, nT, nN, iL, iT, iE, iA, iM, iS, iG, iB, iN, iZ, h, eqv_intne, eqv_bytes, eqv_boolne, q0, q1, q2, q3, q4]
  simp only [eqv_bool, eqv_int, Out.eqv (Out.mk xKind xId xSource (Response.mk xResponseStatus xResponseHeaders xResponseBody) (Request.mk xRequestMethod xRequestHost xRequestPath xRequestHeaders)) (Out.mk yKind yId ySource (Response.mk yResponseStatus yResponseHeaders yResponseBody) (Request.mk yRequestMethod yRequestHost yRequestPath yRequestHeaders)), if_b, not_eq_t, if_nb, Bool.and_true]) (rfl)
noncomputable def s25 : SP Try.prog := mkS tyA 25 Try.f25 [s70] { md := [.ro 1, .ro 1], rg := [(0, [0, 1], []), (1, [0, 1, 10], []), (2, [4], []), (3, [0, 1, 5], []), (4, [0, 1, 5, 14], []), (5, [0, 1, 5], []), (6, [0, 1, 5, 26], []), (7, [4], []), (8, [4], [])], lv := [(0, [0, 1, 5], [])], out := [(0, [], [])], rets := some ([4], []), plan := [(6, (.take 0 (.take 1 (.take 2 (.take 3 (.take 4 (.take 5 (.take 6 (.take 7 (.one 8 (.take 9 .done)))))))))))] } Try.func25 (by kernel_rfl)
@[go_sem] theorem d25 : s25.g = 25 ∧ s25.fs = ⟨[.ro 1, .ro 1], s25.F, false⟩ := ⟨nr rfl, nr rfl⟩
@[go_sem] theorem e25 (xs ys : List Out) (h0 : smL smOut xs) : s25.F [.sl .ro 10 (xs.map (rOut .ro)), .sl .ro 10 (ys.map (rOut .ro))] = some (.b (eqv xs ys), [.u, .u]) := mkS_eq (xs.length + 1) rfl rfl (fun cx h => by
  have hb := loopN_eq Try.f25 0 _ _ rfl rfl
  have hx := h0.1
  by_cases hl : xs.length = ys.length
  · obtain ⟨r, hr, hq⟩ := loop_list (cx := cx) (blk := 0) (body := loopN Try.f25 0) (xs.zip ys) (fun k (_ : Unit) => ⟨E [(0, .sl .ro 10 (xs.map (rOut .ro))), (1, .sl .ro 10 (ys.map (rOut .ro))), (5, .i .i64 k)], B []⟩) (fun _ => ⟨E [], B []⟩) (fun x _ => !eqv x.1 x.2) (fun _ _ => ()) (fun _ _ => (.ret, ⟨E [(4, .b false)], B []⟩)) (fun _ _ => True)
      (fun l _ G => by simp only [go_sem, reduceIte, ↓reduceIte, reduceCtorEq, nA, nS, nM, nB, nE, nL, nT, nN, iL, iT, iE, iA, iM, iS, iG, iB, iN, iZ, h, zip_len hl, hl, Int.lt_irrefl, hb]) (fun k hk l _ => by
        have hk : k < xs.length := by rwa [zip_len hl] at hk
        have h1 : ((k : Int) < (xs.length : Int)) := Int.ofNat_lt.2 hk
        have h2 := h0.2 _ (List.getElem_mem hk)
        have h3 : (xs.zip ys)[k] = (xs[k], ys[k]'(by omega)) := by simp
        rw [h3]
        cases hc : eqv xs[k] (ys[k]'(by omega))
        · exact .inl ⟨rfl, fun G => by simp only [go_sem, reduceIte, ↓reduceIte, reduceCtorEq, nA, nS, nM, nB, nE, nL, nT, nN, iL, iT, iE, iA, iM, iS, iG, iB, iN, iZ, h, hc, map_gd (rOut .ro) xs k hk, map_gd (rOut .ro) ys k (by omega), idx_nt ys.length k (by omega), h2, h1, idx_nt _ _ hk, wrap_nat1 (show k < 9223372036854775807 by omega), hb]⟩
        · exact .inr ⟨rfl, trivial, _, fun G => by simp only [go_sem, reduceIte, ↓reduceIte, reduceCtorEq, nA, nS, nM, nB, nE, nL, nT, nN, iL, iT, iE, iA, iM, iS, iG, iB, iN, iZ, h, hc, map_gd (rOut .ro) xs k hk, map_gd (rOut .ro) ys k (by omega), idx_nt ys.length k (by omega), h2, h1, idx_nt _ _ hk, wrap_nat1 (show k < 9223372036854775807 by omega), hb] <;> with_reducible rfl, by simp only [go_sem, reduceIte, ↓reduceIte, reduceCtorEq, nA, nS, nM, nB, nE, nL, nT, nN, iL, iT, iE, iA, iM, iS, iG, iB, iN, iZ, h]⟩) () trivial (xs.length + 1) (by rw [zip_len hl]; exact Nat.le_refl _)
    rw [hb] at hr
    have hl2 : ((xs.length : Int) != (ys.length : Int)) = false := by simp [hl]
    rcases hq with ⟨s', e1, e2, e3⟩ | ⟨x, s', e1, e3⟩
    · simp only [go_sem, reduceIte, ↓reduceIte, reduceCtorEq, nA, nS, nM, nB, nE, nL, nT, nN, iL, iT, iE, iA, iM, iS, iG, iB, iN, iZ, h, hl2, hr, e3, zip_eqv hl e1]
    · simp only [go_sem, reduceIte, ↓reduceIte, reduceCtorEq, nA, nS, nM, nB, nE, nL, nT, nN, iL, iT, iE, iA, iM, iS, iG, iB, iN, iZ, h, hl2, hr, e3, zip_nev hl e1]
  · have hl2 : ((xs.length : Int) != (ys.length : Int)) = true := by simpa using fun h => hl (Int.ofNat_inj.1 h)
    simp only [go_sem, reduceIte, ↓reduceIte, reduceCtorEq, nA, nS, nM, nB, nE, nL, nT, nN, iL, iT, iE, iA, iM, iS, iG, iB, iN, iZ, h, hl2, len_nev hl]) (rfl)
noncomputable def s71 : SP Try.prog := mkS tyA 71 Try.f71 [] { md := [.ro 1], rg := [(0, [0], []), (1, [0, 5], []), (2, [2], []), (3, [0, 3], []), (4, [0, 3, 7], []), (5, [0, 3], []), (6, [0, 3], []), (7, [2], [])], lv := [(0, [0, 3], [])], out := [(0, [3], [])], rets := some ([2], []) } Try.func71 (by kernel_rfl)
@[go_sem] theorem d71 : s71.g = 71 ∧ s71.fs = ⟨[.ro 1], s71.F, false⟩ := ⟨nr rfl, nr rfl⟩
@[go_sem] theorem e71 (k : Int) (h0 : k + 1 ≤ 9223372036854775807) : s71.F [.i .i64 k] = some (.s (mkText k), [.u]) := mkS_eq (k.toNat + 1) rfl rfl (fun cx h => by
  have hb := loopN_eq Try.f71 0 _ _ rfl rfl
  have lp := loop_gen (cx := cx) (blk := 0) (body := loopN Try.f71 0) (fun (p : Int × ByteArray) => ⟨E [(0, .i .i64 p.1), (3, .s p.2)], B []⟩) (fun p => 0 ≤ p.1 ∧ p.1 + p.2.size ≤ 9223372036854775807) (fun p => p.1.toNat) (fun p r => r = some (.ex 0, ⟨E [(3, .s (digs p.1.toNat p.1 p.2))], B []⟩)) (fun ⟨k, s⟩ ⟨i1, i2⟩ => by
    simp only at i1 i2 ⊢
    by_cases hk : 0 < k
    · have e1 : k.tdiv 10 = k / 10 := Int.tdiv_eq_ediv_of_nonneg i1
      have e2 : k.tmod 10 = k % 10 := Int.tmod_eq_emod_of_nonneg i1
      have w1 : (IntKind.i64).wrap (48 + k.tmod 10) = 48 + k.tmod 10 := wrap_id (by omega) (by omega)
      have w2 : (IntKind.u8).wrap (48 + k.tmod 10) = (48 + k.tmod 10) % 256 := by simp [IntKind.wrap, IntKind.bits, IntKind.signed]
      have w3 : (IntKind.i64).wrap (k.tdiv 10) = k.tdiv 10 := wrap_id (by omega) (by omega)
      have z2 : (#[UInt8.ofNat ((48 + k.tmod 10) % 256).toNat] : Array UInt8).size + s.size ≤ 9223372036854775807 := by show 1 + s.size ≤ _; omega
      refine .inr ⟨_, (k.tdiv 10, ByteArray.mk #[UInt8.ofNat ((48 + k.tmod 10) % 256).toNat] ++ s), ?_, ?_, ?_, ?_, fun G => by simp only [go_sem, reduceIte, ↓reduceIte, reduceCtorEq, nA, nS, nM, nB, nE, nL, nT, nN, iL, iT, iE, iA, iM, iS, iG, iB, iN, iZ, h, hb, hk, w1, w2, w3, z2, strOf]; rfl⟩
      · simp only [go_sem, reduceIte, ↓reduceIte, reduceCtorEq, nA, nS, nM, nB, nE, nL, nT, nN, iL, iT, iE, iA, iM, iS, iG, iB, iN, iZ, h]
      · rw [ByteArray.size_append]; exact ⟨by show 0 ≤ k.tdiv 10; omega, by show k.tdiv 10 + ((1 + s.size : Nat) : Int) ≤ _; omega⟩
      · simp only; omega
      · intro r hr
        rw [hr, show digs k.toNat k s = digs (k.tdiv 10).toNat (k.tdiv 10) (ByteArray.mk #[UInt8.ofNat ((48 + k.tmod 10) % 256).toNat] ++ s) from by
          obtain ⟨m, hm⟩ : ∃ m, k.toNat = m + 1 := ⟨k.toNat - 1, by omega⟩
          rw [hm, digs, if_pos hk]
          exact digs_stop _ _ _ _ (by omega) (Nat.le_refl _)]
    · obtain rfl : k = 0 := by omega
      exact .inl fun G => by simp only [go_sem, reduceIte, ↓reduceIte, reduceCtorEq, nA, nS, nM, nB, nE, nL, nT, nN, iL, iT, iE, iA, iM, iS, iG, iB, iN, iZ, h, hb, digs])
  rw [hb] at lp
  unfold mkText
  by_cases hk : k ≤ 0
  · simp only [go_sem, reduceIte, ↓reduceIte, reduceCtorEq, nA, nS, nM, nB, nE, nL, nT, nN, iL, iT, iE, iA, iM, iS, iG, iB, iN, iZ, h, hk]
  · have l1 := lp (k.toNat + 1) (k, ⟨#[]⟩) ⟨by omega, by show k + ((0 : Nat) : Int) ≤ _; omega⟩ (Nat.lt_succ_self _)
    have z3 : (#[109] : Array UInt8).size + (digs k.toNat k ⟨#[]⟩).size ≤ 9223372036854775807 := by
      have := digs_size k.toNat k ⟨#[]⟩
      show 1 + _ ≤ _
      have e2 : (ByteArray.mk #[]).size = 0 := rfl
      omega
    simp only [go_sem, reduceIte, ↓reduceIte, reduceCtorEq, nA, nS, nM, nB, nE, nL, nT, nN, iL, iT, iE, iA, iM, iS, iG, iB, iN, iZ, h, hk, l1, z3]) (rfl)
noncomputable def s72 : SP Try.prog := mkS tyA 72 Try.f72 [s71] { md := [.mv, .ro 1], rg := [(0, [0, 1], []), (1, [0, 1, 5], []), (2, [0, 1, 5, 9], []), (3, [0, 1, 5], []), (4, [0, 1, 5], []), (5, [0, 1, 5], []), (6, [0, 1, 5], []), (7, [0, 1, 5], []), (8, [0, 4], [])], lv := [(0, [0, 1, 5], [])], out := [(0, [0, 1], [])], rets := some ([0, 4], []) } Try.func72 (by kernel_rfl)
@[go_sem] theorem d72 : s72.g = 72 ∧ s72.fs = ⟨[.mv, .ro 1], s72.F, false⟩ := ⟨nr rfl, nr rfl⟩
@[go_sem] theorem e72 (xs : List Header) (k : Int) (h1 : 0 ≤ k) (h0 : (mkL mkHeaderE xs k).2 ≤ 9223372036854775807) : s72.F [.sl .mut 2 (xs.map (rHeader .mut)), .i .i64 k] = some (.i .i64 (mkL mkHeaderE xs k).2, [.sl .mut 2 ((mkL mkHeaderE xs k).1.map (rHeader .mut)), .u]) := mkS_eq (xs.length + 1) rfl rfl (fun cx h => by
  have hb := loopN_eq Try.f72 0 _ _ rfl rfl
  have hx := mkL_cnt mkHeaderE_ge xs k
  have hr := (loop_fold (cx := cx) (blk := 0) (body := loopN Try.f72 0) xs (fun i (s : Int) => ⟨E [(0, .sl .mut 2 ((mkUp mkHeaderE xs k i).map (rHeader .mut))), (1, .i .i64 s), (5, .i .i64 i)], B []⟩) (fun _ => ⟨E [(0, .sl .mut 2 ((mkL mkHeaderE xs k).1.map (rHeader .mut))), (1, .i .i64 (mkL mkHeaderE xs k).2)], B []⟩) (fun x s => (mkHeaderE x s).2) (fun i s => s = mkAt mkHeaderE xs k i)
    (fun s hI G => by simp only [go_sem, reduceIte, ↓reduceIte, reduceCtorEq, nA, nS, nM, nB, nE, nL, nT, nN, iL, iT, iE, iA, iM, iS, iG, iB, iN, iZ, h, Int.lt_irrefl, hb, mkUp_len, mkL_take, mkUp_take, mkUp_end, mkL_len, hI, mkAt_end]) (fun i hk s hI => by
      have h2 : ((i : Int) < (xs.length : Int)) := Int.ofNat_lt.2 hk
      have g1 := mkAt_ge mkHeaderE_ge xs k i
      have g2 := mkAt_le mkHeaderE_ge xs k i hk
      rw [← hI] at g1 g2

      have h3 := mkUp_set (f := mkHeaderE) (rHeader .mut) xs k i hk
      rw [← hI] at h3
      simp only [mkHeaderE, rHeader] at h3 g2
      have v0 : (IntKind.i64).wrap (s) = s := wrap_id (by omega) (by omega)
      have t1 : s + 1 ≤ 9223372036854775807 := by omega
      have v1 : (IntKind.i64).wrap (s + 1) = s + 1 := wrap_id (by omega) (by omega)
      have t2 : s + 1 + 1 ≤ 9223372036854775807 := by omega
      have v2 : (IntKind.i64).wrap (s + 1 + 1) = s + 1 + 1 := wrap_id (by omega) (by omega)
      have hL : i < ((mkUp mkHeaderE xs k i).map (rHeader .mut)).length := by rw [List.length_map, mkUp_len]; exact hk
      have hg := fun y => set_get ((mkUp mkHeaderE xs k i).map (rHeader .mut)) i y hL
      have hG := fun y => set_getD ((mkUp mkHeaderE xs k i).map (rHeader .mut)) i y hL
      refine ⟨by rw [mkAt_succ xs k i hk, ← hI], _, fun G => by simp only [go_sem, reduceIte, ↓reduceIte, reduceCtorEq, nA, nS, nM, nB, nE, nL, nT, nN, iL, iT, iE, iA, iM, iS, iG, iB, iN, iZ, h, h3, hg, hG, mkUp_len (f := mkHeaderE) xs k i, mkUp_get (f := mkHeaderE) (rHeader .mut) xs k i hk, mkUp_getD (f := mkHeaderE) (rHeader .mut) xs k i hk, mkUp_take (f := mkHeaderE) (rHeader .mut) xs k i, mkB_def, v0, t1, v1, t2, v2, h2, idx_nt _ _ hk, wrap_nat1 (show i < 9223372036854775807 by omega), hb] <;> with_reducible rfl, by simp only [go_sem, reduceIte, ↓reduceIte, reduceCtorEq, nA, nS, nM, nB, nE, nL, nT, nN, iL, iT, iE, iA, iM, iS, iG, iB, iN, iZ, h, mkHeaderE]⟩) k rfl (xs.length + 1) (Nat.le_refl _)).2
  rw [hb] at hr
  simp only [go_sem, reduceIte, ↓reduceIte, reduceCtorEq, nA, nS, nM, nB, nE, nL, nT, nN, iL, iT, iE, iA, iM, iS, iG, iB, iN, iZ, h, hr, mkUp_zero]) (by simp only [go_sem, reduceIte, ↓reduceIte, reduceCtorEq, nA, nS, nM, nB, nE, nL, nT, nN, iL, iT, iE, iA, iM, iS, iG, iB, iN, iZ, okRes, hasRo])
noncomputable def s73 : SP Try.prog := mkS tyA 73 Try.f73 [] { md := [.mv, .ro 1], rg := [(0, [0, 1], []), (1, [0, 1, 5], []), (2, [0, 1, 5, 9], []), (3, [0, 1, 5], []), (4, [0, 1, 5], []), (5, [0, 1, 5], []), (6, [0, 4], [])], lv := [(0, [0, 1, 5], [])], out := [(0, [0, 1], [])], rets := some ([0, 4], []) } Try.func73 (by kernel_rfl)
@[go_sem] theorem d73 : s73.g = 73 ∧ s73.fs = ⟨[.mv, .ro 1], s73.F, false⟩ := ⟨nr rfl, nr rfl⟩
@[go_sem] theorem e73 (xs : List UInt8) (k : Int) (h1 : 0 ≤ k) (h0 : (mkL mkByte xs k).2 ≤ 9223372036854775807) : s73.F [.sl .mut 1 (xs.map rByte), .i .i64 k] = some (.i .i64 (mkL mkByte xs k).2, [.sl .mut 1 ((mkL mkByte xs k).1.map rByte), .u]) := mkS_eq (xs.length + 1) rfl rfl (fun cx h => by
  have hb := loopN_eq Try.f73 0 _ _ rfl rfl
  have hx := mkL_cnt mkByte_ge xs k
  have hr := (loop_fold (cx := cx) (blk := 0) (body := loopN Try.f73 0) xs (fun i (s : Int) => ⟨E [(0, .sl .mut 1 ((mkUp mkByte xs k i).map rByte)), (1, .i .i64 s), (5, .i .i64 i)], B []⟩) (fun _ => ⟨E [(0, .sl .mut 1 ((mkL mkByte xs k).1.map rByte)), (1, .i .i64 (mkL mkByte xs k).2)], B []⟩) (fun x s => (mkByte x s).2) (fun i s => s = mkAt mkByte xs k i)
    (fun s hI G => by simp only [go_sem, reduceIte, ↓reduceIte, reduceCtorEq, nA, nS, nM, nB, nE, nL, nT, nN, iL, iT, iE, iA, iM, iS, iG, iB, iN, iZ, h, Int.lt_irrefl, hb, mkUp_len, mkL_take, mkUp_take, mkUp_end, mkL_len, hI, mkAt_end]) (fun i hk s hI => by
      have h2 : ((i : Int) < (xs.length : Int)) := Int.ofNat_lt.2 hk
      have g1 := mkAt_ge mkByte_ge xs k i
      have g2 := mkAt_le mkByte_ge xs k i hk
      rw [← hI] at g1 g2

      have h3 := mkUp_set (f := mkByte) rByte xs k i hk
      rw [← hI] at h3
      simp only [mkByte, rByte] at h3 g2
      have v0 : (IntKind.i64).wrap (s) = s := wrap_id (by omega) (by omega)
      have v1 : (IntKind.i64).wrap (s + 1) = s + 1 := wrap_id (by omega) (by omega)
      have hL : i < ((mkUp mkByte xs k i).map rByte).length := by rw [List.length_map, mkUp_len]; exact hk
      have hg := fun y => set_get ((mkUp mkByte xs k i).map rByte) i y hL
      have hG := fun y => set_getD ((mkUp mkByte xs k i).map rByte) i y hL
      refine ⟨by rw [mkAt_succ xs k i hk, ← hI], _, fun G => by simp only [go_sem, reduceIte, ↓reduceIte, reduceCtorEq, nA, nS, nM, nB, nE, nL, nT, nN, iL, iT, iE, iA, iM, iS, iG, iB, iN, iZ, h, h3, hg, hG, mkUp_len (f := mkByte) xs k i, mkUp_get (f := mkByte) rByte xs k i hk, mkUp_getD (f := mkByte) rByte xs k i hk, mkUp_take (f := mkByte) rByte xs k i, mkB_def, v0, v1, h2, idx_nt _ _ hk, wrap_nat1 (show i < 9223372036854775807 by omega), hb] <;> with_reducible rfl, by simp only [go_sem, reduceIte, ↓reduceIte, reduceCtorEq, nA, nS, nM, nB, nE, nL, nT, nN, iL, iT, iE, iA, iM, iS, iG, iB, iN, iZ, h, mkByte]⟩) k rfl (xs.length + 1) (Nat.le_refl _)).2
  rw [hb] at hr
  simp only [go_sem, reduceIte, ↓reduceIte, reduceCtorEq, nA, nS, nM, nB, nE, nL, nT, nN, iL, iT, iE, iA, iM, iS, iG, iB, iN, iZ, h, hr, mkUp_zero]) (by simp only [go_sem, reduceIte, ↓reduceIte, reduceCtorEq, nA, nS, nM, nB, nE, nL, nT, nN, iL, iT, iE, iA, iM, iS, iG, iB, iN, iZ, okRes, hasRo])
noncomputable def s26 : SP Try.prog := mkS tyA 26 Try.f26 [s71, s72, s73] { md := [.mv, .ro 1], rg := [(0, [0, 1], []), (1, [0, 1, 5], []), (2, [0, 1, 5, 9], []), (3, [0, 1, 5], []), (4, [0, 1, 5], []), (5, [0, 1, 5], []), (6, [0, 1, 5], []), (7, [0, 1, 5], []), (8, [0, 1, 5], []), (9, [0, 1, 5], []), (10, [0, 1, 5], []), (11, [0, 1, 5], []), (12, [0, 1, 5], []), (13, [0, 1, 5], []), (14, [0, 1, 5], []), (15, [0, 1, 5], []), (16, [0, 1, 5], []), (17, [0, 1, 5], []), (18, [0, 1, 5], []), (19, [0, 1, 5], []), (20, [0, 1, 5], []), (21, [0, 4], [])], lv := [(0, [0, 1, 5], [])], out := [(0, [0, 1], [])], rets := some ([0, 4], []) } Try.func26 (by kernel_rfl)
@[go_sem] theorem d26 : s26.g = 26 ∧ s26.fs = ⟨[.mv, .ro 1], s26.F, false⟩ := ⟨nr rfl, nr rfl⟩
@[go_sem] theorem e26 (xs : List Out) (k : Int) (h1 : 0 ≤ k) (h0 : (mkL mkOutE xs k).2 ≤ 9223372036854775807) : s26.F [.sl .mut 10 (xs.map (rOut .mut)), .i .i64 k] = some (.i .i64 (mkL mkOutE xs k).2, [.sl .mut 10 ((mkL mkOutE xs k).1.map (rOut .mut)), .u]) := mkS_eq (xs.length + 1) rfl rfl (fun cx h => by
  have hb := loopN_eq Try.f26 0 _ _ rfl rfl
  have hx := mkL_cnt mkOutE_ge xs k
  have hr := (loop_fold (cx := cx) (blk := 0) (body := loopN Try.f26 0) xs (fun i (s : Int) => ⟨E [(0, .sl .mut 10 ((mkUp mkOutE xs k i).map (rOut .mut))), (1, .i .i64 s), (5, .i .i64 i)], B []⟩) (fun _ => ⟨E [(0, .sl .mut 10 ((mkL mkOutE xs k).1.map (rOut .mut))), (1, .i .i64 (mkL mkOutE xs k).2)], B []⟩) (fun x s => (mkOutE x s).2) (fun i s => s = mkAt mkOutE xs k i)
    (fun s hI G => by simp only [go_sem, reduceIte, ↓reduceIte, reduceCtorEq, nA, nS, nM, nB, nE, nL, nT, nN, iL, iT, iE, iA, iM, iS, iG, iB, iN, iZ, h, Int.lt_irrefl, hb, mkUp_len, mkL_take, mkUp_take, mkUp_end, mkL_len, hI, mkAt_end]) (fun i hk s hI => by
      have h2 : ((i : Int) < (xs.length : Int)) := Int.ofNat_lt.2 hk
      have g1 := mkAt_ge mkOutE_ge xs k i
      have g2 := mkAt_le mkOutE_ge xs k i hk
      rw [← hI] at g1 g2
      obtain ⟨q0, hq0⟩ : ∃ q, (mkL mkHeaderE xs[i].Response.Headers (s + 1 + 1 + 1 + 1)).2 = q := ⟨_, rfl⟩
      have b0 := mkL_ge mkHeaderE_ge xs[i].Response.Headers (s + 1 + 1 + 1 + 1)
      rw [hq0] at b0
      obtain ⟨q1, hq1⟩ : ∃ q, (mkL mkByte xs[i].Response.Body (q0)).2 = q := ⟨_, rfl⟩
      have b1 := mkL_ge mkByte_ge xs[i].Response.Body (q0)
      rw [hq1] at b1
      obtain ⟨q2, hq2⟩ : ∃ q, (mkL mkHeaderE xs[i].Request.Headers (q1 + 1 + 1 + 1)).2 = q := ⟨_, rfl⟩
      have b2 := mkL_ge mkHeaderE_ge xs[i].Request.Headers (q1 + 1 + 1 + 1)
      rw [hq2] at b2
      have h3 := mkUp_set (f := mkOutE) (rOut .mut) xs k i hk
      rw [← hI] at h3
      simp only [mkOutE, rOut, hq0, hq1, hq2] at h3 g2
      have v0 : (IntKind.i64).wrap (s) = s := wrap_id (by omega) (by omega)
      have v1 : (IntKind.i64).wrap (s + 1) = s + 1 := wrap_id (by omega) (by omega)
      have v2 : (IntKind.i64).wrap (s + 1 + 1) = s + 1 + 1 := wrap_id (by omega) (by omega)
      have t3 : s + 1 + 1 + 1 ≤ 9223372036854775807 := by omega
      have v3 : (IntKind.i64).wrap (s + 1 + 1 + 1) = s + 1 + 1 + 1 := wrap_id (by omega) (by omega)
      have v4 : (IntKind.i64).wrap (s + 1 + 1 + 1 + 1) = s + 1 + 1 + 1 + 1 := wrap_id (by omega) (by omega)
      have p0 : 0 ≤ s + 1 + 1 + 1 + 1 := by omega
      have c0 : q0 ≤ 9223372036854775807 := by omega
      have d0 : ¬ (q0 < 0) := by omega
      have v5 : (IntKind.i64).wrap (q0) = q0 := wrap_id (by omega) (by omega)
      have p1 : 0 ≤ q0 := by omega
      have c1 : q1 ≤ 9223372036854775807 := by omega
      have d1 : ¬ (q1 < 0) := by omega
      have v6 : (IntKind.i64).wrap (q1) = q1 := wrap_id (by omega) (by omega)
      have t7 : q1 + 1 ≤ 9223372036854775807 := by omega
      have v7 : (IntKind.i64).wrap (q1 + 1) = q1 + 1 := wrap_id (by omega) (by omega)
      have t8 : q1 + 1 + 1 ≤ 9223372036854775807 := by omega
      have v8 : (IntKind.i64).wrap (q1 + 1 + 1) = q1 + 1 + 1 := wrap_id (by omega) (by omega)
      have t9 : q1 + 1 + 1 + 1 ≤ 9223372036854775807 := by omega
      have v9 : (IntKind.i64).wrap (q1 + 1 + 1 + 1) = q1 + 1 + 1 + 1 := wrap_id (by omega) (by omega)
      have p2 : 0 ≤ q1 + 1 + 1 + 1 := by omega
      have c2 : q2 ≤ 9223372036854775807 := by omega
      have d2 : ¬ (q2 < 0) := by omega
      have v10 : (IntKind.i64).wrap (q2) = q2 := wrap_id (by omega) (by omega)
      have hL : i < ((mkUp mkOutE xs k i).map (rOut .mut)).length := by rw [List.length_map, mkUp_len]; exact hk
      have hg := fun y => set_get ((mkUp mkOutE xs k i).map (rOut .mut)) i y hL
      have hG := fun y => set_getD ((mkUp mkOutE xs k i).map (rOut .mut)) i y hL
      refine ⟨by rw [mkAt_succ xs k i hk, ← hI], _, fun G => by simp only [go_sem, reduceIte, ↓reduceIte, reduceCtorEq, nA, nS, nM, nB, nE, nL, nT, nN, iL, iT, iE, iA, iM, iS, iG, iB, iN, iZ, h, h3, hg, hG, mkUp_len (f := mkOutE) xs k i, mkUp_get (f := mkOutE) (rOut .mut) xs k i hk, mkUp_getD (f := mkOutE) (rOut .mut) xs k i hk, mkUp_take (f := mkOutE) (rOut .mut) xs k i, mkB_def, hq0, hq1, hq2, v0, v1, v2, t3, v3, v4, p0, c0, d0, v5, p1, c1, d1, v6, t7, v7, t8, v8, t9, v9, p2, c2, d2, v10, h2, idx_nt _ _ hk, wrap_nat1 (show i < 9223372036854775807 by omega), hb] <;> with_reducible rfl, by simp only [go_sem, reduceIte, ↓reduceIte, reduceCtorEq, nA, nS, nM, nB, nE, nL, nT, nN, iL, iT, iE, iA, iM, iS, iG, iB, iN, iZ, h, mkOutE, hq0, hq1, hq2]⟩) k rfl (xs.length + 1) (Nat.le_refl _)).2
  rw [hb] at hr
  simp only [go_sem, reduceIte, ↓reduceIte, reduceCtorEq, nA, nS, nM, nB, nE, nL, nT, nN, iL, iT, iE, iA, iM, iS, iG, iB, iN, iZ, h, hr, mkUp_zero]) (by simp only [go_sem, reduceIte, ↓reduceIte, reduceCtorEq, nA, nS, nM, nB, nE, nL, nT, nN, iL, iT, iE, iA, iM, iS, iG, iB, iN, iZ, okRes, hasRo])
noncomputable def s74 : SP Try.prog := mkS tyA 74 Try.f74 [s71] { md := [.mv, .ro 1], rg := [(0, [0, 1], []), (1, [0, 1, 5], []), (2, [0, 1, 5, 9], []), (3, [0, 1, 5], []), (4, [0, 1, 5], []), (5, [0, 1, 5], []), (6, [0, 4], [])], lv := [(0, [0, 1, 5], [])], out := [(0, [0, 1], [])], rets := some ([0, 4], []) } Try.func74 (by kernel_rfl)
@[go_sem] theorem d74 : s74.g = 74 ∧ s74.fs = ⟨[.mv, .ro 1], s74.F, false⟩ := ⟨nr rfl, nr rfl⟩
@[go_sem] theorem e74 (xs : List ByteArray) (k : Int) (h1 : 0 ≤ k) (h0 : (mkL mkStr xs k).2 ≤ 9223372036854775807) : s74.F [.sl .mut 1 (xs.map rStr), .i .i64 k] = some (.i .i64 (mkL mkStr xs k).2, [.sl .mut 1 ((mkL mkStr xs k).1.map rStr), .u]) := mkS_eq (xs.length + 1) rfl rfl (fun cx h => by
  have hb := loopN_eq Try.f74 0 _ _ rfl rfl
  have hx := mkL_cnt mkStr_ge xs k
  have hr := (loop_fold (cx := cx) (blk := 0) (body := loopN Try.f74 0) xs (fun i (s : Int) => ⟨E [(0, .sl .mut 1 ((mkUp mkStr xs k i).map rStr)), (1, .i .i64 s), (5, .i .i64 i)], B []⟩) (fun _ => ⟨E [(0, .sl .mut 1 ((mkL mkStr xs k).1.map rStr)), (1, .i .i64 (mkL mkStr xs k).2)], B []⟩) (fun x s => (mkStr x s).2) (fun i s => s = mkAt mkStr xs k i)
    (fun s hI G => by simp only [go_sem, reduceIte, ↓reduceIte, reduceCtorEq, nA, nS, nM, nB, nE, nL, nT, nN, iL, iT, iE, iA, iM, iS, iG, iB, iN, iZ, h, Int.lt_irrefl, hb, mkUp_len, mkL_take, mkUp_take, mkUp_end, mkL_len, hI, mkAt_end]) (fun i hk s hI => by
      have h2 : ((i : Int) < (xs.length : Int)) := Int.ofNat_lt.2 hk
      have g1 := mkAt_ge mkStr_ge xs k i
      have g2 := mkAt_le mkStr_ge xs k i hk
      rw [← hI] at g1 g2

      have h3 := mkUp_set (f := mkStr) rStr xs k i hk
      rw [← hI] at h3
      simp only [mkStr, rStr] at h3 g2
      have v0 : (IntKind.i64).wrap (s) = s := wrap_id (by omega) (by omega)
      have t1 : s + 1 ≤ 9223372036854775807 := by omega
      have v1 : (IntKind.i64).wrap (s + 1) = s + 1 := wrap_id (by omega) (by omega)
      have hL : i < ((mkUp mkStr xs k i).map rStr).length := by rw [List.length_map, mkUp_len]; exact hk
      have hg := fun y => set_get ((mkUp mkStr xs k i).map rStr) i y hL
      have hG := fun y => set_getD ((mkUp mkStr xs k i).map rStr) i y hL
      refine ⟨by rw [mkAt_succ xs k i hk, ← hI], _, fun G => by simp only [go_sem, reduceIte, ↓reduceIte, reduceCtorEq, nA, nS, nM, nB, nE, nL, nT, nN, iL, iT, iE, iA, iM, iS, iG, iB, iN, iZ, h, h3, hg, hG, mkUp_len (f := mkStr) xs k i, mkUp_get (f := mkStr) rStr xs k i hk, mkUp_getD (f := mkStr) rStr xs k i hk, mkUp_take (f := mkStr) rStr xs k i, mkB_def, v0, t1, v1, h2, idx_nt _ _ hk, wrap_nat1 (show i < 9223372036854775807 by omega), hb] <;> with_reducible rfl, by simp only [go_sem, reduceIte, ↓reduceIte, reduceCtorEq, nA, nS, nM, nB, nE, nL, nT, nN, iL, iT, iE, iA, iM, iS, iG, iB, iN, iZ, h, mkStr]⟩) k rfl (xs.length + 1) (Nat.le_refl _)).2
  rw [hb] at hr
  simp only [go_sem, reduceIte, ↓reduceIte, reduceCtorEq, nA, nS, nM, nB, nE, nL, nT, nN, iL, iT, iE, iA, iM, iS, iG, iB, iN, iZ, h, hr, mkUp_zero]) (by simp only [go_sem, reduceIte, ↓reduceIte, reduceCtorEq, nA, nS, nM, nB, nE, nL, nT, nN, iL, iT, iE, iA, iM, iS, iG, iB, iN, iZ, okRes, hasRo])
noncomputable def s27 : SP Try.prog := mkS tyA 27 Try.f27 [s74] { md := [.mv, .ro 1], rg := [(0, [0, 1, 2], [2]), (1, [0, 1], []), (2, [0, 4], [])], rets := some ([0, 4], []), al := [2] } Try.func27 (by kernel_rfl)
@[go_sem] theorem d27 : s27.g = 27 ∧ s27.fs = ⟨[.mv, .ro 1], s27.F, false⟩ := ⟨nr rfl, nr rfl⟩
@[go_sem] theorem e27 (xCode : Int) (xNames : List ByteArray) (k : Int) (h1 : 0 ≤ k) (h0 : (mkNamesResultV (NamesResult.mk xCode xNames) k).2 ≤ 9223372036854775807) : s27.F [.agg [.i .i64 xCode, .sl .mut 1 (xNames.map rStr)], .i .i64 k] = some (.i .i64 (mkNamesResultV (NamesResult.mk xCode xNames) k).2, [.agg (rNamesResult .mut (mkNamesResultV (NamesResult.mk xCode xNames) k).1), .u]) := mkS_eq (0) rfl rfl (fun cx h => by
  obtain ⟨q0, hq0⟩ : ∃ q, (mkL mkStr xNames k).2 = q := ⟨_, rfl⟩
  have b0 := mkL_ge mkStr_ge xNames k
  rw [hq0] at b0
  have p0 : 0 ≤ k := by omega
  simp only [mkNamesResultV_eq, hq0] at h0
  have c0 : q0 ≤ 9223372036854775807 := by omega
  have d0 : ¬ (q0 < 0) := by omega
  simp only [go_sem, reduceIte, ↓reduceIte, reduceCtorEq, nA, nS, nM, nB, nE, nL, nT, nN, iL, iT, iE, iA, iM, iS, iG, iB, iN, iZ, h, p0, c0, d0, hq0, mkNamesResultV_eq]) (by simp only [go_sem, reduceIte, ↓reduceIte, reduceCtorEq, nA, nS, nM, nB, nE, nL, nT, nN, iL, iT, iE, iA, iM, iS, iG, iB, iN, iZ, mkNamesResultV_eq, okRes, hasRo, hasRoL, hasRoLL])
noncomputable def s75 : SP Try.prog := mkS tyA 75 Try.f75 [s71] { md := [.ro 1, .ro 1], rg := [(0, [0, 1], []), (1, [0, 1, 5], []), (2, [0, 1, 5, 9], []), (3, [0, 1, 5], []), (4, [0, 1, 5, 18], []), (5, [4], []), (6, [0, 1, 5], []), (7, [4], [])], lv := [(0, [0, 1, 5], [])], out := [(0, [1], [])], rets := some ([4], []), plan := [(4, (.take 0 (.take 1 (.take 2 (.take 3 (.take 4 (.one 5 (.take 6 .done))))))))] } Try.func75 (by kernel_rfl)
@[go_sem] theorem d75 : s75.g = 75 ∧ s75.fs = ⟨[.ro 1, .ro 1], s75.F, false⟩ := ⟨nr rfl, nr rfl⟩
@[go_sem] theorem e75 (xs : List ByteArray) (k : Int) (h1 : 0 ≤ k) (h0 : (mkL mkStr xs k).2 ≤ 9223372036854775807) : s75.F [.sl .ro 1 ((mkL mkStr xs k).1.map rStr), .i .i64 k] = some (.i .i64 (mkL mkStr xs k).2, [.u, .u]) := mkS_eq (xs.length + 1) rfl rfl (fun cx h => by
  have hb := loopN_eq Try.f75 0 _ _ rfl rfl
  have hx := mkL_cnt mkStr_ge xs k
  have hr := (loop_fold (cx := cx) (blk := 0) (body := loopN Try.f75 0) xs (fun i (s : Int) => ⟨E [(0, .sl .ro 1 ((mkL mkStr xs k).1.map rStr)), (1, .i .i64 s), (5, .i .i64 i)], B []⟩) (fun _ => ⟨E [(1, .i .i64 (mkL mkStr xs k).2)], B []⟩) (fun x s => (mkStr x s).2) (fun i s => s = mkAt mkStr xs k i)
    (fun s hI G => by simp only [go_sem, reduceIte, ↓reduceIte, reduceCtorEq, nA, nS, nM, nB, nE, nL, nT, nN, iL, iT, iE, iA, iM, iS, iG, iB, iN, iZ, h, Int.lt_irrefl, hb, mkL_len, hI, mkAt_end]) (fun i hk s hI => by
      have h2 : ((i : Int) < (xs.length : Int)) := Int.ofNat_lt.2 hk
      have g1 := mkAt_ge mkStr_ge xs k i
      have g2 := mkAt_le mkStr_ge xs k i hk
      rw [← hI] at g1 g2

      have h3 := mkL_gd (f := mkStr) rStr xs k i hk
      rw [← hI] at h3
      simp only [mkStr, rStr] at h3 g2
      have v0 : (IntKind.i64).wrap (s) = s := wrap_id (by omega) (by omega)
      have t1 : s + 1 ≤ 9223372036854775807 := by omega
      have v1 : (IntKind.i64).wrap (s + 1) = s + 1 := wrap_id (by omega) (by omega)
      refine ⟨by rw [mkAt_succ xs k i hk, ← hI], _, fun G => by simp only [go_sem, reduceIte, ↓reduceIte, reduceCtorEq, nA, nS, nM, nB, nE, nL, nT, nN, iL, iT, iE, iA, iM, iS, iG, iB, iN, iZ, h, h3, mkL_len, mkB_def, v0, t1, v1, h2, idx_nt _ _ hk, wrap_nat1 (show i < 9223372036854775807 by omega), hb] <;> with_reducible rfl, by simp only [go_sem, reduceIte, ↓reduceIte, reduceCtorEq, nA, nS, nM, nB, nE, nL, nT, nN, iL, iT, iE, iA, iM, iS, iG, iB, iN, iZ, h, mkStr]⟩) k rfl (xs.length + 1) (Nat.le_refl _)).2
  rw [hb] at hr
  simp only [go_sem, reduceIte, ↓reduceIte, reduceCtorEq, nA, nS, nM, nB, nE, nL, nT, nN, iL, iT, iE, iA, iM, iS, iG, iB, iN, iZ, h, hr]) (rfl)
noncomputable def s28 : SP Try.prog := mkS tyA 28 Try.f28 [s75] { md := [.ro 1, .ro 1], rg := [(0, [1, 2], [2]), (1, [1], []), (2, [1, 10], []), (3, [4], []), (4, [4], [])], rets := some ([4], []) } Try.func28 (by kernel_rfl)
@[go_sem] theorem d28 : s28.g = 28 ∧ s28.fs = ⟨[.ro 1, .ro 1], s28.F, false⟩ := ⟨nr rfl, nr rfl⟩
@[go_sem] theorem e28 (xCode : Int) (xNames : List ByteArray) (k : Int) (h1 : 0 ≤ k) (h0 : (mkNamesResultV (NamesResult.mk xCode xNames) k).2 ≤ 9223372036854775807) : s28.F [.agg [.i .i64 xCode, .sl .ro 1 ((mkL mkStr xNames k).1.map rStr)], .i .i64 k] = some (.i .i64 (mkNamesResultV (NamesResult.mk xCode xNames) k).2, [.u, .u]) := mkS_eq (0) rfl rfl (fun cx h => by
  obtain ⟨q0, hq0⟩ : ∃ q, (mkL mkStr xNames k).2 = q := ⟨_, rfl⟩
  have b0 := mkL_ge mkStr_ge xNames k
  rw [hq0] at b0
  have p0 : 0 ≤ k := by omega
  simp only [mkNamesResultV_eq, hq0] at h0
  have c0 : q0 ≤ 9223372036854775807 := by omega
  have d0 : ¬ (q0 < 0) := by omega
  simp only [go_sem, reduceIte, ↓reduceIte, reduceCtorEq, nA, nS, nM, nB, nE, nL, nT, nN, iL, iT, iE, iA, iM, iS, iG, iB, iN, iZ, h, p0, c0, d0, hq0, mkNamesResultV_eq]) (rfl)
noncomputable def s5 : SP Try.prog := mkS tyA 5 Try.f5 [s20, s21, s22, s23, s24, s25, s26, s27, s28] { md := [.ro 1, .ro 1], rg := [(0, [0, 1], []), (1, [0, 1, 5], []), (2, [0, 1, 5], []), (3, [0, 1, 17], []), (4, [4], []), (5, [0, 1, 6], [6]), (6, [0, 1, 6, 7], [6]), (7, [0, 1, 6, 7, 8], [6, 8]), (8, [0, 1, 6, 7, 8, 30], [6, 8]), (9, [4], []), (10, [0, 1, 6, 7, 8, 35], [6, 8]), (11, [4], []), (12, [0, 1, 6, 7, 8, 9], [6, 8]), (13, [0, 1, 6, 8, 9], [6, 8]), (14, [0, 1, 6, 8, 46], [6, 8]), (15, [4], []), (16, [0, 1, 6, 8, 10], [6, 8]), (17, [0, 1, 6, 8, 10], [6, 8]), (18, [0, 1, 6, 8, 10, 11], [6, 8]), (19, [0, 1, 6, 8, 10, 11], [6, 8]), (20, [0, 1, 6, 8, 10, 11, 54], [6, 8]), (21, [4], []), (22, [0, 1, 6, 8, 10, 57], [6, 8]), (23, [4], []), (24, [6, 8, 10, 12], [6, 8, 12]), (25, [8, 10, 65], [8]), (26, [4], []), (27, [8, 10, 11], [8]), (28, [10, 11], []), (29, [10, 11, 70], []), (30, [4], []), (31, [73], []), (32, [4], []), (33, [4], [])], rets := some ([4], []) } Try.func5 (by kernel_rfl)
@[go_sem] theorem d5 : s5.g = 5 ∧ s5.fs = ⟨[.ro 1, .ro 1], s5.F, false⟩ := ⟨nr rfl, nr rfl⟩
theorem e5 (outs : List Out) (id : Int) (h0 : (okL okOut) outs ∧ okInt id) : s5.F [.sl .ro 10 (outs.map (rOut .ro)), .i .i64 id] = some (.b true, [.u, .u]) := mkS_eq (0) rfl rfl (fun cx h => by
  have h0_0 := h0.1
  by_cases hc0 : szL szOut outs 1048576 < 0
  · simp only [go_sem, reduceIte, ↓reduceIte, reduceCtorEq, nA, nS, nM, nB, nE, nL, nT, nN, iL, iT, iE, iA, iM, iS, iG, iB, iN, iZ, h, hc0, h0_0]
  obtain ⟨hs0, hl0⟩ := (szL_fact szOut_fact) _ _ h0_0 (by decide) (by decide) (show 0 ≤ szL szOut outs 1048576 by omega)
  obtain ⟨R, hR⟩ : ∃ R, sourcesTo outs id = R := ⟨_, rfl⟩
  have hsm := sourcesTo_sm outs id hs0
  rw [hR] at hsm
  have f0 := mkL_le (c := 5242887) (mkOutE_le) outs 1 hs0
  have g0 := mkL_ge mkOutE_ge outs 1
  have f0' := Int.le_trans f0 (show _ ≤ (9223372036854775807 : Int) by decide)
  have g0' := Int.not_lt.2 (Int.le_trans (show (0 : Int) ≤ 1 by decide) g0)
  have f1 := mkNamesResultV_le R 1 hsm
  have g1 := mkNamesResultV_ge R 1
  have f1' := Int.le_trans f1 (show _ ≤ (9223372036854775807 : Int) by decide)
  have g1' := Int.not_lt.2 (Int.le_trans (show (0 : Int) ≤ 1 by decide) g1)
  simp only [mkNamesResultV_eq] at f0' g0' f1' g1'
  simp only [go_sem, reduceIte, ↓reduceIte, reduceCtorEq, nA, nS, nM, nB, nE, nL, nT, nN, iL, iT, iE, iA, iM, iS, iG, iB, iN, iZ, h, hc0, hs0, h0_0, hR, hsm, f0', g0', f1', g1', eqv_self, mkNamesResultV_eq]) (rfl)
end Go.Vm.A
