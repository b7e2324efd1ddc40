/- Functions of the program, walked by the evaluator. -/
import Derived.Test.YtahcdlpjkcbjgaaWb
import Derived.Test.YtahcdlpjkcbjgaaWa
set_option autoImplicit false
set_option maxRecDepth 100000
set_option maxHeartbeats 4000000
set_option linter.unusedVariables false
set_option linter.unusedSimpArgs false
namespace Go.Vm.A
open Go.Proofs
open Nat renaming reduceAdd → nA, reduceSub → nS, reduceMul → nM, reduceBEq → nB, reduceEqDiff → nE, reduceLeDiff → nL, reduceLT → nT, reduceBneDiff → nN
open Int renaming reduceLE → iL, reduceLT → iT, reduceEq → iE, reduceAdd → iA, reduceMul → iM, reduceSub → iS, reduceNeg → iG, reduceBEq → iB, reduceBNe → iN, reduceToNat → iZ

noncomputable def s7 : SP Try.prog := mkS tyA 7 Try.f7 [] { md := [.ro 1], rets := some ([2], []) } Try.func7 (by kernel_rfl)
@[go_sem] theorem d7 : s7.g = 7 ∧ s7.fs = ⟨[.ro 1], s7.F, false⟩ := ⟨nr rfl, nr rfl⟩
@[go_sem] theorem e7 (code : List UInt8) : s7.F [.sl .ro 1 (code.map rByte)] = some (.b (decide (1048576 < (code.length : Int))), [.u]) := mkS_eq (0) rfl rfl (fun cx h => by
  simp only [go_sem, reduceIte, ↓reduceIte, reduceCtorEq, nA, nS, nM, nB, nE, nL, nT, nN, iL, iT, iE, iA, iM, iS, iG, iB, iN, iZ, h]) (rfl)
def within (a b c : Int) : Bool := decide (b ≤ a) && decide (a ≤ c)
theorem within_t {a b c : Int} : within a b c = true ↔ b ≤ a ∧ a ≤ c := by simp [within]
theorem within_f {a b c : Int} : within a b c = false ↔ ¬ (b ≤ a ∧ a ≤ c) := by rw [← within_t]; simp
noncomputable def s49 : SP Try.prog := mkS tyA 49 Try.f49 [] { md := [.ro 1, .ro 1, .ro 1], rets := some ([6], []) } Try.func49 (by kernel_rfl)
@[go_sem] theorem d49 : s49.g = 49 ∧ s49.fs = ⟨[.ro 1, .ro 1, .ro 1], s49.F, false⟩ := ⟨nr rfl, nr rfl⟩
@[go_sem] theorem e49 (a : Int) (b : Int) (c : Int) : s49.F [.i .i64 a, .i .i64 b, .i .i64 c] = some (.b (within a b c), [.u, .u, .u]) := mkS_eq (0) rfl rfl (fun cx h => by
  simp only [go_sem, reduceIte, ↓reduceIte, reduceCtorEq, nA, nS, nM, nB, nE, nL, nT, nN, iL, iT, iE, iA, iM, iS, iG, iB, iN, iZ, h, within]
  by_cases h : b ≤ a <;> simp [h]) (rfl)
def isTime (a : Int) : Bool := within a 0 1000000000000000
theorem isTime_t {a : Int} : isTime a = true ↔ 0 ≤ a ∧ a ≤ 1000000000000000 := within_t
noncomputable def s50 : SP Try.prog := mkS tyA 50 Try.f50 [s49] { md := [.ro 1], rets := some ([2], []) } Try.func50 (by kernel_rfl)
@[go_sem] theorem d50 : s50.g = 50 ∧ s50.fs = ⟨[.ro 1], s50.F, false⟩ := ⟨nr rfl, nr rfl⟩
@[go_sem] theorem e50 (a : Int) : s50.F [.i .i64 a] = some (.b (isTime a), [.u]) := mkS_eq (0) rfl rfl (fun cx h => by
  simp only [go_sem, reduceIte, ↓reduceIte, reduceCtorEq, nA, nS, nM, nB, nE, nL, nT, nN, iL, iT, iE, iA, iM, iS, iG, iB, iN, iZ, h, isTime]) (rfl)
noncomputable def s86 : SP Try.prog := mkS tyA 86 Try.f86 [] { md := [.ro 1, .ro 1], rets := some ([3], []) } Try.func86 (by kernel_rfl)
@[go_sem] theorem d86 : s86.g = 86 ∧ s86.fs = ⟨[.ro 1, .ro 1], s86.F, false⟩ := ⟨nr rfl, nr rfl⟩
@[go_sem] theorem e86 (mAt : Int) (mGood : Bool) (t : Int) : s86.F [.agg [.i .i64 mAt, .b mGood], .pr [.i .i64 t]] = some (.b (decide (t < (Mark.mk mAt mGood).At)), [.u, .u]) := mkS_eq (0) rfl rfl (fun cx h => by
  simp only [go_sem, reduceIte, ↓reduceIte, reduceCtorEq, nA, nS, nM, nB, nE, nL, nT, nN, iL, iT, iE, iA, iM, iS, iG, iB, iN, iZ, h]) (rfl)
noncomputable def s52 : SP Try.prog := mkS tyA 52 Try.f52 [s50] { md := [.ro 1], rets := some ([2], []) } Try.func52 (by kernel_rfl)
@[go_sem] theorem d52 : s52.g = 52 ∧ s52.fs = ⟨[.ro 1], s52.F, false⟩ := ⟨nr rfl, nr rfl⟩
@[go_sem] theorem e52 (mAt : Int) (mGood : Bool) : s52.F [.agg [.i .i64 mAt, .b mGood]] = some (.b (!isTime (Mark.mk mAt mGood).At), [.u]) := mkS_eq (0) rfl rfl (fun cx h => by
  simp only [go_sem, reduceIte, ↓reduceIte, reduceCtorEq, nA, nS, nM, nB, nE, nL, nT, nN, iL, iT, iE, iA, iM, iS, iG, iB, iN, iZ, h]) (rfl)
def addT (a b : Int) : Int := if 1000000000000000 < a + b then 1000000000000000 else a + b
noncomputable def s90 : SP Try.prog := mkS tyA 90 Try.f90 [] { md := [.ro 1, .ro 1], rets := some ([4], []) } Try.func90 (by kernel_rfl)
@[go_sem] theorem d90 : s90.g = 90 ∧ s90.fs = ⟨[.ro 1, .ro 1], s90.F, false⟩ := ⟨nr rfl, nr rfl⟩
@[go_sem] theorem e90 (a : Int) (b : Int) (h0 : (isTime a = true ∧ 0 ≤ b ∧ b ≤ 1000000000000000)) : s90.F [.i .i64 a, .i .i64 b] = some (.i .i64 (addT a b), [.u, .u]) := mkS_eq (0) rfl rfl (fun cx h => by
  have h1 := isTime_t.1 h0.1
  have h2 : (IntKind.i64).wrap (a + b) = a + b := wrap_id (by omega) (by omega)
  simp only [go_sem, reduceIte, ↓reduceIte, reduceCtorEq, nA, nS, nM, nB, nE, nL, nT, nN, iL, iT, iE, iA, iM, iS, iG, iB, iN, iZ, h, h2, minL, addT]
  try (split <;> first | rfl | (simp only [Option.some.injEq, Prod.mk.injEq, AV.i.injEq, true_and, and_true]; omega))) (rfl)
noncomputable def s89 : SP Try.prog := mkS tyA 89 Try.f89 [s90] { md := [.ro 1, .ro 1, .ro 1], rets := some ([4], []), plan := [(1, (.take 0 (.take 1 (.take 2 (.take 3 (.take 5 (.one 4 (.take 6 (.one 7 .done)))))))))] } Try.func89 (by kernel_rfl)
@[go_sem] theorem d89 : s89.g = 89 ∧ s89.fs = ⟨[.ro 1, .ro 1, .ro 1], s89.F, false⟩ := ⟨nr rfl, nr rfl⟩
@[go_sem] theorem e89 (mAt : Int) (mGood : Bool) (w rMin rRatio rCool rQuota : Int) (t : Int) (h0 : (isTime (Mark.mk mAt mGood).At = true ∧ 0 ≤ w ∧ w ≤ 1000000)) : s89.F [.agg [.i .i64 mAt, .b mGood], .pr [.i .i64 w, .i .i64 rMin, .i .i64 rRatio, .i .i64 rCool, .i .i64 rQuota], .pr [.i .i64 t]] = some (.b (decide (addT (Mark.mk mAt mGood).At w ≤ t)), [.u, .u, .u]) := mkS_eq (0) rfl rfl (fun cx h => by
  have h1 : isTime mAt = true ∧ 0 ≤ w ∧ w ≤ 1000000000000000 := ⟨h0.1, h0.2.1, by omega⟩
  simp only [go_sem, reduceIte, ↓reduceIte, reduceCtorEq, nA, nS, nM, nB, nE, nL, nT, nN, iL, iT, iE, iA, iM, iS, iG, iB, iN, iZ, h, h1]) (rfl)
noncomputable def s93 : SP Try.prog := mkS tyA 93 Try.f93 [s52, s86, s89] { md := [.ro 1, .ro 1], rg := [(0, [0, 1], []), (1, [0, 1, 7, 8], []), (2, [0, 1, 7, 8, 9], []), (3, [0, 1, 5, 7, 8], []), (4, [0, 1, 5, 7, 8, 16], []), (5, [4], []), (6, [0, 1, 7, 8], []), (7, [4], [])], lv := [(0, [0, 1, 7, 8], [])], out := [(0, [], [])], rets := some ([4], []) } Try.func93 (by kernel_rfl)
@[go_sem] theorem d93 : s93.g = 93 ∧ s93.fs = ⟨[.ro 1, .ro 1], s93.F, false⟩ := ⟨nr rfl, nr rfl⟩
@[go_sem] theorem e93_86 (xs : List Mark) (t : Int) (hb : xs.length ≤ 9223372036854775806) : s93.F [.sl .ro 2 (xs.map (rMark .ro)), .fn 86 [.pr [.i .i64 t]]] = some (.i .i64 (idxP (fun x => decide (t < x.At)) xs 0), [.u, .u]) := mkS_eq (xs.length + 1) rfl rfl (fun cx h => by
  have hx := hb
  have hb0 := loopN_eq Try.f93 0 _ _ rfl rfl
  obtain ⟨r, hr, hq⟩ := loop_srch (cx := cx) (blk := 0) (body := loopN Try.f93 0) xs (fun k (s : Nat) => ⟨E [(0, .sl .ro 2 (xs.map (rMark .ro))), (1, .fn 86 [.pr [.i .i64 t]]), (7, .i .i64 xs.length), (8, .i .i64 k)], B []⟩) (fun s => ⟨E [], B []⟩) (fun x s => decide (t < x.At)) (fun x s => s + 1) (fun x s => (.ret, ⟨E [(4, .i .i64 s)], B []⟩)) (fun k s => k = s)
      (fun s hI G => by simp only [go_sem, reduceIte, ↓reduceIte, reduceCtorEq, nA, nS, nM, nB, nE, nL, nT, nN, iL, iT, iE, iA, iM, iS, iG, iB, iN, iZ, h, Int.lt_irrefl, hb0, hI]) (fun k hk s hI => by
        have h1 : ((k : Int) < (xs.length : Int)) := Int.ofNat_lt.2 hk
        obtain rfl := hI
        exact ⟨_, _, _, fun G => by simp only [go_sem, reduceIte, ↓reduceIte, reduceCtorEq, nA, nS, nM, nB, nE, nL, nT, nN, iL, iT, iE, iA, iM, iS, iG, iB, iN, iZ, h, map_gd (rMark .ro) xs _ hk, decide_eq_true_eq, h1, idx_nt _ _ hk, wrap_nat1 (show k < 9223372036854775807 by omega), hb0] <;> with_reducible rfl, by first | exact Iff.rfl | simp, fun hc => ⟨rfl, by simp only [go_sem, reduceIte, ↓reduceIte, reduceCtorEq, nA, nS, nM, nB, nE, nL, nT, nN, iL, iT, iE, iA, iM, iS, iG, iB, iN, iZ, h]⟩⟩) 0 rfl (xs.length + 1) (Nat.le_refl _)
  rw [hb0] at hr
  rcases hq with ⟨s', e1, _, e3⟩ | ⟨x, s', e1, e3⟩
  · simp only [go_sem, reduceIte, ↓reduceIte, reduceCtorEq, nA, nS, nM, nB, nE, nL, nT, nN, iL, iT, iE, iA, iM, iS, iG, iB, iN, iZ, h, hr, e3, runS_idx e1]
  · simp only [go_sem, reduceIte, ↓reduceIte, reduceCtorEq, nA, nS, nM, nB, nE, nL, nT, nN, iL, iT, iE, iA, iM, iS, iG, iB, iN, iZ, h, hr, e3, runS_idx' e1]) (rfl)
@[go_sem] theorem e93_52 (xs : List Mark)  (hb : xs.length ≤ 9223372036854775806) : s93.F [.sl .ro 2 (xs.map (rMark .ro)), .fn 52 []] = some (.i .i64 (idxP (fun x => !isTime x.At) xs 0), [.u, .u]) := mkS_eq (xs.length + 1) rfl rfl (fun cx h => by
  have hx := hb
  have hb0 := loopN_eq Try.f93 0 _ _ rfl rfl
  obtain ⟨r, hr, hq⟩ := loop_srch (cx := cx) (blk := 0) (body := loopN Try.f93 0) xs (fun k (s : Nat) => ⟨E [(0, .sl .ro 2 (xs.map (rMark .ro))), (1, .fn 52 []), (7, .i .i64 xs.length), (8, .i .i64 k)], B []⟩) (fun s => ⟨E [], B []⟩) (fun x s => !isTime x.At) (fun x s => s + 1) (fun x s => (.ret, ⟨E [(4, .i .i64 s)], B []⟩)) (fun k s => k = s)
      (fun s hI G => by simp only [go_sem, reduceIte, ↓reduceIte, reduceCtorEq, nA, nS, nM, nB, nE, nL, nT, nN, iL, iT, iE, iA, iM, iS, iG, iB, iN, iZ, h, Int.lt_irrefl, hb0, hI]) (fun k hk s hI => by
        have h1 : ((k : Int) < (xs.length : Int)) := Int.ofNat_lt.2 hk
        obtain rfl := hI
        exact ⟨_, _, _, fun G => by simp only [go_sem, reduceIte, ↓reduceIte, reduceCtorEq, nA, nS, nM, nB, nE, nL, nT, nN, iL, iT, iE, iA, iM, iS, iG, iB, iN, iZ, h, map_gd (rMark .ro) xs _ hk, decide_eq_true_eq, h1, idx_nt _ _ hk, wrap_nat1 (show k < 9223372036854775807 by omega), hb0] <;> with_reducible rfl, by first | exact Iff.rfl | simp, fun hc => ⟨rfl, by simp only [go_sem, reduceIte, ↓reduceIte, reduceCtorEq, nA, nS, nM, nB, nE, nL, nT, nN, iL, iT, iE, iA, iM, iS, iG, iB, iN, iZ, h]⟩⟩) 0 rfl (xs.length + 1) (Nat.le_refl _)
  rw [hb0] at hr
  rcases hq with ⟨s', e1, _, e3⟩ | ⟨x, s', e1, e3⟩
  · simp only [go_sem, reduceIte, ↓reduceIte, reduceCtorEq, nA, nS, nM, nB, nE, nL, nT, nN, iL, iT, iE, iA, iM, iS, iG, iB, iN, iZ, h, hr, e3, runS_idx e1]
  · simp only [go_sem, reduceIte, ↓reduceIte, reduceCtorEq, nA, nS, nM, nB, nE, nL, nT, nN, iL, iT, iE, iA, iM, iS, iG, iB, iN, iZ, h, hr, e3, runS_idx' e1]) (rfl)
@[go_sem] theorem e93_89 (xs : List Mark) (w rMin rRatio rCool rQuota t : Int) (hb : xs.length ≤ 9223372036854775806) (h0 : Every (fun x => isTime x.At = true ∧ 0 ≤ w ∧ w ≤ 1000000) xs) : s93.F [.sl .ro 2 (xs.map (rMark .ro)), .fn 89 [.pr [.i .i64 w, .i .i64 rMin, .i .i64 rRatio, .i .i64 rCool, .i .i64 rQuota], .pr [.i .i64 t]]] = some (.i .i64 (idxP (fun x => decide (addT x.At w ≤ t)) xs 0), [.u, .u]) := mkS_eq (xs.length + 1) rfl rfl (fun cx h => by
  have hx := hb
  have hb0 := loopN_eq Try.f93 0 _ _ rfl rfl
  obtain ⟨r, hr, hq⟩ := loop_srch (cx := cx) (blk := 0) (body := loopN Try.f93 0) xs (fun k (s : Nat) => ⟨E [(0, .sl .ro 2 (xs.map (rMark .ro))), (1, .fn 89 [.pr [.i .i64 w, .i .i64 rMin, .i .i64 rRatio, .i .i64 rCool, .i .i64 rQuota], .pr [.i .i64 t]]), (7, .i .i64 xs.length), (8, .i .i64 k)], B []⟩) (fun s => ⟨E [], B []⟩) (fun x s => decide (addT x.At w ≤ t)) (fun x s => s + 1) (fun x s => (.ret, ⟨E [(4, .i .i64 s)], B []⟩)) (fun k s => k = s)
      (fun s hI G => by simp only [go_sem, reduceIte, ↓reduceIte, reduceCtorEq, nA, nS, nM, nB, nE, nL, nT, nN, iL, iT, iE, iA, iM, iS, iG, iB, iN, iZ, h, Int.lt_irrefl, hb0, hI]) (fun k hk s hI => by
        have h1 : ((k : Int) < (xs.length : Int)) := Int.ofNat_lt.2 hk
        obtain rfl := hI
        have h2 := h0 _ (List.getElem_mem hk)
        simp only at h2
        exact ⟨_, _, _, fun G => by simp only [go_sem, reduceIte, ↓reduceIte, reduceCtorEq, nA, nS, nM, nB, nE, nL, nT, nN, iL, iT, iE, iA, iM, iS, iG, iB, iN, iZ, h, map_gd (rMark .ro) xs _ hk, h2, decide_eq_true_eq, h1, idx_nt _ _ hk, wrap_nat1 (show k < 9223372036854775807 by omega), hb0] <;> with_reducible rfl, by first | exact Iff.rfl | simp, fun hc => ⟨rfl, by simp only [go_sem, reduceIte, ↓reduceIte, reduceCtorEq, nA, nS, nM, nB, nE, nL, nT, nN, iL, iT, iE, iA, iM, iS, iG, iB, iN, iZ, h]⟩⟩) 0 rfl (xs.length + 1) (Nat.le_refl _)
  rw [hb0] at hr
  rcases hq with ⟨s', e1, _, e3⟩ | ⟨x, s', e1, e3⟩
  · simp only [go_sem, reduceIte, ↓reduceIte, reduceCtorEq, nA, nS, nM, nB, nE, nL, nT, nN, iL, iT, iE, iA, iM, iS, iG, iB, iN, iZ, h, hr, e3, runS_idx e1]
  · simp only [go_sem, reduceIte, ↓reduceIte, reduceCtorEq, nA, nS, nM, nB, nE, nL, nT, nN, iL, iT, iE, iA, iM, iS, iG, iB, iN, iZ, h, hr, e3, runS_idx' e1]) (rfl)
noncomputable def s51 : SP Try.prog := mkS tyA 51 Try.f51 [s93] { md := [.ro 1, .ro 1], rets := some ([4], []) } Try.func51 (by kernel_rfl)
@[go_sem] theorem d51 : s51.g = 51 ∧ s51.fs = ⟨[.ro 1, .ro 1], s51.F, false⟩ := ⟨nr rfl, nr rfl⟩
@[go_sem] theorem e51_86 (xs : List Mark) (t : Int) (hb : xs.length ≤ 9223372036854775806) : s51.F [.sl .ro 2 (xs.map (rMark .ro)), .fn 86 [.pr [.i .i64 t]]] = some (.b (xs.any (fun x => decide (t < x.At))), [.u, .u]) := mkS_eq (0) rfl rfl (fun cx h => by
  simp only [go_sem, reduceIte, ↓reduceIte, reduceCtorEq, nA, nS, nM, nB, nE, nL, nT, nN, iL, iT, iE, iA, iM, iS, iG, iB, iN, iZ, h, hb, idxP_any]) (rfl)
@[go_sem] theorem e51_52 (xs : List Mark)  (hb : xs.length ≤ 9223372036854775806) : s51.F [.sl .ro 2 (xs.map (rMark .ro)), .fn 52 []] = some (.b (xs.any (fun x => !isTime x.At)), [.u, .u]) := mkS_eq (0) rfl rfl (fun cx h => by
  simp only [go_sem, reduceIte, ↓reduceIte, reduceCtorEq, nA, nS, nM, nB, nE, nL, nT, nN, iL, iT, iE, iA, iM, iS, iG, iB, iN, iZ, h, hb, idxP_any]) (rfl)
noncomputable def s54 : SP Try.prog := mkS tyA 54 Try.f54 [] { md := [.ro 1, .ro 1], rets := some ([4], []) } Try.func54 (by kernel_rfl)
@[go_sem] theorem d54 : s54.g = 54 ∧ s54.fs = ⟨[.ro 1, .ro 1], s54.F, false⟩ := ⟨nr rfl, nr rfl⟩
@[go_sem] theorem e54 (xAt : Int) (xGood : Bool) (yAt : Int) (yGood : Bool) : s54.F [.agg [.i .i64 xAt, .b xGood], .agg [.i .i64 yAt, .b yGood]] = some (.i .i64 ((IntKind.i64).wrap ((Mark.mk xAt xGood).At - (Mark.mk yAt yGood).At)), [.u, .u]) := mkS_eq (0) rfl rfl (fun cx h => by
  simp only [go_sem, reduceIte, ↓reduceIte, reduceCtorEq, nA, nS, nM, nB, nE, nL, nT, nN, iL, iT, iE, iA, iM, iS, iG, iB, iN, iZ, h]) (rfl)
def badT (ms : List Mark) : Bool := ms.any fun x => !isTime x.At
def unsorted (ms : List Mark) : Bool := (ms.zip ms.tail).any fun p => decide (p.2.At < p.1.At)
def breakerFault (b : Breaker) : Int :=
  if (within b.State 0 2 && isTime b.Since && within b.Out 0 5) = false then 3
  else if 60 < (b.Marks.length : Int) then 2
  else if badT b.Marks = true then 3
  else if unsorted b.Marks = true then 1
  else if ((b.State != 0 && decide (0 < (b.Marks.length : Int))) || (b.State != 2 && b.Out != 0)) = true then 8 else 0
theorem badT_get {ms : List Mark} (h : badT ms = false) {m : Mark} (hm : m ∈ ms) : isTime m.At = true := by
  have := List.any_eq_false.1 h m hm
  simpa using this
theorem pairs_len {α : Type} (ms : List α) : (ms.zip ms.tail).length = ms.length - 1 := by simp
theorem pairs_get {α : Type} (ms : List α) (k : Nat) (h : k < (ms.zip ms.tail).length) : (ms.zip ms.tail)[k] = (ms[k]'(by simp at h; omega), ms[k + 1]'(by simp at h; omega)) := by simp
theorem breakerFault_ok {b : Breaker} (h : breakerFault b = 0) : (0 ≤ b.State ∧ b.State ≤ 2) ∧ (0 ≤ b.Since ∧ b.Since ≤ 1000000000000000) ∧ (0 ≤ b.Out ∧ b.Out ≤ 5) ∧ b.Marks.length ≤ 60 ∧ badT b.Marks = false ∧ unsorted b.Marks = false ∧ (b.State ≠ 0 → b.Marks = []) ∧ (b.State ≠ 2 → b.Out = 0) := by
  unfold breakerFault at h
  split at h
  · cases h
  split at h
  · cases h
  split at h
  · cases h
  split at h
  · cases h
  split at h
  · cases h
  rename_i h1 h2 h3 h4 h5
  simp only [Bool.and_eq_false_iff, not_or, Bool.not_eq_false, within_t, isTime_t] at h1
  simp only [Bool.or_eq_true, Bool.and_eq_true, bne_iff_ne, ne_eq, decide_eq_true_eq, not_or, not_and, Classical.not_not] at h5
  refine ⟨by omega, by omega, by omega, by omega, by simpa using h3, by simpa using h4, fun hs => ?_, h5.2⟩
  have := h5.1 hs
  cases hm : b.Marks with
  | nil => rfl
  | cons x r => rw [hm] at this; simp at this
noncomputable def s53 : SP Try.prog := mkS tyA 53 Try.f53 [s54] { md := [.ro 1, .ro 1], rg := [(0, [0, 1], []), (1, [0, 1, 5], []), (2, [0, 1, 5, 10], []), (3, [0, 1, 5], []), (4, [0, 1, 5, 24], []), (5, [4], []), (6, [4], [])], lv := [(0, [0, 1, 5], [])], out := [(0, [], [])], rets := some ([4], []), plan := [(4, (.take 0 (.take 1 (.take 2 (.take 3 (.take 4 (.take 5 (.take 6 (.take 7 (.take 8 (.take 9 (.one 10 (.take 11 .done)))))))))))))] } Try.func53 (by kernel_rfl)
@[go_sem] theorem d53 : s53.g = 53 ∧ s53.fs = ⟨[.ro 1, .ro 1], s53.F, false⟩ := ⟨nr rfl, nr rfl⟩
@[go_sem] theorem e53 (xs : List Mark) (h0 : badT xs = false) (hb : xs.length ≤ 1000) : s53.F [.sl .ro 2 (xs.map (rMark .ro)), .fn 54 []] = some (.b (!unsorted xs), [.u, .u]) := mkS_eq (xs.length + 1) rfl rfl (fun cx h => by
  have w0 : (IntKind.i64).wrap ((xs.length : Int) - 1) = (xs.length : Int) - 1 - ((0 : Nat) : Int) := by rw [wrap_id (by omega) (by omega)]; omega
  have hb0 := loopN_eq Try.f53 0 _ _ rfl rfl
  obtain ⟨r, hr, hq⟩ := loop_srch (cx := cx) (blk := 0) (body := loopN Try.f53 0) (xs.zip xs.tail).reverse (fun k (s : Unit) => ⟨E [(0, .sl .ro 2 (xs.map (rMark .ro))), (1, .fn 54 []), (5, .i .i64 ((xs.length : Int) - 1 - k))], B []⟩) (fun s => ⟨E [], B []⟩) (fun x s => decide (x.2.At < x.1.At)) (fun x s => ()) (fun x s => (.ret, ⟨E [(4, .b false)], B []⟩)) (fun k s => True)
      (fun s hI G => by simp only [go_sem, reduceIte, ↓reduceIte, reduceCtorEq, nA, nS, nM, nB, nE, nL, nT, nN, iL, iT, iE, iA, iM, iS, iG, iB, iN, iZ, h, Int.lt_irrefl, hb0, show ¬ (0 < ((xs.length : Int) - 1 - ((xs.zip xs.tail).reverse.length : Nat))) by simp; omega]) (fun k hk s hI => by
        have h1 : ((k : Int) < ((xs.zip xs.tail).reverse.length : Int)) := Int.ofNat_lt.2 hk
        have hk2 : k < xs.length - 1 := by simpa using hk
        have h3 : (xs.zip xs.tail).reverse[k] = (xs[xs.length - 2 - k]'(by omega), xs[xs.length - 1 - k]'(by omega)) := by
          rw [List.getElem_reverse, pairs_get]
          have e1 : (xs.zip xs.tail).length - 1 - k = xs.length - 2 - k := by rw [pairs_len]; omega
          have e2 : xs.length - 2 - k + 1 = xs.length - 1 - k := by omega
          simp only [e1, e2]
        rw [h3]
        have t1 := isTime_t.1 (badT_get h0 (List.getElem_mem (show xs.length - 2 - k < xs.length by omega)))
        have t2 := isTime_t.1 (badT_get h0 (List.getElem_mem (show xs.length - 1 - k < xs.length by omega)))
        have i1 : ((xs.length : Int) - 1 - k) = ((xs.length - 1 - k : Nat) : Int) := by omega
        have i0 : 0 < ((xs.length - 1 - k : Nat) : Int) := by omega
        have i2 : (IntKind.i64).wrap (((xs.length - 1 - k : Nat) : Int) - 1) = ((xs.length - 2 - k : Nat) : Int) := by rw [wrap_id (by omega) (by omega)]; omega
        have i3 : (xs.length : Int) - 1 - (k + 1 : Nat) = ((xs.length - 2 - k : Nat) : Int) := by omega
        have w1 : (IntKind.i64).wrap ((xs[xs.length - 1 - k]'(by omega)).At - (xs[xs.length - 2 - k]'(by omega)).At) = (xs[xs.length - 1 - k]'(by omega)).At - (xs[xs.length - 2 - k]'(by omega)).At := wrap_id (by omega) (by omega)
        exact ⟨_, _, _, fun G => by simp only [go_sem, reduceIte, ↓reduceIte, reduceCtorEq, nA, nS, nM, nB, nE, nL, nT, nN, iL, iT, iE, iA, iM, iS, iG, iB, iN, iZ, h, i1, i0, i2, w1, idx_nt xs.length _ (show xs.length - 1 - k < xs.length by omega), idx_nt xs.length _ (show xs.length - 2 - k < xs.length by omega), map_gd (rMark .ro) xs _ (show xs.length - 1 - k < xs.length by omega), map_gd (rMark .ro) xs _ (show xs.length - 2 - k < xs.length by omega), h1, idx_nt _ _ hk, wrap_nat1 (show k < 9223372036854775807 by omega), hb0] <;> with_reducible rfl, by simp <;> omega, fun hc => ⟨trivial, by simp only [go_sem, reduceIte, ↓reduceIte, reduceCtorEq, nA, nS, nM, nB, nE, nL, nT, nN, iL, iT, iE, iA, iM, iS, iG, iB, iN, iZ, h, i3]⟩⟩) () trivial (xs.length + 1) (by simp <;> omega)
  rw [hb0] at hr
  rcases hq with ⟨s', e1, _, e3⟩ | ⟨x, s', e1, e3⟩
  · have e4 : unsorted xs = false := by rw [unsorted, ← List.any_reverse]; exact runS_any e1
    simp only [go_sem, reduceIte, ↓reduceIte, reduceCtorEq, nA, nS, nM, nB, nE, nL, nT, nN, iL, iT, iE, iA, iM, iS, iG, iB, iN, iZ, h, w0, hr, e3, e4]
  · have e4 : unsorted xs = true := by rw [unsorted, ← List.any_reverse]; exact (runS_found e1).1
    simp only [go_sem, reduceIte, ↓reduceIte, reduceCtorEq, nA, nS, nM, nB, nE, nL, nT, nN, iL, iT, iE, iA, iM, iS, iG, iB, iN, iZ, h, w0, hr, e3, e4]) (rfl)
noncomputable def s13 : SP Try.prog := mkS tyA 13 Try.f13 [s49, s50, s51, s52, s53, s54] { md := [.ro 1], rg := [(0, [1], [1]), (1, [1, 3], [1]), (2, [2], []), (3, [1, 20], [1]), (4, [2], []), (5, [1, 25], [1]), (6, [2], []), (7, [1, 29], [1]), (8, [2], []), (9, [34], []), (10, [2], []), (11, [2], [])], rets := some ([2], []) } Try.func13 (by kernel_rfl)
@[go_sem] theorem d13 : s13.g = 13 ∧ s13.fs = ⟨[.ro 1], s13.F, false⟩ := ⟨nr rfl, nr rfl⟩
@[go_sem] theorem e13 (bState : Int) (bSince : Int) (bOut : Int) (bMarks : List Mark) (h0 : (Breaker.mk bState bSince bOut bMarks).Marks.length ≤ 1048576) : s13.F [.agg [.i .i64 bState, .i .i64 bSince, .i .i64 bOut, .sl .ro 2 (bMarks.map (rMark .ro))]] = some (.i .i64 (breakerFault (Breaker.mk bState bSince bOut bMarks)), [.u]) := mkS_eq (0) rfl rfl (fun cx h => by
  have hb : bMarks.length ≤ 9223372036854775806 := by have := h0; simp only at this; omega
  by_cases c0 : (within bState 0 2 && isTime bSince && within bOut 0 5) = false
  · simp only [go_sem, reduceIte, ↓reduceIte, reduceCtorEq, nA, nS, nM, nB, nE, nL, nT, nN, iL, iT, iE, iA, iM, iS, iG, iB, iN, iZ, h, hb, breakerFault, c0]
    all_goals (cases hw1 : within bState 0 2 <;> cases hw2 : isTime bSince <;> cases hw3 : within bOut 0 5 <;> simp_all)
  simp only [Bool.not_eq_false, Bool.and_eq_true] at c0
  obtain ⟨⟨d1, d2⟩, d3⟩ := c0
  by_cases c1 : 60 < (bMarks.length : Int)
  · simp only [go_sem, reduceIte, ↓reduceIte, reduceCtorEq, nA, nS, nM, nB, nE, nL, nT, nN, iL, iT, iE, iA, iM, iS, iG, iB, iN, iZ, h, hb, breakerFault, d1, d2, d3, c1]
  cases c2 : badT bMarks
  case true =>
    have c2' : (bMarks.any fun x => !isTime x.At) = true := c2
    simp only [go_sem, reduceIte, ↓reduceIte, reduceCtorEq, nA, nS, nM, nB, nE, nL, nT, nN, iL, iT, iE, iA, iM, iS, iG, iB, iN, iZ, h, hb, breakerFault, d1, d2, d3, c1, c2, c2']
  have c2' : (bMarks.any fun x => !isTime x.At) = false := c2
  have c4 : bMarks.length ≤ 1000 := by omega
  cases c5 : unsorted bMarks
  case true => simp only [go_sem, reduceIte, ↓reduceIte, reduceCtorEq, nA, nS, nM, nB, nE, nL, nT, nN, iL, iT, iE, iA, iM, iS, iG, iB, iN, iZ, h, hb, breakerFault, d1, d2, d3, c1, c2, c2', c4, c5]
  simp only [go_sem, reduceIte, ↓reduceIte, reduceCtorEq, nA, nS, nM, nB, nE, nL, nT, nN, iL, iT, iE, iA, iM, iS, iG, iB, iN, iZ, h, hb, breakerFault, d1, d2, d3, c1, c2, c2', c4, c5]
  all_goals (cases e1 : bState != 0 <;> cases e2 : bState != 2 <;> cases e3 : bOut != 0 <;> cases e4 : decide (0 < (bMarks.length : Int)) <;> simp_all)) (rfl)
def rulesFault (r : Rules) : Int := if (within r.Window 1 1000000 && within r.Min 1 50 && within r.Ratio 1 1000 && within r.Cool 0 1000000 && within r.Quota 1 5) = true then 0 else 3
theorem rulesFault_ok {r : Rules} (h : rulesFault r = 0) : 1 ≤ r.Window ∧ r.Window ≤ 1000000 ∧ 1 ≤ r.Min ∧ r.Min ≤ 50 ∧ 1 ≤ r.Ratio ∧ r.Ratio ≤ 1000 ∧ 0 ≤ r.Cool ∧ r.Cool ≤ 1000000 ∧ 1 ≤ r.Quota ∧ r.Quota ≤ 5 := by
  unfold rulesFault at h
  split at h
  · rename_i hc
    simp only [Bool.and_eq_true, within_t] at hc
    omega
  · cases h
noncomputable def s59 : SP Try.prog := mkS tyA 59 Try.f59 [s49] { md := [.ro 1], rg := [(0, [1], [1]), (1, [30], []), (2, [2], []), (3, [2], [])], rets := some ([2], []) } Try.func59 (by kernel_rfl)
@[go_sem] theorem d59 : s59.g = 59 ∧ s59.fs = ⟨[.ro 1], s59.F, false⟩ := ⟨nr rfl, nr rfl⟩
@[go_sem] theorem e59 (rWindow : Int) (rMin : Int) (rRatio : Int) (rCool : Int) (rQuota : Int) : s59.F [.agg [.i .i64 rWindow, .i .i64 rMin, .i .i64 rRatio, .i .i64 rCool, .i .i64 rQuota]] = some (.i .i64 (rulesFault (Rules.mk rWindow rMin rRatio rCool rQuota)), [.u]) := mkS_eq (0) rfl rfl (fun cx h => by
  simp only [go_sem, reduceIte, ↓reduceIte, reduceCtorEq, nA, nS, nM, nB, nE, nL, nT, nN, iL, iT, iE, iA, iM, iS, iG, iB, iN, iZ, h]
  simp only [rulesFault]
  cases within rWindow 1 1000000 <;> cases within rMin 1 50 <;> cases within rRatio 1 1000 <;> cases within rCool 0 1000000 <;> cases within rQuota 1 5 <;> rfl) (rfl)
def breakerCode (b : Breaker) (r : Rules) (now : Int) : Int :=
  if breakerFault b ≠ 0 then breakerFault b else if rulesFault r ≠ 0 then rulesFault r
  else if (!isTime now || decide (now < b.Since) || b.Marks.any fun x => decide (now < x.At)) = true then 3 else 0
theorem last_any : ∀ {ms : List Mark} (now : Int), unsorted ms = false → (ms.any fun x => decide (now < x.At)) = (match ms.getLast? with
    | some m => decide (now < m.At)
    | none => false)
  | [], _, _ => rfl
  | [x], _, _ => by simp
  | x :: y :: r, now, h => by
    simp only [unsorted, List.tail_cons, List.zip_cons_cons, List.any_cons, Bool.or_eq_false_iff, decide_eq_false_iff_not] at h
    have ih := last_any (ms := y :: r) now h.2
    rw [List.any_cons, ih, List.getLast?_cons_cons]
    have key : decide (now < x.At) = true → (match (y :: r).getLast? with
      | some m => decide (now < m.At)
      | none => false) = true := by
      intro hx
      rw [← ih, List.any_cons]
      have h1 := of_decide_eq_true hx
      have h2 := h.1
      simp only [Bool.or_eq_true, decide_eq_true_eq]
      left; omega
    cases hx : decide (now < x.At) with
    | false => simp
    | true => rw [key hx]; rfl
theorem getLast_of {ms : List Mark} (h : 0 < ms.length) : ms.getLast? = some (ms[ms.length - 1]'(by omega)) := by
  rw [List.getLast?_eq_getElem?, List.getElem?_eq_getElem (by omega)]
theorem breakerCode_ok {b : Breaker} {r : Rules} {now : Int} (h : breakerCode b r now = 0) : breakerFault b = 0 ∧ rulesFault r = 0 ∧ isTime now = true ∧ b.Since ≤ now := by
  unfold breakerCode at h
  by_cases h1 : breakerFault b = 0
  · rw [if_neg (by simp [h1])] at h
    by_cases h2 : rulesFault r = 0
    · rw [if_neg (by simp [h2])] at h
      split at h
      · cases h
      · rename_i hc
        simp only [Bool.or_eq_true, not_or, Bool.not_eq_true', Bool.not_eq_false, decide_eq_true_eq] at hc
        exact ⟨h1, h2, hc.1.1, by omega⟩
    · rw [if_pos h2] at h; exact absurd h h2
  · rw [if_pos h1] at h; exact absurd h h1
noncomputable def s40 : SP Try.prog := mkS tyA 40 Try.f40 [s13, s50, s51, s59] { md := [.ro 1, .ro 1, .ro 1], rg := [(0, [3, 4, 5], [3, 4, 5]), (1, [3, 4, 5, 7], [3, 4, 5]), (2, [3, 4, 5, 7, 12], [3, 4, 5]), (3, [6], []), (4, [3, 5, 8], [3, 5]), (5, [3, 5, 8, 17], [3, 5]), (6, [6], []), (7, [33], []), (8, [6], []), (9, [6], [])], rets := some ([6], []), fz := [5] } Try.func40 (by kernel_rfl)
@[go_sem] theorem d40 : s40.g = 40 ∧ s40.fs = ⟨[.ro 1, .ro 1, .ro 1], s40.F, false⟩ := ⟨nr rfl, nr rfl⟩
@[go_sem] theorem e40 (bState : Int) (bSince : Int) (bOut : Int) (bMarks : List Mark) (rWindow : Int) (rMin : Int) (rRatio : Int) (rCool : Int) (rQuota : Int) (now : Int) (h0 : (Breaker.mk bState bSince bOut bMarks).Marks.length ≤ 1048576) : s40.F [.agg [.i .i64 bState, .i .i64 bSince, .i .i64 bOut, .sl .ro 2 (bMarks.map (rMark .ro))], .agg [.i .i64 rWindow, .i .i64 rMin, .i .i64 rRatio, .i .i64 rCool, .i .i64 rQuota], .i .i64 now] = some (.i .i64 (breakerCode (Breaker.mk bState bSince bOut bMarks) (Rules.mk rWindow rMin rRatio rCool rQuota) now), [.u, .u, .u]) := mkS_eq (0) rfl rfl (fun cx h => by
  have hb : bMarks.length ≤ 9223372036854775806 := by have := h0; simp only at this; omega
  simp only [breakerCode]
  obtain ⟨f, hf⟩ : ∃ f, breakerFault (Breaker.mk bState bSince bOut bMarks) = f := ⟨_, rfl⟩
  obtain ⟨g, hg⟩ : ∃ g, rulesFault (Rules.mk rWindow rMin rRatio rCool rQuota) = g := ⟨_, rfl⟩
  by_cases c1 : f = 0
  · subst c1
    by_cases c2 : g = 0
    · subst c2
      simp only [go_sem, reduceIte, ↓reduceIte, reduceCtorEq, nA, nS, nM, nB, nE, nL, nT, nN, iL, iT, iE, iA, iM, iS, iG, iB, iN, iZ, h, hb, h0, hf, hg]
      cases isTime now <;> by_cases d1 : now < bSince <;> cases (bMarks.any fun x => decide (now < x.At)) <;> simp [d1]
    · have c2' : (g != 0) = true := by simpa using c2
      simp only [go_sem, reduceIte, ↓reduceIte, reduceCtorEq, nA, nS, nM, nB, nE, nL, nT, nN, iL, iT, iE, iA, iM, iS, iG, iB, iN, iZ, h, hb, h0, hf, hg, c2, c2']
  · have c1' : (f != 0) = true := by simpa using c1
    simp only [go_sem, reduceIte, ↓reduceIte, reduceCtorEq, nA, nS, nM, nB, nE, nL, nT, nN, iL, iT, iE, iA, iM, iS, iG, iB, iN, iZ, h, hb, h0, hf, c1, c1']) (rfl)
noncomputable def s87 : SP Try.prog := mkS tyA 87 Try.f87 [] { md := [.ro 1], rg := [(0, [0], []), (1, [0, 4], []), (2, [2], []), (3, [2], [])], rets := some ([2], []), nz := true } Try.func87 (by kernel_rfl)
@[go_sem] theorem d87 : s87.g = 87 ∧ s87.fs = ⟨[.ro 1], s87.F, false⟩ := ⟨nr rfl, nr rfl⟩
@[go_sem] theorem e87 (xs : List Mark) (h0 : smL smMark xs) : s87.F [.sl .ro 2 (xs.map (rMark .ro))] = some (.sl .mut 2 (xs.map (rMark .mut)), [.u]) := mkS_eqN (0) rfl rfl (fun cx h => by
  have h0 := h0.1
  have h1 : (xs.map (rMark .ro)).all (·.all plain) = true := by simp [rMark, plain]
  have h2 : xs.length * 16 ≤ 140737488355328 := by omega
  have h3 : xs.map (rMark .ro) = xs.map (rMark .mut) := rfl
  rcases Nat.eq_zero_or_pos xs.length with hp | hp
  · obtain rfl := List.length_eq_zero_iff.1 hp
    simp only [go_sem, reduceIte, ↓reduceIte, reduceCtorEq, nA, nS, nM, nB, nE, nL, nT, nN, iL, iT, iE, iA, iM, iS, iG, iB, iN, iZ, h]
  · simp only [go_sem, reduceIte, ↓reduceIte, reduceCtorEq, nA, nS, nM, nB, nE, nL, nT, nN, iL, iT, iE, iA, iM, iS, iG, iB, iN, iZ, h, h1, h2, hp]
    rw [h3]) (by simp only [go_sem, reduceIte, ↓reduceIte, reduceCtorEq, nA, nS, nM, nB, nE, nL, nT, nN, iL, iT, iE, iA, iM, iS, iG, iB, iN, iZ, okRes, hasRo])
noncomputable def s41 : SP Try.prog := mkS tyA 41 Try.f41 [s87] { md := [.ro 1], rg := [(0, [1, 2], [1, 2]), (1, [1, 2], [1, 2]), (2, [2], [1, 2])], rets := some ([2], [1, 2]) } Try.func41 (by kernel_rfl)
@[go_sem] theorem d41 : s41.g = 41 ∧ s41.fs = ⟨[.ro 1], s41.F, false⟩ := ⟨nr rfl, nr rfl⟩
@[go_sem] theorem e41 (bState : Int) (bSince : Int) (bOut : Int) (bMarks : List Mark) (h0 : smL smMark (Breaker.mk bState bSince bOut bMarks).Marks) : s41.F [.agg [.i .i64 bState, .i .i64 bSince, .i .i64 bOut, .sl .ro 2 (bMarks.map (rMark .ro))]] = some (.agg (rBreaker .mut (Breaker.mk bState bSince bOut bMarks)), [.u]) := mkS_eq (0) rfl rfl (fun cx h => by
  simp only [go_sem, reduceIte, ↓reduceIte, reduceCtorEq, nA, nS, nM, nB, nE, nL, nT, nN, iL, iT, iE, iA, iM, iS, iG, iB, iN, iZ, h, h0]) (by simp only [go_sem, reduceIte, ↓reduceIte, reduceCtorEq, nA, nS, nM, nB, nE, nL, nT, nN, iL, iT, iE, iA, iM, iS, iG, iB, iN, iZ, okRes, hasRo, hasRoL, hasRoLL])
def badN (ms : List Mark) : Int := ms.foldl (fun s x => if x.Good = true then s else s + 1) 0
theorem badN_aux : ∀ (ms : List Mark) (s : Int), s ≤ ms.foldl (fun s x => if x.Good = true then s else s + 1) s ∧ ms.foldl (fun s x => if x.Good = true then s else s + 1) s ≤ s + ms.length
  | [], s => by simp
  | x :: r, s => by
    simp only [List.foldl_cons, List.length_cons]
    cases hg : x.Good
    · have h := badN_aux r (s + 1)
      simp only [Bool.false_eq_true, if_false]; omega
    · have h := badN_aux r s
      simp only [if_true]; omega
theorem badN_le (ms : List Mark) : 0 ≤ badN ms ∧ badN ms ≤ ms.length := by have := badN_aux ms 0; unfold badN; omega
noncomputable def s46 : SP Try.prog := mkS tyA 46 Try.f46 [] { md := [.ro 1], rg := [(0, [1], [1]), (1, [1, 3], [1]), (2, [3, 7, 8, 9], [1]), (3, [3, 7, 8, 9, 10], [1]), (4, [3, 5, 7, 8, 9], [1, 5]), (5, [3, 7, 8, 9, 15], [1]), (6, [3, 7, 8, 9], [1]), (7, [3, 7, 8, 9], [1]), (8, [2], [])], lv := [(0, [3, 7, 8, 9], [1])], out := [(0, [3], [])], rets := some ([2], []) } Try.func46 (by kernel_rfl)
@[go_sem] theorem d46 : s46.g = 46 ∧ s46.fs = ⟨[.ro 1], s46.F, false⟩ := ⟨nr rfl, nr rfl⟩
@[go_sem] theorem e46 (bState bSince bOut : Int) (bMarks : List Mark) (hb : bMarks.length ≤ 1000) : s46.F [.agg [.i .i64 bState, .i .i64 bSince, .i .i64 bOut, .sl .ro 2 (bMarks.map (rMark .ro))]] = some (.i .i64 (badN bMarks), [.u]) := mkS_eq (bMarks.length + 1) rfl rfl (fun cx h => by
  have hx := hb
  have hb0 := loopN_eq Try.f46 0 _ _ rfl rfl
  obtain ⟨hI, hr⟩ := loop_fold (cx := cx) (blk := 0) (body := loopN Try.f46 0) bMarks (fun k (s : Int) => ⟨E [(3, .i .i64 s), (7, .sl .ro 2 (bMarks.map (rMark .ro))), (8, .i .i64 bMarks.length), (9, .i .i64 k)], B [(1, [.i .i64 bState, .i .i64 bSince, .i .i64 bOut, .sl .ro 2 (bMarks.map (rMark .ro))])]⟩) (fun s => ⟨E [(3, .i .i64 s)], B []⟩) (fun x s => (if x.Good = true then s else s + 1)) (fun k s => 0 ≤ s ∧ s ≤ k)
      (fun s hI G => by simp only [go_sem, reduceIte, ↓reduceIte, reduceCtorEq, nA, nS, nM, nB, nE, nL, nT, nN, iL, iT, iE, iA, iM, iS, iG, iB, iN, iZ, h, Int.lt_irrefl, hb0, hx]) (fun k hk s hI => by
        have h1 : ((k : Int) < (bMarks.length : Int)) := Int.ofNat_lt.2 hk
        have w1 : (IntKind.i64).wrap (s + 1) = s + 1 := wrap_id (by omega) (by omega)
        cases hg : bMarks[k].Good
        all_goals exact ⟨by simp <;> omega, _, fun G => by simp only [go_sem, reduceIte, ↓reduceIte, reduceCtorEq, nA, nS, nM, nB, nE, nL, nT, nN, iL, iT, iE, iA, iM, iS, iG, iB, iN, iZ, h, map_gd (rMark .ro) bMarks k hk, w1, hg, h1, idx_nt _ _ hk, wrap_nat1 (show k < 9223372036854775807 by omega), hb0] <;> with_reducible rfl, by simp only [go_sem, reduceIte, ↓reduceIte, reduceCtorEq, nA, nS, nM, nB, nE, nL, nT, nN, iL, iT, iE, iA, iM, iS, iG, iB, iN, iZ, h, hg]⟩) 0 (by simp) (bMarks.length + 1) (Nat.le_refl _)
  rw [hb0] at hr
  simp only [go_sem, reduceIte, ↓reduceIte, reduceCtorEq, nA, nS, nM, nB, nE, nL, nT, nN, iL, iT, iE, iA, iM, iS, iG, iB, iN, iZ, h, hr, badN]) (rfl)
/-! what is deleted -/
theorem idxP_neg {α : Type} (p : α → Bool) : ∀ (xs : List α) (k : Nat), idxP p xs k < 0 → idxP p xs k = -1
  | [], _, _ => rfl
  | x :: xs, k, h => by
    rw [idxP] at h ⊢
    split at h
    · omega
    · rename_i hc; rw [if_neg hc]; exact idxP_neg p xs (k + 1) h
theorem delF_none {α : Type} (p : α → Bool) (xs : List α) (h : idxP p xs 0 = -1) : xs.filter (fun x => !(p x)) = xs := by
  have h2 := idxP_any (p := p) xs 0
  rw [h] at h2
  rw [List.filter_eq_self]
  intro x hx
  have := List.any_eq_false.1 h2.symm x hx
  simpa using this
theorem idxP_pos {α : Type} (p : α → Bool) (xs : List α) (h : 0 ≤ idxP p xs 0) : ∃ i : Nat, idxP p xs 0 = (i : Int) ∧ i < xs.length ∧ (∀ x, xs[i]? = some x → p x = true) ∧ ∀ j x, j < i → xs[j]? = some x → p x = false := by
  have key : ∀ (xs : List α) (k : Nat), 0 ≤ idxP p xs k → ∃ i : Nat, idxP p xs k = ((k + i : Nat) : Int) ∧ i < xs.length ∧ (∀ x, xs[i]? = some x → p x = true) ∧ ∀ j x, j < i → xs[j]? = some x → p x = false := by
    intro xs
    induction xs with
    | nil => intro k h; simp [idxP] at h
    | cons x xs ih =>
      intro k h
      rw [idxP] at h ⊢
      by_cases hc : p x = true
      · rw [if_pos hc]
        exact ⟨0, rfl, by simp, fun y hy => by simp at hy; rw [← hy]; exact hc, fun j y hj => absurd hj (by omega)⟩
      · rw [if_neg hc] at h ⊢
        obtain ⟨i, h1, h2, h3, h4⟩ := ih (k + 1) h
        refine ⟨i + 1, by rw [h1]; omega, by simp; omega, fun y hy => h3 y (by simpa using hy), fun j y hj hy => ?_⟩
        cases j with
        | zero => simp at hy; rw [← hy]; simpa using hc
        | succ j => exact h4 j y (by omega) (by simpa using hy)
  obtain ⟨i, h1, h2⟩ := key xs 0 h
  exact ⟨i, by rw [h1]; omega, h2⟩
def delI {α : Type} (p : α → Bool) (xs : List α) (j : Nat) (s : List α × Nat) : Prop := s.1.length = xs.length ∧ s.1.take s.2 = (xs.take j).filter (fun x => !(p x)) ∧ s.1.drop j = xs.drop j ∧ s.2 < j
theorem delI_zero {α : Type} {p : α → Bool} {xs : List α} {i : Nat} (h1 : i < xs.length) (h2 : ∀ x, xs[i]? = some x → p x = true) (h3 : ∀ j x, j < i → xs[j]? = some x → p x = false) : delI p xs (i + 1 + 0) (xs, i) := by
  refine ⟨rfl, ?_, rfl, by simp⟩
  simp only [Nat.add_zero]
  rw [List.take_succ_eq_append_getElem h1, List.filter_append]
  have e1 : (xs.take i).filter (fun x => !(p x)) = xs.take i := by
    rw [List.filter_eq_self]
    intro x hx
    obtain ⟨j, hj⟩ := List.getElem?_of_mem hx
    rw [List.getElem?_take] at hj
    split at hj
    · rename_i hji; simp [h3 j x hji hj]
    · cases hj
  rw [e1, List.filter_cons, h2 _ (List.getElem?_eq_getElem h1)]
  simp
theorem delI_get {α : Type} {p : α → Bool} {xs : List α} {j : Nat} {s : List α × Nat} (h : delI p xs j s) (hj : j < xs.length) : s.1[j]'(by rw [h.1]; exact hj) = xs[j] := by
  have h1 := h.2.2.1
  rw [List.drop_eq_getElem_cons hj, List.drop_eq_getElem_cons (by rw [h.1]; exact hj)] at h1
  exact (List.cons.inj h1).1
theorem delI_step {α : Type} {p : α → Bool} {xs : List α} {j : Nat} {s : List α × Nat} (h : delI p xs j s) (hj : j < xs.length) : delI p xs (j + 1) (if p xs[j] = true then s else (s.1.set s.2 xs[j], s.2 + 1)) := by
  obtain ⟨h1, h2, h3, h4⟩ := h
  have h5 : s.1.drop (j + 1) = xs.drop (j + 1) := by
    have := congrArg (List.drop 1) h3
    simpa [List.drop_drop, Nat.add_comm] using this
  by_cases hp : p xs[j] = true
  · rw [if_pos hp]
    refine ⟨h1, ?_, h5, by omega⟩
    rw [h2, List.take_succ_eq_append_getElem hj, List.filter_append, List.filter_cons, hp]
    simp
  · rw [if_neg hp]
    refine ⟨by simp [h1], ?_, ?_, by simp; omega⟩
    · simp only
      rw [List.take_succ_eq_append_getElem (by simp; omega), List.getElem_set_self, List.take_set_of_le (Nat.le_refl _), h2, List.take_succ_eq_append_getElem hj, List.filter_append, List.filter_cons]
      simp [hp]
    · simp only
      rw [List.drop_set_of_lt (by omega)]
      exact h5
theorem delI_len {α : Type} {p : α → Bool} {xs : List α} {j : Nat} {s : List α × Nat} (h : delI p xs j s) : s.1.length = xs.length := h.1
theorem delI_end {α : Type} {p : α → Bool} {xs : List α} {j : Nat} {s : List α × Nat} (h : delI p xs j s) (hj : xs.length ≤ j) : s.1.take s.2 = xs.filter (fun x => !(p x)) := by
  rw [h.2.1, List.take_of_length_le hj]
theorem clearRows_take (z lo n : Nat) (es : List (List AV)) (h : lo ≤ es.length) : (clearRows z lo n es).take lo = es.take lo := by
  unfold clearRows
  rw [List.append_assoc, List.take_append_of_le_length (by simp; omega), List.take_take, Nat.min_self]
noncomputable def s88 : SP Try.prog := mkS tyA 88 Try.f88 [s89, s93] { md := [.mv, .ro 1], rg := [(0, [0, 1], []), (1, [0, 1, 5], []), (2, [0, 1, 5, 12], []), (3, [0, 4], []), (4, [0, 1, 5, 6], []), (5, [0, 1, 5, 6, 19], []), (6, [0, 1, 5, 6], []), (7, [0, 1, 5, 6, 7, 22], [7]), (8, [0, 1, 5, 6, 7, 22, 29], [7]), (9, [0, 1, 5, 6], []), (10, [0, 1, 5, 6], []), (11, [0, 5], []), (12, [0, 4], [])], lv := [(0, [0, 1, 5, 6], [])], out := [(0, [0, 5], [])], rets := some ([0, 4], []) } Try.func88 (by kernel_rfl)
@[go_sem] theorem d88 : s88.g = 88 ∧ s88.fs = ⟨[.mv, .ro 1], s88.F, false⟩ := ⟨nr rfl, nr rfl⟩
@[go_sem] theorem e88_89 (xs : List Mark) (w rMin rRatio rCool rQuota t : Int) (hb : xs.length ≤ 1048576) (h0 : Every (fun x => isTime x.At = true ∧ 0 ≤ w ∧ w ≤ 1000000) xs) : s88.F [.sl .mut 2 (xs.map (rMark .mut)), .fn 89 [.pr [.i .i64 w, .i .i64 rMin, .i .i64 rRatio, .i .i64 rCool, .i .i64 rQuota], .pr [.i .i64 t]]] = some (.sl .mut 2 ((xs.filter (fun x => !(decide (addT x.At w ≤ t)))).map (rMark .mut)), [.u, .u]) := mkS_eq (xs.length + 1) rfl rfl (fun cx h => by
  have hx : xs.length ≤ 9223372036854775806 := by omega
  rcases Int.lt_or_le (idxP (fun (x : Mark) => decide (addT x.At w ≤ t)) xs 0) 0 with hn | hn
  · have hm1 := idxP_neg (fun (x : Mark) => decide (addT x.At w ≤ t)) xs 0 hn
    have hf := delF_none (fun (x : Mark) => decide (addT x.At w ≤ t)) xs hm1
    simp only [go_sem, reduceIte, ↓reduceIte, reduceCtorEq, nA, nS, nM, nB, nE, nL, nT, nN, iL, iT, iE, iA, iM, iS, iG, iB, iN, iZ, h, hx, h0, hm1, hf]
  · obtain ⟨i, hi0, hi1, hi2, hi3⟩ := idxP_pos (fun (x : Mark) => decide (addT x.At w ≤ t)) xs hn
    have w1 : (IntKind.i64).wrap ((i : Int) + 1) = ((i + 1 : Nat) : Int) := wrap_nat1 (by omega)
    have hb0 := loopN_eq Try.f88 0 _ _ rfl rfl
    obtain ⟨hI, hr⟩ := loop_fold (cx := cx) (blk := 0) (body := loopN Try.f88 0) (xs.drop (i + 1)) (fun k (s : List Mark × Nat) => ⟨E [(0, .sl .mut 2 (s.1.map (rMark .mut))), (1, .fn 89 [.pr [.i .i64 w, .i .i64 rMin, .i .i64 rRatio, .i .i64 rCool, .i .i64 rQuota], .pr [.i .i64 t]]), (5, .i .i64 (s.2 : Nat)), (6, .i .i64 ((i + 1 + k : Nat) : Int))], B []⟩) (fun s => ⟨E [(0, .sl .mut 2 (s.1.map (rMark .mut))), (5, .i .i64 (s.2 : Nat))], B []⟩) (fun x s => (if decide (addT x.At w ≤ t) then s else (s.1.set s.2 x, s.2 + 1))) (fun k s => delI (fun (x : Mark) => decide (addT x.At w ≤ t)) xs (i + 1 + k) s)
        (fun s hI G => by simp only [go_sem, reduceIte, ↓reduceIte, reduceCtorEq, nA, nS, nM, nB, nE, nL, nT, nN, iL, iT, iE, iA, iM, iS, iG, iB, iN, iZ, h, Int.lt_irrefl, hb0, delI_len hI, show List.take xs.length (List.map (rMark .mut) s.1) = List.map (rMark .mut) s.1 from List.take_of_length_le (by rw [List.length_map, hI.1]; exact Nat.le_refl _), show ¬ (((i + 1 + (xs.drop (i + 1)).length : Nat) : Int) < (xs.length : Int)) by simp; omega]) (fun k hk s hI => by
          have h1 : ((k : Int) < ((xs.drop (i + 1)).length : Int)) := Int.ofNat_lt.2 hk
          have hkl : i + 1 + k < xs.length := by simp at hk; omega
          have hget : (xs.drop (i + 1))[k] = xs[i + 1 + k] := by simp
          have hlen : s.1.length = xs.length := hI.1
          have hsi : s.2 < s.1.length := by have := hI.2.2.2; omega
          have hcur : s.1[i + 1 + k]'(by omega) = xs[i + 1 + k] := delI_get hI hkl
          have j1 : (((i + 1 + k : Nat) : Int) < (xs.length : Int)) := Int.ofNat_lt.2 hkl
          have j2 : (IntKind.i64).wrap (((i + 1 + k : Nat) : Int) + 1) = ((i + 1 + (k + 1) : Nat) : Int) := wrap_nat1 (by omega)
          have j3 : (IntKind.i64).wrap (((s.2 : Nat) : Int) + 1) = ((s.2 + 1 : Nat) : Int) := wrap_nat1 (by omega)
          have j4 := map_gd (rMark .mut) s.1 (i + 1 + k) (by omega)
          rw [hcur] at j4
          have j6 := gd_map (rMark .mut) s.1 (i + 1 + k) (by omega)
          rw [hcur] at j6
          have j7 := gd_map (rMark .mut) s.1 s.2 hsi
          have j5 : (s.1.map (rMark .mut)).set s.2 ((rMark .mut) xs[i + 1 + k]) = (s.1.set s.2 xs[i + 1 + k]).map (rMark .mut) := (List.map_set).symm
          have j8 : List.take xs.length (List.map (rMark .mut) s.1) = List.map (rMark .mut) s.1 := List.take_of_length_le (by rw [List.length_map, hlen]; exact Nat.le_refl _)
          simp only [rMark] at j5
          have h2 := h0 _ (List.getElem_mem hkl)
          simp only at h2
          by_cases hd : decide (addT xs[i + 1 + k].At w ≤ t) = true
          all_goals have hd' := hd
          all_goals try simp only [decide_eq_true_eq] at hd'
          all_goals exact ⟨by rw [hget]; exact delI_step hI (by omega), _, fun G => by simp only [go_sem, reduceIte, ↓reduceIte, reduceCtorEq, nA, nS, nM, nB, nE, nL, nT, nN, iL, iT, iE, iA, iM, iS, iG, iB, iN, iZ, h, j1, j2, j3, j4, j5, j6, j7, j8, hlen, idx_nt xs.length _ hkl, idx_nt xs.length s.2 (by omega), h2, hd, hd', h1, idx_nt _ _ hk, wrap_nat1 (show k < 9223372036854775807 by omega), hb0] <;> with_reducible rfl, by simp only [go_sem, reduceIte, ↓reduceIte, reduceCtorEq, nA, nS, nM, nB, nE, nL, nT, nN, iL, iT, iE, iA, iM, iS, iG, iB, iN, iZ, h, hget, hd, hd']⟩) (xs, i) (delI_zero hi1 hi2 hi3) (xs.length + 1) (by simp <;> omega)
    rw [hb0] at hr
    generalize List.foldl _ _ _ = q at hI hr
    have e9 := delI_end hI (by simp <;> omega)
    have e8 : q.1.length = xs.length := hI.1
    have e7 : q.2 ≤ xs.length := by have h1 := hI.2.2.2; simp only [List.length_drop] at h1; omega
    have e6 : (0 : Int) ≤ (q.2 : Int) := by omega
    have e5 : (q.2 : Int) ≤ (xs.length : Int) := by omega
    have e4 : ((i : Int) == -1) = false := by simp <;> omega
    have c1 : (clearRows 2 q.2 (xs.length - q.2) (q.1.map (rMark .mut))).length = xs.length := by rw [clearRows_len (by rw [List.length_map]; omega), List.length_map, e8]
    have c2 : (clearRows 2 q.2 (xs.length - q.2) (q.1.map (rMark .mut))).take q.2 = (xs.filter (fun x => !(decide (addT x.At w ≤ t)))).map (rMark .mut) := by rw [clearRows_take _ _ _ _ (by rw [List.length_map]; omega), ← List.map_take, e9]
    have e3 : q.2 + (xs.length - q.2) ≤ xs.length := by omega
    simp only [go_sem, reduceIte, ↓reduceIte, reduceCtorEq, nA, nS, nM, nB, nE, nL, nT, nN, iL, iT, iE, iA, iM, iS, iG, iB, iN, iZ, h, hx, h0, hi0, w1, hr, e8, e7, e6, e5, e4, e3, c1, c2, Int.toNat_natCast, Nat.sub_zero]) (by simp only [go_sem, reduceIte, ↓reduceIte, reduceCtorEq, nA, nS, nM, nB, nE, nL, nT, nN, iL, iT, iE, iA, iM, iS, iG, iB, iN, iZ, okRes, hasRo])
def kept (b : Breaker) (r : Rules) (now : Int) : List Mark := b.Marks.filter fun x => !decide (addT x.At r.Window ≤ now)
def noteMs (b : Breaker) (r : Rules) (now : Int) (good : Bool) : List Mark :=
  if 60 < (((kept b r now ++ [Mark.mk now good]).length : Nat) : Int) then (kept b r now ++ [Mark.mk now good]).drop 1 else kept b r now ++ [Mark.mk now good]
def noteM (b : Breaker) (r : Rules) (now : Int) (good : Bool) : Breaker :=
  if b.State = 1 then b
  else if b.State = 2 then (if good = true then ⟨0, b.Since, 0, []⟩ else ⟨1, now, 0, []⟩)
  else if r.Min ≤ ((noteMs b r now good).length : Int) ∧ r.Ratio * ((noteMs b r now good).length : Int) ≤ 1000 * badN (noteMs b r now good) then ⟨1, now, 0, []⟩ else ⟨0, b.Since, b.Out, noteMs b r now good⟩
theorem kept_len (b : Breaker) (r : Rules) (now : Int) : (kept b r now).length ≤ b.Marks.length := List.length_filter_le _ _
theorem fold_filter {α : Type} (p : α → Bool) : ∀ (xs acc : List α), xs.foldl (fun s x => if p x = true then s else s ++ [x]) acc = acc ++ xs.filter fun x => !p x
  | [], acc => by simp
  | x :: xs, acc => by
    rw [List.foldl_cons, fold_filter p xs, List.filter_cons]
    cases p x <;> simp
theorem noteMs_len (b : Breaker) (r : Rules) (now : Int) (good : Bool) (h : b.Marks.length ≤ 60) : (noteMs b r now good).length ≤ 61 := by
  have h1 := kept_len b r now
  unfold noteMs
  split <;> simp <;> omega
theorem mul_wrap {a n : Int} (h1 : 0 ≤ a) (h2 : a ≤ 1000) (h3 : 0 ≤ n) (h4 : n ≤ 1000) : (IntKind.i64).wrap (a * n) = a * n := by
  have h5 := Int.mul_nonneg h1 h3
  have h6 := Int.mul_le_mul h2 h4 h3 (by omega)
  exact wrap_id (by omega) (by omega)
noncomputable def s42 : SP Try.prog := mkS tyA 42 Try.f42 [s46, s88] { md := [.rw 4, .ro 1, .ro 1, .ro 1], rg := [(0, [0, 3, 5, 6, 46], [0, 5, 6]), (1, [0, 3, 5, 6, 12, 46], [0, 5, 6]), (2, [0, 3, 5, 6, 12, 13, 46], [0, 5, 6]), (3, [0, 3, 5, 6, 46], [0, 5, 6]), (4, [0, 5, 6, 46], [0, 5, 6]), (5, [0, 5, 6, 41, 46], [0, 5, 6]), (6, [0, 5, 6, 46], [0, 5, 6]), (7, [0, 5, 6, 8, 46], [0, 5, 6]), (8, [0, 6, 46, 70], [0, 6]), (9, [0, 46], [0]), (10, [0, 3, 6, 46, 75], [0, 6]), (11, [0, 6, 46, 77], [0, 6]), (12, [0, 46], [0]), (13, [0, 46], [0])], rets := some ([0, 46], [0]), plan := [(4, (.take 0 (.take 1 (.take 2 (.take 3 (.take 4 (.take 5 (.take 6 (.take 7 (.one 8 (.one 9 (.one 10 (.take 11 (.one 12 .done)))))))))))))), (8, (.take 0 (.take 1 (.take 2 (.take 3 (.take 4 (.take 5 (.take 6 (.take 7 (.take 10 (.take 11 (.take 12 (.take 13 (.one 8 (.take 9 (.take 14 (.take 15 .done)))))))))))))))))], fz := [5, 6] } Try.func42 (by kernel_rfl)
@[go_sem] theorem d42 : s42.g = 42 ∧ s42.fs = ⟨[.rw 4, .ro 1, .ro 1, .ro 1], s42.F, false⟩ := ⟨nr rfl, nr rfl⟩
@[go_sem] theorem e42 (bState bSince bOut : Int) (bMarks : List Mark) (rWindow rMin rRatio rCool rQuota now : Int) (good : Bool) (hf : breakerFault (Breaker.mk bState bSince bOut bMarks) = 0) (hg : rulesFault (Rules.mk rWindow rMin rRatio rCool rQuota) = 0) : s42.F [.agg [.i .i64 bState, .i .i64 bSince, .i .i64 bOut, .sl .mut 2 (bMarks.map (rMark .mut))], .agg [.i .i64 rWindow, .i .i64 rMin, .i .i64 rRatio, .i .i64 rCool, .i .i64 rQuota], .i .i64 now, .b good] = some (.tup [], [.agg (rBreaker .mut (noteM (Breaker.mk bState bSince bOut bMarks) (Rules.mk rWindow rMin rRatio rCool rQuota) now good)), .u, .u, .u]) := mkS_eq (0) rfl rfl (fun cx h => by
  have hB := breakerFault_ok hf
  have hR := rulesFault_ok hg
  simp only at hB hR
  have hk1 := kept_len (Breaker.mk bState bSince bOut bMarks) (Rules.mk rWindow rMin rRatio rCool rQuota) now
  simp only at hk1
  obtain ⟨K, hK⟩ : ∃ K, kept (Breaker.mk bState bSince bOut bMarks) (Rules.mk rWindow rMin rRatio rCool rQuota) now ++ [Mark.mk now good] = K := ⟨_, rfl⟩
  have hKl : K.length = (kept (Breaker.mk bState bSince bOut bMarks) (Rules.mk rWindow rMin rRatio rCool rQuota) now).length + 1 := by rw [← hK]; simp
  have hA : (kept (Breaker.mk bState bSince bOut bMarks) (Rules.mk rWindow rMin rRatio rCool rQuota) now).map (rMark .mut) ++ [[.i .i64 now, .b good]] = K.map (rMark .mut) := by rw [← hK]; simp [rMark]
  have hs : List.take (K.length - 1) (List.drop 1 (K.map (rMark .mut))) = (K.drop 1).map (rMark .mut) := by rw [List.take_of_length_le (by simp), List.map_drop]
  have hP : ((kept (Breaker.mk bState bSince bOut bMarks) (Rules.mk rWindow rMin rRatio rCool rQuota) now).length + 1) * 16 ≤ 140737488355328 := by omega
  obtain ⟨M, hM⟩ : ∃ M, noteMs (Breaker.mk bState bSince bOut bMarks) (Rules.mk rWindow rMin rRatio rCool rQuota) now good = M := ⟨_, rfl⟩
  have hM2 : M = if 60 < (K.length : Int) then K.drop 1 else K := by rw [← hM]; unfold noteMs; rw [hK]
  have hMl : M.length ≤ 61 := by rw [← hM]; exact noteMs_len _ _ _ _ hB.2.2.2.1
  have hb1 := badN_le M
  have w2 : (IntKind.i64).wrap (1000 * badN M) = 1000 * badN M := wrap_id (by omega) (by omega)
  have w3 : (IntKind.i64).wrap (rRatio * (M.length : Int)) = rRatio * (M.length : Int) := mul_wrap (by omega) (by omega) (by omega) (by omega)
  have hq1 : K.length ≤ 1000 := by omega
  have hq2 : (K.drop 1).length ≤ 1000 := by simp; omega
  have hq3 : (1 : Int) ≤ (K.length : Int) := by omega
  have hq4 : 1 + (K.length - 1) ≤ K.length := by omega
  have hq5 : 1 + (K.length - 1) = K.length := by omega
  have hE : Every (fun x => isTime x.At = true ∧ 0 ≤ rWindow ∧ rWindow ≤ 1000000) bMarks := fun x hx => ⟨badT_get hB.2.2.2.2.1 hx, by omega, by omega⟩
  have hx1 : bMarks.length ≤ 1048576 := by omega
  by_cases s1 : bState = 1
  · subst s1
    simp only [go_sem, reduceIte, ↓reduceIte, reduceCtorEq, nA, nS, nM, nB, nE, nL, nT, nN, iL, iT, iE, iA, iM, iS, iG, iB, iN, iZ, h, noteM]
  by_cases s2 : bState = 2
  · subst s2
    have hm : bMarks = [] := hB.2.2.2.2.2.2.1 (by decide)
    cases good
    · simp only [go_sem, reduceIte, ↓reduceIte, reduceCtorEq, nA, nS, nM, nB, nE, nL, nT, nN, iL, iT, iE, iA, iM, iS, iG, iB, iN, iZ, h, noteM]
    · simp only [go_sem, reduceIte, ↓reduceIte, reduceCtorEq, nA, nS, nM, nB, nE, nL, nT, nN, iL, iT, iE, iA, iM, iS, iG, iB, iN, iZ, h, noteM]
  have s0 : bState = 0 := by omega
  subst s0
  have ho : bOut = 0 := hB.2.2.2.2.2.2.2 (by decide)
  have hkd : (bMarks.filter fun x => !decide (addT x.At rWindow ≤ now)) = kept (Breaker.mk 0 bSince bOut bMarks) (Rules.mk rWindow rMin rRatio rCool rQuota) now := rfl
  by_cases c : 60 < (K.length : Int)
  · rw [if_pos c] at hM2
    by_cases d1 : rMin ≤ (M.length : Int) <;> by_cases d2 : rRatio * (M.length : Int) ≤ 1000 * badN M
    all_goals have hz1 := d1
    all_goals have hz2 := d2
    all_goals rw [hM2] at d1 d2 w2 w3
    all_goals simp only [go_sem, reduceIte, ↓reduceIte, reduceCtorEq, nA, nS, nM, nB, nE, nL, nT, nN, iL, iT, iE, iA, iM, iS, iG, iB, iN, iZ, h, noteM, hE, hx1, hkd, hA, hP, c, hs, hM, hz1, hz2, d1, d2, w2, w3, hq1, hq2, hq3, hq4, hq5, hM2, s1, s2]
  · rw [if_neg c] at hM2
    by_cases d1 : rMin ≤ (M.length : Int) <;> by_cases d2 : rRatio * (M.length : Int) ≤ 1000 * badN M
    all_goals have hz1 := d1
    all_goals have hz2 := d2
    all_goals rw [hM2] at d1 d2 w2 w3
    all_goals simp only [go_sem, reduceIte, ↓reduceIte, reduceCtorEq, nA, nS, nM, nB, nE, nL, nT, nN, iL, iT, iE, iA, iM, iS, iG, iB, iN, iZ, h, noteM, hE, hx1, hkd, hA, hP, c, hs, hM, hz1, hz2, d1, d2, w2, w3, hq1, hq2, hq3, hq4, hq5, hM2, s1, s2]) (by simp only [go_sem, reduceIte, ↓reduceIte, reduceCtorEq, nA, nS, nM, nB, nE, nL, nT, nN, iL, iT, iE, iA, iM, iS, iG, iB, iN, iZ, okRes, hasRo, hasRoL, hasRoLL])
def noteOutcome (b : Breaker) (r : Rules) (now : Int) (good : Bool) : BreakerResult := if breakerCode b r now = 0 then ⟨0, noteM b r now good⟩ else ⟨breakerCode b r now, ⟨0, 0, 0, []⟩⟩
theorem noteM_len (b : Breaker) (r : Rules) (now : Int) (good : Bool) (h : b.Marks.length ≤ 60) : (noteM b r now good).Marks.length ≤ 61 := by
  have h1 := noteMs_len b r now good h
  unfold noteM
  repeat' split
  all_goals first | exact h1 | exact Nat.le_trans h (by decide) | exact Nat.zero_le _
theorem marks_sm (ms : List Mark) (h : ms.length ≤ 1048576) : smL smMark ms := ⟨h, fun x _ => sm_trivMark x⟩
theorem noteOutcome_sm (b : Breaker) (r : Rules) (now : Int) (good : Bool) : smBreakerResult (noteOutcome b r now good) := by
  unfold noteOutcome
  by_cases hc : breakerCode b r now = 0
  · rw [if_pos hc]
    exact ⟨trivial, trivial, trivial, trivial, marks_sm _ (Nat.le_trans (noteM_len b r now good (breakerFault_ok (breakerCode_ok hc).1).2.2.2.1) (by decide))⟩
  · rw [if_neg hc]
    exact ⟨trivial, trivial, trivial, trivial, marks_sm _ (Nat.zero_le _)⟩
noncomputable def s9 : SP Try.prog := mkS tyA 9 Try.f9 [s40, s41, s42] { md := [.ro 1, .ro 1, .ro 1, .ro 1], rg := [(0, [2, 3, 4, 5, 8, 25], [4, 5, 8, 10]), (1, [2, 3, 4, 5, 8, 9, 25], [4, 5, 8, 10]), (2, [2, 3, 4, 5, 8, 9, 16, 25], [4, 5, 8, 10]), (3, [8, 25], [8, 10]), (4, [2, 3, 5, 8, 10, 25], [5, 8, 10]), (5, [8, 10, 25], [8, 10]), (6, [8, 25], [8, 10])], rets := some ([8, 25], [8, 10]) } Try.func9 (by kernel_rfl)
@[go_sem] theorem d9 : s9.g = 9 ∧ s9.fs = ⟨[.ro 1, .ro 1, .ro 1, .ro 1], s9.F, false⟩ := ⟨nr rfl, nr rfl⟩
@[go_sem] theorem e9 (bState : Int) (bSince : Int) (bOut : Int) (bMarks : List Mark) (rWindow : Int) (rMin : Int) (rRatio : Int) (rCool : Int) (rQuota : Int) (now : Int) (good : Bool) (h0 : smL smMark (Breaker.mk bState bSince bOut bMarks).Marks) : s9.F [.agg [.i .i64 bState, .i .i64 bSince, .i .i64 bOut, .sl .ro 2 (bMarks.map (rMark .ro))], .agg [.i .i64 rWindow, .i .i64 rMin, .i .i64 rRatio, .i .i64 rCool, .i .i64 rQuota], .i .i64 now, .b good] = some (.agg (rBreakerResult .mut (noteOutcome (Breaker.mk bState bSince bOut bMarks) (Rules.mk rWindow rMin rRatio rCool rQuota) now good)), [.u, .u, .u, .u]) := mkS_eq (0) rfl rfl (fun cx h => by
  have hx := h0.1
  simp only at hx
  by_cases c : breakerCode (Breaker.mk bState bSince bOut bMarks) (Rules.mk rWindow rMin rRatio rCool rQuota) now = 0
  · have c1 := breakerCode_ok c
    simp only [go_sem, reduceIte, ↓reduceIte, reduceCtorEq, nA, nS, nM, nB, nE, nL, nT, nN, iL, iT, iE, iA, iM, iS, iG, iB, iN, iZ, h, noteOutcome, c, c1.1, c1.2.1, hx, h0]
  · have c1 : (breakerCode (Breaker.mk bState bSince bOut bMarks) (Rules.mk rWindow rMin rRatio rCool rQuota) now != 0) = true := by simpa using c
    simp only [go_sem, reduceIte, ↓reduceIte, reduceCtorEq, nA, nS, nM, nB, nE, nL, nT, nN, iL, iT, iE, iA, iM, iS, iG, iB, iN, iZ, h, noteOutcome, c, c1, hx, h0]) (by simp only [go_sem, reduceIte, ↓reduceIte, reduceCtorEq, nA, nS, nM, nB, nE, nL, nT, nN, iL, iT, iE, iA, iM, iS, iG, iB, iN, iZ, okRes, hasRo, hasRoL, hasRoLL])
def bat (code : List UInt8) (i : Int) : Int := ((code.getD i.toNat 0).toNat : Int)
def nextV (code : List UInt8) (a n : Int) : Int :=
  if n < 1 then 0 else if code.length = 0 then (a * 7).tmod n else
    let k : Int := code.length
    let v := bat code (a.tmod k) + a.tdiv k * 37
    let v := if 200 < n then v * 251 + bat code ((a + 1).tmod k) * 13 + a else v
    let v := if 60000 < n then v * 257 + bat code ((a + 2).tmod k) else v
    v.tmod n
def aOk (a : Int) : Bool := decide (0 ≤ a ∧ a ≤ 1000000)
theorem bat_le (code : List UInt8) (i : Int) : 0 ≤ bat code i ∧ bat code i ≤ 255 := by
  have := (code.getD i.toNat 0).toNat_lt
  unfold bat; omega
theorem tmod_in {a k : Int} (h0 : 0 ≤ a) (hk : 0 < k) : 0 ≤ a.tmod k ∧ a.tmod k < k := ⟨Int.tmod_nonneg _ h0, Int.tmod_lt_of_pos _ hk⟩
theorem tmod_nat (code : List UInt8) (a : Int) (h0 : 0 ≤ a) (h : ¬ code.length = 0) : ∃ i : Nat, a.tmod code.length = (i : Int) ∧ i < code.length := by
  have h1 := tmod_in h0 (k := code.length) (by omega)
  exact ⟨(a.tmod code.length).toNat, by omega, by omega⟩
theorem bat_at (code : List UInt8) (i : Nat) (h : i < code.length) : bat code (i : Int) = (code[i].toNat : Int) := by
  unfold bat; simp [List.getD, h]
noncomputable def s85 : SP Try.prog := mkS tyA 85 Try.f85 [] { md := [.rw 2, .ro 1], wk := true, rg := [(0, [0, 1], [0]), (1, [0, 1], [0]), (2, [0, 1, 17], [0]), (3, [0, 4], [0]), (4, [0, 1, 5], [0]), (5, [0, 1, 5, 6], [0]), (6, [0, 1, 5, 6, 29], [0]), (7, [0, 4], [0]), (8, [0, 1, 5, 6, 7], [0]), (9, [0, 1, 5, 6, 7, 50], [0]), (10, [0, 1, 5, 6, 7], [0]), (11, [0, 1, 5, 6, 7, 69], [0]), (12, [0, 1, 7], [0]), (13, [0, 4], [0])], rets := some ([0, 4], [0]), plan := [(8, (.take 0 (.take 1 (.take 2 (.take 3 (.take 4 (.take 5 (.take 6 (.take 7 (.take 8 (.take 9 (.take 10 (.take 11 (.take 12 (.take 13 (.take 14 (.one 15 .done))))))))))))))))), (10, (.take 0 (.take 1 (.take 2 (.take 3 (.take 4 (.take 5 (.take 6 (.take 7 (.take 8 (.take 9 (.take 10 (.take 11 (.take 12 (.take 13 (.take 14 (.take 15 (.take 16 (.one 17 .done))))))))))))))))))), (12, (.take 0 (.take 1 (.take 2 (.take 3 (.take 4 (.take 5 (.take 6 (.take 7 (.take 8 (.take 9 (.take 10 (.take 11 (.take 12 (.take 13 (.one 14 .done))))))))))))))))] } Try.func85 (by kernel_rfl)
@[go_sem] theorem d85 : s85.g = 85 ∧ s85.fs = ⟨[.rw 2, .ro 1], s85.F, true⟩ := ⟨nr rfl, nr rfl⟩
@[go_sem] theorem e85 (code : List UInt8) (a n : Int) (h1 : aOk a = true) : s85.F [.agg [.sl .ro 1 (code.map rByte), .i .i64 a], .i .i64 n] = some (.i .i64 (nextV code a n), [.agg [.sl .ro 1 (code.map rByte), .i .i64 (a + 1)], .u]) := mkS_eq (0) rfl rfl (fun cx h => by
  have ha : 0 ≤ a ∧ a ≤ 1000000 := by simpa [aOk] using h1
  have w1 : (IntKind.i64).wrap (a + 1) = a + 1 := wrap_id (by omega) (by omega)
  have w2 : (IntKind.i64).wrap (a + 1 - 1) = a := by rw [wrap_id (by omega) (by omega)]; omega
  have w3 : (IntKind.i64).wrap (a * 7) = a * 7 := wrap_id (by omega) (by omega)
  by_cases c1 : n < 1
  · simp only [go_sem, reduceIte, ↓reduceIte, reduceCtorEq, nA, nS, nM, nB, nE, nL, nT, nN, iL, iT, iE, iA, iM, iS, iG, iB, iN, iZ, h, nextV, c1, w1]
  have c3 : ¬ n = 0 := by omega
  by_cases c2 : (code.length : Int) = 0
  · have c2' : code.length = 0 := by omega
    simp only [go_sem, reduceIte, ↓reduceIte, reduceCtorEq, nA, nS, nM, nB, nE, nL, nT, nN, iL, iT, iE, iA, iM, iS, iG, iB, iN, iZ, h, nextV, c1, c2, c2', c3, w1, w2, w3]
  have c2' : ((code.length : Int) == 0) = false := by simpa using c2
  have c2n : ¬ code.length = 0 := by omega
  obtain ⟨i1, e1, l1⟩ := tmod_nat code a (by omega) c2n
  obtain ⟨i2, e2, l2⟩ := tmod_nat code (a + 1) (by omega) c2n
  obtain ⟨i3, e3, l3⟩ := tmod_nat code (a + 2) (by omega) c2n
  have b1 := bat_at code i1 l1
  have b2 := bat_at code i2 l2
  have b3 := bat_at code i3 l3
  have g1 := bat_le code i1
  have g2 := bat_le code i2
  have g3 := bat_le code i3
  rw [b1] at g1
  rw [b2] at g2
  rw [b3] at g3
  have q0 : 0 ≤ a.tdiv code.length ∧ a.tdiv code.length ≤ 1000000 := ⟨Int.tdiv_nonneg ha.1 (by omega), Int.le_trans (Int.tdiv_le_self _ ha.1) ha.2⟩
  obtain ⟨d, hd⟩ : ∃ d, a.tdiv code.length = d := ⟨_, rfl⟩
  rw [hd] at q0
  have w4 : (IntKind.i64).wrap d = d := wrap_id (by omega) (by omega)
  have w5 : (IntKind.i64).wrap (d * 37) = d * 37 := wrap_id (by omega) (by omega)
  have w6 : (IntKind.i64).wrap ((code[i1].toNat : Int) + d * 37) = (code[i1].toNat : Int) + d * 37 := wrap_id (by omega) (by omega)
  have w7 : (IntKind.i64).wrap (((code[i1].toNat : Int) + d * 37) * 251) = ((code[i1].toNat : Int) + d * 37) * 251 := wrap_id (by omega) (by omega)
  have w8 : (IntKind.i64).wrap ((code[i2].toNat : Int) * 13) = (code[i2].toNat : Int) * 13 := wrap_id (by omega) (by omega)
  have w9 : (IntKind.i64).wrap (((code[i1].toNat : Int) + d * 37) * 251 + (code[i2].toNat : Int) * 13) = ((code[i1].toNat : Int) + d * 37) * 251 + (code[i2].toNat : Int) * 13 := wrap_id (by omega) (by omega)
  have w10 : (IntKind.i64).wrap (((code[i1].toNat : Int) + d * 37) * 251 + (code[i2].toNat : Int) * 13 + a) = ((code[i1].toNat : Int) + d * 37) * 251 + (code[i2].toNat : Int) * 13 + a := wrap_id (by omega) (by omega)
  have w11 : (IntKind.i64).wrap ((((code[i1].toNat : Int) + d * 37) * 251 + (code[i2].toNat : Int) * 13 + a) * 257) = (((code[i1].toNat : Int) + d * 37) * 251 + (code[i2].toNat : Int) * 13 + a) * 257 := wrap_id (by omega) (by omega)
  have w12 : (IntKind.i64).wrap ((((code[i1].toNat : Int) + d * 37) * 251 + (code[i2].toNat : Int) * 13 + a) * 257 + (code[i3].toNat : Int)) = (((code[i1].toNat : Int) + d * 37) * 251 + (code[i2].toNat : Int) * 13 + a) * 257 + (code[i3].toNat : Int) := wrap_id (by omega) (by omega)
  have w13 : (IntKind.i64).wrap (a + 2) = a + 2 := wrap_id (by omega) (by omega)
  have v1 : (IntKind.i64).wrap (code[i1].toNat : Int) = (code[i1].toNat : Int) := wrap_id (by omega) (by omega)
  have v2 : (IntKind.i64).wrap (code[i2].toNat : Int) = (code[i2].toNat : Int) := wrap_id (by omega) (by omega)
  have v3 : (IntKind.i64).wrap (code[i3].toNat : Int) = (code[i3].toNat : Int) := wrap_id (by omega) (by omega)
  by_cases k1 : 200 < n <;> by_cases k2 : 60000 < n
  all_goals try omega
  all_goals simp only [go_sem, reduceIte, ↓reduceIte, reduceCtorEq, nA, nS, nM, nB, nE, nL, nT, nN, iL, iT, iE, iA, iM, iS, iG, iB, iN, iZ, h, nextV, c1, c2, c2', c2n, c3, w1, w2, v1, v2, v3, w4, w5, w6, w7, w8, w9, w10, w11, w12, w13, k1, k2, e1, e2, e3, hd, b1, b2, b3, idx_nt _ _ l1, idx_nt _ _ l2, idx_nt _ _ l3, map_gd rByte code i1 l1, map_gd rByte code i2 l2, map_gd rByte code i3 l3]) (rfl)
noncomputable def s38 : SP Try.prog := mkS tyA 38 Try.f38 [s85] { md := [.rw 2, .ro 1], wk := true, rets := some ([0, 4], [0]) } Try.func38 (by kernel_rfl)
@[go_sem] theorem d38 : s38.g = 38 ∧ s38.fs = ⟨[.rw 2, .ro 1], s38.F, true⟩ := ⟨nr rfl, nr rfl⟩
@[go_sem] theorem e38 (code : List UInt8) (a n : Int) (h1 : aOk a = true) : s38.F [.agg [.sl .ro 1 (code.map rByte), .i .i64 a], .i .i64 n] = some (.b (nextV code a n == 0), [.agg [.sl .ro 1 (code.map rByte), .i .i64 (a + 1)], .u]) := mkS_eq (0) rfl rfl (fun cx h => by
  simp only [go_sem, reduceIte, ↓reduceIte, reduceCtorEq, nA, nS, nM, nB, nE, nL, nT, nN, iL, iT, iE, iA, iM, iS, iG, iB, iN, iZ, h, h1]) (rfl)
noncomputable def s56 : SP Try.prog := mkS tyA 56 Try.f56 [] { md := [.ro 1], wk := true, rets := some ([0, 2, 3], [5]) } Try.func56 (by kernel_rfl)
@[go_sem] theorem d56 : s56.g = 56 ∧ s56.fs = ⟨[.ro 1], s56.F, true⟩ := ⟨nr rfl, nr rfl⟩
@[go_sem] theorem e56 (code : List UInt8) : s56.F [.sl .ro 1 (code.map rByte)] = some (.tup [.agg [.sl .ro 1 (code.map rByte), .i .i64 0]], [.u]) := mkS_eq (0) rfl rfl (fun cx h => by
  simp only [go_sem, reduceIte, ↓reduceIte, reduceCtorEq, nA, nS, nM, nB, nE, nL, nT, nN, iL, iT, iE, iA, iM, iS, iG, iB, iN, iZ, h]) (rfl)
theorem nextV_in (code : List UInt8) {a n : Int} (h : aOk a = true) (hn : 1 ≤ n) : 0 ≤ nextV code a n ∧ nextV code a n < n := by
  have ha : 0 ≤ a ∧ a ≤ 1000000 := by simpa [aOk] using h
  have g := bat_le code
  unfold nextV
  rw [if_neg (by omega)]
  by_cases c : code.length = 0
  · rw [if_pos c]; exact tmod_in (by omega) (by omega)
  rw [if_neg c]
  have q0 : 0 ≤ a.tdiv code.length := Int.tdiv_nonneg ha.1 (Int.natCast_nonneg _)
  have g1 := g (a.tmod code.length)
  have g2 := g ((a + 1).tmod code.length)
  have g3 := g ((a + 2).tmod code.length)
  refine tmod_in ?_ (by omega)
  split <;> split <;> omega
def pickV (code : List UInt8) (a : Int) (xs : List Int) : Int := xs.getD (nextV code a xs.length).toNat 0
theorem pick_nat (code : List UInt8) {a : Int} (xs : List Int) (h : aOk a = true) (hx : 0 < xs.length) : ∃ i : Nat, nextV code a xs.length = (i : Int) ∧ i < xs.length := by
  have := nextV_in code (n := xs.length) h (by omega)
  exact ⟨(nextV code a xs.length).toNat, by omega, by omega⟩
noncomputable def s58 : SP Try.prog := mkS tyA 58 Try.f58 [s85] { md := [.rw 2, .ro 1], wk := true, rets := some ([0, 4], [0]) } Try.func58 (by kernel_rfl)
@[go_sem] theorem d58 : s58.g = 58 ∧ s58.fs = ⟨[.rw 2, .ro 1], s58.F, true⟩ := ⟨nr rfl, nr rfl⟩
theorem e58 (code : List UInt8) (a : Int) (xs : List Int) (h1 : aOk a = true) (h2 : 0 < xs.length) : s58.F [.agg [.sl .ro 1 (code.map rByte), .i .i64 a], .sl .ro 1 (xs.map rInt)] = some (.i .i64 (pickV code a xs), [.agg [.sl .ro 1 (code.map rByte), .i .i64 (a + 1)], .u]) := mkS_eq (0) rfl rfl (fun cx h => by
  obtain ⟨i, e, hi⟩ := pick_nat code xs h1 h2
  have e2 : pickV code a xs = xs[i] := by unfold pickV; rw [e]; simp [List.getD, hi]
  simp only [go_sem, reduceIte, ↓reduceIte, reduceCtorEq, nA, nS, nM, nB, nE, nL, nT, nN, iL, iT, iE, iA, iM, iS, iG, iB, iN, iZ, h, h1, e, e2, idx_nt _ _ hi, map_gd rInt xs i hi]) (rfl)
@[go_sem] theorem e58_2 (code : List UInt8) (a x0 x1 : Int) (h1 : aOk a = true) : s58.F [.agg [.sl .ro 1 (code.map rByte), .i .i64 a], .sl .ro 1 [[.i .i64 x0], [.i .i64 x1]]] = some (.i .i64 (pickV code a [x0, x1]), [.agg [.sl .ro 1 (code.map rByte), .i .i64 (a + 1)], .u]) := e58 code a [x0, x1] h1 (by simp)
@[go_sem] theorem e58_3 (code : List UInt8) (a x0 x1 x2 : Int) (h1 : aOk a = true) : s58.F [.agg [.sl .ro 1 (code.map rByte), .i .i64 a], .sl .ro 1 [[.i .i64 x0], [.i .i64 x1], [.i .i64 x2]]] = some (.i .i64 (pickV code a [x0, x1, x2]), [.agg [.sl .ro 1 (code.map rByte), .i .i64 (a + 1)], .u]) := e58 code a [x0, x1, x2] h1 (by simp)
@[go_sem] theorem e58_4 (code : List UInt8) (a x0 x1 x2 x3 : Int) (h1 : aOk a = true) : s58.F [.agg [.sl .ro 1 (code.map rByte), .i .i64 a], .sl .ro 1 [[.i .i64 x0], [.i .i64 x1], [.i .i64 x2], [.i .i64 x3]]] = some (.i .i64 (pickV code a [x0, x1, x2, x3]), [.agg [.sl .ro 1 (code.map rByte), .i .i64 (a + 1)], .u]) := e58 code a [x0, x1, x2, x3] h1 (by simp)
@[go_sem] theorem e58_5 (code : List UInt8) (a x0 x1 x2 x3 x4 : Int) (h1 : aOk a = true) : s58.F [.agg [.sl .ro 1 (code.map rByte), .i .i64 a], .sl .ro 1 [[.i .i64 x0], [.i .i64 x1], [.i .i64 x2], [.i .i64 x3], [.i .i64 x4]]] = some (.i .i64 (pickV code a [x0, x1, x2, x3, x4]), [.agg [.sl .ro 1 (code.map rByte), .i .i64 (a + 1)], .u]) := e58 code a [x0, x1, x2, x3, x4] h1 (by simp)
@[go_sem] theorem e58_6 (code : List UInt8) (a x0 x1 x2 x3 x4 x5 : Int) (h1 : aOk a = true) : s58.F [.agg [.sl .ro 1 (code.map rByte), .i .i64 a], .sl .ro 1 [[.i .i64 x0], [.i .i64 x1], [.i .i64 x2], [.i .i64 x3], [.i .i64 x4], [.i .i64 x5]]] = some (.i .i64 (pickV code a [x0, x1, x2, x3, x4, x5]), [.agg [.sl .ro 1 (code.map rByte), .i .i64 (a + 1)], .u]) := e58 code a [x0, x1, x2, x3, x4, x5] h1 (by simp)
@[go_sem] theorem e58_7 (code : List UInt8) (a x0 x1 x2 x3 x4 x5 x6 : Int) (h1 : aOk a = true) : s58.F [.agg [.sl .ro 1 (code.map rByte), .i .i64 a], .sl .ro 1 [[.i .i64 x0], [.i .i64 x1], [.i .i64 x2], [.i .i64 x3], [.i .i64 x4], [.i .i64 x5], [.i .i64 x6]]] = some (.i .i64 (pickV code a [x0, x1, x2, x3, x4, x5, x6]), [.agg [.sl .ro 1 (code.map rByte), .i .i64 (a + 1)], .u]) := e58 code a [x0, x1, x2, x3, x4, x5, x6] h1 (by simp)
@[go_sem] theorem e58_8 (code : List UInt8) (a x0 x1 x2 x3 x4 x5 x6 x7 : Int) (h1 : aOk a = true) : s58.F [.agg [.sl .ro 1 (code.map rByte), .i .i64 a], .sl .ro 1 [[.i .i64 x0], [.i .i64 x1], [.i .i64 x2], [.i .i64 x3], [.i .i64 x4], [.i .i64 x5], [.i .i64 x6], [.i .i64 x7]]] = some (.i .i64 (pickV code a [x0, x1, x2, x3, x4, x5, x6, x7]), [.agg [.sl .ro 1 (code.map rByte), .i .i64 (a + 1)], .u]) := e58 code a [x0, x1, x2, x3, x4, x5, x6, x7] h1 (by simp)
@[go_sem] theorem e58_9 (code : List UInt8) (a x0 x1 x2 x3 x4 x5 x6 x7 x8 : Int) (h1 : aOk a = true) : s58.F [.agg [.sl .ro 1 (code.map rByte), .i .i64 a], .sl .ro 1 [[.i .i64 x0], [.i .i64 x1], [.i .i64 x2], [.i .i64 x3], [.i .i64 x4], [.i .i64 x5], [.i .i64 x6], [.i .i64 x7], [.i .i64 x8]]] = some (.i .i64 (pickV code a [x0, x1, x2, x3, x4, x5, x6, x7, x8]), [.agg [.sl .ro 1 (code.map rByte), .i .i64 (a + 1)], .u]) := e58 code a [x0, x1, x2, x3, x4, x5, x6, x7, x8] h1 (by simp)
def rulesV (code : List UInt8) (a : Int) : Rules := ⟨pickV code a [1000, 5000, 300], pickV code (a + 1) [1, 2, 3, 5], pickV code (a + 1 + 1) [500, 500, 1000, 1, 300], pickV code (a + 1 + 1 + 1) [0, 500, 2000], pickV code (a + 1 + 1 + 1 + 1) [1, 1, 2, 5]⟩
theorem aOk_le {a b : Int} (h : aOk b = true) (h0 : 0 ≤ a) (h1 : a ≤ b) : aOk a = true := by simp only [aOk, decide_eq_true_eq] at h ⊢; omega
def bOk (a : Int) : Bool := decide (0 ≤ a ∧ a ≤ 900000)
theorem bOk_a {a : Int} (h : bOk a = true) (k : Int) (h0 : 0 ≤ k) (h1 : k ≤ 1000) : aOk (a + k) = true := by simp only [aOk, bOk, decide_eq_true_eq] at h ⊢; omega
noncomputable def s94 : SP Try.prog := mkS tyA 94 Try.f94 [s58] { md := [.rw 2], wk := true, rets := some ([0, 2], [0, 2]) } Try.func94 (by kernel_rfl)
@[go_sem] theorem d94 : s94.g = 94 ∧ s94.fs = ⟨[.rw 2], s94.F, true⟩ := ⟨nr rfl, nr rfl⟩
@[go_sem] theorem e94 (code : List UInt8) (a : Int) (h1 : bOk a = true) : s94.F [.agg [.sl .ro 1 (code.map rByte), .i .i64 a]] = some (.agg (rRules .ro (rulesV code a)), [.agg [.sl .ro 1 (code.map rByte), .i .i64 (a + 1 + 1 + 1 + 1 + 1)]]) := mkS_eq (0) rfl rfl (fun cx h => by
  have p0 : aOk (a) = true := by have := bOk_a h1 0 (by omega) (by omega); rwa [show a + (0 : Int) = a by omega] at this
  have p1 : aOk (a + 1) = true := by have := bOk_a h1 1 (by omega) (by omega); rwa [show a + (1 : Int) = a + 1 by omega] at this
  have p2 : aOk (a + 1 + 1) = true := by have := bOk_a h1 2 (by omega) (by omega); rwa [show a + (2 : Int) = a + 1 + 1 by omega] at this
  have p3 : aOk (a + 1 + 1 + 1) = true := by have := bOk_a h1 3 (by omega) (by omega); rwa [show a + (3 : Int) = a + 1 + 1 + 1 by omega] at this
  have p4 : aOk (a + 1 + 1 + 1 + 1) = true := by have := bOk_a h1 4 (by omega) (by omega); rwa [show a + (4 : Int) = a + 1 + 1 + 1 + 1 by omega] at this
  simp only [go_sem, reduceIte, ↓reduceIte, reduceCtorEq, nA, nS, nM, nB, nE, nL, nT, nN, iL, iT, iE, iA, iM, iS, iG, iB, iN, iZ, h, rulesV, p0, p1, p2, p3, p4]) (rfl)
def drawRules (code : List UInt8) : Rules :=
  let r := rulesV code 0
  if nextV code 5 12 = 0 then { r with Window := pickV code 6 [0, 1000001] } else if nextV code 5 12 = 1 then { r with Min := pickV code 6 [0, 51] }
  else if nextV code 5 12 = 2 then { r with Ratio := pickV code 6 [0, 1001] } else if nextV code 5 12 = 3 then { r with Cool := pickV code 6 [-1, 1000001] }
  else if nextV code 5 12 = 4 then { r with Quota := pickV code 6 [0, 6] } else r
noncomputable def s57 : SP Try.prog := mkS tyA 57 Try.f57 [s56, s58, s85, s94] { md := [.ro 1], rg := [(0, [0, 2], [2, 4]), (1, [2, 3], [2, 4, 6]), (2, [2, 3, 4], [2, 4, 6]), (3, [2, 3, 4, 10], [2, 4, 6]), (4, [2, 3, 4, 10, 11], [2, 4, 6]), (5, [2, 4], [2, 4]), (6, [2, 3, 4, 10, 17], [2, 4, 6]), (7, [2, 4], [2, 4]), (8, [2, 3, 4, 10, 23], [2, 4, 6]), (9, [2, 4], [2, 4]), (10, [2, 3, 4, 10, 29], [2, 4, 6]), (11, [2, 4], [2, 4]), (12, [2, 3, 4, 35], [2, 4, 6]), (13, [2, 4], [2, 4]), (14, [2], [2, 4])], rets := some ([2], [2, 4]) } Try.func57 (by kernel_rfl)
@[go_sem] theorem d57 : s57.g = 57 ∧ s57.fs = ⟨[.ro 1], s57.F, false⟩ := ⟨nr rfl, nr rfl⟩
@[go_sem] theorem e57 (code : List UInt8) : s57.F [.sl .ro 1 (code.map rByte)] = some (.agg (rRules .ro (drawRules code)), [.u]) := mkS_eq (0) rfl rfl (fun cx h => by
  have f0 : bOk 0 = true := rfl
  have f5 : aOk 5 = true := rfl
  have f6 : aOk 6 = true := rfl
  obtain ⟨k, hk⟩ : ∃ k, nextV code 5 12 = k := ⟨_, rfl⟩
  by_cases c0 : k = 0
  · subst c0
    simp only [go_sem, reduceIte, ↓reduceIte, reduceCtorEq, nA, nS, nM, nB, nE, nL, nT, nN, iL, iT, iE, iA, iM, iS, iG, iB, iN, iZ, h, drawRules, f0, f5, f6, hk]
  have d0 : (k == 0) = false := by simpa using c0
  by_cases c1 : k = 1
  · subst c1
    simp only [go_sem, reduceIte, ↓reduceIte, reduceCtorEq, nA, nS, nM, nB, nE, nL, nT, nN, iL, iT, iE, iA, iM, iS, iG, iB, iN, iZ, h, drawRules, f0, f5, f6, hk]
  have d1 : (k == 1) = false := by simpa using c1
  by_cases c2 : k = 2
  · subst c2
    simp only [go_sem, reduceIte, ↓reduceIte, reduceCtorEq, nA, nS, nM, nB, nE, nL, nT, nN, iL, iT, iE, iA, iM, iS, iG, iB, iN, iZ, h, drawRules, f0, f5, f6, hk]
  have d2 : (k == 2) = false := by simpa using c2
  by_cases c3 : k = 3
  · subst c3
    simp only [go_sem, reduceIte, ↓reduceIte, reduceCtorEq, nA, nS, nM, nB, nE, nL, nT, nN, iL, iT, iE, iA, iM, iS, iG, iB, iN, iZ, h, drawRules, f0, f5, f6, hk]
  have d3 : (k == 3) = false := by simpa using c3
  by_cases c4 : k = 4
  · subst c4
    simp only [go_sem, reduceIte, ↓reduceIte, reduceCtorEq, nA, nS, nM, nB, nE, nL, nT, nN, iL, iT, iE, iA, iM, iS, iG, iB, iN, iZ, h, drawRules, f0, f5, f6, hk]
  have d4 : (k == 4) = false := by simpa using c4
  simp only [go_sem, reduceIte, ↓reduceIte, reduceCtorEq, nA, nS, nM, nB, nE, nL, nT, nN, iL, iT, iE, iA, iM, iS, iG, iB, iN, iZ, h, drawRules, f0, f5, f6, hk, c0, c1, c2, c3, c4, d0, d1, d2, d3, d4]) (rfl)
theorem pick_mem (code : List UInt8) {a : Int} (xs : List Int) (h : aOk a = true) (hx : 0 < xs.length) : pickV code a xs ∈ xs := by
  obtain ⟨i, e, hi⟩ := pick_nat code xs h hx
  have : pickV code a xs = xs[i] := by unfold pickV; rw [e]; simp [List.getD, hi]
  rw [this]; exact List.getElem_mem hi
def drStep (code : List UInt8) (s : Int × Int × List Trace) : Int × Int × List Trace :=
  let c := nextV code (s.1 + 1) 60 == 0
  let now := if c = true then pickV code (s.1 + 1 + 1) [-1, 0, 1000000000000000] else s.2.1 + pickV code s.1 [0, 10, 100, 600, 2500]
  let a := if c = true then s.1 + 1 + 1 + 1 else s.1 + 1 + 1
  (a + 1 + 1, now, s.2.2 ++ [⟨now, nextV code a 2 == 0, nextV code (a + 1) 2 == 0⟩])
def DrI (k : Nat) (s : Int × Int × List Trace) : Prop := 0 ≤ s.1 ∧ s.1 ≤ 100 + 5 * k ∧ -1 ≤ s.2.1 ∧ s.2.1 ≤ 1000000000000000 + 2500 * k ∧ s.2.2.length = k
def drK (code : List UInt8) : Int := if nextV code 1 25 == 0 then pickV code 2 [100, 101] else pickV code 0 [0, 3, 9, 20]
def drS0 (code : List UInt8) : Int × Int × List Trace := if nextV code 1 25 == 0 then (3, 0, []) else (2, 0, [])
def drRun (code : List UInt8) : Int × Int × List Trace := (List.range (drK code).toNat).foldl (fun s _ => drStep code s) (drS0 code)
theorem drK_le (code : List UInt8) : 0 ≤ drK code ∧ drK code ≤ 101 := by
  have m1 := pick_mem code (a := 2) [100, 101] rfl (by simp)
  have m2 := pick_mem code (a := 0) [0, 3, 9, 20] rfl (by simp)
  simp only [List.mem_cons, List.not_mem_nil, or_false] at m1 m2
  unfold drK
  split <;> omega
theorem drI (code : List UInt8) (k : Nat) (s : Int × Int × List Trace) (h : DrI k s) (hk : k ≤ 200) : DrI (k + 1) (drStep code s) := by
  obtain ⟨a, now, out⟩ := s
  obtain ⟨h1, h2, h3, h4, h5⟩ := h
  simp only at h1 h2 h3 h4 h5
  have b1 : aOk a = true := by simp only [aOk, decide_eq_true_eq]; omega
  have b2 : aOk (a + 1 + 1) = true := by simp only [aOk, decide_eq_true_eq]; omega
  have m1 := pick_mem code [0, 10, 100, 600, 2500] b1 (by simp)
  have m2 := pick_mem code [-1, 0, 1000000000000000] b2 (by simp)
  simp only [List.mem_cons, List.not_mem_nil, or_false] at m1 m2
  unfold drStep DrI
  simp only [List.length_append, List.length_cons, List.length_nil]
  cases nextV code (a + 1) 60 == 0
  · simp only [Bool.false_eq_true, if_false]; omega
  · simp only [if_true]; omega
theorem drS0_I (code : List UInt8) : DrI 0 (drS0 code) := by
  unfold drS0 DrI
  split <;> simp
noncomputable def s15 : SP Try.prog := mkS tyA 15 Try.f15 [s38, s56, s57, s58] { md := [.ro 1], rg := [(0, [0, 2], [2, 5]), (1, [0, 2, 4], [2, 5, 10]), (2, [2, 4, 5], [2, 5, 10]), (3, [2, 4, 5, 6], [2, 5, 10]), (4, [2, 4, 5, 6, 7], [2, 5, 10]), (5, [2, 4, 5, 6, 7, 8], [2, 5, 10]), (6, [2, 4, 5, 6, 7, 8, 18], [2, 5, 10]), (7, [2, 4, 5, 6, 7, 8], [2, 5, 10]), (8, [2, 4, 5, 6, 7, 8, 23], [2, 5, 10]), (9, [2, 4, 5, 6, 7, 8], [2, 5, 10]), (10, [2, 4, 5, 6, 7, 8], [2, 5, 10]), (11, [2, 4, 5, 6, 7, 8, 32], [2, 5, 10]), (12, [2, 4, 5, 6, 7, 8], [2, 5, 10]), (13, [2, 4, 5, 6, 7, 8], [2, 5, 10]), (14, [2, 3], [2, 5])], lv := [(0, [2, 4, 5, 6, 7, 8], [2, 5, 10])], out := [(0, [2, 5, 6], [2, 5])], rets := some ([2, 3], [2, 5]) } Try.func15 (by kernel_rfl)
@[go_sem] theorem d15 : s15.g = 15 ∧ s15.fs = ⟨[.ro 1], s15.F, false⟩ := ⟨nr rfl, nr rfl⟩
@[go_sem] theorem e15 (code : List UInt8) : s15.F [.sl .ro 1 (code.map rByte)] = some (.tup [.agg (rRules .ro (drawRules code)), .sl .mut 3 ((drRun code).2.2.map (rTrace .mut))], [.u]) := mkS_eq (200) rfl rfl (fun cx h => by
  have f0 : aOk 0 = true := rfl
  have f1 : aOk 1 = true := rfl
  have f2 : aOk 2 = true := rfl
  have hK0 := drK_le code
  have hs0 := drS0_I code
  obtain ⟨R, hR⟩ : ∃ R, drawRules code = R := ⟨_, rfl⟩
  obtain ⟨K, hK⟩ : ∃ K, drK code = K := ⟨_, rfl⟩
  obtain ⟨s0, hs⟩ : ∃ s0, drS0 code = s0 := ⟨_, rfl⟩
  rw [hK] at hK0
  rw [hs] at hs0
  have hb0 := loopN_eq Try.f15 0 _ _ rfl rfl
  obtain ⟨hI, hr⟩ := loop_fold (cx := cx) (blk := 0) (body := loopN Try.f15 0) (List.range K.toNat) (fun k (s : Int × Int × List Trace) => ⟨E [(2, .p ⟨false, 2, [], 0⟩), (4, .p ⟨false, 10, [], 0⟩), (5, .p ⟨false, 5, [], 0⟩), (6, .sl .mut 3 (s.2.2.map (rTrace .mut))), (7, .i .i64 s.2.1), (8, .i .i64 (K - k))], B [(2, [.i .i64 0, .i .i64 0, .i .i64 0, .i .i64 0, .i .i64 0]), (5, [.i .i64 R.Window, .i .i64 R.Min, .i .i64 R.Ratio, .i .i64 R.Cool, .i .i64 R.Quota]), (10, [.sl .ro 1 (code.map rByte), .i .i64 s.1])]⟩) (fun s => ⟨E [(2, .p ⟨false, 2, [], 0⟩), (5, .p ⟨false, 5, [], 0⟩), (6, .sl .mut 3 (s.2.2.map (rTrace .mut)))], B [(2, [.i .i64 0, .i .i64 0, .i .i64 0, .i .i64 0, .i .i64 0]), (5, [.i .i64 R.Window, .i .i64 R.Min, .i .i64 R.Ratio, .i .i64 R.Cool, .i .i64 R.Quota])]⟩) (fun x s => drStep code s) (fun k s => DrI k s)
      (fun s hI G => by simp only [go_sem, reduceIte, ↓reduceIte, reduceCtorEq, nA, nS, nM, nB, nE, nL, nT, nN, iL, iT, iE, iA, iM, iS, iG, iB, iN, iZ, h, Int.lt_irrefl, hb0, List.length_range, show ¬ (0 < K - (K.toNat : Int)) from by omega]) (fun k hk s hI => by
        have h1 : ((k : Int) < ((List.range K.toNat).length : Int)) := Int.ofNat_lt.2 hk
        simp only [List.length_range] at hk h1
        rcases s with ⟨a, now, out⟩
        obtain ⟨q1, q2, q3, q4, q5⟩ := id hI
        simp only at q1 q2 q3 q4 q5
        have t1 : 0 < K - (k : Int) := by omega
        have t2 : (IntKind.i64).wrap (K - (k : Int) - 1) = K - ((k + 1 : Nat) : Int) := by rw [wrap_id (by omega) (by omega)]; omega
        have t3 : (out.length + 1) * 16 ≤ 140737488355328 := by omega
        have t4 : ∀ x y z, out.map (rTrace .mut) ++ [[.i .i64 x, .b y, .b z]] = (out ++ [Trace.mk x y z]).map (rTrace .mut) := fun x y z => by simp [rTrace]
        have p0 : aOk a = true := by simp only [aOk, decide_eq_true_eq]; omega
        have p1 : aOk (a + 1) = true := by simp only [aOk, decide_eq_true_eq]; omega
        have p2 : aOk (a + 1 + 1) = true := by simp only [aOk, decide_eq_true_eq]; omega
        have p3 : aOk (a + 1 + 1 + 1) = true := by simp only [aOk, decide_eq_true_eq]; omega
        have p4 : aOk (a + 1 + 1 + 1 + 1) = true := by simp only [aOk, decide_eq_true_eq]; omega
        have m1 := pick_mem code [0, 10, 100, 600, 2500] p0 (by simp)
        simp only [List.mem_cons, List.not_mem_nil, or_false] at m1
        have w1 : (IntKind.i64).wrap (now + pickV code a [0, 10, 100, 600, 2500]) = now + pickV code a [0, 10, 100, 600, 2500] := wrap_id (by omega) (by omega)
        have hJ := drI code k (a, now, out) hI (by omega)
        cases c0 : nextV code (a + 1) 60 == 0
        all_goals exact ⟨hJ, _, fun G => by simp only [go_sem, reduceIte, ↓reduceIte, reduceCtorEq, nA, nS, nM, nB, nE, nL, nT, nN, iL, iT, iE, iA, iM, iS, iG, iB, iN, iZ, h, t1, t2, t3, t4, p0, p1, p2, p3, p4, w1, c0, h1, idx_nt _ _ hk, wrap_nat1 (show k < 9223372036854775807 by omega), hb0] <;> with_reducible rfl, by simp only [go_sem, reduceIte, ↓reduceIte, reduceCtorEq, nA, nS, nM, nB, nE, nL, nT, nN, iL, iT, iE, iA, iM, iS, iG, iB, iN, iZ, h, drStep, c0]⟩) s0 hs0 200 (by simp; omega)
  rw [hb0] at hr
  have hrun : (List.range K.toNat).foldl (fun s _ => drStep code s) s0 = drRun code := by unfold drRun; rw [hK, hs]
  rw [hrun, show K - ((0 : Nat) : Int) = K from by simp] at hr
  cases c0 : nextV code 1 25 == 0
  · have e1 : pickV code 0 [0, 3, 9, 20] = K := by rw [← hK]; simp [drK, c0]
    have e2 : s0 = (2, 0, []) := by rw [← hs]; simp [drS0, c0]
    subst e2
    simp only [go_sem, reduceIte, ↓reduceIte, reduceCtorEq, nA, nS, nM, nB, nE, nL, nT, nN, iL, iT, iE, iA, iM, iS, iG, iB, iN, iZ, h, f0, f1, f2, c0, e1, hR, hr]
  · have e1 : pickV code 2 [100, 101] = K := by rw [← hK]; simp [drK, c0]
    have e2 : s0 = (3, 0, []) := by rw [← hs]; simp [drS0, c0]
    subst e2
    simp only [go_sem, reduceIte, ↓reduceIte, reduceCtorEq, nA, nS, nM, nB, nE, nL, nT, nN, iL, iT, iE, iA, iM, iS, iG, iB, iN, iZ, h, f0, f1, f2, c0, e1, hR, hr]) (by simp only [go_sem, reduceIte, ↓reduceIte, reduceCtorEq, nA, nS, nM, nB, nE, nL, nT, nN, iL, iT, iE, iA, iM, iS, iG, iB, iN, iZ, okRes, hasRo, hasRoL, hasRoLL])
def allowT (b : Breaker) (r : Rules) (now : Int) : Bool := if b.State = 0 then true else if b.State = 1 then decide (r.Cool ≤ now - b.Since) else decide (b.Out < r.Quota)
def allowM (b : Breaker) (r : Rules) (now : Int) : Breaker := if b.State = 0 then b else if b.State = 1 then (if r.Cool ≤ now - b.Since then ⟨2, b.Since, 1, b.Marks⟩ else b) else if b.Out < r.Quota then ⟨2, b.Since, b.Out + 1, b.Marks⟩ else b
theorem allowM_marks (b : Breaker) (r : Rules) (now : Int) : (allowM b r now).Marks = b.Marks := by
  unfold allowM
  repeat' split
  all_goals rfl
noncomputable def s60 : SP Try.prog := mkS tyA 60 Try.f60 [] { md := [.rw 4, .ro 1, .ro 1], rg := [(0, [0, 2, 4], [0, 4]), (1, [0, 2, 4, 7], [0, 4]), (2, [0, 6], [0]), (3, [0, 4, 13], [0, 4]), (4, [0], [0]), (5, [0, 6], [0]), (6, [0, 36], [0]), (7, [0], [0]), (8, [0, 6], [0]), (9, [0, 6], [0])], rets := some ([0, 6], [0]), plan := [(3, (.take 0 (.take 1 (.take 2 (.take 3 (.take 4 (.take 5 (.take 6 (.take 7 (.take 8 (.take 9 (.take 10 (.take 11 (.take 12 (.take 13 (.take 14 (.take 15 (.one 16 .done)))))))))))))))))), (6, (.take 0 (.take 1 (.take 2 (.take 3 (.take 4 (.take 5 (.take 6 (.take 7 (.take 8 (.take 9 (.take 10 (.take 11 (.take 12 (.take 13 (.one 14 .done))))))))))))))))] } Try.func60 (by kernel_rfl)
@[go_sem] theorem d60 : s60.g = 60 ∧ s60.fs = ⟨[.rw 4, .ro 1, .ro 1], s60.F, false⟩ := ⟨nr rfl, nr rfl⟩
@[go_sem] theorem e60 (bState bSince bOut : Int) (bMarks : List Mark) (rWindow rMin rRatio rCool rQuota now : Int) (hf : breakerFault (Breaker.mk bState bSince bOut bMarks) = 0) (hg : rulesFault (Rules.mk rWindow rMin rRatio rCool rQuota) = 0) (ht : isTime now = true) : s60.F [.agg [.i .i64 bState, .i .i64 bSince, .i .i64 bOut, .sl .mut 2 (bMarks.map (rMark .mut))], .agg [.i .i64 rWindow, .i .i64 rMin, .i .i64 rRatio, .i .i64 rCool, .i .i64 rQuota], .i .i64 now] = some (.b (allowT (Breaker.mk bState bSince bOut bMarks) (Rules.mk rWindow rMin rRatio rCool rQuota) now), [.agg [.i .i64 (allowM (Breaker.mk bState bSince bOut bMarks) (Rules.mk rWindow rMin rRatio rCool rQuota) now).State, .i .i64 (allowM (Breaker.mk bState bSince bOut bMarks) (Rules.mk rWindow rMin rRatio rCool rQuota) now).Since, .i .i64 (allowM (Breaker.mk bState bSince bOut bMarks) (Rules.mk rWindow rMin rRatio rCool rQuota) now).Out, .sl .mut 2 ((allowM (Breaker.mk bState bSince bOut bMarks) (Rules.mk rWindow rMin rRatio rCool rQuota) now).Marks.map (rMark .mut))], .u, .u]) := mkS_eq (0) rfl rfl (fun cx h => by
  have hB := breakerFault_ok hf
  have hR := rulesFault_ok hg
  simp only at hB hR
  have hT := isTime_t.1 ht
  have w1 : (IntKind.i64).wrap (now - bSince) = now - bSince := wrap_id (by omega) (by omega)
  have w2 : (IntKind.i64).wrap (bOut + 1) = bOut + 1 := wrap_id (by omega) (by omega)
  by_cases s0 : bState = 0
  · subst s0
    simp only [go_sem, reduceIte, ↓reduceIte, reduceCtorEq, nA, nS, nM, nB, nE, nL, nT, nN, iL, iT, iE, iA, iM, iS, iG, iB, iN, iZ, h, allowM, allowT]
  by_cases s1 : bState = 1
  · subst s1
    by_cases d : rCool ≤ now - bSince
    · have d' : ¬ now - bSince < rCool := by omega
      simp only [go_sem, reduceIte, ↓reduceIte, reduceCtorEq, nA, nS, nM, nB, nE, nL, nT, nN, iL, iT, iE, iA, iM, iS, iG, iB, iN, iZ, h, allowM, allowT, w1, d, d']
    · have d' : now - bSince < rCool := by omega
      simp only [go_sem, reduceIte, ↓reduceIte, reduceCtorEq, nA, nS, nM, nB, nE, nL, nT, nN, iL, iT, iE, iA, iM, iS, iG, iB, iN, iZ, h, allowM, allowT, w1, d, d']
  have s2 : bState = 2 := by omega
  subst s2
  by_cases d : bOut < rQuota
  · have d' : ¬ rQuota ≤ bOut := by omega
    simp only [go_sem, reduceIte, ↓reduceIte, reduceCtorEq, nA, nS, nM, nB, nE, nL, nT, nN, iL, iT, iE, iA, iM, iS, iG, iB, iN, iZ, h, allowM, allowT, w2, d, d']
  · have d' : rQuota ≤ bOut := by omega
    simp only [go_sem, reduceIte, ↓reduceIte, reduceCtorEq, nA, nS, nM, nB, nE, nL, nT, nN, iL, iT, iE, iA, iM, iS, iG, iB, iN, iZ, h, allowM, allowT, w2, d, d']) (by simp only [go_sem, reduceIte, ↓reduceIte, reduceCtorEq, nA, nS, nM, nB, nE, nL, nT, nN, iL, iT, iE, iA, iM, iS, iG, iB, iN, iZ, okRes, hasRo, hasRoL, hasRoLL])
def trStep (r : Rules) (s : Breaker × List Int × List Bool) (x : Trace) : Breaker × List Int × List Bool :=
  if x.Ask = true then (allowM s.1 r x.At, s.2.1 ++ [(allowM s.1 r x.At).State], s.2.2 ++ [allowT s.1 r x.At])
  else (noteM s.1 r x.At x.Good, s.2.1 ++ [(noteM s.1 r x.At x.Good).State], s.2.2 ++ [false])
def trFin (r : Rules) : (Breaker × List Int × List Bool) ⊕ (Trace × Breaker × List Int × List Bool) → StatesResult
  | .inl s => ⟨0, s.2.1, s.2.2⟩
  | .inr (x, s) => ⟨breakerCode s.1 r x.At, [], []⟩
def trRun (r : Rules) (xs : List Trace) : (Breaker × List Int × List Bool) ⊕ (Trace × Breaker × List Int × List Bool) := runS (fun x s => breakerCode s.1 r x.At != 0) (fun x s => trStep r s x) xs (⟨0, 0, 0, []⟩, [], [])
def runTraces (r : Rules) (xs : List Trace) : StatesResult :=
  if rulesFault r = 0 then (if 100 < (xs.length : Int) then ⟨2, [], []⟩ else trFin r (trRun r xs)) else ⟨rulesFault r, [], []⟩
def TrI (k : Nat) (s : Breaker × List Int × List Bool) : Prop := s.1.Marks.length ≤ 61 ∧ s.2.1.length = k ∧ s.2.2.length = k
theorem trI (r : Rules) (s : Breaker × List Int × List Bool) (x : Trace) (k : Nat) (h : TrI k s) (hc : breakerFault s.1 = 0) : TrI (k + 1) (trStep r s x) := by
  obtain ⟨h1, h2, h3⟩ := h
  have h4 := noteM_len s.1 r x.At x.Good (breakerFault_ok hc).2.2.2.1
  unfold trStep TrI
  split
  · simp only [allowM_marks, List.length_append, List.length_cons, List.length_nil]; omega
  · simp only [List.length_append, List.length_cons, List.length_nil]; omega
theorem trRun_len (r : Rules) : ∀ (xs : List Trace) (k : Nat) (s s' : Breaker × List Int × List Bool), TrI k s → runS (fun x s => breakerCode s.1 r x.At != 0) (fun x s => trStep r s x) xs s = .inl s' → TrI (k + xs.length) s'
  | [], k, s, s', h, e => by cases e; exact h
  | x :: xs, k, s, s', h, e => by
    rw [runS_cons] at e
    split at e
    · cases e
    · rename_i hc
      have hc1 : breakerCode s.1 r x.At = 0 := by simpa using hc
      have := trRun_len r xs (k + 1) _ s' (trI r s x k h (breakerCode_ok hc1).1) e
      rw [List.length_cons]; rwa [show k + (xs.length + 1) = k + 1 + xs.length by omega]
theorem runTraces_sm (r : Rules) (xs : List Trace) : smStatesResult (runTraces r xs) := by
  have h0 : smL smInt [] ∧ smL smBool [] := ⟨⟨Nat.zero_le _, fun x hx => by cases hx⟩, ⟨Nat.zero_le _, fun x hx => by cases hx⟩⟩
  unfold runTraces
  split
  · split
    · exact ⟨trivial, h0⟩
    · rcases hR : trRun r xs with s' | ⟨x, s'⟩
      · obtain ⟨_, h2, h3⟩ := trRun_len r xs 0 _ s' ⟨Nat.zero_le _, rfl, rfl⟩ hR
        exact ⟨trivial, ⟨by show s'.2.1.length ≤ 1048576; omega, fun _ _ => trivial⟩, ⟨by show s'.2.2.length ≤ 1048576; omega, fun _ _ => trivial⟩⟩
      · exact ⟨trivial, h0⟩
  · exact ⟨trivial, h0⟩
noncomputable def s16 : SP Try.prog := mkS tyA 16 Try.f16 [s40, s42, s59, s60] { md := [.ro 1, .ro 1], rg := [(0, [1, 2, 4], [2, 4, 7]), (1, [1, 2, 4, 5], [2, 4, 7]), (2, [1, 2, 4, 5, 15], [2, 4, 7]), (3, [4], [4, 7]), (4, [1, 2, 4, 20], [2, 4, 7]), (5, [4], [4, 7]), (6, [1, 2, 4, 6, 7], [2, 4, 6, 7]), (7, [1, 2, 4, 6, 7, 24, 25, 26], [2, 4, 6, 7]), (8, [1, 2, 4, 6, 7, 24, 25, 26, 27], [2, 4, 6, 7]), (9, [1, 2, 4, 6, 7, 9, 24, 25, 26], [2, 4, 6, 7, 9]), (10, [1, 2, 4, 6, 7, 9, 10, 24, 25, 26], [2, 4, 6, 7, 9]), (11, [1, 2, 4, 6, 7, 9, 10, 24, 25, 26, 36], [2, 4, 6, 7, 9]), (12, [4], [4, 7]), (13, [1, 2, 4, 6, 7, 9, 11, 24, 25, 26], [2, 4, 6, 7, 9]), (14, [1, 2, 4, 6, 7, 9, 11, 24, 25, 26, 40], [2, 4, 6, 7, 9]), (15, [1, 2, 4, 6, 7, 11, 24, 25, 26], [2, 4, 6, 7]), (16, [1, 2, 4, 6, 7, 11, 24, 25, 26], [2, 4, 6, 7]), (17, [1, 2, 4, 6, 7, 24, 25, 26], [2, 4, 6, 7]), (18, [1, 2, 4, 6, 7, 24, 25, 26], [2, 4, 6, 7]), (19, [4], [4, 7])], lv := [(0, [1, 2, 4, 6, 7, 24, 25, 26], [2, 4, 6, 7])], out := [(0, [4, 7], [4, 7])], rets := some ([4], [4, 7]), plan := [(17, (.take 0 (.take 1 (.take 2 (.take 3 (.take 6 (.take 8 (.alt 4 (.alt 5 (.alt 7 (.take 11 (.one 9 (.one 10 (.one 12 (.take 13 (.one 14 .done)))))) (.one 9 (.one 7 (.take 11 (.one 10 (.one 12 (.take 13 (.one 14 .done)))))))) (.alt 7 (.alt 5 (.take 11 (.one 9 (.one 10 (.one 12 (.take 13 (.one 14 .done)))))) (.one 9 (.one 5 (.take 11 (.one 10 (.one 12 (.take 13 (.one 14 .done)))))))) (.one 9 (.alt 5 (.one 7 (.take 11 (.one 10 (.one 12 (.take 13 (.one 14 .done)))))) (.one 7 (.one 5 (.take 11 (.one 10 (.one 12 (.take 13 (.one 14 .done))))))))))) (.alt 7 (.alt 4 (.alt 5 (.take 11 (.one 9 (.one 10 (.one 12 (.take 13 (.one 14 .done)))))) (.one 9 (.one 5 (.take 11 (.one 10 (.one 12 (.take 13 (.one 14 .done)))))))) (.one 9 (.one 4 (.one 5 (.take 11 (.one 10 (.one 12 (.take 13 (.one 14 .done))))))))) (.one 9 (.alt 4 (.alt 5 (.one 7 (.take 11 (.one 10 (.one 12 (.take 13 (.one 14 .done)))))) (.one 7 (.one 5 (.take 11 (.one 10 (.one 12 (.take 13 (.one 14 .done)))))))) (.one 7 (.one 4 (.one 5 (.take 11 (.one 10 (.one 12 (.take 13 (.one 14 .done)))))))))))))))))))] } Try.func16 (by kernel_rfl)
@[go_sem] theorem d16 : s16.g = 16 ∧ s16.fs = ⟨[.ro 1, .ro 1], s16.F, false⟩ := ⟨nr rfl, nr rfl⟩
@[go_sem] theorem e16 (rWindow : Int) (rMin : Int) (rRatio : Int) (rCool : Int) (rQuota : Int) (list : List Trace) : s16.F [.agg [.i .i64 rWindow, .i .i64 rMin, .i .i64 rRatio, .i .i64 rCool, .i .i64 rQuota], .sl .ro 3 (list.map (rTrace .ro))] = some (.agg (rStatesResult .mut (runTraces (Rules.mk rWindow rMin rRatio rCool rQuota) list)), [.u, .u]) := mkS_eq (list.length + 1) rfl rfl (fun cx h => by
  obtain ⟨f, hf⟩ : ∃ f, rulesFault (Rules.mk rWindow rMin rRatio rCool rQuota) = f := ⟨_, rfl⟩
  by_cases c1 : f = 0
  · subst c1
    by_cases c2 : 100 < (list.length : Int)
    · simp only [go_sem, reduceIte, ↓reduceIte, reduceCtorEq, nA, nS, nM, nB, nE, nL, nT, nN, iL, iT, iE, iA, iM, iS, iG, iB, iN, iZ, h, runTraces, hf, c2]
    have hb0 := loopN_eq Try.f16 0 _ _ rfl rfl
    obtain ⟨z, hz, hqz⟩ := loop_list (cx := cx) (blk := 0) (body := loopN Try.f16 0) list (fun k (s : Breaker × List Int × List Bool) => ⟨E [(1, .sl .ro 3 (list.map (rTrace .ro))), (2, .p ⟨false, 2, [], 0⟩), (4, .p ⟨false, 4, [], 0⟩), (6, .p ⟨false, 6, [], 0⟩), (7, .p ⟨false, 7, [], 0⟩), (24, .sl .ro 3 (list.map (rTrace .ro))), (25, .i .i64 list.length), (26, .i .i64 k)], B [(2, [.i .i64 rWindow, .i .i64 rMin, .i .i64 rRatio, .i .i64 rCool, .i .i64 rQuota]), (4, [.i .i64 0, .sl .mut 1 [], .sl .mut 1 []]), (6, [.i .i64 s.1.State, .i .i64 s.1.Since, .i .i64 s.1.Out, .sl .mut 2 (s.1.Marks.map (rMark .mut))]), (7, [.i .i64 0, .sl .mut 1 (s.2.1.map rInt), .sl .mut 1 (s.2.2.map rBool)])]⟩) (fun s => ⟨E [(4, .p ⟨false, 4, [], 0⟩), (7, .p ⟨false, 7, [], 0⟩)], B [(4, [.i .i64 0, .sl .mut 1 [], .sl .mut 1 []]), (7, [.i .i64 0, .sl .mut 1 (s.2.1.map rInt), .sl .mut 1 (s.2.2.map rBool)])]⟩) (fun x s => breakerCode s.1 (Rules.mk rWindow rMin rRatio rCool rQuota) x.At != 0) (fun x s => trStep (Rules.mk rWindow rMin rRatio rCool rQuota) s x) (fun x s => (.ret, ⟨E [(4, .p ⟨false, 4, [], 0⟩)], B [(4, [.i .i64 (breakerCode s.1 (Rules.mk rWindow rMin rRatio rCool rQuota) x.At), .sl .mut 1 [], .sl .mut 1 []]), (7, [.i .i64 0, .sl .mut 1 (s.2.1.map rInt), .sl .mut 1 (s.2.2.map rBool)])]⟩)) (fun k s => TrI k s)
        (fun s hI G => by simp only [go_sem, reduceIte, ↓reduceIte, reduceCtorEq, nA, nS, nM, nB, nE, nL, nT, nN, iL, iT, iE, iA, iM, iS, iG, iB, iN, iZ, h, Int.lt_irrefl, hb0, show List.take list.length (List.map (rTrace .ro) list) = List.map (rTrace .ro) list from List.take_of_length_le (by simp)]) (fun k hk s hI => by
          have h1 : ((k : Int) < (list.length : Int)) := Int.ofNat_lt.2 hk
          rcases s with ⟨⟨bS, bSi, bO, bM⟩, sts, als⟩
          obtain ⟨q1, q2, q3⟩ := hI
          simp only at q1 q2 q3
          have t1 : (sts.length + 1) * 8 ≤ 140737488355328 := by omega
          have t2 : (als.length + 1) * 1 ≤ 140737488355328 := by omega
          have t3 : bM.length ≤ 1048576 := by omega
          have t5 : List.take list.length (List.map (rTrace .ro) list) = List.map (rTrace .ro) list := List.take_of_length_le (by simp)
          have t6 : ∀ z, sts.map rInt ++ [[.i .i64 z]] = (sts ++ [z]).map rInt := fun z => by simp [rInt]
          have t7 : ∀ z, als.map rBool ++ [[.b z]] = (als ++ [z]).map rBool := fun z => by simp [rBool]
          obtain ⟨C, hC⟩ : ∃ C, breakerCode ⟨bS, bSi, bO, bM⟩ ⟨rWindow, rMin, rRatio, rCool, rQuota⟩ list[k].At = C := ⟨_, rfl⟩
          have u1 : C = 0 → breakerFault ⟨bS, bSi, bO, bM⟩ = 0 := fun c0 => (breakerCode_ok (hC.trans c0)).1
          have u2 : C = 0 → rulesFault ⟨rWindow, rMin, rRatio, rCool, rQuota⟩ = 0 := fun c0 => (breakerCode_ok (hC.trans c0)).2.1
          have u3 : C = 0 → isTime list[k].At = true := fun c0 => (breakerCode_ok (hC.trans c0)).2.2.1
          have u4 : C = 0 → TrI (k + 1) (trStep ⟨rWindow, rMin, rRatio, rCool, rQuota⟩ (⟨bS, bSi, bO, bM⟩, sts, als) list[k]) := fun c0 => trI _ _ _ _ ⟨q1, q2, q3⟩ (u1 c0)
          by_cases c0 : C = 0
          · skip
            have v1 := u1 c0
            have v2 := u2 c0
            have v3 := u3 c0
            cases a0 : list[k].Ask
            all_goals exact .inr ⟨by simp [hC, c0], u4 c0, _, fun G => by simp only [go_sem, reduceIte, ↓reduceIte, reduceCtorEq, nA, nS, nM, nB, nE, nL, nT, nN, iL, iT, iE, iA, iM, iS, iG, iB, iN, iZ, h, hC, c0, a0, v1, v2, v3, t1, t2, t3, t5, t6, t7, map_gd (rTrace .ro) list k hk, gd_map (rTrace .ro) list k hk, h1, idx_nt _ _ hk, wrap_nat1 (show k < 9223372036854775807 by omega), hb0] <;> with_reducible rfl, by simp only [go_sem, reduceIte, ↓reduceIte, reduceCtorEq, nA, nS, nM, nB, nE, nL, nT, nN, iL, iT, iE, iA, iM, iS, iG, iB, iN, iZ, h, trStep, a0]⟩
          · have c0' : (C != 0) = true := by simpa using c0
            exact .inl ⟨by simp [hC, c0], fun G => by simp only [go_sem, reduceIte, ↓reduceIte, reduceCtorEq, nA, nS, nM, nB, nE, nL, nT, nN, iL, iT, iE, iA, iM, iS, iG, iB, iN, iZ, h, hC, c0, t1, t2, t3, t5, t6, t7, map_gd (rTrace .ro) list k hk, gd_map (rTrace .ro) list k hk, c0', h1, idx_nt _ _ hk, wrap_nat1 (show k < 9223372036854775807 by omega), hb0]⟩) (⟨0, 0, 0, []⟩, [], []) ⟨Nat.zero_le _, rfl, rfl⟩ (list.length + 1) (Nat.le_refl _)
    rw [hb0] at hz
    rcases hqz with ⟨s', e1, _, e3⟩ | ⟨x, s', e1, e3⟩
    · have e1' : trRun (Rules.mk rWindow rMin rRatio rCool rQuota) list = .inl s' := e1
      simp only [go_sem, reduceIte, ↓reduceIte, reduceCtorEq, nA, nS, nM, nB, nE, nL, nT, nN, iL, iT, iE, iA, iM, iS, iG, iB, iN, iZ, h, runTraces, trFin, hf, c2, hz, e3, e1']
    · have e1' : trRun (Rules.mk rWindow rMin rRatio rCool rQuota) list = .inr (x, s') := e1
      simp only [go_sem, reduceIte, ↓reduceIte, reduceCtorEq, nA, nS, nM, nB, nE, nL, nT, nN, iL, iT, iE, iA, iM, iS, iG, iB, iN, iZ, h, runTraces, trFin, hf, c2, hz, e3, e1']
  · have c1' : (f != 0) = true := by simpa using c1
    simp only [go_sem, reduceIte, ↓reduceIte, reduceCtorEq, nA, nS, nM, nB, nE, nL, nT, nN, iL, iT, iE, iA, iM, iS, iG, iB, iN, iZ, h, runTraces, hf, c1, c1']) (by simp only [go_sem, reduceIte, ↓reduceIte, reduceCtorEq, nA, nS, nM, nB, nE, nL, nT, nN, iL, iT, iE, iA, iM, iS, iG, iB, iN, iZ, okRes, hasRo, hasRoL, hasRoLL])
noncomputable def s92 : SP Try.prog := mkS tyA 92 Try.f92 [] { md := [.ro 1, .ro 1, .ro 1], rets := some ([6], []) } Try.func92 (by kernel_rfl)
@[go_sem] theorem d92 : s92.g = 92 ∧ s92.fs = ⟨[.ro 1, .ro 1, .ro 1], s92.F, false⟩ := ⟨nr rfl, nr rfl⟩
@[go_sem] theorem e92 (a : Int) (b : Int) (c : Int) : s92.F [.i .i64 a, .i .i64 b, .i .i64 c] = some (.b (within a b c), [.u, .u, .u]) := mkS_eq (0) rfl rfl (fun cx h => by
  simp only [go_sem, reduceIte, ↓reduceIte, reduceCtorEq, nA, nS, nM, nB, nE, nL, nT, nN, iL, iT, iE, iA, iM, iS, iG, iB, iN, iZ, h, within]
  by_cases h : b ≤ a <;> simp [h]) (rfl)
noncomputable def s64 : SP Try.prog := mkS tyA 64 Try.f64 [s92] { md := [.ro 1], rets := some ([2], []) } Try.func64 (by kernel_rfl)
@[go_sem] theorem d64 : s64.g = 64 ∧ s64.fs = ⟨[.ro 1], s64.F, false⟩ := ⟨nr rfl, nr rfl⟩
@[go_sem] theorem e64 (a : Int) : s64.F [.i .i64 a] = some (.b (isTime a), [.u]) := mkS_eq (0) rfl rfl (fun cx h => by
  simp only [go_sem, reduceIte, ↓reduceIte, reduceCtorEq, nA, nS, nM, nB, nE, nL, nT, nN, iL, iT, iE, iA, iM, iS, iG, iB, iN, iZ, h, isTime]) (rfl)
noncomputable def s47 : SP Try.prog := mkS tyA 47 Try.f47 [s64, s92] { md := [.ro 1], rg := [(0, [1], [1]), (1, [1, 20], [1]), (2, [2], []), (3, [1, 24], [1]), (4, [2], []), (5, [1, 3], [1]), (6, [1, 3, 29], [1]), (7, [1, 3], [1]), (8, [1, 3, 39], [1]), (9, [2], []), (10, [1, 4], [1]), (11, [1, 4, 44], [1]), (12, [1, 4], [1]), (13, [1, 4, 60], [1]), (14, [2], []), (15, [79], []), (16, [2], []), (17, [2], [])], lv := [(0, [1, 3], [1]), (2, [1, 4], [1])], out := [(0, [1], [1]), (2, [1], [1])], rets := some ([2], []), plan := [(13, (.take 0 (.take 1 (.take 2 (.take 3 (.take 4 (.take 5 (.take 6 (.take 7 (.take 8 (.take 9 (.take 10 (.take 11 (.take 12 (.take 13 .done)))))))))))))))] } Try.func47 (by kernel_rfl)
@[go_sem] theorem d47 : s47.g = 47 ∧ s47.fs = ⟨[.ro 1], s47.F, false⟩ := ⟨nr rfl, nr rfl⟩
@[go_sem] theorem e47 (bState : Int) (bSince : Int) (bOut : Int) (bMarks : List Mark) (h0 : (Breaker.mk bState bSince bOut bMarks).Marks.length ≤ 1048576) : s47.F [.agg [.i .i64 bState, .i .i64 bSince, .i .i64 bOut, .sl .ro 2 (bMarks.map (rMark .ro))]] = some (.i .i64 (breakerFault (Breaker.mk bState bSince bOut bMarks)), [.u]) := mkS_eq ((Breaker.mk bState bSince bOut bMarks).Marks.length + 1) rfl rfl (fun cx h => by
  have hx := h0
  simp only at hx
  by_cases c0 : (within bState 0 2 && isTime bSince && within bOut 0 5) = false
  · simp only [go_sem, reduceIte, ↓reduceIte, reduceCtorEq, nA, nS, nM, nB, nE, nL, nT, nN, iL, iT, iE, iA, iM, iS, iG, iB, iN, iZ, h, breakerFault, c0]
    all_goals (cases hw1 : within bState 0 2 <;> cases hw2 : isTime bSince <;> cases hw3 : within bOut 0 5 <;> simp_all)
  simp only [Bool.not_eq_false, Bool.and_eq_true] at c0
  obtain ⟨⟨d1, d2⟩, d3⟩ := c0
  by_cases c1 : 60 < (bMarks.length : Int)
  · simp only [go_sem, reduceIte, ↓reduceIte, reduceCtorEq, nA, nS, nM, nB, nE, nL, nT, nN, iL, iT, iE, iA, iM, iS, iG, iB, iN, iZ, h, breakerFault, d1, d2, d3, c1]
  have hb0 := loopN_eq Try.f47 0 _ _ rfl rfl
  obtain ⟨r, hr, hq⟩ := loop_srch (cx := cx) (blk := 0) (body := loopN Try.f47 0) bMarks (fun k (s : Unit) => ⟨E [(1, .p ⟨false, 1, [], 0⟩), (3, .i .i64 k)], B [(1, [.i .i64 bState, .i .i64 bSince, .i .i64 bOut, .sl .ro 2 (bMarks.map (rMark .ro))])]⟩) (fun s => ⟨E [(1, .p ⟨false, 1, [], 0⟩)], B [(1, [.i .i64 bState, .i .i64 bSince, .i .i64 bOut, .sl .ro 2 (bMarks.map (rMark .ro))])]⟩) (fun x s => !isTime x.At) (fun x s => ()) (fun x s => (.ret, ⟨E [(2, .i .i64 3)], B []⟩)) (fun k s => True)
      (fun s hI G => by simp only [go_sem, reduceIte, ↓reduceIte, reduceCtorEq, nA, nS, nM, nB, nE, nL, nT, nN, iL, iT, iE, iA, iM, iS, iG, iB, iN, iZ, h, Int.lt_irrefl, hb0, hx]) (fun k hk s hI => by
        have h1 : ((k : Int) < (bMarks.length : Int)) := Int.ofNat_lt.2 hk
        exact ⟨_, _, _, fun G => by simp only [go_sem, reduceIte, ↓reduceIte, reduceCtorEq, nA, nS, nM, nB, nE, nL, nT, nN, iL, iT, iE, iA, iM, iS, iG, iB, iN, iZ, h, map_gd (rMark .ro) bMarks _ hk, h1, idx_nt _ _ hk, wrap_nat1 (show k < 9223372036854775807 by omega), hb0] <;> with_reducible rfl, Iff.rfl, fun hc => ⟨trivial, by simp only [go_sem, reduceIte, ↓reduceIte, reduceCtorEq, nA, nS, nM, nB, nE, nL, nT, nN, iL, iT, iE, iA, iM, iS, iG, iB, iN, iZ, h]⟩⟩) () trivial (bMarks.length + 1) (Nat.le_refl _)
  rw [hb0] at hr
  rcases hq with ⟨s', a1, _, a3⟩ | ⟨x, s', a1, a3⟩
  case inr =>
    have c2 : badT bMarks = true := (runS_found a1).1
    simp only [go_sem, reduceIte, ↓reduceIte, reduceCtorEq, nA, nS, nM, nB, nE, nL, nT, nN, iL, iT, iE, iA, iM, iS, iG, iB, iN, iZ, h, hr, a3, breakerFault, d1, d2, d3, c1, c2]
  have c2 : badT bMarks = false := runS_any a1
  have hb1 := loopN_eq Try.f47 1 _ _ rfl rfl
  obtain ⟨r2, hr2, hqr2⟩ := loop_srch (cx := cx) (blk := 2) (body := loopN Try.f47 1) (bMarks.zip bMarks.tail) (fun k (s : Unit) => ⟨E [(1, .p ⟨false, 1, [], 0⟩), (4, .i .i64 ((k + 1 : Nat) : Int))], B [(1, [.i .i64 bState, .i .i64 bSince, .i .i64 bOut, .sl .ro 2 (bMarks.map (rMark .ro))])]⟩) (fun s => ⟨E [(1, .p ⟨false, 1, [], 0⟩)], B [(1, [.i .i64 bState, .i .i64 bSince, .i .i64 bOut, .sl .ro 2 (bMarks.map (rMark .ro))])]⟩) (fun x s => decide (x.2.At < x.1.At)) (fun x s => ()) (fun x s => (.ret, ⟨E [(2, .i .i64 1)], B []⟩)) (fun k s => True)
      (fun s hI G => by simp only [go_sem, reduceIte, ↓reduceIte, reduceCtorEq, nA, nS, nM, nB, nE, nL, nT, nN, iL, iT, iE, iA, iM, iS, iG, iB, iN, iZ, h, Int.lt_irrefl, hb1, show ¬ ((((bMarks.zip bMarks.tail).length + 1 : Nat) : Int) < (bMarks.length : Int)) by simp; omega]) (fun k hk s hI => by
        have h1 : ((k : Int) < ((bMarks.zip bMarks.tail).length : Int)) := Int.ofNat_lt.2 hk
        have hk2 : k + 1 < bMarks.length := by simp at hk; omega
        have h3 := pairs_get bMarks k hk
        rw [h3]
        have i0 : ((k + 1 : Nat) : Int) < (bMarks.length : Int) := Int.ofNat_lt.2 hk2
        have i2 : (IntKind.i64).wrap (((k + 1 : Nat) : Int) - 1) = (k : Int) := by rw [wrap_id (by omega) (by omega)]; omega
        have i3 : (IntKind.i64).wrap (((k + 1 : Nat) : Int) + 1) = ((k + 1 + 1 : Nat) : Int) := wrap_nat1 (by omega)
        exact ⟨_, _, _, fun G => by simp only [go_sem, reduceIte, ↓reduceIte, reduceCtorEq, nA, nS, nM, nB, nE, nL, nT, nN, iL, iT, iE, iA, iM, iS, iG, iB, iN, iZ, h, i0, i2, i3, idx_nt bMarks.length _ hk2, idx_nt bMarks.length k (by omega), map_gd (rMark .ro) bMarks _ hk2, map_gd (rMark .ro) bMarks k (by omega), h1, idx_nt _ _ hk, wrap_nat1 (show k < 9223372036854775807 by omega), hb1] <;> with_reducible rfl, by simp, fun hc => ⟨trivial, by simp only [go_sem, reduceIte, ↓reduceIte, reduceCtorEq, nA, nS, nM, nB, nE, nL, nT, nN, iL, iT, iE, iA, iM, iS, iG, iB, iN, iZ, h]⟩⟩) () trivial (bMarks.length + 1) (by simp <;> omega)
  rw [hb1] at hr2
  rcases hqr2 with ⟨s', b1, _, b3⟩ | ⟨x, s', b1, b3⟩
  case inr =>
    have c5 : unsorted bMarks = true := (runS_found b1).1
    simp only [go_sem, reduceIte, ↓reduceIte, reduceCtorEq, nA, nS, nM, nB, nE, nL, nT, nN, iL, iT, iE, iA, iM, iS, iG, iB, iN, iZ, h, hr, a3, hr2, b3, breakerFault, d1, d2, d3, c1, c2, c5]
  have c5 : unsorted bMarks = false := runS_any b1
  simp only [go_sem, reduceIte, ↓reduceIte, reduceCtorEq, nA, nS, nM, nB, nE, nL, nT, nN, iL, iT, iE, iA, iM, iS, iG, iB, iN, iZ, h, hr, a3, hr2, b3, breakerFault, d1, d2, d3, c1, c2, c5]
  all_goals (cases e1 : bState != 0 <;> cases e2 : bState != 2 <;> cases e3 : bOut != 0 <;> cases e4 : decide (0 < (bMarks.length : Int)) <;> simp_all)) (rfl)
end Go.Vm.A
