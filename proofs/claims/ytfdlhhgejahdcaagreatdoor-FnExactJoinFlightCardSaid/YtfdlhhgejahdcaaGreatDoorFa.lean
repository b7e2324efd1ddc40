/- Functions of the program, walked by the evaluator. -/
import Derived.Test.YtfdlhhgejahdcaaGreatDoorWb
import Derived.Test.YtfdlhhgejahdcaaGreatDoorWa
set_option autoImplicit false
set_option maxRecDepth 100000
set_option maxHeartbeats 4000000
set_option linter.unusedVariables false
set_option linter.unusedSimpArgs false
namespace Go.Vm.A
open Go.Proofs
open Nat renaming reduceAdd → nA, reduceSub → nS, reduceMul → nM, reduceBEq → nB, reduceEqDiff → nE, reduceLeDiff → nL, reduceLT → nT, reduceBneDiff → nN
open Int renaming reduceLE → iL, reduceLT → iT, reduceEq → iE, reduceAdd → iA, reduceMul → iM, reduceSub → iS, reduceNeg → iG, reduceBEq → iB, reduceBNe → iN, reduceToNat → iZ

noncomputable def s112 : SP Tryz.prog := mkS tyA 112 Tryz.f112 [] { md := [.ro 1, .ro 1], rg := [(0, [1, 2], [2]), (1, [1, 2], [2]), (2, [1, 2, 11], [2]), (3, [4], []), (4, [1], []), (5, [1, 18], []), (6, [4], []), (7, [4], [])], rets := some ([4], []) } Tryz.func112 (by kernel_rfl)
@[go_sem] theorem d112 : s112.g = 112 ∧ s112.fs = ⟨[.ro 1, .ro 1], s112.F, false⟩ := ⟨nr rfl, nr rfl⟩
@[go_sem] theorem e112 (xName : ByteArray) (xValue : ByteArray) (l : Int) (h0 : okHeader (Header.mk xName xValue)) : s112.F [.agg [.s xName, .s xValue], .i .i64 l] = some (.i .i64 (szHeader (Header.mk xName xValue) l), [.u, .u]) := mkS_eq (0) rfl rfl (fun cx h => by
  obtain ⟨q0, q1⟩ := h0
  simp only [go_sem, reduceIte, ↓reduceIte, reduceCtorEq, nA, nS, nM, nB, nE, nL, nT, nN, iL, iT, iE, iA, iM, iS, iG, iB, iN, iZ, h, q0, q1]
  simp only [szHeader, szs, szn, if_i, decide_eq_true_eq]) (rfl)
noncomputable def s63 : SP Tryz.prog := mkS tyA 63 Tryz.f63 [s112] { md := [.ro 1, .ro 1], rg := [(0, [0, 1], []), (1, [0, 1], []), (2, [0, 1, 11], []), (3, [4], []), (4, [0, 1, 5], []), (5, [0, 1, 5, 15], []), (6, [0, 1, 5], []), (7, [0, 1, 5], []), (8, [0, 1, 5, 25], []), (9, [4], []), (10, [4], [])], lv := [(0, [0, 1, 5], [])], out := [(0, [1], [])], rets := some ([4], []) } Tryz.func63 (by kernel_rfl)
@[go_sem] theorem d63 : s63.g = 63 ∧ s63.fs = ⟨[.ro 1, .ro 1], s63.F, false⟩ := ⟨nr rfl, nr rfl⟩
@[go_sem] theorem e63 (xs : List Header) (l : Int) (h0 : okL okHeader xs) : s63.F [.sl .ro 2 (xs.map (rHeader .ro)), .i .i64 l] = some (.i .i64 (szL szHeader xs l), [.u, .u]) := mkS_eq (xs.length + 1) rfl rfl (fun cx h => by
  have hb := loopN_eq Tryz.f63 0 _ _ rfl rfl
  have hx := h0.1
  obtain ⟨r, hr, hq⟩ := loop_list (cx := cx) (blk := 0) (body := loopN Tryz.f63 0) xs (fun k l => ⟨E [(0, .sl .ro 2 (xs.map (rHeader .ro))), (1, .i .i64 l), (5, .i .i64 k)], B []⟩) (fun l => ⟨E [(1, .i .i64 l)], B []⟩) (fun x l => decide (szHeader x l < 0)) (fun x l => szHeader x l) (fun _ _ => (.ret, ⟨E [(4, .i .i64 (-1))], B []⟩)) (fun _ _ => True)
    (fun l _ G => by simp only [go_sem, reduceIte, ↓reduceIte, reduceCtorEq, nA, nS, nM, nB, nE, nL, nT, nN, iL, iT, iE, iA, iM, iS, iG, iB, iN, iZ, h, Int.lt_irrefl, hb]) (fun k hk l _ => by
      have h1 : ((k : Int) < (xs.length : Int)) := Int.ofNat_lt.2 hk
      have h2 := h0.2 _ (List.getElem_mem hk)
      by_cases hc : szHeader xs[k] l < 0
      · exact .inl ⟨decide_eq_true hc, fun G => by simp only [go_sem, reduceIte, ↓reduceIte, reduceCtorEq, nA, nS, nM, nB, nE, nL, nT, nN, iL, iT, iE, iA, iM, iS, iG, iB, iN, iZ, h, h2, hc, map_gd (rHeader .ro) xs k hk, h1, idx_nt _ _ hk, wrap_nat1 (show k < 9223372036854775807 by omega), hb]⟩
      · exact .inr ⟨decide_eq_false hc, trivial, _, fun G => by simp only [go_sem, reduceIte, ↓reduceIte, reduceCtorEq, nA, nS, nM, nB, nE, nL, nT, nN, iL, iT, iE, iA, iM, iS, iG, iB, iN, iZ, h, h2, hc, map_gd (rHeader .ro) xs k hk, h1, idx_nt _ _ hk, wrap_nat1 (show k < 9223372036854775807 by omega), hb] <;> with_reducible rfl, by simp only [go_sem, reduceIte, ↓reduceIte, reduceCtorEq, nA, nS, nM, nB, nE, nL, nT, nN, iL, iT, iE, iA, iM, iS, iG, iB, iN, iZ, h]⟩) ((IntKind.i64).wrap (l - (xs.length : Int))) trivial (xs.length + 1) (Nat.le_refl _)
  rw [hb] at hr
  unfold szL szs
  by_cases hc : (IntKind.i64).wrap (l - (xs.length : Int)) < 0
  · simp only [go_sem, reduceIte, ↓reduceIte, reduceCtorEq, nA, nS, nM, nB, nE, nL, nT, nN, iL, iT, iE, iA, iM, iS, iG, iB, iN, iZ, h, hc]
  · rcases hq with ⟨s', e1, e2, e3⟩ | ⟨x, s', e1, e3⟩
    · simp only [go_sem, reduceIte, ↓reduceIte, reduceCtorEq, nA, nS, nM, nB, nE, nL, nT, nN, iL, iT, iE, iA, iM, iS, iG, iB, iN, iZ, h, hc, hr, e3, szO_inl e1, Option.getD_some]
    · simp only [go_sem, reduceIte, ↓reduceIte, reduceCtorEq, nA, nS, nM, nB, nE, nL, nT, nN, iL, iT, iE, iA, iM, iS, iG, iB, iN, iZ, h, hc, hr, e3, szO_inr e1, Option.getD_none]) (rfl)
noncomputable def s17 : SP Tryz.prog := mkS tyA 17 Tryz.f17 [s63] { md := [.ro 1, .ro 1], rg := [(0, [1, 2], [2]), (1, [1, 2], [2]), (2, [1, 2, 11], [2]), (3, [4], []), (4, [1, 2], [2]), (5, [1, 2, 18], [2]), (6, [4], []), (7, [1, 2], [2]), (8, [1, 2, 25], [2]), (9, [4], []), (10, [1], []), (11, [1, 31], []), (12, [4], []), (13, [4], [])], rets := some ([4], []) } Tryz.func17 (by kernel_rfl)
@[go_sem] theorem d17 : s17.g = 17 ∧ s17.fs = ⟨[.ro 1, .ro 1], s17.F, false⟩ := ⟨nr rfl, nr rfl⟩
@[go_sem] theorem e17 (xMethod : ByteArray) (xHost : ByteArray) (xPath : ByteArray) (xHeaders : List Header) (l : Int) (h0 : okRequest (Request.mk xMethod xHost xPath xHeaders)) : s17.F [.agg [.s xMethod, .s xHost, .s xPath, .sl .ro 2 (xHeaders.map (rHeader .ro))], .i .i64 l] = some (.i .i64 (szRequest (Request.mk xMethod xHost xPath xHeaders) l), [.u, .u]) := mkS_eq (0) rfl rfl (fun cx h => by
  obtain ⟨q0, q1, q2, q3⟩ := h0
  simp only [go_sem, reduceIte, ↓reduceIte, reduceCtorEq, nA, nS, nM, nB, nE, nL, nT, nN, iL, iT, iE, iA, iM, iS, iG, iB, iN, iZ, h, q0, q1, q2, q3]
  simp only [szRequest, szs, szn, if_i, decide_eq_true_eq]) (rfl)
noncomputable def s84 : SP Tryz.prog := mkS tyA 84 Tryz.f84 [] { md := [.ro 1, .ro 1], rg := [(0, [0, 1], []), (1, [1], []), (2, [1, 10], []), (3, [4], []), (4, [4], [])], rets := some ([4], []) } Tryz.func84 (by kernel_rfl)
@[go_sem] theorem d84 : s84.g = 84 ∧ s84.fs = ⟨[.ro 1, .ro 1], s84.F, false⟩ := ⟨nr rfl, nr rfl⟩
@[go_sem] theorem e84 (xs : List Waiter) (l : Int) : s84.F [.sl .ro 4 (xs.map (rWaiter .ro)), .i .i64 l] = some (.i .i64 (szF xs.length l), [.u, .u]) := mkS_eq (0) rfl rfl (fun cx h => by
  simp only [go_sem, reduceIte, ↓reduceIte, reduceCtorEq, nA, nS, nM, nB, nE, nL, nT, nN, iL, iT, iE, iA, iM, iS, iG, iB, iN, iZ, h]
  simp only [szByteS, szF, szs, szn, if_i, decide_eq_true_eq]) (rfl)
noncomputable def s30 : SP Tryz.prog := mkS tyA 30 Tryz.f30 [s17, s84] { md := [.ro 1, .ro 1], rg := [(0, [1, 2], [2]), (1, [1, 2], [2]), (2, [1, 2, 11], [2]), (3, [4], []), (4, [1, 2], [2]), (5, [1, 2, 17], [2]), (6, [4], []), (7, [1], []), (8, [1, 23], []), (9, [4], []), (10, [4], [])], rets := some ([4], []) } Tryz.func30 (by kernel_rfl)
@[go_sem] theorem d30 : s30.g = 30 ∧ s30.fs = ⟨[.ro 1, .ro 1], s30.F, false⟩ := ⟨nr rfl, nr rfl⟩
@[go_sem] theorem e30 (xId : Int) (xKey : ByteArray) (xBack : Bool) (xOut : Bool) (xDue : Int) (xDoomed : Bool) (xGetMethod : ByteArray) (xGetHost : ByteArray) (xGetPath : ByteArray) (xGetHeaders : List Header) (xWaiters : List Waiter) (l : Int) (h0 : okFlight (Flight.mk xId xKey xBack xOut xDue xDoomed (Request.mk xGetMethod xGetHost xGetPath xGetHeaders) xWaiters)) : s30.F [.agg [.i .i64 xId, .s xKey, .b xBack, .b xOut, .i .i64 xDue, .b xDoomed, .s xGetMethod, .s xGetHost, .s xGetPath, .sl .ro 2 (xGetHeaders.map (rHeader .ro)), .sl .ro 4 (xWaiters.map (rWaiter .ro))], .i .i64 l] = some (.i .i64 (szFlight (Flight.mk xId xKey xBack xOut xDue xDoomed (Request.mk xGetMethod xGetHost xGetPath xGetHeaders) xWaiters) l), [.u, .u]) := mkS_eq (0) rfl rfl (fun cx h => by
  obtain ⟨q0, q1, q2, q3, q4, q5, q6, q7⟩ := h0
  simp only [go_sem, reduceIte, ↓reduceIte, reduceCtorEq, nA, nS, nM, nB, nE, nL, nT, nN, iL, iT, iE, iA, iM, iS, iG, iB, iN, iZ, h, q0, q1, q2, q3, q4, q5, q6, q7]
  simp only [szFlight, szs, szn, if_i, decide_eq_true_eq]) (rfl)
/-! two with one number -/
def tw (s : List Waiter) : List Waiter → Bool
  | [] => false
  | x :: r => if (s.any fun y => y.Req == x.Req) = true then true else tw (s ++ [x]) r
theorem tw_inl : ∀ {xs s s' : List Waiter}, runS (fun x s => s.any fun y => y.Req == x.Req) (fun x s => s ++ [x]) xs s = .inl s' → tw s xs = false
  | [], _, _, _ => rfl
  | x :: xs, s, s', h => by
    rw [runS_cons] at h
    split at h
    · cases h
    · rename_i hc; rw [tw, if_neg hc]; exact tw_inl h
theorem tw_inr : ∀ {xs s : List Waiter} {q : Waiter × List Waiter}, runS (fun x s => s.any fun y => y.Req == x.Req) (fun x s => s ++ [x]) xs s = .inr q → tw s xs = true
  | [], _, _, h => by cases h
  | x :: xs, s, q, h => by
    rw [runS_cons] at h
    split at h
    · rename_i hc; rw [tw, if_pos hc]
    · rename_i hc; rw [tw, if_neg hc]; exact tw_inr h
theorem any_flip (ws : List Waiter) (r : Int) : (ws.any fun y => r == y.Req) = ws.any fun y => y.Req == r := by
  congr 1; funext y; exact Bool.eq_iff_iff.2 (by rw [beq_iff_eq, beq_iff_eq]; exact eq_comm)
theorem take_snoc {α : Type} (xs : List α) (k : Nat) (h : k < xs.length) : xs.take (k + 1) = xs.take k ++ [xs[k]] := by
  rw [List.take_add_one, List.getElem?_eq_getElem h]; rfl
theorem runS_any {α : Type} {p : α → Bool} : ∀ {xs : List α} {u u' : Unit}, runS (fun x _ => p x) (fun _ _ => ()) xs u = .inl u' → xs.any p = false
  | [], _, _, _ => rfl
  | x :: xs, u, u', h => by
    rw [runS_cons] at h
    split at h
    · cases h
    · rename_i hc
      simp only [List.any_cons, runS_any h, Bool.or_false]
      simpa using hc
theorem runS_any' {α : Type} {p : α → Bool} : ∀ {xs : List α} {u : Unit} {q : α × Unit}, runS (fun x _ => p x) (fun _ _ => ()) xs u = .inr q → xs.any p = true
  | [], _, _, h => by cases h
  | x :: xs, u, q, h => by
    rw [runS_cons] at h
    split at h
    · rename_i hc; simp [hc]
    · simp only [List.any_cons, runS_any' h, Bool.or_true]
noncomputable def s60 : SP Tryz.prog := mkS tyA 60 Tryz.f60 [] { md := [.ro 1], rg := [(0, [0], []), (1, [0, 3], []), (2, [0, 3, 8], []), (3, [0, 3], []), (4, [0, 3, 4], []), (5, [0, 3, 4, 13], []), (6, [0, 3, 4], []), (7, [0, 3, 4, 26], []), (8, [2], []), (9, [2], [])], lv := [(0, [0, 3], []), (2, [0, 3, 4], [])], out := [(0, [], []), (2, [0, 3], [])], rets := some ([2], []), plan := [(7, (.take 0 (.take 1 (.take 2 (.take 3 (.take 4 (.take 5 (.take 6 (.take 7 (.take 8 (.take 9 (.take 10 .done))))))))))))] } Tryz.func60 (by kernel_rfl)
@[go_sem] theorem d60 : s60.g = 60 ∧ s60.fs = ⟨[.ro 1], s60.F, false⟩ := ⟨nr rfl, nr rfl⟩
@[go_sem] theorem e60 (ws : List Waiter) (h0 : ws.length ≤ 9223372036854775806) : s60.F [.sl .ro 4 (ws.map (rWaiter .ro))] = some (.b (tw [] ws), [.u]) := mkS_eq (ws.length + 1) rfl rfl (fun cx h => by
  have hx := h0
  have hb0 := loopN_eq Tryz.f60 0 _ _ rfl rfl
  obtain ⟨r, hr, hq⟩ := loop_srch (cx := cx) (blk := 0) (body := loopN Tryz.f60 0) ws (fun k (s : List Waiter) => ⟨E [(0, .sl .ro 4 (ws.map (rWaiter .ro))), (3, .i .i64 k)], B []⟩) (fun s => ⟨E [], B []⟩) (fun x s => s.any fun y => y.Req == x.Req) (fun x s => s ++ [x]) (fun x s => (.ret, ⟨E [(2, .b true)], B []⟩)) (fun k s => s = ws.take k)
      (fun s hI G => by simp only [go_sem, reduceIte, ↓reduceIte, reduceCtorEq, nA, nS, nM, nB, nE, nL, nT, nN, iL, iT, iE, iA, iM, iS, iG, iB, iN, iZ, h, Int.lt_irrefl, hb0, hx]) (fun k hk s hI => by
        have h1 : ((k : Int) < (ws.length : Int)) := Int.ofNat_lt.2 hk
        obtain ⟨q, hq0⟩ : ∃ q, q = k := ⟨k, rfl⟩
        have hq1 : q < ws.length := by omega
        have hlen : (ws.take q).length = q := by rw [List.length_take]; omega
        have hb1 := loopN_eq Tryz.f60 1 _ _ rfl rfl
        obtain ⟨r2, hr2, hqr2⟩ := loop_srch (cx := cx) (blk := 2) (body := loopN Tryz.f60 1) (ws.take q) (fun k (s : Unit) => ⟨E [(0, .sl .ro 4 (ws.map (rWaiter .ro))), (3, .i .i64 q), (4, .i .i64 k)], B []⟩) (fun s => ⟨E [(0, .sl .ro 4 (ws.map (rWaiter .ro))), (3, .i .i64 q)], B []⟩) (fun x s => ws[q].Req == x.Req) (fun x s => ()) (fun x s => (.ret, ⟨E [(2, .b true)], B []⟩)) (fun k s => True)
            (fun s hI G => by simp only [go_sem, reduceIte, ↓reduceIte, reduceCtorEq, nA, nS, nM, nB, nE, nL, nT, nN, iL, iT, iE, iA, iM, iS, iG, iB, iN, iZ, h, Int.lt_irrefl, hb1, hlen, Int.lt_irrefl]) (fun k hk s hI => by
              have h1 : ((k : Int) < ((ws.take q).length : Int)) := Int.ofNat_lt.2 hk
              have hk2 : k < q := by rw [List.length_take] at hk; omega
              have hk3 : k < ws.length := by omega
              have hkq : (k : Int) < (q : Int) := by omega
              have e1 : (ws.take q)[k] = ws[k] := by simp
              have i1 := idx_nt ws.length k hk3
              have i2 := idx_nt ws.length q hq1
              have w1 := wrap_nat1 (show k < 9223372036854775807 by omega)
              all_goals exact ⟨_, _, _, fun G => by simp only [go_sem, reduceIte, ↓reduceIte, reduceCtorEq, nA, nS, nM, nB, nE, nL, nT, nN, iL, iT, iE, iA, iM, iS, iG, iB, iN, iZ, h, hkq, e1, i1, i2, w1, map_gd (rWaiter .ro) ws k hk3, map_gd (rWaiter .ro) ws q hq1, List.length_map, h1, idx_nt _ _ hk, wrap_nat1 (show k < 9223372036854775807 by omega), hb1] <;> with_reducible rfl, by simp [e1], fun hc => ⟨trivial, by simp only [go_sem, reduceIte, ↓reduceIte, reduceCtorEq, nA, nS, nM, nB, nE, nL, nT, nN, iL, iT, iE, iA, iM, iS, iG, iB, iN, iZ, h, hlen]⟩⟩) () trivial (ws.length + 1) (by rw [List.length_take]; omega)
        rw [hb1] at hr2
        subst hq0
        have hfl := any_flip (ws.take q) ws[q].Req
        have hy : r2 = (if (s.any fun y => y.Req == ws[q].Req) = true then some (.ret, ⟨E [(2, .b true)], B []⟩) else some (.ex 2, ⟨E [(0, .sl .ro 4 (ws.map (rWaiter .ro))), (3, .i .i64 q)], B []⟩)) := by
          subst hI
          rcases hqr2 with ⟨s', e1, _, e3⟩ | ⟨x, s', e1, e3⟩
          · rw [← hfl, runS_any e1, e3]; rfl
          · rw [← hfl, runS_any' e1, e3]; rfl
        rw [hy] at hr2
        exact ⟨_, _, _, fun G => by simp only [go_sem, reduceIte, ↓reduceIte, reduceCtorEq, nA, nS, nM, nB, nE, nL, nT, nN, iL, iT, iE, iA, iM, iS, iG, iB, iN, iZ, h, hr2, h1, idx_nt ws.length q hk, wrap_nat1 (show q < 9223372036854775807 by omega), hb0] <;> with_reducible rfl, Iff.rfl, fun hc => ⟨(by rw [hI]; exact (take_snoc ws q hk).symm), by simp only [go_sem, reduceIte, ↓reduceIte, reduceCtorEq, nA, nS, nM, nB, nE, nL, nT, nN, iL, iT, iE, iA, iM, iS, iG, iB, iN, iZ, h]⟩⟩) [] rfl (ws.length + 1) (Nat.le_refl _)
  rw [hb0] at hr
  rcases hq with ⟨s', e1, _, e3⟩ | ⟨x, s', e1, e3⟩
  · simp only [go_sem, reduceIte, ↓reduceIte, reduceCtorEq, nA, nS, nM, nB, nE, nL, nT, nN, iL, iT, iE, iA, iM, iS, iG, iB, iN, iZ, h, hr, e3, tw_inl e1]
  · simp only [go_sem, reduceIte, ↓reduceIte, reduceCtorEq, nA, nS, nM, nB, nE, nL, nT, nN, iL, iT, iE, iA, iM, iS, iG, iB, iN, iZ, h, hr, e3, tw_inr e1]) (rfl)
theorem byne {c v : UInt8} (h : c ≠ v) : ((c.toNat : Int) == (v.toNat : Int)) = false := by
  simp only [beq_eq_false_iff_ne, ne_eq, Int.ofNat_inj]
  exact fun e => h (UInt8.toNat_inj.1 e)
def letterB (c : UInt8) : Bool := (decide (97 ≤ (c.toNat : Int)) && decide ((c.toNat : Int) ≤ 122)) || (decide (65 ≤ (c.toNat : Int)) && decide ((c.toNat : Int) ≤ 90))
def digitB (c : UInt8) : Bool := decide (48 ≤ (c.toNat : Int)) && decide ((c.toNat : Int) ≤ 57)
theorem index_ge (l : List UInt8) (c : UInt8) : 0 ≤ Lib.indexByte l c ↔ c ∈ l := by
  induction l with
  | nil => simp [Lib.indexByte]
  | cons b l ih =>
    have := Lib.indexByte_ge l c
    unfold Lib.indexByte
    by_cases hb : b = c
    · simp [hb]
    · by_cases hx : Lib.indexByte l c = -1
      · have hn : ¬ c ∈ l := fun h => by have := ih.2 h; omega
        simp [hx, hn, hb, Ne.symm hb]
      · have h2 : 0 ≤ Lib.indexByte l c := by omega
        simp [hb, hx, ih.1 h2]; omega
def ixB (s : ByteArray) (c : UInt8) : Int := Lib.indexByte s.data.toList c
theorem ixB_ge (l : List UInt8) (c : UInt8) : decide (0 ≤ ixB ⟨l.toArray⟩ c) = l.contains c := by
  rw [Bool.eq_iff_iff, decide_eq_true_eq, List.contains_iff_mem]
  exact index_ge l c
theorem int_u8 (c : UInt8) : ((c.toNat : Int)).toNat.toUInt8 = c := by simp
noncomputable def s141 : SP Tryz.prog := mkS tyA 141 Tryz.f141 [] { md := [.ro 1], rets := some ([2], []) } Tryz.func141 (by kernel_rfl)
@[go_sem] theorem d141 : s141.g = 141 ∧ s141.fs = ⟨[.ro 1], s141.F, false⟩ := ⟨nr rfl, nr rfl⟩
@[go_sem] theorem e141 (c : UInt8) : s141.F [.i .u8 c.toNat] = some (.b (letterB c), [.u]) := mkS_eq (0) rfl rfl (fun cx h => by
  by_cases h1 : 97 ≤ (c.toNat : Int) <;> by_cases h2 : (c.toNat : Int) ≤ 122 <;> by_cases h3 : 65 ≤ (c.toNat : Int) <;> by_cases h4 : (c.toNat : Int) ≤ 90 <;> simp only [go_sem, reduceIte, ↓reduceIte, reduceCtorEq, nA, nS, nM, nB, nE, nL, nT, nN, iL, iT, iE, iA, iM, iS, iG, iB, iN, iZ, h, h1, h2, h3, h4, letterB]) (rfl)
noncomputable def s142 : SP Tryz.prog := mkS tyA 142 Tryz.f142 [] { md := [.ro 1], rets := some ([2], []) } Tryz.func142 (by kernel_rfl)
@[go_sem] theorem d142 : s142.g = 142 ∧ s142.fs = ⟨[.ro 1], s142.F, false⟩ := ⟨nr rfl, nr rfl⟩
@[go_sem] theorem e142 (c : UInt8) : s142.F [.i .u8 c.toNat] = some (.b (digitB c), [.u]) := mkS_eq (0) rfl rfl (fun cx h => by
  by_cases h1 : 48 ≤ (c.toNat : Int) <;> by_cases h2 : (c.toNat : Int) ≤ 57 <;> simp only [go_sem, reduceIte, ↓reduceIte, reduceCtorEq, nA, nS, nM, nB, nE, nL, nT, nN, iL, iT, iE, iA, iM, iS, iG, iB, iN, iZ, h, h1, h2, digitB]) (rfl)
def hostB (c : UInt8) : Bool := letterB c || digitB c || ((c.toNat : Int) == 46) || ((c.toNat : Int) == 45)
def symB : List UInt8 := [33, 35, 36, 37, 38, 39, 42, 43, 45, 46, 94, 95, 124, 126]
def wordB (c : UInt8) : Bool := letterB c || digitB c || symB.contains c
theorem wordB_sym {c : UInt8} (h : c ∈ symB) : wordB c = true := by
  have : symB.contains c = true := List.contains_iff_mem.2 h
  simp [wordB, this, -List.contains_eq_mem]
theorem wordB_not {c : UInt8} (h : ¬ c ∈ symB) : wordB c = (letterB c || digitB c) := by
  have : symB.contains c = false := by rw [Bool.eq_false_iff]; exact fun e => h (List.contains_iff_mem.1 e)
  simp [wordB, this, -List.contains_eq_mem]
theorem ixB_sym (c : UInt8) : decide (0 ≤ ixB ⟨#[33, 35, 36, 37, 38, 39, 42, 43, 45, 46, 94, 95, 124, 126]⟩ c) = symB.contains c := ixB_ge symB c
@[go_sem] theorem ixB_symI (c : UInt8) : decide (ixB ⟨#[33, 35, 36, 37, 38, 39, 42, 43, 45, 46, 94, 95, 124, 126]⟩ c ≥ 0) = symB.contains c := ixB_ge symB c
def pSymB : List UInt8 := [47, 63, 61, 38, 58, 64, 44, 59, 40, 41]
def pathB (c : UInt8) : Bool := wordB c || pSymB.contains c
theorem pathB_sym {c : UInt8} (h : c ∈ pSymB) : pathB c = true := by
  have : pSymB.contains c = true := List.contains_iff_mem.2 h
  simp [pathB, this, -List.contains_eq_mem]
theorem pathB_not {c : UInt8} (h : ¬ c ∈ pSymB) : pathB c = wordB c := by
  have : pSymB.contains c = false := by rw [Bool.eq_false_iff]; exact fun e => h (List.contains_iff_mem.1 e)
  simp [pathB, this, -List.contains_eq_mem]
theorem ixB_psym (c : UInt8) : decide (0 ≤ ixB ⟨#[47, 63, 61, 38, 58, 64, 44, 59, 40, 41]⟩ c) = pSymB.contains c := ixB_ge pSymB c
def areB (p : UInt8 → Bool) (lo hi : Int) (t : ByteArray) : Bool := decide (lo ≤ (t.size : Int)) && decide ((t.size : Int) ≤ hi) && t.data.toList.all p
theorem areB_short {p : UInt8 → Bool} {lo hi : Int} {t : ByteArray} (h : (t.size : Int) < lo) : areB p lo hi t = false := by
  have : ¬ lo ≤ (t.size : Int) := by omega
  simp [areB, this]
theorem areB_long {p : UInt8 → Bool} {lo hi : Int} {t : ByteArray} (h : hi < (t.size : Int)) : areB p lo hi t = false := by
  have : ¬ (t.size : Int) ≤ hi := by omega
  simp [areB, this]
theorem areB_all {p : UInt8 → Bool} {lo hi : Int} {t : ByteArray} (h : ¬ (t.size : Int) < lo) (h' : ¬ hi < (t.size : Int)) : areB p lo hi t = t.data.toList.all p := by
  have h1 : lo ≤ (t.size : Int) := by omega
  have h2 : (t.size : Int) ≤ hi := by omega
  simp [areB, h1, h2]
theorem runS_all {α : Type} {p : α → Bool} : ∀ {xs : List α} {u u' : Unit}, runS (fun x _ => !p x) (fun _ _ => ()) xs u = .inl u' → xs.all p = true
  | [], _, _, _ => rfl
  | x :: xs, u, u', h => by
    rw [runS_cons] at h
    split at h
    · cases h
    · rename_i hc
      simp only [List.all_cons, runS_all h, Bool.and_true]
      simpa using hc
theorem runS_all' {α : Type} {p : α → Bool} : ∀ {xs : List α} {u : Unit} {q : α × Unit}, runS (fun x _ => !p x) (fun _ _ => ()) xs u = .inr q → xs.all p = false
  | [], _, _, h => by cases h
  | x :: xs, u, q, h => by
    rw [runS_cons] at h
    split at h
    · rename_i hc
      have : p x = false := by simpa using hc
      simp [this]
    · simp only [List.all_cons, runS_all' h, Bool.and_false]
theorem str_at (t : ByteArray) (k : Nat) (h : k < t.data.toList.length) : t.data[k]?.getD 0 = t.data.toList[k] := by
  have h' : k < t.data.size := by simpa using h
  rw [Array.getElem?_eq_getElem h']
  simp
theorem str_size (t : ByteArray) : t.size = t.data.toList.length := by
  show t.data.size = _
  simp
def isWord (t : ByteArray) : Bool := areB wordB 1 64 t
def plainB (c : UInt8) : Bool := ((c.toNat : Int) == 9) || (decide (32 ≤ (c.toNat : Int)) && decide ((c.toNat : Int) ≤ 126))
def areP (t : ByteArray) : Bool := t.data.toList.all plainB
theorem areP_eq (t : ByteArray) : areB plainB 0 (t.size : Int) t = areP t := areB_all (by omega) (by omega)
def trimB (t : ByteArray) : ByteArray := ⟨(Lib.trimS t.data.toList [32, 9]).toArray⟩
def blankB (c : UInt8) : Bool := ((c.toNat : Int) == 32) || ((c.toNat : Int) == 9)
def bl (t : ByteArray) (j : Nat) : Bool := blankB (t.data[j]?.getD 0)
theorem blankB_c (c : UInt8) : [32, 9].contains c = blankB c := by
  have h32 : (c == 32) = ((c.toNat : Int) == 32) := by
    rw [Bool.eq_iff_iff, beq_iff_eq, beq_iff_eq]
    constructor
    · rintro rfl; rfl
    · intro h; exact UInt8.toNat_inj.1 (by have : (32 : UInt8).toNat = 32 := rfl; omega)
  have h9 : (c == 9) = ((c.toNat : Int) == 9) := by
    rw [Bool.eq_iff_iff, beq_iff_eq, beq_iff_eq]
    constructor
    · rintro rfl; rfl
    · intro h; exact UInt8.toNat_inj.1 (by have : (9 : UInt8).toNat = 9 := rfl; omega)
  simp only [List.contains_cons, List.contains_nil, Bool.or_false, h32, h9, blankB]
theorem bl_get {t : ByteArray} {j : Nat} {b : UInt8} (h : t.data.toList[j]? = some b) : bl t j = [32, 9].contains b := by
  rw [blankB_c]
  unfold bl
  rw [Array.getElem?_toList] at h
  rw [h]; rfl
theorem trim_cut (t : ByteArray) (f e : Nat) (hf : f ≤ e) (he : e ≤ t.size) (h1 : ∀ j, j < f → bl t j = true) (h2 : f < t.size → bl t f = false) (h3 : ∀ j, e ≤ j → j < t.size → bl t j = true) (h4 : f < e → bl t (e - 1) = false) : trimB t = t.extract f e := by
  have hn : t.size = t.data.toList.length := str_size t
  have hext : t.extract f e = ⟨((t.data.toList.take e).drop f).toArray⟩ := by
    have : (t.extract f e).data = t.data.extract f e := by simp
    cases hx : t.extract f e with
    | mk d =>
      rw [hx] at this
      congr 1
      simp only at this
      rw [this]
      apply Array.ext'
      rw [Array.toList_extract, List.extract_eq_take_drop, List.drop_take]
  rw [hext]
  unfold trimB Lib.trimS
  congr 2
  by_cases hall : f < e
  · rw [Lib.trimRightS_take t.data.toList [32, 9] e (by omega) (fun j b hj hb => ?_) (fun b hk hb => ?_)]
    · refine Lib.trimLeftS_drop _ _ f (by simp; omega) (fun j b hj hb => ?_) (fun b hb => ?_)
      · rw [List.getElem?_take] at hb
        split at hb
        · rw [← bl_get hb]; exact h1 j hj
        · cases hb
      · rw [List.getElem?_take, if_pos hall] at hb
        rw [← bl_get hb]; exact h2 (by omega)
    · rw [← bl_get hb]; exact h3 j hj (by have := (List.getElem?_eq_some_iff.1 hb).1; omega)
    · rw [← bl_get hb]; exact h4 hall
  · obtain rfl : f = e := by omega
    have hfn : f = t.size := by
      rcases Nat.lt_or_ge f t.size with h | h
      · have := h2 h; rw [h3 f (Nat.le_refl _) h] at this; cases this
      · omega
    have hr : Lib.trimRightS t.data.toList [32, 9] = t.data.toList.take 0 := Lib.trimRightS_take _ _ 0 (by omega) (fun j b _ hb => by
      rw [← bl_get hb]; exact h1 j (by have := (List.getElem?_eq_some_iff.1 hb).1; omega)) (fun b hk _ => by omega)
    rw [hr]
    have : (t.data.toList.take f).drop f = [] := by
      apply List.drop_eq_nil_of_le
      simp
      omega
    rw [this]
    rfl
noncomputable def headerCode (h : Header) : Int := if isWord h.Name = false then 5 else if 200 < (h.Value.size : Int) then 2 else if (areP h.Value && eqv (trimB h.Value) h.Value) = true then 0 else 5
noncomputable def headersFault (hs : List Header) : Int := if 20 < (hs.length : Int) then 2 else firstI (hs.map headerCode)
theorem firstI_inl {α : Type} {f : α → Int} : ∀ {xs : List α} {u u' : Unit}, runS (fun x _ => f x != 0) (fun _ _ => ()) xs u = .inl u' → firstI (xs.map f) = 0
  | [], _, _, _ => rfl
  | x :: xs, u, u', h => by
    rw [runS_cons] at h
    split at h
    · cases h
    · rename_i hc; rw [List.map_cons, firstI_cons, if_neg hc]; exact firstI_inl h
theorem firstI_inr {α : Type} {f : α → Int} : ∀ {xs : List α} {u : Unit} {q : α × Unit}, runS (fun x _ => f x != 0) (fun _ _ => ()) xs u = .inr q → firstI (xs.map f) = f q.1
  | [], _, _, h => by cases h
  | x :: xs, u, q, h => by
    rw [runS_cons] at h
    split at h
    · rename_i hc; injection h with h; subst h; rw [List.map_cons, firstI_cons, if_pos hc]
    · rename_i hc; rw [List.map_cons, firstI_cons, if_neg hc]; exact firstI_inr h
@[go_sem] theorem map_byteRow (xs : List UInt8) : xs.map byteRow = xs.map rByte := nr rfl
def lowB (c : UInt8) : UInt8 := if 65 ≤ (c.toNat : Int) ∧ (c.toNat : Int) ≤ 90 then c + 32 else c
def lowS (t : ByteArray) : ByteArray := ⟨(t.data.toList.map lowB).toArray⟩
def lowUp (xs : List UInt8) (k : Nat) : List UInt8 := (xs.take k).map lowB ++ xs.drop k
theorem lowUp_zero (xs : List UInt8) : lowUp xs 0 = xs := by simp [lowUp]
theorem lowUp_all (xs : List UInt8) : lowUp xs xs.length = xs.map lowB := by simp [lowUp]
theorem lowUp_len (xs : List UInt8) (k : Nat) (h : k ≤ xs.length) : (lowUp xs k).length = xs.length := by simp [lowUp]; omega
theorem lowUp_at (xs : List UInt8) (k : Nat) (h : k < xs.length) : (lowUp xs k)[k]? = some xs[k] := by
  unfold lowUp
  rw [List.getElem?_append_right (by simp; omega)]
  simp [Nat.min_eq_left (Nat.le_of_lt h), h]
theorem lowUp_succ (xs : List UInt8) (k : Nat) (h : k < xs.length) : (lowUp xs k).set k (lowB xs[k]) = lowUp xs (k + 1) := by
  unfold lowUp
  rw [List.set_append_right _ _ (by simp; omega)]
  rw [List.length_map, List.length_take, Nat.min_eq_left (Nat.le_of_lt h), Nat.sub_self, List.drop_eq_getElem_cons h, List.set_cons_zero]
  have e : (xs.take (k + 1)).map lowB = (xs.take k).map lowB ++ [lowB xs[k]] := by
    rw [List.take_add_one, List.getElem?_eq_getElem h, Option.toList_some, List.map_append]; rfl
  rw [e]
  simp
theorem lowUp_same (xs : List UInt8) (k : Nat) (h : k < xs.length) (hc : lowB xs[k] = xs[k]) : lowUp xs (k + 1) = lowUp xs k := by
  rw [← lowUp_succ xs k h, hc]
  have := lowUp_at xs k h
  obtain ⟨h1, h2⟩ := List.getElem?_eq_some_iff.1 this
  rw [← h2]
  exact List.set_getElem_self h1
theorem lowUp_gd (xs : List UInt8) (k : Nat) (h : k < xs.length) : ((lowUp xs k).map rByte).getD k [] = [.i .u8 xs[k].toNat] := by
  rw [List.getD_eq_getElem?_getD, List.getElem?_map, lowUp_at xs k h]; rfl
theorem lowUp_g (xs : List UInt8) (k : Nat) (h : k < xs.length) : ((lowUp xs k).map rByte)[k]? = some [.i .u8 xs[k].toNat] := by
  rw [List.getElem?_map, lowUp_at xs k h]; rfl
theorem low_add {c : UInt8} (h : (c.toNat : Int) ≤ 90) : (c + 32).toNat = c.toNat + 32 := by
  rw [UInt8.toNat_add]
  have : (32 : UInt8).toNat = 32 := rfl
  rw [this]
  omega
theorem lowStep (xs : List UInt8) (k : Nat) (h : k < xs.length) :
    (65 ≤ (xs[k].toNat : Int) ∧ (xs[k].toNat : Int) ≤ 90 ∧ ((IntKind.u8).wrap ((IntKind.u8).wrap ((xs[k].toNat : Int) + 97) - 65) = ((lowB xs[k]).toNat : Int)) ∧ ((IntKind.u8).wrap ((xs[k].toNat : Int) + 32) = ((lowB xs[k]).toNat : Int)) ∧ ((lowUp xs k).map rByte).set k [.i .u8 (lowB xs[k]).toNat] = (lowUp xs (k + 1)).map rByte ∧ True) ∨
    (¬ 65 ≤ (xs[k].toNat : Int) ∧ True ∧ True ∧ True ∧ True ∧ lowUp xs (k + 1) = lowUp xs k) ∨ (65 ≤ (xs[k].toNat : Int) ∧ ¬ (xs[k].toNat : Int) ≤ 90 ∧ True ∧ True ∧ True ∧ lowUp xs (k + 1) = lowUp xs k) := by
  by_cases a1 : 65 ≤ (xs[k].toNat : Int)
  · by_cases a2 : (xs[k].toNat : Int) ≤ 90
    · refine .inl ⟨a1, a2, ?_, ?_, ?_, trivial⟩
      · have hl : lowB xs[k] = xs[k] + 32 := if_pos ⟨a1, a2⟩
        rw [hl, low_add a2]
        simp only [IntKind.wrap, IntKind.bits, IntKind.signed]
        simp
        omega
      · have hl : lowB xs[k] = xs[k] + 32 := if_pos ⟨a1, a2⟩
        rw [hl, low_add a2]
        simp only [IntKind.wrap, IntKind.bits, IntKind.signed]
        simp
        omega
      · rw [← lowUp_succ xs k h, List.map_set]; rfl
    · exact .inr (.inr ⟨a1, a2, trivial, trivial, trivial, lowUp_same xs k h (if_neg fun x => a2 x.2)⟩)
  · exact .inr (.inl ⟨a1, trivial, trivial, trivial, trivial, lowUp_same xs k h (if_neg fun x => a1 x.1)⟩)
def okN (n : ByteArray) : Bool := decide (n.size ≤ 9223372036854775806)
noncomputable def valsOf (hs : List Header) (n : ByteArray) : List ByteArray := (hs.filter fun x => eqv (lowS x.Name) (lowS n)).map (·.Value)
noncomputable def hasV (hs : List Header) (n : ByteArray) : Bool := hs.any fun x => eqv (lowS x.Name) (lowS n)
theorem valsOf_pos (hs : List Header) (n : ByteArray) : decide (0 < ((valsOf hs n).length : Int)) = hasV hs n := by
  have : 0 < (valsOf hs n).length ↔ hasV hs n = true := by
    unfold valsOf hasV
    rw [List.length_map, List.length_pos_iff_exists_mem, List.any_eq_true]
    simp only [List.mem_filter]
  rw [Bool.eq_iff_iff, decide_eq_true_eq, ← this]
  omega
noncomputable def joinStep (n : ByteArray) (s : ByteArray × Bool) (x : Header) : ByteArray × Bool := if eqv (lowS x.Name) (lowS n) = true then ((if s.2 = true then s.1 ++ ⟨#[44, 32]⟩ else s.1) ++ x.Value, true) else s
noncomputable def joinV (hs : List Header) (n : ByteArray) : ByteArray × Bool := hs.foldl (fun s x => joinStep n s x) (⟨#[]⟩, false)
theorem joinFold_2 (n : ByteArray) : ∀ (hs : List Header) (s : ByteArray × Bool), (hs.foldl (fun s x => joinStep n s x) s).2 = (s.2 || hasV hs n)
  | [], s => by simp [hasV]
  | x :: hs, s => by
    rw [List.foldl_cons, joinFold_2 n hs]
    unfold joinStep hasV
    rw [List.any_cons]
    cases eqv (lowS x.Name) (lowS n) <;> simp
theorem joinV_2 (hs : List Header) (n : ByteArray) : (joinV hs n).2 = hasV hs n := by
  unfold joinV; rw [joinFold_2]; rfl
theorem joinStep_size {n : ByteArray} {s : ByteArray × Bool} {x : Header} {k : Nat} (h : s.1.size ≤ k * 1048578) (hx : x.Value.size ≤ 1048576) : (joinStep n s x).1.size ≤ (k + 1) * 1048578 := by
  have h2 : (⟨#[44, 32]⟩ : ByteArray).size = 2 := rfl
  have h3 : (k + 1) * 1048578 = k * 1048578 + 1048578 := Nat.succ_mul _ _
  rw [h3]
  generalize k * 1048578 = K at h ⊢
  unfold joinStep
  split
  · show (((if s.2 = true then s.1 ++ ⟨#[44, 32]⟩ else s.1) ++ x.Value).size) ≤ _
    rw [ByteArray.size_append]
    split
    · rw [ByteArray.size_append]; omega
    · omega
  · omega
noncomputable def isMethod (t : ByteArray) : Bool := eqv t ⟨#[71, 69, 84]⟩ || eqv t ⟨#[72, 69, 65, 68]⟩
theorem eqv_bytesne (a b : ByteArray) : (a.toList != b.toList) = !eqv a b := by rw [bne, eqv_bytes]
def isHost (t : ByteArray) : Bool := areB hostB 1 60 t
def isPath (t : ByteArray) : Bool := areB pathB 1 100 t && (((t.data[0]?.getD 0).toNat : Int) == 47)
noncomputable def requestFault (r : Request) : Int := if (isMethod r.Method && isHost r.Host && isPath r.Path) = false then 5 else if (headersFault r.Headers != 0) = true then headersFault r.Headers else if hasV r.Headers ⟨#[72, 111, 115, 116]⟩ = true then 6 else if 20 ≤ (r.Headers.length : Int) then 2 else 0
theorem hasV_host (hs : List Header) : hasV hs ⟨#[104, 111, 115, 116]⟩ = hasV hs ⟨#[72, 111, 115, 116]⟩ := by
  unfold hasV
  have : lowS ⟨#[104, 111, 115, 116]⟩ = lowS ⟨#[72, 111, 115, 116]⟩ := by rfl
  rw [this]
theorem headersFault_ok {hs : List Header} (h : headersFault hs = 0) : hs.length ≤ 20 := by
  unfold headersFault at h
  split at h
  · cases h
  · omega
theorem areB_nil {p : UInt8 → Bool} {hi : Int} {t : ByteArray} (h : areB p 1 hi t = true) : 0 < t.size := by
  unfold areB at h
  simp only [Bool.and_eq_true, decide_eq_true_eq] at h
  omega
noncomputable def s113 : SP Tryz.prog := mkS tyA 113 Tryz.f113 [s141, s142] { md := [.ro 1], rg := [(0, [0], []), (1, [0, 11], []), (2, [2], []), (3, [0, 3], []), (4, [0, 3, 15], []), (5, [0, 3], []), (6, [0, 3, 41], []), (7, [2], []), (8, [2], [])], lv := [(0, [0, 3], [])], out := [(0, [], [])], rets := some ([2], []) } Tryz.func113 (by kernel_rfl)
@[go_sem] theorem d113 : s113.g = 113 ∧ s113.fs = ⟨[.ro 1], s113.F, false⟩ := ⟨nr rfl, nr rfl⟩
@[go_sem] theorem e113 (t : ByteArray) : s113.F [.s t] = some (.b (isHost t), [.u]) := mkS_eq (t.data.toList.length + 1) rfl rfl (fun cx h => by
  have hu : isHost t = areB hostB 1 60 t := rfl
  by_cases h1 : (t.size : Int) < 1
  · simp only [go_sem, reduceIte, ↓reduceIte, reduceCtorEq, nA, nS, nM, nB, nE, nL, nT, nN, iL, iT, iE, iA, iM, iS, iG, iB, iN, iZ, h, h1, hu, areB_short h1]
  by_cases h2 : 60 < (t.size : Int)
  · simp only [go_sem, reduceIte, ↓reduceIte, reduceCtorEq, nA, nS, nM, nB, nE, nL, nT, nN, iL, iT, iE, iA, iM, iS, iG, iB, iN, iZ, h, h1, h2, hu, areB_long h2]
  have hx : t.data.toList.length ≤ 9223372036854775806 := by rw [← str_size]; omega
  have ha := areB_all (p := hostB) h1 h2
  rw [str_size t] at h1 h2
  · have hb0 := loopN_eq Tryz.f113 0 _ _ rfl rfl
    obtain ⟨r, hr, hq⟩ := loop_list (cx := cx) (blk := 0) (body := loopN Tryz.f113 0) t.data.toList (fun k (s : Unit) => ⟨E [(0, .s t), (3, .i .i64 k)], B []⟩) (fun s => ⟨E [], B []⟩) (fun x s => !hostB x) (fun x s => ()) (fun x s => (.ret, ⟨E [(2, .b false)], B []⟩)) (fun k s => True)
        (fun s hI G => by simp only [go_sem, reduceIte, ↓reduceIte, reduceCtorEq, nA, nS, nM, nB, nE, nL, nT, nN, iL, iT, iE, iA, iM, iS, iG, iB, iN, iZ, h, Int.lt_irrefl, hb0, str_size t]) (fun k hk s hI => by
          have h1 : ((k : Int) < (t.data.toList.length : Int)) := Int.ofNat_lt.2 hk
          have hz := str_at t k hk
          have hu : hostB t.data.toList[k] = (letterB t.data.toList[k] || digitB t.data.toList[k] || ((t.data.toList[k].toNat : Int) == 46) || ((t.data.toList[k].toNat : Int) == 45)) := rfl
          by_cases c0 : hostB t.data.toList[k] = true
          · skip
            have c9 := c0
            rw [hu] at c0
            cases a1 : letterB t.data.toList[k] <;> cases a2 : digitB t.data.toList[k] <;> cases a3 : ((t.data.toList[k].toNat : Int) == 46) <;> cases a4 : ((t.data.toList[k].toNat : Int) == 45) <;> first | (exfalso; rw [a1, a2, a3, a4] at c0; exact absurd c0 (by decide)) | skip
            all_goals exact .inr ⟨by rw [c9]; rfl, trivial, _, fun G => by simp only [go_sem, reduceIte, ↓reduceIte, reduceCtorEq, nA, nS, nM, nB, nE, nL, nT, nN, iL, iT, iE, iA, iM, iS, iG, iB, iN, iZ, h, hz, str_size t, bne, a1, a2, a3, a4, h1, idx_nt _ _ hk, wrap_nat1 (show k < 9223372036854775807 by omega), hb0] <;> with_reducible rfl, by simp only [go_sem, reduceIte, ↓reduceIte, reduceCtorEq, nA, nS, nM, nB, nE, nL, nT, nN, iL, iT, iE, iA, iM, iS, iG, iB, iN, iZ, h, str_size t]⟩
          · have c1 : hostB t.data.toList[k] = false := by simpa using c0
            have c2 := c1
            rw [hu] at c2
            simp only [Bool.or_eq_false_iff] at c2
            obtain ⟨⟨⟨b1, b2⟩, b3⟩, b4⟩ := c2
            all_goals exact .inl ⟨by rw [c1]; rfl, fun G => by simp only [go_sem, reduceIte, ↓reduceIte, reduceCtorEq, nA, nS, nM, nB, nE, nL, nT, nN, iL, iT, iE, iA, iM, iS, iG, iB, iN, iZ, h, hz, str_size t, bne, b1, b2, b3, b4, h1, idx_nt _ _ hk, wrap_nat1 (show k < 9223372036854775807 by omega), hb0]⟩) () trivial (t.data.toList.length + 1) (Nat.le_refl _)
    rw [hb0] at hr
    rcases hq with ⟨s', e1, _, e3⟩ | ⟨x, s', e1, e3⟩
    · simp only [go_sem, reduceIte, ↓reduceIte, reduceCtorEq, nA, nS, nM, nB, nE, nL, nT, nN, iL, iT, iE, iA, iM, iS, iG, iB, iN, iZ, h, h1, h2, str_size t, hr, e3, hu, ha, runS_all e1]
    · simp only [go_sem, reduceIte, ↓reduceIte, reduceCtorEq, nA, nS, nM, nB, nE, nL, nT, nN, iL, iT, iE, iA, iM, iS, iG, iB, iN, iZ, h, h1, h2, str_size t, hr, e3, hu, ha, runS_all' e1]) (rfl)
theorem wx : (1 : Int) = 1 := rfl
noncomputable def s158 : SP Tryz.prog := mkS tyA 158 Tryz.f158 [s141, s142] { md := [.ro 1], rg := [(0, [0], []), (1, [0, 3], []), (2, [0, 3, 4], []), (3, [0, 3, 4], []), (4, [0, 3, 4], []), (5, [0, 3, 4], []), (6, [0, 3, 4], []), (7, [0, 3, 4], []), (8, [0, 3, 4], []), (9, [0, 3, 4], []), (10, [0, 3, 4], []), (11, [0, 3, 4], []), (12, [0, 3, 4], []), (13, [0, 3, 4], []), (14, [0, 3, 4], []), (15, [0, 4], []), (16, [2], []), (17, [2], [])], rets := some ([2], []) } Tryz.func158 (by kernel_rfl)
@[go_sem] theorem d158 : s158.g = 158 ∧ s158.fs = ⟨[.ro 1], s158.F, false⟩ := ⟨nr rfl, nr rfl⟩
@[go_sem] theorem e158 (c : UInt8) : s158.F [.i .u8 c.toNat] = some (.b (wordB c), [.u]) := mkS_eq (0) rfl rfl (fun cx h => by
  by_cases m : c ∈ symB
  · have hw := wordB_sym m
    simp only [symB, List.mem_cons, List.not_mem_nil, or_false] at m
    have u33 : (((33 : UInt8).toNat : Nat) : Int) = 33 := rfl
    have u35 : (((35 : UInt8).toNat : Nat) : Int) = 35 := rfl
    have u36 : (((36 : UInt8).toNat : Nat) : Int) = 36 := rfl
    have u37 : (((37 : UInt8).toNat : Nat) : Int) = 37 := rfl
    have u38 : (((38 : UInt8).toNat : Nat) : Int) = 38 := rfl
    have u39 : (((39 : UInt8).toNat : Nat) : Int) = 39 := rfl
    have u42 : (((42 : UInt8).toNat : Nat) : Int) = 42 := rfl
    have u43 : (((43 : UInt8).toNat : Nat) : Int) = 43 := rfl
    have u45 : (((45 : UInt8).toNat : Nat) : Int) = 45 := rfl
    have u46 : (((46 : UInt8).toNat : Nat) : Int) = 46 := rfl
    have u94 : (((94 : UInt8).toNat : Nat) : Int) = 94 := rfl
    have u95 : (((95 : UInt8).toNat : Nat) : Int) = 95 := rfl
    have u124 : (((124 : UInt8).toNat : Nat) : Int) = 124 := rfl
    have u126 : (((126 : UInt8).toNat : Nat) : Int) = 126 := rfl
    rcases m with rfl | rfl | rfl | rfl | rfl | rfl | rfl | rfl | rfl | rfl | rfl | rfl | rfl | rfl <;> simp only [go_sem, reduceIte, ↓reduceIte, reduceCtorEq, nA, nS, nM, nB, nE, nL, nT, nN, iL, iT, iE, iA, iM, iS, iG, iB, iN, iZ, h, hw, wx, u33, u35, u36, u37, u38, u39, u42, u43, u45, u46, u94, u95, u124, u126]
  · have hw := wordB_not m
    have q33 : ((c.toNat : Int) == 33) = false := byne (v := 33) (fun e => m (by subst e; decide))
    have q35 : ((c.toNat : Int) == 35) = false := byne (v := 35) (fun e => m (by subst e; decide))
    have q36 : ((c.toNat : Int) == 36) = false := byne (v := 36) (fun e => m (by subst e; decide))
    have q37 : ((c.toNat : Int) == 37) = false := byne (v := 37) (fun e => m (by subst e; decide))
    have q38 : ((c.toNat : Int) == 38) = false := byne (v := 38) (fun e => m (by subst e; decide))
    have q39 : ((c.toNat : Int) == 39) = false := byne (v := 39) (fun e => m (by subst e; decide))
    have q42 : ((c.toNat : Int) == 42) = false := byne (v := 42) (fun e => m (by subst e; decide))
    have q43 : ((c.toNat : Int) == 43) = false := byne (v := 43) (fun e => m (by subst e; decide))
    have q45 : ((c.toNat : Int) == 45) = false := byne (v := 45) (fun e => m (by subst e; decide))
    have q46 : ((c.toNat : Int) == 46) = false := byne (v := 46) (fun e => m (by subst e; decide))
    have q94 : ((c.toNat : Int) == 94) = false := byne (v := 94) (fun e => m (by subst e; decide))
    have q95 : ((c.toNat : Int) == 95) = false := byne (v := 95) (fun e => m (by subst e; decide))
    have q124 : ((c.toNat : Int) == 124) = false := byne (v := 124) (fun e => m (by subst e; decide))
    have q126 : ((c.toNat : Int) == 126) = false := byne (v := 126) (fun e => m (by subst e; decide))
    cases h1 : letterB c <;> cases h2 : digitB c <;> simp only [go_sem, reduceIte, ↓reduceIte, reduceCtorEq, nA, nS, nM, nB, nE, nL, nT, nN, iL, iT, iE, iA, iM, iS, iG, iB, iN, iZ, h, hw, h1, h2, q33, q35, q36, q37, q38, q39, q42, q43, q45, q46, q94, q95, q124, q126]) (rfl)
noncomputable def s143 : SP Tryz.prog := mkS tyA 143 Tryz.f143 [s158] { md := [.ro 1], rg := [(0, [0], []), (1, [0, 3], []), (2, [0, 3, 4], []), (3, [0, 3, 4], []), (4, [0, 3, 4], []), (5, [0, 3, 4], []), (6, [0, 3, 4], []), (7, [0, 3, 4], []), (8, [0, 3, 4], []), (9, [0, 3, 4], []), (10, [0, 3, 4], []), (11, [0, 4], []), (12, [2], []), (13, [2], [])], rets := some ([2], []) } Tryz.func143 (by kernel_rfl)
@[go_sem] theorem d143 : s143.g = 143 ∧ s143.fs = ⟨[.ro 1], s143.F, false⟩ := ⟨nr rfl, nr rfl⟩
@[go_sem] theorem e143 (c : UInt8) : s143.F [.i .u8 c.toNat] = some (.b (pathB c), [.u]) := mkS_eq (0) rfl rfl (fun cx h => by
  by_cases m : c ∈ pSymB
  · have hw := pathB_sym m
    simp only [pSymB, List.mem_cons, List.not_mem_nil, or_false] at m
    have u47 : (((47 : UInt8).toNat : Nat) : Int) = 47 := rfl
    have u63 : (((63 : UInt8).toNat : Nat) : Int) = 63 := rfl
    have u61 : (((61 : UInt8).toNat : Nat) : Int) = 61 := rfl
    have u38 : (((38 : UInt8).toNat : Nat) : Int) = 38 := rfl
    have u58 : (((58 : UInt8).toNat : Nat) : Int) = 58 := rfl
    have u64 : (((64 : UInt8).toNat : Nat) : Int) = 64 := rfl
    have u44 : (((44 : UInt8).toNat : Nat) : Int) = 44 := rfl
    have u59 : (((59 : UInt8).toNat : Nat) : Int) = 59 := rfl
    have u40 : (((40 : UInt8).toNat : Nat) : Int) = 40 := rfl
    have u41 : (((41 : UInt8).toNat : Nat) : Int) = 41 := rfl
    rcases m with rfl | rfl | rfl | rfl | rfl | rfl | rfl | rfl | rfl | rfl <;> simp only [go_sem, reduceIte, ↓reduceIte, reduceCtorEq, nA, nS, nM, nB, nE, nL, nT, nN, iL, iT, iE, iA, iM, iS, iG, iB, iN, iZ, h, hw, wx, u47, u63, u61, u38, u58, u64, u44, u59, u40, u41]
  · have hw := pathB_not m
    have q47 : ((c.toNat : Int) == 47) = false := byne (v := 47) (fun e => m (by subst e; decide))
    have q63 : ((c.toNat : Int) == 63) = false := byne (v := 63) (fun e => m (by subst e; decide))
    have q61 : ((c.toNat : Int) == 61) = false := byne (v := 61) (fun e => m (by subst e; decide))
    have q38 : ((c.toNat : Int) == 38) = false := byne (v := 38) (fun e => m (by subst e; decide))
    have q58 : ((c.toNat : Int) == 58) = false := byne (v := 58) (fun e => m (by subst e; decide))
    have q64 : ((c.toNat : Int) == 64) = false := byne (v := 64) (fun e => m (by subst e; decide))
    have q44 : ((c.toNat : Int) == 44) = false := byne (v := 44) (fun e => m (by subst e; decide))
    have q59 : ((c.toNat : Int) == 59) = false := byne (v := 59) (fun e => m (by subst e; decide))
    have q40 : ((c.toNat : Int) == 40) = false := byne (v := 40) (fun e => m (by subst e; decide))
    have q41 : ((c.toNat : Int) == 41) = false := byne (v := 41) (fun e => m (by subst e; decide))
    cases h1 : wordB c <;> simp only [go_sem, reduceIte, ↓reduceIte, reduceCtorEq, nA, nS, nM, nB, nE, nL, nT, nN, iL, iT, iE, iA, iM, iS, iG, iB, iN, iZ, h, hw, h1, q47, q63, q61, q38, q58, q64, q44, q59, q40, q41]) (rfl)
noncomputable def s114 : SP Tryz.prog := mkS tyA 114 Tryz.f114 [s143] { md := [.ro 1], rg := [(0, [0], []), (1, [0, 16], []), (2, [2], []), (3, [0, 3], []), (4, [0, 3, 20], []), (5, [0, 3], []), (6, [0, 3, 27], []), (7, [2], []), (8, [2], [])], lv := [(0, [0, 3], [])], out := [(0, [], [])], rets := some ([2], []) } Tryz.func114 (by kernel_rfl)
@[go_sem] theorem d114 : s114.g = 114 ∧ s114.fs = ⟨[.ro 1], s114.F, false⟩ := ⟨nr rfl, nr rfl⟩
@[go_sem] theorem e114 (t : ByteArray) : s114.F [.s t] = some (.b (isPath t), [.u]) := mkS_eq (t.data.toList.length + 1) rfl rfl (fun cx h => by
  have hu : isPath t = (areB pathB 1 100 t && (((t.data[0]?.getD 0).toNat : Int) == 47)) := rfl
  by_cases h1 : (t.size : Int) < 1
  · simp only [go_sem, reduceIte, ↓reduceIte, reduceCtorEq, nA, nS, nM, nB, nE, nL, nT, nN, iL, iT, iE, iA, iM, iS, iG, iB, iN, iZ, h, h1, hu, areB_short h1]
  by_cases h2 : 100 < (t.size : Int)
  · simp only [go_sem, reduceIte, ↓reduceIte, reduceCtorEq, nA, nS, nM, nB, nE, nL, nT, nN, iL, iT, iE, iA, iM, iS, iG, iB, iN, iZ, h, h1, h2, hu, areB_long h2]
  have hi : idx? t.size 0 = some 0 := idx_nt t.size 0 (by omega)
  have hi' : idx? t.data.toList.length 0 = some 0 := by rw [← str_size]; exact hi
  cases h3 : (((t.data[0]?.getD 0).toNat : Int) == 47)
  · simp only [go_sem, reduceIte, ↓reduceIte, reduceCtorEq, nA, nS, nM, nB, nE, nL, nT, nN, iL, iT, iE, iA, iM, iS, iG, iB, iN, iZ, h, h1, h2, h3, hi, hu, bne]
  have hx : t.data.toList.length ≤ 9223372036854775806 := by rw [← str_size]; omega
  have ha := areB_all (p := pathB) h1 h2
  rw [str_size t] at h1 h2
  · have hb0 := loopN_eq Tryz.f114 0 _ _ rfl rfl
    obtain ⟨r, hr, hq⟩ := loop_srch (cx := cx) (blk := 0) (body := loopN Tryz.f114 0) t.data.toList (fun k (s : Unit) => ⟨E [(0, .s t), (3, .i .i64 k)], B []⟩) (fun s => ⟨E [], B []⟩) (fun x s => !pathB x) (fun x s => ()) (fun x s => (.ret, ⟨E [(2, .b false)], B []⟩)) (fun k s => True)
        (fun s hI G => by simp only [go_sem, reduceIte, ↓reduceIte, reduceCtorEq, nA, nS, nM, nB, nE, nL, nT, nN, iL, iT, iE, iA, iM, iS, iG, iB, iN, iZ, h, Int.lt_irrefl, hb0, str_size t]) (fun k hk s hI => by
          have h1 : ((k : Int) < (t.data.toList.length : Int)) := Int.ofNat_lt.2 hk
          have hz := str_at t k hk
          exact ⟨_, _, _, fun G => by simp only [go_sem, reduceIte, ↓reduceIte, reduceCtorEq, nA, nS, nM, nB, nE, nL, nT, nN, iL, iT, iE, iA, iM, iS, iG, iB, iN, iZ, h, hz, str_size t, h1, idx_nt _ _ hk, wrap_nat1 (show k < 9223372036854775807 by omega), hb0] <;> with_reducible rfl, Iff.rfl, fun hc => ⟨trivial, by simp only [go_sem, reduceIte, ↓reduceIte, reduceCtorEq, nA, nS, nM, nB, nE, nL, nT, nN, iL, iT, iE, iA, iM, iS, iG, iB, iN, iZ, h, str_size t]⟩⟩) () trivial (t.data.toList.length + 1) (Nat.le_refl _)
    rw [hb0] at hr
    rcases hq with ⟨s', e1, _, e3⟩ | ⟨x, s', e1, e3⟩
    · simp only [go_sem, reduceIte, ↓reduceIte, reduceCtorEq, nA, nS, nM, nB, nE, nL, nT, nN, iL, iT, iE, iA, iM, iS, iG, iB, iN, iZ, h, h1, h2, h3, hi', bne, str_size t, hr, e3, hu, ha, runS_all e1]
    · simp only [go_sem, reduceIte, ↓reduceIte, reduceCtorEq, nA, nS, nM, nB, nE, nL, nT, nN, iL, iT, iE, iA, iM, iS, iG, iB, iN, iZ, h, h1, h2, h3, hi', bne, str_size t, hr, e3, hu, ha, runS_all' e1]) (rfl)
noncomputable def s159 : SP Tryz.prog := mkS tyA 159 Tryz.f159 [s158] { md := [.ro 1], rg := [(0, [0], []), (1, [0, 11], []), (2, [2], []), (3, [0, 3], []), (4, [0, 3, 15], []), (5, [0, 3], []), (6, [0, 3, 22], []), (7, [2], []), (8, [2], [])], lv := [(0, [0, 3], [])], out := [(0, [], [])], rets := some ([2], []) } Tryz.func159 (by kernel_rfl)
@[go_sem] theorem d159 : s159.g = 159 ∧ s159.fs = ⟨[.ro 1], s159.F, false⟩ := ⟨nr rfl, nr rfl⟩
@[go_sem] theorem e159 (t : ByteArray) : s159.F [.s t] = some (.b (isWord t), [.u]) := mkS_eq (t.data.toList.length + 1) rfl rfl (fun cx h => by
  have hu : isWord t = areB wordB 1 64 t := rfl
  by_cases h1 : (t.size : Int) < 1
  · simp only [go_sem, reduceIte, ↓reduceIte, reduceCtorEq, nA, nS, nM, nB, nE, nL, nT, nN, iL, iT, iE, iA, iM, iS, iG, iB, iN, iZ, h, h1, hu, areB_short h1]
  by_cases h2 : 64 < (t.size : Int)
  · simp only [go_sem, reduceIte, ↓reduceIte, reduceCtorEq, nA, nS, nM, nB, nE, nL, nT, nN, iL, iT, iE, iA, iM, iS, iG, iB, iN, iZ, h, h1, h2, hu, areB_long h2]
  have hx : t.data.toList.length ≤ 9223372036854775806 := by rw [← str_size]; omega
  have ha := areB_all (p := wordB) h1 h2
  rw [str_size t] at h1 h2
  · have hb0 := loopN_eq Tryz.f159 0 _ _ rfl rfl
    obtain ⟨r, hr, hq⟩ := loop_srch (cx := cx) (blk := 0) (body := loopN Tryz.f159 0) t.data.toList (fun k (s : Unit) => ⟨E [(0, .s t), (3, .i .i64 k)], B []⟩) (fun s => ⟨E [], B []⟩) (fun x s => !wordB x) (fun x s => ()) (fun x s => (.ret, ⟨E [(2, .b false)], B []⟩)) (fun k s => True)
        (fun s hI G => by simp only [go_sem, reduceIte, ↓reduceIte, reduceCtorEq, nA, nS, nM, nB, nE, nL, nT, nN, iL, iT, iE, iA, iM, iS, iG, iB, iN, iZ, h, Int.lt_irrefl, hb0, str_size t]) (fun k hk s hI => by
          have h1 : ((k : Int) < (t.data.toList.length : Int)) := Int.ofNat_lt.2 hk
          have hz := str_at t k hk
          exact ⟨_, _, _, fun G => by simp only [go_sem, reduceIte, ↓reduceIte, reduceCtorEq, nA, nS, nM, nB, nE, nL, nT, nN, iL, iT, iE, iA, iM, iS, iG, iB, iN, iZ, h, hz, str_size t, h1, idx_nt _ _ hk, wrap_nat1 (show k < 9223372036854775807 by omega), hb0] <;> with_reducible rfl, Iff.rfl, fun hc => ⟨trivial, by simp only [go_sem, reduceIte, ↓reduceIte, reduceCtorEq, nA, nS, nM, nB, nE, nL, nT, nN, iL, iT, iE, iA, iM, iS, iG, iB, iN, iZ, h, str_size t]⟩⟩) () trivial (t.data.toList.length + 1) (Nat.le_refl _)
    rw [hb0] at hr
    rcases hq with ⟨s', e1, _, e3⟩ | ⟨x, s', e1, e3⟩
    · simp only [go_sem, reduceIte, ↓reduceIte, reduceCtorEq, nA, nS, nM, nB, nE, nL, nT, nN, iL, iT, iE, iA, iM, iS, iG, iB, iN, iZ, h, h1, h2, str_size t, hr, e3, hu, ha, runS_all e1]
    · simp only [go_sem, reduceIte, ↓reduceIte, reduceCtorEq, nA, nS, nM, nB, nE, nL, nT, nN, iL, iT, iE, iA, iM, iS, iG, iB, iN, iZ, h, h1, h2, str_size t, hr, e3, hu, ha, runS_all' e1]) (rfl)
noncomputable def s174 : SP Tryz.prog := mkS tyA 174 Tryz.f174 [] { md := [.ro 1], rets := some ([2], []) } Tryz.func174 (by kernel_rfl)
@[go_sem] theorem d174 : s174.g = 174 ∧ s174.fs = ⟨[.ro 1], s174.F, false⟩ := ⟨nr rfl, nr rfl⟩
@[go_sem] theorem e174 (c : UInt8) : s174.F [.i .u8 c.toNat] = some (.b (plainB c), [.u]) := mkS_eq (0) rfl rfl (fun cx h => by
  cases h1 : ((c.toNat : Int) == 9) <;> by_cases h2 : 32 ≤ (c.toNat : Int) <;> by_cases h3 : (c.toNat : Int) ≤ 126 <;> simp only [go_sem, reduceIte, ↓reduceIte, reduceCtorEq, nA, nS, nM, nB, nE, nL, nT, nN, iL, iT, iE, iA, iM, iS, iG, iB, iN, iZ, h, h1, h2, h3, plainB]) (rfl)
noncomputable def s160 : SP Tryz.prog := mkS tyA 160 Tryz.f160 [s174] { md := [.ro 1], rg := [(0, [0], []), (1, [0, 3], []), (2, [0, 3, 7], []), (3, [0, 3], []), (4, [0, 3, 14], []), (5, [2], []), (6, [2], [])], lv := [(0, [0, 3], [])], out := [(0, [], [])], rets := some ([2], []) } Tryz.func160 (by kernel_rfl)
@[go_sem] theorem d160 : s160.g = 160 ∧ s160.fs = ⟨[.ro 1], s160.F, false⟩ := ⟨nr rfl, nr rfl⟩
@[go_sem] theorem e160 (t : ByteArray) (h0 : (t.size : Int) ≤ 1000000) : s160.F [.s t] = some (.b (areP t), [.u]) := mkS_eq (t.data.toList.length + 1) rfl rfl (fun cx h => by
  have hx : t.data.toList.length ≤ 9223372036854775806 := by rw [← str_size]; omega
  have hb0 := loopN_eq Tryz.f160 0 _ _ rfl rfl
  obtain ⟨r, hr, hq⟩ := loop_srch (cx := cx) (blk := 0) (body := loopN Tryz.f160 0) t.data.toList (fun k (s : Unit) => ⟨E [(0, .s t), (3, .i .i64 k)], B []⟩) (fun s => ⟨E [], B []⟩) (fun x s => !plainB x) (fun x s => ()) (fun x s => (.ret, ⟨E [(2, .b false)], B []⟩)) (fun k s => True)
      (fun s hI G => by simp only [go_sem, reduceIte, ↓reduceIte, reduceCtorEq, nA, nS, nM, nB, nE, nL, nT, nN, iL, iT, iE, iA, iM, iS, iG, iB, iN, iZ, h, Int.lt_irrefl, hb0, str_size t]) (fun k hk s hI => by
        have h1 : ((k : Int) < (t.data.toList.length : Int)) := Int.ofNat_lt.2 hk
        have hz := str_at t k hk
        exact ⟨_, _, _, fun G => by simp only [go_sem, reduceIte, ↓reduceIte, reduceCtorEq, nA, nS, nM, nB, nE, nL, nT, nN, iL, iT, iE, iA, iM, iS, iG, iB, iN, iZ, h, hz, str_size t, h1, idx_nt _ _ hk, wrap_nat1 (show k < 9223372036854775807 by omega), hb0] <;> with_reducible rfl, Iff.rfl, fun hc => ⟨trivial, by simp only [go_sem, reduceIte, ↓reduceIte, reduceCtorEq, nA, nS, nM, nB, nE, nL, nT, nN, iL, iT, iE, iA, iM, iS, iG, iB, iN, iZ, h, str_size t]⟩⟩) () trivial (t.data.toList.length + 1) (Nat.le_refl _)
  rw [hb0] at hr
  rcases hq with ⟨s', e1, _, e3⟩ | ⟨x, s', e1, e3⟩
  · simp only [go_sem, reduceIte, ↓reduceIte, reduceCtorEq, nA, nS, nM, nB, nE, nL, nT, nN, iL, iT, iE, iA, iM, iS, iG, iB, iN, iZ, h, hr, e3, areP, runS_all e1]
  · simp only [go_sem, reduceIte, ↓reduceIte, reduceCtorEq, nA, nS, nM, nB, nE, nL, nT, nN, iL, iT, iE, iA, iM, iS, iG, iB, iN, iZ, h, hr, e3, areP, runS_all' e1]) (rfl)
noncomputable def s175 : SP Tryz.prog := mkS tyA 175 Tryz.f175 [] { md := [.ro 1], rets := some ([2], []) } Tryz.func175 (by kernel_rfl)
@[go_sem] theorem d175 : s175.g = 175 ∧ s175.fs = ⟨[.ro 1], s175.F, false⟩ := ⟨nr rfl, nr rfl⟩
@[go_sem] theorem e175 (c : UInt8) : s175.F [.i .u8 c.toNat] = some (.b (blankB c), [.u]) := mkS_eq (0) rfl rfl (fun cx h => by
  cases h1 : ((c.toNat : Int) == 32) <;> cases h2 : ((c.toNat : Int) == 9) <;> simp only [go_sem, reduceIte, ↓reduceIte, reduceCtorEq, nA, nS, nM, nB, nE, nL, nT, nN, iL, iT, iE, iA, iM, iS, iG, iB, iN, iZ, h, h1, h2, blankB]) (rfl)
noncomputable def s161 : SP Tryz.prog := mkS tyA 161 Tryz.f161 [s175] { md := [.ro 1], rg := [(0, [0], []), (1, [0, 3], []), (2, [0, 3, 4], []), (3, [0, 3, 4, 15], []), (4, [0, 3, 4], []), (5, [0, 3, 4, 27], []), (6, [0, 3, 4], []), (7, [2], [])], lv := [(0, [0, 3, 4], []), (2, [0, 3, 4], [])], out := [(0, [0, 3, 4], []), (2, [0, 3, 4], [])], rets := some ([2], []) } Tryz.func161 (by kernel_rfl)
@[go_sem] theorem d161 : s161.g = 161 ∧ s161.fs = ⟨[.ro 1], s161.F, false⟩ := ⟨nr rfl, nr rfl⟩
@[go_sem] theorem e161 (t : ByteArray) (h0 : t.size ≤ 9223372036854775806) : s161.F [.s t] = some (.s (trimB t), [.u]) := mkS_eq (t.size + 1) rfl rfl (fun cx h => by
  have hb := loopN_eq Tryz.f161 0 _ _ rfl rfl
  have hb1 := loopN_eq Tryz.f161 1 _ _ rfl rfl
  have lp := loop_gen (cx := cx) (blk := 0) (body := loopN Tryz.f161 0) (fun (k : Nat) => ⟨E [(0, .s t), (3, .i .i64 k), (4, .i .i64 t.size)], B []⟩) (fun k => k ≤ t.size) (fun k => t.size - k)
    (fun k r => ∃ f : Nat, k ≤ f ∧ f ≤ t.size ∧ (∀ j, k ≤ j → j < f → bl t j = true) ∧ (f < t.size → bl t f = false) ∧ r = some (.ex 0, ⟨E [(0, .s t), (3, .i .i64 f), (4, .i .i64 t.size)], B []⟩)) (fun k hk => by
    by_cases h1 : (k : Int) < (t.size : Int)
    · have i1 := idx_nt t.size k (by omega)
      have w1 := wrap_nat1 (show k < 9223372036854775807 by omega)
      cases h2 : bl t k
      · have h3 : blankB (t.data[k]?.getD 0) = false := h2
        exact .inl fun G => ⟨k, Nat.le_refl _, hk, fun j a b => by omega, fun _ => h2, by simp only [go_sem, reduceIte, ↓reduceIte, reduceCtorEq, nA, nS, nM, nB, nE, nL, nT, nN, iL, iT, iE, iA, iM, iS, iG, iB, iN, iZ, h, hb, h1, h3, i1]⟩
      · have h3 : blankB (t.data[k]?.getD 0) = true := h2
        refine .inr ⟨_, k + 1, ?_, by omega, by omega, fun r ⟨f, a, b, c, d, e⟩ => ⟨f, by omega, b, fun j x y => ?_, d, e⟩, fun G => by simp only [go_sem, reduceIte, ↓reduceIte, reduceCtorEq, nA, nS, nM, nB, nE, nL, nT, nN, iL, iT, iE, iA, iM, iS, iG, iB, iN, iZ, h, hb, h1, h3, i1, w1]; rfl⟩
        · simp only [go_sem, reduceIte, ↓reduceIte, reduceCtorEq, nA, nS, nM, nB, nE, nL, nT, nN, iL, iT, iE, iA, iM, iS, iG, iB, iN, iZ, h]
        · rcases Nat.eq_or_lt_of_le x with rfl | x
          · exact h2
          · exact c j x y
    · exact .inl fun G => ⟨k, Nat.le_refl _, hk, fun j a b => by omega, fun x => by omega, by simp only [go_sem, reduceIte, ↓reduceIte, reduceCtorEq, nA, nS, nM, nB, nE, nL, nT, nN, iL, iT, iE, iA, iM, iS, iG, iB, iN, iZ, h, hb, h1]⟩)
  rw [hb] at lp
  obtain ⟨f, _, f2, f3, f4, l1⟩ := lp (t.size + 1) 0 (Nat.zero_le _) (by omega) ⟨E [(0, .s t), (3, .i .i64 0), (4, .i .i64 t.size)], B []⟩ (by simp only [go_sem, reduceIte, ↓reduceIte, reduceCtorEq, nA, nS, nM, nB, nE, nL, nT, nN, iL, iT, iE, iA, iM, iS, iG, iB, iN, iZ, h])
  have lp2 := loop_gen (cx := cx) (blk := 2) (body := loopN Tryz.f161 1) (fun (k : Nat) => ⟨E [(0, .s t), (3, .i .i64 f), (4, .i .i64 k)], B []⟩) (fun k => f ≤ k ∧ k ≤ t.size) (fun k => k)
    (fun k r => ∃ e : Nat, f ≤ e ∧ e ≤ k ∧ (∀ j, e ≤ j → j < k → bl t j = true) ∧ (f < e → bl t (e - 1) = false) ∧ r = some (.ex 2, ⟨E [(0, .s t), (3, .i .i64 f), (4, .i .i64 e)], B []⟩)) (fun k hk => by
    by_cases h1 : (f : Int) < (k : Int)
    · obtain ⟨m, rfl⟩ : ∃ m, k = m + 1 := ⟨k - 1, by omega⟩
      have i1 := idx_nt t.size m (by omega)
      have w1 : (IntKind.i64).wrap (((m + 1 : Nat) : Int) - 1) = (m : Int) := by rw [wrap_id (by omega) (by omega)]; omega
      cases h2 : bl t m
      · have h3 : blankB (t.data[m]?.getD 0) = false := h2
        exact .inl fun G => ⟨m + 1, hk.1, Nat.le_refl _, fun j a b => by omega, fun _ => by simpa using h2, by simp only [go_sem, reduceIte, ↓reduceIte, reduceCtorEq, nA, nS, nM, nB, nE, nL, nT, nN, iL, iT, iE, iA, iM, iS, iG, iB, iN, iZ, h, hb1, h1, h3, i1, w1]⟩
      · have h3 : blankB (t.data[m]?.getD 0) = true := h2
        refine .inr ⟨_, m, ?_, ⟨by omega, by omega⟩, by omega, fun r ⟨e, a, b, c, d, g⟩ => ⟨e, a, by omega, fun j x y => ?_, d, g⟩, fun G => by simp only [go_sem, reduceIte, ↓reduceIte, reduceCtorEq, nA, nS, nM, nB, nE, nL, nT, nN, iL, iT, iE, iA, iM, iS, iG, iB, iN, iZ, h, hb1, h1, h3, i1, w1]; rfl⟩
        · simp only [go_sem, reduceIte, ↓reduceIte, reduceCtorEq, nA, nS, nM, nB, nE, nL, nT, nN, iL, iT, iE, iA, iM, iS, iG, iB, iN, iZ, h]
        · rcases Nat.lt_or_ge j m with y' | y'
          · exact c j x y'
          · obtain rfl : j = m := by omega
            exact h2
    · exact .inl fun G => ⟨k, hk.1, Nat.le_refl _, fun j a b => by omega, fun x => by omega, by simp only [go_sem, reduceIte, ↓reduceIte, reduceCtorEq, nA, nS, nM, nB, nE, nL, nT, nN, iL, iT, iE, iA, iM, iS, iG, iB, iN, iZ, h, hb1, h1]⟩)
  rw [hb1] at lp2
  obtain ⟨e, e1, e2, e3, e4, l2⟩ := lp2 (t.size + 1) t.size ⟨f2, Nat.le_refl _⟩ (by omega) ⟨E [(0, .s t), (3, .i .i64 f), (4, .i .i64 t.size)], B []⟩ (by simp only [go_sem, reduceIte, ↓reduceIte, reduceCtorEq, nA, nS, nM, nB, nE, nL, nT, nN, iL, iT, iE, iA, iM, iS, iG, iB, iN, iZ, h])
  have hc := trim_cut t f e e1 e2 (fun j hj => f3 j (Nat.zero_le _) hj) f4 e3 e4
  have c1 : (0 : Int) ≤ (e : Int) := by omega
  have c2 : (e : Int) ≤ (t.size : Int) := by omega
  have c3 : (0 : Int) ≤ (f : Int) := by omega
  have c4 : (f : Int) ≤ (e : Int) := by omega
  simp only [go_sem, reduceIte, ↓reduceIte, reduceCtorEq, nA, nS, nM, nB, nE, nL, nT, nN, iL, iT, iE, iA, iM, iS, iG, iB, iN, iZ, h, l1, l2, c1, c2, c3, c4, Int.toNat_natCast, hc]) (rfl)
noncomputable def s144 : SP Tryz.prog := mkS tyA 144 Tryz.f144 [s159, s160, s161] { md := [.ro 1], rg := [(0, [1], [1]), (1, [1, 3], [1]), (2, [3, 6], []), (3, [2], []), (4, [3, 11], []), (5, [2], []), (6, [15], []), (7, [2], []), (8, [2], [])], rets := some ([2], []) } Tryz.func144 (by kernel_rfl)
@[go_sem] theorem d144 : s144.g = 144 ∧ s144.fs = ⟨[.ro 1], s144.F, false⟩ := ⟨nr rfl, nr rfl⟩
@[go_sem] theorem e144 (xName : ByteArray) (xValue : ByteArray) : s144.F [.agg [.s xName, .s xValue]] = some (.i .i64 (headerCode (Header.mk xName xValue)), [.u]) := mkS_eq (0) rfl rfl (fun cx h => by
  cases h1 : isWord xName
  · simp only [go_sem, reduceIte, ↓reduceIte, reduceCtorEq, nA, nS, nM, nB, nE, nL, nT, nN, iL, iT, iE, iA, iM, iS, iG, iB, iN, iZ, h, h1, headerCode]
  by_cases h2 : 200 < (xValue.size : Int)
  · simp only [go_sem, reduceIte, ↓reduceIte, reduceCtorEq, nA, nS, nM, nB, nE, nL, nT, nN, iL, iT, iE, iA, iM, iS, iG, iB, iN, iZ, h, h1, h2, headerCode]
  have h3 : (xValue.size : Int) ≤ 1000000 := by omega
  have h4 : xValue.size ≤ 9223372036854775806 := by omega
  have h5 : xValue.size ≤ 9223372036854775807 := by omega
  cases h6 : areP xValue
  · simp only [go_sem, reduceIte, ↓reduceIte, reduceCtorEq, nA, nS, nM, nB, nE, nL, nT, nN, iL, iT, iE, iA, iM, iS, iG, iB, iN, iZ, h, h1, h2, h3, h4, h5, h6, headerCode]
  cases h7 : eqv (trimB xValue) xValue <;> simp only [go_sem, reduceIte, ↓reduceIte, reduceCtorEq, nA, nS, nM, nB, nE, nL, nT, nN, iL, iT, iE, iA, iM, iS, iG, iB, iN, iZ, h, h1, h2, h3, h4, h5, h6, h7, eqv_bytes, eqv_boolne, bne, headerCode]) (rfl)
noncomputable def s115 : SP Tryz.prog := mkS tyA 115 Tryz.f115 [s144] { md := [.ro 1], rg := [(0, [0], []), (1, [0, 7], []), (2, [2], []), (3, [0, 3], []), (4, [0, 3, 11], []), (5, [0, 3], []), (6, [0, 3, 4], []), (7, [0, 3, 4, 20], []), (8, [2], []), (9, [2], [])], lv := [(0, [0, 3], [])], out := [(0, [], [])], rets := some ([2], []) } Tryz.func115 (by kernel_rfl)
@[go_sem] theorem d115 : s115.g = 115 ∧ s115.fs = ⟨[.ro 1], s115.F, false⟩ := ⟨nr rfl, nr rfl⟩
@[go_sem] theorem e115 (hs : List Header) : s115.F [.sl .ro 2 (hs.map (rHeader .ro))] = some (.i .i64 (headersFault hs), [.u]) := mkS_eq (hs.length + 1) rfl rfl (fun cx h => by
  by_cases h1 : 20 < (hs.length : Int)
  · simp only [go_sem, reduceIte, ↓reduceIte, reduceCtorEq, nA, nS, nM, nB, nE, nL, nT, nN, iL, iT, iE, iA, iM, iS, iG, iB, iN, iZ, h, h1, headersFault]
  have hx : hs.length ≤ 9223372036854775806 := by omega
  have hb0 := loopN_eq Tryz.f115 0 _ _ rfl rfl
  obtain ⟨r, hr, hq⟩ := loop_srch (cx := cx) (blk := 0) (body := loopN Tryz.f115 0) hs (fun k (s : Unit) => ⟨E [(0, .sl .ro 2 (hs.map (rHeader .ro))), (3, .i .i64 k)], B []⟩) (fun s => ⟨E [], B []⟩) (fun x s => headerCode x != 0) (fun x s => ()) (fun x s => (.ret, ⟨E [(2, .i .i64 (headerCode x))], B []⟩)) (fun k s => True)
      (fun s hI G => by simp only [go_sem, reduceIte, ↓reduceIte, reduceCtorEq, nA, nS, nM, nB, nE, nL, nT, nN, iL, iT, iE, iA, iM, iS, iG, iB, iN, iZ, h, Int.lt_irrefl, hb0, hx]) (fun k hk s hI => by
        have h1 : ((k : Int) < (hs.length : Int)) := Int.ofNat_lt.2 hk
        exact ⟨_, _, _, fun G => by simp only [go_sem, reduceIte, ↓reduceIte, reduceCtorEq, nA, nS, nM, nB, nE, nL, nT, nN, iL, iT, iE, iA, iM, iS, iG, iB, iN, iZ, h, map_gd (rHeader .ro) hs _ hk, rHeader, h1, idx_nt _ _ hk, wrap_nat1 (show k < 9223372036854775807 by omega), hb0] <;> with_reducible rfl, Iff.rfl, fun hc => ⟨trivial, by simp only [go_sem, reduceIte, ↓reduceIte, reduceCtorEq, nA, nS, nM, nB, nE, nL, nT, nN, iL, iT, iE, iA, iM, iS, iG, iB, iN, iZ, h]⟩⟩) () trivial (hs.length + 1) (Nat.le_refl _)
  rw [hb0] at hr
  rcases hq with ⟨s', e1, _, e3⟩ | ⟨x, s', e1, e3⟩
  · simp only [go_sem, reduceIte, ↓reduceIte, reduceCtorEq, nA, nS, nM, nB, nE, nL, nT, nN, iL, iT, iE, iA, iM, iS, iG, iB, iN, iZ, h, h1, hr, e3, headersFault, firstI_inl e1]
  · simp only [go_sem, reduceIte, ↓reduceIte, reduceCtorEq, nA, nS, nM, nB, nE, nL, nT, nN, iL, iT, iE, iA, iM, iS, iG, iB, iN, iZ, h, h1, hr, e3, headersFault, firstI_inr e1]) (rfl)
noncomputable def s162 : SP Tryz.prog := mkS tyA 162 Tryz.f162 [] { md := [.ro 1], rg := [(0, [0], []), (1, [3], []), (2, [3, 4], []), (3, [3, 4, 10], []), (4, [3, 4], []), (5, [3, 4, 24], []), (6, [3, 4], []), (7, [2], [])], lv := [(0, [3, 4], [])], out := [(0, [3], [])], rets := some ([2], []) } Tryz.func162 (by kernel_rfl)
@[go_sem] theorem d162 : s162.g = 162 ∧ s162.fs = ⟨[.ro 1], s162.F, false⟩ := ⟨nr rfl, nr rfl⟩
@[go_sem] theorem e162 (t : ByteArray) (h0 : t.size ≤ 9223372036854775806) : s162.F [.s t] = some (.s (lowS t), [.u]) := mkS_eq (t.data.toList.length + 1) rfl rfl (fun cx h => by
  have hz : t.data.toList.length ≤ 9223372036854775807 := by rw [← str_size]; omega
  have hx : t.data.toList.length ≤ 9223372036854775806 := by rw [← str_size]; exact h0
  have hb0 := loopN_eq Tryz.f162 0 _ _ rfl rfl
  obtain ⟨hI, hr⟩ := loop_fold (cx := cx) (blk := 0) (body := loopN Tryz.f162 0) t.data.toList (fun k (s : Unit) => ⟨E [(3, .sl .mut 1 ((lowUp t.data.toList k).map rByte)), (4, .i .i64 k)], B []⟩) (fun s => ⟨E [(3, .sl .mut 1 ((t.data.toList.map lowB).map rByte))], B []⟩) (fun x s => s) (fun k s => True)
      (fun s hI G => by simp only [go_sem, reduceIte, ↓reduceIte, reduceCtorEq, nA, nS, nM, nB, nE, nL, nT, nN, iL, iT, iE, iA, iM, iS, iG, iB, iN, iZ, h, Int.lt_irrefl, hb0, lowUp_len t.data.toList t.data.toList.length (Nat.le_refl _), lowUp_all t.data.toList, List.length_map]) (fun k hk s hI => by
        have h1 : ((k : Int) < (t.data.toList.length : Int)) := Int.ofNat_lt.2 hk
        have g1 := lowUp_gd t.data.toList k hk
        have g2 := lowUp_g t.data.toList k hk
        have g3 := lowUp_len t.data.toList k (Nat.le_of_lt hk)
        have g4 : (List.take t.data.toList.length ((lowUp t.data.toList k).map rByte)) = (lowUp t.data.toList k).map rByte := List.take_of_length_le (by rw [List.length_map, g3]; exact Nat.le_refl _)
        rcases lowStep t.data.toList k hk with ⟨a1, a2, w1, w2, hs, hv⟩ | ⟨a1, a2, w1, w2, hs, hv⟩ | ⟨a1, a2, w1, w2, hs, hv⟩
        all_goals exact ⟨trivial, _, fun G => by simp only [go_sem, reduceIte, ↓reduceIte, reduceCtorEq, nA, nS, nM, nB, nE, nL, nT, nN, iL, iT, iE, iA, iM, iS, iG, iB, iN, iZ, h, g1, g2, g3, g4, a1, a2, w1, w2, hs, List.length_map, h1, idx_nt _ _ hk, wrap_nat1 (show k < 9223372036854775807 by omega), hb0] <;> with_reducible rfl, by simp only [go_sem, reduceIte, ↓reduceIte, reduceCtorEq, nA, nS, nM, nB, nE, nL, nT, nN, iL, iT, iE, iA, iM, iS, iG, iB, iN, iZ, h, hv]⟩) () trivial (t.data.toList.length + 1) (Nat.le_refl _)
  rw [hb0] at hr
  rw [lowUp_zero] at hr
  simp only [go_sem, reduceIte, ↓reduceIte, reduceCtorEq, nA, nS, nM, nB, nE, nL, nT, nN, iL, iT, iE, iA, iM, iS, iG, iB, iN, iZ, h, hz, hr, str_size t, lowS]) (rfl)
noncomputable def s145 : SP Tryz.prog := mkS tyA 145 Tryz.f145 [s162] { md := [.ro 1, .ro 1], rets := some ([4], []) } Tryz.func145 (by kernel_rfl)
@[go_sem] theorem d145 : s145.g = 145 ∧ s145.fs = ⟨[.ro 1, .ro 1], s145.F, false⟩ := ⟨nr rfl, nr rfl⟩
@[go_sem] theorem e145 (a : ByteArray) (b : ByteArray) (h0 : (a.size ≤ 9223372036854775806 ∧ b.size ≤ 9223372036854775806)) : s145.F [.s a, .s b] = some (.b (eqv (lowS a) (lowS b)), [.u, .u]) := mkS_eq (0) rfl rfl (fun cx h => by
  simp only [go_sem, reduceIte, ↓reduceIte, reduceCtorEq, nA, nS, nM, nB, nE, nL, nT, nN, iL, iT, iE, iA, iM, iS, iG, iB, iN, iZ, h, h0.1, h0.2, eqv_bytes]) (rfl)
noncomputable def s116 : SP Tryz.prog := mkS tyA 116 Tryz.f116 [s145] { md := [.ro 1, .ro 1], rg := [(0, [0, 1], []), (1, [0, 1, 6], []), (2, [0, 1, 6, 7], []), (3, [0, 1, 6, 7, 8], []), (4, [0, 1, 6, 7, 8, 12], []), (5, [0, 1, 6, 7, 8], []), (6, [0, 1, 6, 7, 8, 22], []), (7, [0, 1, 6, 8, 23], []), (8, [0, 1, 6, 8], []), (9, [0, 1, 6, 8], []), (10, [0, 1, 6, 7, 8], []), (11, [4, 5], [])], lv := [(0, [0, 1, 6, 7, 8], [])], out := [(0, [6, 7], [])], rets := some ([4, 5], []) } Tryz.func116 (by kernel_rfl)
@[go_sem] theorem d116 : s116.g = 116 ∧ s116.fs = ⟨[.ro 1, .ro 1], s116.F, false⟩ := ⟨nr rfl, nr rfl⟩
@[go_sem] theorem e116 (hs : List Header) (name : ByteArray) (h0 : (hs.length ≤ 20 ∧ smL smHeader hs ∧ okN name = true)) : s116.F [.sl .ro 2 (hs.map (rHeader .ro)), .s name] = some (.tup [.s (joinV hs name).1, .b (hasV hs name)], [.u, .u]) := mkS_eq (hs.length + 1) rfl rfl (fun cx h => by
  have hl := h0.1
  have hx : hs.length ≤ 9223372036854775806 := by omega
  have hj := joinV_2 hs name
  have hb0 := loopN_eq Tryz.f116 0 _ _ rfl rfl
  obtain ⟨hI, hr⟩ := loop_fold (cx := cx) (blk := 0) (body := loopN Tryz.f116 0) hs (fun k (s : ByteArray × Bool) => ⟨E [(0, .sl .ro 2 (hs.map (rHeader .ro))), (1, .s name), (6, .s s.1), (7, .b s.2), (8, .i .i64 k)], B []⟩) (fun s => ⟨E [(6, .s s.1), (7, .b s.2)], B []⟩) (fun x s => joinStep name s x) (fun k s => s.1.size ≤ k * 1048578)
      (fun s hI G => by simp only [go_sem, reduceIte, ↓reduceIte, reduceCtorEq, nA, nS, nM, nB, nE, nL, nT, nN, iL, iT, iE, iA, iM, iS, iG, iB, iN, iZ, h, Int.lt_irrefl, hb0, h0.1]) (fun k hk s hI => by
        have h1 : ((k : Int) < (hs.length : Int)) := Int.ofNat_lt.2 hk
        obtain ⟨u1, u2⟩ := h0.2.1.2 _ (List.getElem_mem hk)
        have u2' : hs[k].Value.size ≤ 1048576 := u2
        have hJ := joinStep_size (n := name) hI u2'
        have hl := h0.1
        have e0 : (⟨#[44, 32]⟩ : ByteArray).size = 2 := rfl
        have e1 : s.1.size + 2 ≤ 9223372036854775807 := by omega
        have e1' : s.1.size + (⟨#[44, 32]⟩ : ByteArray).size ≤ 9223372036854775807 := e1
        have e2 : s.1.size + hs[k].Value.size ≤ 9223372036854775807 := by omega
        have e3 : s.1.size + 2 + hs[k].Value.size ≤ 9223372036854775807 := by omega
        have n1 : hs[k].Name.size ≤ 9223372036854775806 ∧ name.size ≤ 9223372036854775806 := ⟨by have : hs[k].Name.size ≤ 1048576 := u1; omega, of_decide_eq_true h0.2.2⟩
        cases d1 : eqv (lowS hs[k].Name) (lowS name) <;> cases d2 : s.2
        all_goals exact ⟨hJ, _, fun G => by simp only [go_sem, reduceIte, ↓reduceIte, reduceCtorEq, nA, nS, nM, nB, nE, nL, nT, nN, iL, iT, iE, iA, iM, iS, iG, iB, iN, iZ, h, e0, e1, e2, e3, map_gd (rHeader .ro) hs k hk, n1, d1, d2, ByteArray.size_append, h1, idx_nt _ _ hk, wrap_nat1 (show k < 9223372036854775807 by omega), hb0] <;> with_reducible rfl, by simp only [go_sem, reduceIte, ↓reduceIte, reduceCtorEq, nA, nS, nM, nB, nE, nL, nT, nN, iL, iT, iE, iA, iM, iS, iG, iB, iN, iZ, h, d1, d2, joinStep]⟩) (⟨#[]⟩, false) (by show 0 ≤ _; omega) (hs.length + 1) (Nat.le_refl _)
  rw [hb0] at hr
  unfold joinV at hj
  simp only [go_sem, reduceIte, ↓reduceIte, reduceCtorEq, nA, nS, nM, nB, nE, nL, nT, nN, iL, iT, iE, iA, iM, iS, iG, iB, iN, iZ, h, hr, joinV, hj]) (rfl)
noncomputable def s66 : SP Tryz.prog := mkS tyA 66 Tryz.f66 [s113, s114, s115, s116] { md := [.ro 1], rg := [(0, [1], [1]), (1, [1, 25], [1]), (2, [2], []), (3, [1, 3], [1]), (4, [1, 3, 30], [1]), (5, [2], []), (6, [1, 5], [1]), (7, [1, 38], [1]), (8, [2], []), (9, [42], []), (10, [2], []), (11, [2], [])], rets := some ([2], []), al := [32] } Tryz.func66 (by kernel_rfl)
@[go_sem] theorem d66 : s66.g = 66 ∧ s66.fs = ⟨[.ro 1], s66.F, false⟩ := ⟨nr rfl, nr rfl⟩
@[go_sem] theorem e66 (rMethod : ByteArray) (rHost : ByteArray) (rPath : ByteArray) (rHeaders : List Header) (h0 : smL smHeader (Request.mk rMethod rHost rPath rHeaders).Headers) : s66.F [.agg [.s rMethod, .s rHost, .s rPath, .sl .ro 2 (rHeaders.map (rHeader .ro))]] = some (.i .i64 (requestFault (Request.mk rMethod rHost rPath rHeaders)), [.u]) := mkS_eq (0) rfl rfl (fun cx h => by
  have hm : isMethod rMethod = (eqv rMethod ⟨#[71, 69, 84]⟩ || eqv rMethod ⟨#[72, 69, 65, 68]⟩) := rfl
  have key : ∀ m : Bool, isMethod rMethod = m → (isMethod rMethod && isHost rHost && isPath rPath) = (m && isHost rHost && isPath rPath) := fun m h => by rw [h]
  have hn1 : okN ⟨#[72, 111, 115, 116]⟩ = true := by decide
  have hn2 : okN ⟨#[104, 111, 115, 116]⟩ = true := by decide
  rcases (show (isMethod rMethod = false ∧ eqv rMethod ⟨#[71, 69, 84]⟩ = false ∧ eqv rMethod ⟨#[72, 69, 65, 68]⟩ = false) ∨ (isMethod rMethod = true ∧ eqv rMethod ⟨#[71, 69, 84]⟩ = true) ∨ (isMethod rMethod = true ∧ eqv rMethod ⟨#[71, 69, 84]⟩ = false ∧ eqv rMethod ⟨#[72, 69, 65, 68]⟩ = true) from by
    rw [hm]; cases eqv rMethod ⟨#[71, 69, 84]⟩ <;> cases eqv rMethod ⟨#[72, 69, 65, 68]⟩ <;> simp) with ⟨m0, m1, m2⟩ | ⟨m0, m1⟩ | ⟨m0, m1, m2⟩
  · simp only [go_sem, reduceIte, ↓reduceIte, reduceCtorEq, nA, nS, nM, nB, nE, nL, nT, nN, iL, iT, iE, iA, iM, iS, iG, iB, iN, iZ, h, m0, m1, m2, eqv_bytesne, eqv_bytes, requestFault]
  · cases h2 : isHost rHost
    · simp only [go_sem, reduceIte, ↓reduceIte, reduceCtorEq, nA, nS, nM, nB, nE, nL, nT, nN, iL, iT, iE, iA, iM, iS, iG, iB, iN, iZ, h, h2, m0, m1, eqv_bytesne, eqv_bytes, requestFault]
    cases h3 : isPath rPath
    · simp only [go_sem, reduceIte, ↓reduceIte, reduceCtorEq, nA, nS, nM, nB, nE, nL, nT, nN, iL, iT, iE, iA, iM, iS, iG, iB, iN, iZ, h, h2, h3, m0, m1, eqv_bytesne, eqv_bytes, requestFault]
    by_cases z : headersFault rHeaders = 0
    rotate_left
    · have z' : (headersFault rHeaders != 0) = true := by simpa using z
      simp only [go_sem, reduceIte, ↓reduceIte, reduceCtorEq, nA, nS, nM, nB, nE, nL, nT, nN, iL, iT, iE, iA, iM, iS, iG, iB, iN, iZ, h, h2, h3, z', m0, m1, eqv_bytesne, eqv_bytes, requestFault]
    have z' : (headersFault rHeaders != 0) = false := by simpa using z
    have h4 : rHeaders.length ≤ 20 ∧ smL smHeader rHeaders ∧ okN ⟨#[72, 111, 115, 116]⟩ = true := ⟨headersFault_ok z, h0, hn1⟩
    have h5 : rHeaders.length ≤ 20 ∧ smL smHeader rHeaders ∧ okN ⟨#[104, 111, 115, 116]⟩ = true := ⟨headersFault_ok z, h0, hn2⟩
    have h6 := valsOf_pos rHeaders ⟨#[72, 111, 115, 116]⟩
    have h7 := hasV_host rHeaders
    cases h8 : hasV rHeaders ⟨#[72, 111, 115, 116]⟩
    · by_cases h9 : 20 ≤ (rHeaders.length : Int)
      · have h10 : ((rHeaders.length : Int) == 20) = true := by have := h4.1; simp; omega
        simp only [go_sem, reduceIte, ↓reduceIte, reduceCtorEq, nA, nS, nM, nB, nE, nL, nT, nN, iL, iT, iE, iA, iM, iS, iG, iB, iN, iZ, h, h2, h3, z, h4, h5, h6, h7, h8, h9, h10, m0, m1, eqv_bytesne, eqv_bytes, requestFault]
      · have h10 : ((rHeaders.length : Int) == 20) = false := by have := h4.1; simp; omega
        simp only [go_sem, reduceIte, ↓reduceIte, reduceCtorEq, nA, nS, nM, nB, nE, nL, nT, nN, iL, iT, iE, iA, iM, iS, iG, iB, iN, iZ, h, h2, h3, z, h4, h5, h6, h7, h8, h9, h10, m0, m1, eqv_bytesne, eqv_bytes, requestFault]
    · simp only [go_sem, reduceIte, ↓reduceIte, reduceCtorEq, nA, nS, nM, nB, nE, nL, nT, nN, iL, iT, iE, iA, iM, iS, iG, iB, iN, iZ, h, h2, h3, z, h4, h5, h6, h7, h8, m0, m1, eqv_bytesne, eqv_bytes, requestFault]
  · cases h2 : isHost rHost
    · simp only [go_sem, reduceIte, ↓reduceIte, reduceCtorEq, nA, nS, nM, nB, nE, nL, nT, nN, iL, iT, iE, iA, iM, iS, iG, iB, iN, iZ, h, h2, m0, m1, m2, eqv_bytesne, eqv_bytes, requestFault]
    cases h3 : isPath rPath
    · simp only [go_sem, reduceIte, ↓reduceIte, reduceCtorEq, nA, nS, nM, nB, nE, nL, nT, nN, iL, iT, iE, iA, iM, iS, iG, iB, iN, iZ, h, h2, h3, m0, m1, m2, eqv_bytesne, eqv_bytes, requestFault]
    by_cases z : headersFault rHeaders = 0
    rotate_left
    · have z' : (headersFault rHeaders != 0) = true := by simpa using z
      simp only [go_sem, reduceIte, ↓reduceIte, reduceCtorEq, nA, nS, nM, nB, nE, nL, nT, nN, iL, iT, iE, iA, iM, iS, iG, iB, iN, iZ, h, h2, h3, z', m0, m1, m2, eqv_bytesne, eqv_bytes, requestFault]
    have z' : (headersFault rHeaders != 0) = false := by simpa using z
    have h4 : rHeaders.length ≤ 20 ∧ smL smHeader rHeaders ∧ okN ⟨#[72, 111, 115, 116]⟩ = true := ⟨headersFault_ok z, h0, hn1⟩
    have h5 : rHeaders.length ≤ 20 ∧ smL smHeader rHeaders ∧ okN ⟨#[104, 111, 115, 116]⟩ = true := ⟨headersFault_ok z, h0, hn2⟩
    have h6 := valsOf_pos rHeaders ⟨#[72, 111, 115, 116]⟩
    have h7 := hasV_host rHeaders
    cases h8 : hasV rHeaders ⟨#[72, 111, 115, 116]⟩
    · by_cases h9 : 20 ≤ (rHeaders.length : Int)
      · have h10 : ((rHeaders.length : Int) == 20) = true := by have := h4.1; simp; omega
        simp only [go_sem, reduceIte, ↓reduceIte, reduceCtorEq, nA, nS, nM, nB, nE, nL, nT, nN, iL, iT, iE, iA, iM, iS, iG, iB, iN, iZ, h, h2, h3, z, h4, h5, h6, h7, h8, h9, h10, m0, m1, m2, eqv_bytesne, eqv_bytes, requestFault]
      · have h10 : ((rHeaders.length : Int) == 20) = false := by have := h4.1; simp; omega
        simp only [go_sem, reduceIte, ↓reduceIte, reduceCtorEq, nA, nS, nM, nB, nE, nL, nT, nN, iL, iT, iE, iA, iM, iS, iG, iB, iN, iZ, h, h2, h3, z, h4, h5, h6, h7, h8, h9, h10, m0, m1, m2, eqv_bytesne, eqv_bytes, requestFault]
    · simp only [go_sem, reduceIte, ↓reduceIte, reduceCtorEq, nA, nS, nM, nB, nE, nL, nT, nN, iL, iT, iE, iA, iM, iS, iG, iB, iN, iZ, h, h2, h3, z, h4, h5, h6, h7, h8, m0, m1, m2, eqv_bytesne, eqv_bytes, requestFault]) (rfl)
def within (a b c : Int) : Bool := decide (b ≤ a) && decide (a ≤ c)
theorem within_t {a b c : Int} : within a b c = true ↔ b ≤ a ∧ a ≤ c := by simp [within]
theorem within_f {a b c : Int} : within a b c = false ↔ ¬ (b ≤ a ∧ a ≤ c) := by rw [← within_t]; simp
noncomputable def s86 : SP Tryz.prog := mkS tyA 86 Tryz.f86 [] { md := [.ro 1, .ro 1, .ro 1], rets := some ([6], []) } Tryz.func86 (by kernel_rfl)
@[go_sem] theorem d86 : s86.g = 86 ∧ s86.fs = ⟨[.ro 1, .ro 1, .ro 1], s86.F, false⟩ := ⟨nr rfl, nr rfl⟩
@[go_sem] theorem e86 (a : Int) (b : Int) (c : Int) : s86.F [.i .i64 a, .i .i64 b, .i .i64 c] = some (.b (within a b c), [.u, .u, .u]) := mkS_eq (0) rfl rfl (fun cx h => by
  simp only [go_sem, reduceIte, ↓reduceIte, reduceCtorEq, nA, nS, nM, nB, nE, nL, nT, nN, iL, iT, iE, iA, iM, iS, iG, iB, iN, iZ, h, within]
  by_cases h : b ≤ a <;> simp [h]) (rfl)
def isTime (a : Int) : Bool := within a 0 1000000000000000
theorem isTime_t {a : Int} : isTime a = true ↔ 0 ≤ a ∧ a ≤ 1000000000000000 := within_t
noncomputable def s85 : SP Tryz.prog := mkS tyA 85 Tryz.f85 [s86] { md := [.ro 1], rets := some ([2], []) } Tryz.func85 (by kernel_rfl)
@[go_sem] theorem d85 : s85.g = 85 ∧ s85.fs = ⟨[.ro 1], s85.F, false⟩ := ⟨nr rfl, nr rfl⟩
@[go_sem] theorem e85 (a : Int) : s85.F [.i .i64 a] = some (.b (isTime a), [.u]) := mkS_eq (0) rfl rfl (fun cx h => by
  simp only [go_sem, reduceIte, ↓reduceIte, reduceCtorEq, nA, nS, nM, nB, nE, nL, nT, nN, iL, iT, iE, iA, iM, iS, iG, iB, iN, iZ, h, isTime]) (rfl)
def isReqW (w : Waiter) : Bool := isTime w.Req && isTime w.Due
def namesCode (xs : List ByteArray) : Int := if 4 < (xs.length : Int) then 2 else if (xs.any fun x => !isWord x) = true then 5 else 0
theorem any_not {α : Type} (p : α → Bool) : ∀ xs : List α, (xs.any fun x => !p x) = !xs.all p
  | [] => rfl
  | x :: xs => by rw [List.any_cons, List.all_cons, any_not p xs]; cases p x <;> rfl
def isKey (t : ByteArray) : Bool := decide (1 ≤ (t.size : Int)) && decide ((t.size : Int) ≤ 500)
noncomputable def flightFault (f : Flight) : Int :=
  if (isTime f.Id && isTime f.Due) = false then 3 else if isKey f.Key = false then 2 else if (requestFault f.Get != 0) = true then requestFault f.Get else if (!f.Out && f.Due != 0) = true then 8
  else if 10 < (f.Waiters.length : Int) then 2 else if (f.Waiters.any fun x => !isReqW x) = true then 3 else if tw [] f.Waiters = true then 6 else 0
theorem flightFault_ok {f : Flight} (h : flightFault f = 0) : f.Waiters.length ≤ 10 := by
  unfold flightFault at h
  split at h
  · cases h
  split at h
  · cases h
  split at h
  · rename_i hc; rw [h] at hc; cases hc
  split at h
  · cases h
  split at h
  · cases h
  omega
noncomputable def s59 : SP Tryz.prog := mkS tyA 59 Tryz.f59 [s60, s66, s85] { md := [.ro 1], rg := [(0, [1], [1]), (1, [1, 14], [1]), (2, [2], []), (3, [1, 24], [1]), (4, [2], []), (5, [1, 3], [1]), (6, [1, 3, 29], [1]), (7, [2], []), (8, [1, 38], [1]), (9, [2], []), (10, [1, 42], [1]), (11, [2], []), (12, [1, 4], [1]), (13, [1, 4, 47], [1]), (14, [1, 4], [1]), (15, [1, 4, 67], [1]), (16, [2], []), (17, [70], []), (18, [2], []), (19, [2], [])], lv := [(0, [1, 4], [1])], out := [(0, [1], [1])], rets := some ([2], []) } Tryz.func59 (by kernel_rfl)
@[go_sem] theorem d59 : s59.g = 59 ∧ s59.fs = ⟨[.ro 1], s59.F, false⟩ := ⟨nr rfl, nr rfl⟩
@[go_sem] theorem e59 (fId : Int) (fKey : ByteArray) (fBack : Bool) (fOut : Bool) (fDue : Int) (fDoomed : Bool) (fGetMethod : ByteArray) (fGetHost : ByteArray) (fGetPath : ByteArray) (fGetHeaders : List Header) (fWaiters : List Waiter) (h0 : smL smHeader (Flight.mk fId fKey fBack fOut fDue fDoomed (Request.mk fGetMethod fGetHost fGetPath fGetHeaders) fWaiters).Get.Headers) : s59.F [.agg [.i .i64 fId, .s fKey, .b fBack, .b fOut, .i .i64 fDue, .b fDoomed, .s fGetMethod, .s fGetHost, .s fGetPath, .sl .ro 2 (fGetHeaders.map (rHeader .ro)), .sl .ro 4 (fWaiters.map (rWaiter .ro))]] = some (.i .i64 (flightFault (Flight.mk fId fKey fBack fOut fDue fDoomed (Request.mk fGetMethod fGetHost fGetPath fGetHeaders) fWaiters)), [.u]) := mkS_eq (fWaiters.length + 1) rfl rfl (fun cx h => by
  have hH : smL smHeader fGetHeaders := h0
  cases t1 : isTime fId
  · simp only [go_sem, reduceIte, ↓reduceIte, reduceCtorEq, nA, nS, nM, nB, nE, nL, nT, nN, iL, iT, iE, iA, iM, iS, iG, iB, iN, iZ, h, t1, flightFault]
  cases t2 : isTime fDue
  · simp only [go_sem, reduceIte, ↓reduceIte, reduceCtorEq, nA, nS, nM, nB, nE, nL, nT, nN, iL, iT, iE, iA, iM, iS, iG, iB, iN, iZ, h, t1, t2, flightFault]
  have hku : isKey fKey = (decide (1 ≤ (fKey.size : Int)) && decide ((fKey.size : Int) ≤ 500)) := rfl
  by_cases k1 : (fKey.size : Int) < 1
  · have hk : isKey fKey = false := by rw [hku]; simp; omega
    simp only [go_sem, reduceIte, ↓reduceIte, reduceCtorEq, nA, nS, nM, nB, nE, nL, nT, nN, iL, iT, iE, iA, iM, iS, iG, iB, iN, iZ, h, t1, t2, k1, hk, flightFault]
  by_cases k2 : 500 < (fKey.size : Int)
  · have hk : isKey fKey = false := by rw [hku]; simp; omega
    simp only [go_sem, reduceIte, ↓reduceIte, reduceCtorEq, nA, nS, nM, nB, nE, nL, nT, nN, iL, iT, iE, iA, iM, iS, iG, iB, iN, iZ, h, t1, t2, k1, k2, hk, flightFault]
  have hk : isKey fKey = true := by rw [hku]; simp; omega
  by_cases z : requestFault (Request.mk fGetMethod fGetHost fGetPath fGetHeaders) = 0
  rotate_left
  · have z' : (requestFault (Request.mk fGetMethod fGetHost fGetPath fGetHeaders) != 0) = true := by simpa using z
    simp only [go_sem, reduceIte, ↓reduceIte, reduceCtorEq, nA, nS, nM, nB, nE, nL, nT, nN, iL, iT, iE, iA, iM, iS, iG, iB, iN, iZ, h, t1, t2, k1, k2, hk, hH, z', flightFault]
  rcases (show (fOut = true ∧ True) ∨ (fOut = false ∧ (fDue != 0) = false) ∨ (fOut = false ∧ (fDue != 0) = true) from by cases fOut <;> cases (fDue != 0) <;> simp) with ⟨o1, o2⟩ | ⟨o1, o2⟩ | ⟨o1, o2⟩
  rotate_left
  rotate_left
  · simp only [go_sem, reduceIte, ↓reduceIte, reduceCtorEq, nA, nS, nM, nB, nE, nL, nT, nN, iL, iT, iE, iA, iM, iS, iG, iB, iN, iZ, h, t1, t2, k1, k2, hk, hH, z, o1, o2, flightFault]
  all_goals
    by_cases w1 : 10 < (fWaiters.length : Int)
    · simp only [go_sem, reduceIte, ↓reduceIte, reduceCtorEq, nA, nS, nM, nB, nE, nL, nT, nN, iL, iT, iE, iA, iM, iS, iG, iB, iN, iZ, h, t1, t2, k1, k2, hk, hH, z, o1, o2, w1, flightFault]
    have hx : fWaiters.length ≤ 9223372036854775806 := by omega
    have hb0 := loopN_eq Tryz.f59 0 _ _ rfl rfl
    obtain ⟨r, hr, hq⟩ := loop_list (cx := cx) (blk := 0) (body := loopN Tryz.f59 0) fWaiters (fun k (s : Unit) => ⟨E [(1, .p ⟨false, 1, [], 0⟩), (4, .i .i64 k)], B [(1, [.i .i64 fId, .s fKey, .b fBack, .b fOut, .i .i64 fDue, .b fDoomed, .s fGetMethod, .s fGetHost, .s fGetPath, .sl .ro 2 (fGetHeaders.map (rHeader .ro)), .sl .ro 4 (fWaiters.map (rWaiter .ro))])]⟩) (fun s => ⟨E [(1, .p ⟨false, 1, [], 0⟩)], B [(1, [.i .i64 fId, .s fKey, .b fBack, .b fOut, .i .i64 fDue, .b fDoomed, .s fGetMethod, .s fGetHost, .s fGetPath, .sl .ro 2 (fGetHeaders.map (rHeader .ro)), .sl .ro 4 (fWaiters.map (rWaiter .ro))])]⟩) (fun x s => !isReqW x) (fun x s => ()) (fun x s => (.ret, ⟨E [(2, .i .i64 3)], B []⟩)) (fun k s => True)
        (fun s hI G => by simp only [go_sem, reduceIte, ↓reduceIte, reduceCtorEq, nA, nS, nM, nB, nE, nL, nT, nN, iL, iT, iE, iA, iM, iS, iG, iB, iN, iZ, h, Int.lt_irrefl, hb0, hx, o1]) (fun k hk s hI => by
          have h1 : ((k : Int) < (fWaiters.length : Int)) := Int.ofNat_lt.2 hk
          have hu : isReqW fWaiters[k] = (isTime fWaiters[k].Req && isTime fWaiters[k].Due) := rfl
          by_cases c0 : isReqW fWaiters[k] = true
          · skip
            have c2 := c0
            rw [hu, Bool.and_eq_true] at c2
            obtain ⟨a1, a2⟩ := c2
            all_goals exact .inr ⟨by rw [c0]; rfl, trivial, _, fun G => by simp only [go_sem, reduceIte, ↓reduceIte, reduceCtorEq, nA, nS, nM, nB, nE, nL, nT, nN, iL, iT, iE, iA, iM, iS, iG, iB, iN, iZ, h, map_gd (rWaiter .ro) fWaiters _ hk, o1, a1, a2, h1, idx_nt _ _ hk, wrap_nat1 (show k < 9223372036854775807 by omega), hb0] <;> with_reducible rfl, by simp only [go_sem, reduceIte, ↓reduceIte, reduceCtorEq, nA, nS, nM, nB, nE, nL, nT, nN, iL, iT, iE, iA, iM, iS, iG, iB, iN, iZ, h, o1]⟩
          · have c1 : isReqW fWaiters[k] = false := by simpa using c0
            have c2 := c1
            rw [hu] at c2
            rcases (show (isTime fWaiters[k].Req = false ∧ True) ∨ (isTime fWaiters[k].Req = true ∧ isTime fWaiters[k].Due = false) from by cases h3 : isTime fWaiters[k].Req <;> simp [h3] at c2 ⊢; exact c2) with ⟨a1, a2⟩ | ⟨a1, a2⟩
            all_goals exact .inl ⟨by rw [c1]; rfl, fun G => by simp only [go_sem, reduceIte, ↓reduceIte, reduceCtorEq, nA, nS, nM, nB, nE, nL, nT, nN, iL, iT, iE, iA, iM, iS, iG, iB, iN, iZ, h, map_gd (rWaiter .ro) fWaiters _ hk, o1, a1, a2, h1, idx_nt _ _ hk, wrap_nat1 (show k < 9223372036854775807 by omega), hb0]⟩) () trivial (fWaiters.length + 1) (Nat.le_refl _)
    rw [hb0] at hr
    simp only [o1] at hr
    have hn := any_not isReqW fWaiters
    rcases hq with ⟨s', e1, _, e3⟩ | ⟨x, s', e1, e3⟩
    · have e2 := runS_all e1
      cases w3 : tw [] fWaiters <;> simp only [go_sem, reduceIte, ↓reduceIte, reduceCtorEq, nA, nS, nM, nB, nE, nL, nT, nN, iL, iT, iE, iA, iM, iS, iG, iB, iN, iZ, h, t1, t2, k1, k2, hk, hH, z, o1, o2, w1, hx, hr, e3, hn, e2, w3, flightFault]
    · have e2 := runS_all' e1
      simp only [go_sem, reduceIte, ↓reduceIte, reduceCtorEq, nA, nS, nM, nB, nE, nL, nT, nN, iL, iT, iE, iA, iM, iS, iG, iB, iN, iZ, h, t1, t2, k1, k2, hk, hH, z, o1, o2, w1, hx, hr, e3, hn, e2, flightFault]) (rfl)
noncomputable def s87 : SP Tryz.prog := mkS tyA 87 Tryz.f87 [] { md := [.ro 1, .ro 1], rg := [(0, [0, 1], []), (1, [0, 1, 5], []), (2, [0, 1, 5, 9], []), (3, [0, 1, 5], []), (4, [0, 1, 5, 18], []), (5, [4], []), (6, [4], [])], lv := [(0, [0, 1, 5], [])], out := [(0, [], [])], rets := some ([4], []) } Tryz.func87 (by kernel_rfl)
@[go_sem] theorem d87 : s87.g = 87 ∧ s87.fs = ⟨[.ro 1, .ro 1], s87.F, false⟩ := ⟨nr rfl, nr rfl⟩
@[go_sem] theorem e87 (ws : List Waiter) (req : Int) (h0 : ws.length ≤ 9223372036854775806) : s87.F [.sl .ro 4 (ws.map (rWaiter .ro)), .i .i64 req] = some (.b (ws.any fun x => x.Req == req), [.u, .u]) := mkS_eq (ws.length + 1) rfl rfl (fun cx h => by
  have hx := h0
  have hb0 := loopN_eq Tryz.f87 0 _ _ rfl rfl
  obtain ⟨r, hr, hq⟩ := loop_srch (cx := cx) (blk := 0) (body := loopN Tryz.f87 0) ws (fun k (s : Unit) => ⟨E [(0, .sl .ro 4 (ws.map (rWaiter .ro))), (1, .i .i64 req), (5, .i .i64 k)], B []⟩) (fun s => ⟨E [], B []⟩) (fun x s => x.Req == req) (fun x s => ()) (fun x s => (.ret, ⟨E [(4, .b true)], B []⟩)) (fun k s => True)
      (fun s hI G => by simp only [go_sem, reduceIte, ↓reduceIte, reduceCtorEq, nA, nS, nM, nB, nE, nL, nT, nN, iL, iT, iE, iA, iM, iS, iG, iB, iN, iZ, h, Int.lt_irrefl, hb0, hx]) (fun k hk s hI => by
        have h1 : ((k : Int) < (ws.length : Int)) := Int.ofNat_lt.2 hk
        exact ⟨_, _, _, fun G => by simp only [go_sem, reduceIte, ↓reduceIte, reduceCtorEq, nA, nS, nM, nB, nE, nL, nT, nN, iL, iT, iE, iA, iM, iS, iG, iB, iN, iZ, h, map_gd (rWaiter .ro) ws _ hk, h1, idx_nt _ _ hk, wrap_nat1 (show k < 9223372036854775807 by omega), hb0] <;> with_reducible rfl, Iff.rfl, fun hc => ⟨trivial, by simp only [go_sem, reduceIte, ↓reduceIte, reduceCtorEq, nA, nS, nM, nB, nE, nL, nT, nN, iL, iT, iE, iA, iM, iS, iG, iB, iN, iZ, h]⟩⟩) () trivial (ws.length + 1) (Nat.le_refl _)
  rw [hb0] at hr
  rcases hq with ⟨s', e1, _, e3⟩ | ⟨x, s', e1, e3⟩
  · simp only [go_sem, reduceIte, ↓reduceIte, reduceCtorEq, nA, nS, nM, nB, nE, nL, nT, nN, iL, iT, iE, iA, iM, iS, iG, iB, iN, iZ, h, hr, e3, runS_any e1]
  · simp only [go_sem, reduceIte, ↓reduceIte, reduceCtorEq, nA, nS, nM, nB, nE, nL, nT, nN, iL, iT, iE, iA, iM, iS, iG, iB, iN, iZ, h, hr, e3, runS_any' e1]) (rfl)
noncomputable def s146 : SP Tryz.prog := mkS tyA 146 Tryz.f146 [] { md := [.ro 1], rets := some ([2], []) } Tryz.func146 (by kernel_rfl)
@[go_sem] theorem d146 : s146.g = 146 ∧ s146.fs = ⟨[.ro 1], s146.F, false⟩ := ⟨nr rfl, nr rfl⟩
@[go_sem] theorem e146 (xs : List Header) (h0 : smL smHeader xs) : s146.F [.sl .ro 2 (xs.map (rHeader .ro))] = some (.sl .mut 2 (xs.map (rHeader .mut)), [.u]) := mkS_eq (0) rfl rfl (fun cx h => by
  have h1 : (xs.map (rHeader .ro)).all (·.all plain) = true := by simp [rHeader, plain]
  have h2 : xs.length * 32 ≤ 140737488355328 := by have := h0.1; omega
  have h3 : xs.map (rHeader .ro) = xs.map (rHeader .mut) := rfl
  simp only [go_sem, reduceIte, ↓reduceIte, reduceCtorEq, nA, nS, nM, nB, nE, nL, nT, nN, iL, iT, iE, iA, iM, iS, iG, iB, iN, iZ, h, h1, h2]
  rw [h3]) (by simp only [go_sem, reduceIte, ↓reduceIte, reduceCtorEq, nA, nS, nM, nB, nE, nL, nT, nN, iL, iT, iE, iA, iM, iS, iG, iB, iN, iZ, okRes, hasRo])
noncomputable def s118 : SP Tryz.prog := mkS tyA 118 Tryz.f118 [s146] { md := [.ro 1], rg := [(0, [0, 2], [2, 3]), (1, [0, 2, 3], [2, 3]), (2, [2, 3], [2, 3]), (3, [2], [2, 3])], rets := some ([2], [2, 3]) } Tryz.func118 (by kernel_rfl)
@[go_sem] theorem d118 : s118.g = 118 ∧ s118.fs = ⟨[.ro 1], s118.F, false⟩ := ⟨nr rfl, nr rfl⟩
@[go_sem] theorem e118 (rMethod : ByteArray) (rHost : ByteArray) (rPath : ByteArray) (rHeaders : List Header) (h0 : smL smHeader (Request.mk rMethod rHost rPath rHeaders).Headers) : s118.F [.pr [.s rMethod, .s rHost, .s rPath, .sl .ro 2 (rHeaders.map (rHeader .ro))]] = some (.agg (rRequest .mut (Request.mk rMethod rHost rPath rHeaders)), [.u]) := mkS_eq (0) rfl rfl (fun cx h => by
  simp only [go_sem, reduceIte, ↓reduceIte, reduceCtorEq, nA, nS, nM, nB, nE, nL, nT, nN, iL, iT, iE, iA, iM, iS, iG, iB, iN, iZ, h, h0]) (by simp only [go_sem, reduceIte, ↓reduceIte, reduceCtorEq, nA, nS, nM, nB, nE, nL, nT, nN, iL, iT, iE, iA, iM, iS, iG, iB, iN, iZ, okRes, hasRo, hasRoL, hasRoLL])
@[go_sem] theorem e118_w (rMethod rHost rPath : ByteArray) (rHeaders : List Header) (ws : List Waiter) (h0 : smL smHeader rHeaders) : s118.F [.pr [.s rMethod, .s rHost, .s rPath, .sl .ro 2 (rHeaders.map (rHeader .ro)), .sl .ro 4 (ws.map (rWaiter .ro))]] = some (.agg (rRequest .mut (Request.mk rMethod rHost rPath rHeaders)), [.u]) := mkS_eq (0) rfl rfl (fun cx h => by
  simp only [go_sem, reduceIte, ↓reduceIte, reduceCtorEq, nA, nS, nM, nB, nE, nL, nT, nN, iL, iT, iE, iA, iM, iS, iG, iB, iN, iZ, h, h0]) (by simp only [go_sem, reduceIte, ↓reduceIte, reduceCtorEq, nA, nS, nM, nB, nE, nL, nT, nN, iL, iT, iE, iA, iM, iS, iG, iB, iN, iZ, okRes, hasRo, hasRoL, hasRoLL])
noncomputable def s88 : SP Tryz.prog := mkS tyA 88 Tryz.f88 [s118] { md := [.ro 1], rg := [(0, [0, 2], [2, 3]), (1, [0, 2, 3], [2, 3]), (2, [0, 2, 3], [2, 3]), (3, [2, 3], [2, 3]), (4, [2], [2, 3])], rets := some ([2], [2, 3]) } Tryz.func88 (by kernel_rfl)
@[go_sem] theorem d88 : s88.g = 88 ∧ s88.fs = ⟨[.ro 1], s88.F, false⟩ := ⟨nr rfl, nr rfl⟩
@[go_sem] theorem e88 (fId : Int) (fKey : ByteArray) (fBack : Bool) (fOut : Bool) (fDue : Int) (fDoomed : Bool) (fGetMethod : ByteArray) (fGetHost : ByteArray) (fGetPath : ByteArray) (fGetHeaders : List Header) (fWaiters : List Waiter) (h0 : (smL smHeader (Flight.mk fId fKey fBack fOut fDue fDoomed (Request.mk fGetMethod fGetHost fGetPath fGetHeaders) fWaiters).Get.Headers ∧ smL smWaiter (Flight.mk fId fKey fBack fOut fDue fDoomed (Request.mk fGetMethod fGetHost fGetPath fGetHeaders) fWaiters).Waiters)) : s88.F [.pr [.i .i64 fId, .s fKey, .b fBack, .b fOut, .i .i64 fDue, .b fDoomed, .s fGetMethod, .s fGetHost, .s fGetPath, .sl .ro 2 (fGetHeaders.map (rHeader .ro)), .sl .ro 4 (fWaiters.map (rWaiter .ro))]] = some (.agg (rFlight .mut (Flight.mk fId fKey fBack fOut fDue fDoomed (Request.mk fGetMethod fGetHost fGetPath fGetHeaders) fWaiters)), [.u]) := mkS_eq (0) rfl rfl (fun cx h => by
  have h1 : (fWaiters.map (rWaiter .ro)).all (·.all plain) = true := by simp [rWaiter, plain]
  have h2 : fWaiters.length * 32 ≤ 140737488355328 := by have := h0.2.1; simp only at this; omega
  have h3 : fWaiters.map (rWaiter .ro) = fWaiters.map (rWaiter .mut) := rfl
  have h4 := h0.1
  simp only [go_sem, reduceIte, ↓reduceIte, reduceCtorEq, nA, nS, nM, nB, nE, nL, nT, nN, iL, iT, iE, iA, iM, iS, iG, iB, iN, iZ, h, h1, h2, h4]
  rw [h3]) (by simp only [go_sem, reduceIte, ↓reduceIte, reduceCtorEq, nA, nS, nM, nB, nE, nL, nT, nN, iL, iT, iE, iA, iM, iS, iG, iB, iN, iZ, okRes, hasRo, hasRoL, hasRoLL])
def noFlight : Flight := ⟨0, ⟨#[]⟩, false, false, 0, false, ⟨⟨#[]⟩, ⟨#[]⟩, ⟨#[]⟩, []⟩, []⟩
def flightWith (f : Flight) (ws : List Waiter) : Flight := ⟨f.Id, f.Key, f.Back, f.Out, f.Due, f.Doomed, f.Get, ws⟩
noncomputable def joinFlight (f : Flight) (w : Waiter) (room : Int) : FlightResult :=
  if (flightFault f != 0) = true then ⟨flightFault f, noFlight⟩ else if (isReqW w && within room 1 10) = false then ⟨3, noFlight⟩
  else if (f.Waiters.any fun x => x.Req == w.Req) = true then ⟨6, noFlight⟩ else if room ≤ (f.Waiters.length : Int) then ⟨7, noFlight⟩ else ⟨0, flightWith f (f.Waiters ++ [w])⟩
theorem smL_waiters {ws : List Waiter} (h : ws.length ≤ 1048576) : smL smWaiter ws := ⟨h, fun x _ => sm_trivWaiter x⟩
theorem noFlight_sm : smFlight noFlight := ⟨trivial, Nat.zero_le _, trivial, trivial, trivial, trivial, ⟨Nat.zero_le _, Nat.zero_le _, Nat.zero_le _, Nat.zero_le _, fun x hx => by cases hx⟩, smL_waiters (Nat.zero_le _)⟩
theorem flightWith_sm {f : Flight} {ws : List Waiter} (h : smFlight f) (hw : ws.length ≤ 1048576) : smFlight (flightWith f ws) := by
  obtain ⟨h0, h1, h2, h3, h4, h5, h6, h7⟩ := h
  exact ⟨h0, h1, h2, h3, h4, h5, h6, smL_waiters hw⟩
theorem joinFlight_sm (f : Flight) (w : Waiter) (room : Int) (h : smFlight f) : smFlightResult (joinFlight f w room) := by
  unfold joinFlight
  by_cases hz : (flightFault f != 0) = true
  · rw [if_pos hz]; exact ⟨trivial, noFlight_sm⟩
  rw [if_neg hz]
  have hl := flightFault_ok (by simpa using hz : flightFault f = 0)
  repeat' split
  all_goals first | exact ⟨trivial, noFlight_sm⟩ | exact ⟨trivial, flightWith_sm h (by simp; omega)⟩
noncomputable def s31 : SP Tryz.prog := mkS tyA 31 Tryz.f31 [s59, s85, s86, s87, s88] { md := [.ro 1, .ro 1, .ro 1], rg := [(0, [2, 3, 4, 6, 53], [3, 4, 6, 8]), (1, [2, 3, 4, 6, 7, 53], [3, 4, 6, 8]), (2, [2, 3, 4, 6, 7, 12, 53], [3, 4, 6, 8]), (3, [6, 53], [6, 8]), (4, [2, 3, 4, 6, 15, 53], [3, 4, 6, 8]), (5, [6, 53], [6, 8]), (6, [2, 3, 4, 6, 32, 53], [3, 4, 6, 8]), (7, [6, 53], [6, 8]), (8, [3, 4, 6, 39, 53], [3, 4, 6, 8]), (9, [6, 53], [6, 8]), (10, [4, 6, 8, 53], [4, 6, 8]), (11, [6, 8, 53], [6, 8]), (12, [6, 53], [6, 8])], rets := some ([6, 53], [6, 8]) } Tryz.func31 (by kernel_rfl)
@[go_sem] theorem d31 : s31.g = 31 ∧ s31.fs = ⟨[.ro 1, .ro 1, .ro 1], s31.F, false⟩ := ⟨nr rfl, nr rfl⟩
@[go_sem] theorem e31 (fId : Int) (fKey : ByteArray) (fBack : Bool) (fOut : Bool) (fDue : Int) (fDoomed : Bool) (fGetMethod : ByteArray) (fGetHost : ByteArray) (fGetPath : ByteArray) (fGetHeaders : List Header) (fWaiters : List Waiter) (wReq : Int) (wHead : Bool) (wDue : Int) (wLate : Bool) (room : Int) (h0 : smFlight (Flight.mk fId fKey fBack fOut fDue fDoomed (Request.mk fGetMethod fGetHost fGetPath fGetHeaders) fWaiters)) : s31.F [.agg [.i .i64 fId, .s fKey, .b fBack, .b fOut, .i .i64 fDue, .b fDoomed, .s fGetMethod, .s fGetHost, .s fGetPath, .sl .ro 2 (fGetHeaders.map (rHeader .ro)), .sl .ro 4 (fWaiters.map (rWaiter .ro))], .agg [.i .i64 wReq, .b wHead, .i .i64 wDue, .b wLate], .i .i64 room] = some (.agg (rFlightResult .mut (joinFlight (Flight.mk fId fKey fBack fOut fDue fDoomed (Request.mk fGetMethod fGetHost fGetPath fGetHeaders) fWaiters) (Waiter.mk wReq wHead wDue wLate) room)), [.u, .u, .u]) := mkS_eq (0) rfl rfl (fun cx h => by
  obtain ⟨u0, u1, u2, u3, u4, u5, u6, u7⟩ := h0
  have hH : smL smHeader fGetHeaders := u6.2.2.2
  by_cases z : flightFault (Flight.mk fId fKey fBack fOut fDue fDoomed (Request.mk fGetMethod fGetHost fGetPath fGetHeaders) fWaiters) = 0
  rotate_left
  · have z' : (flightFault (Flight.mk fId fKey fBack fOut fDue fDoomed (Request.mk fGetMethod fGetHost fGetPath fGetHeaders) fWaiters) != 0) = true := by simpa using z
    simp only [go_sem, reduceIte, ↓reduceIte, reduceCtorEq, nA, nS, nM, nB, nE, nL, nT, nN, iL, iT, iE, iA, iM, iS, iG, iB, iN, iZ, h, hH, z', joinFlight, noFlight]
  have hl : fWaiters.length ≤ 10 := flightFault_ok z
  have hx : fWaiters.length ≤ 9223372036854775806 := by omega
  have z' : (flightFault (Flight.mk fId fKey fBack fOut fDue fDoomed (Request.mk fGetMethod fGetHost fGetPath fGetHeaders) fWaiters) != 0) = false := by simpa using z
  cases t1 : isTime wReq
  · simp only [go_sem, reduceIte, ↓reduceIte, reduceCtorEq, nA, nS, nM, nB, nE, nL, nT, nN, iL, iT, iE, iA, iM, iS, iG, iB, iN, iZ, h, hH, z, hx, u7, t1, isReqW, joinFlight, noFlight]
  cases t2 : isTime wDue
  · simp only [go_sem, reduceIte, ↓reduceIte, reduceCtorEq, nA, nS, nM, nB, nE, nL, nT, nN, iL, iT, iE, iA, iM, iS, iG, iB, iN, iZ, h, hH, z, hx, u7, t1, t2, isReqW, joinFlight, noFlight]
  cases c2 : within room 1 10
  · simp only [go_sem, reduceIte, ↓reduceIte, reduceCtorEq, nA, nS, nM, nB, nE, nL, nT, nN, iL, iT, iE, iA, iM, iS, iG, iB, iN, iZ, h, hH, z, hx, u7, t1, t2, isReqW, c2, joinFlight, noFlight]
  cases c3 : (fWaiters.any fun x => x.Req == wReq)
  rotate_left
  · simp only [go_sem, reduceIte, ↓reduceIte, reduceCtorEq, nA, nS, nM, nB, nE, nL, nT, nN, iL, iT, iE, iA, iM, iS, iG, iB, iN, iZ, h, hH, z, hx, u7, t1, t2, isReqW, c2, c3, joinFlight, noFlight]
  by_cases c4 : room ≤ (fWaiters.length : Int)
  · simp only [go_sem, reduceIte, ↓reduceIte, reduceCtorEq, nA, nS, nM, nB, nE, nL, nT, nN, iL, iT, iE, iA, iM, iS, iG, iB, iN, iZ, h, hH, z, hx, u7, t1, t2, isReqW, c2, c3, c4, joinFlight, noFlight]
  have t4 : fWaiters.map (rWaiter .mut) ++ [[.i .i64 wReq, .b wHead, .i .i64 wDue, .b wLate]] = (fWaiters ++ [Waiter.mk wReq wHead wDue wLate]).map (rWaiter .mut) := by simp [rWaiter]
  have t3 : (fWaiters.length + 1) * 32 ≤ 140737488355328 := by omega
  simp only [go_sem, reduceIte, ↓reduceIte, reduceCtorEq, nA, nS, nM, nB, nE, nL, nT, nN, iL, iT, iE, iA, iM, iS, iG, iB, iN, iZ, h, hH, z, hx, u7, t1, t2, isReqW, c2, c3, c4, t3, t4, joinFlight, flightWith]) (by simp only [go_sem, reduceIte, ↓reduceIte, reduceCtorEq, nA, nS, nM, nB, nE, nL, nT, nN, iL, iT, iE, iA, iM, iS, iG, iB, iN, iZ, okRes, hasRo, hasRoL, hasRoLL])
noncomputable def s121 : SP Tryz.prog := mkS tyA 121 Tryz.f121 [] { md := [.ro 1], rg := [(0, [1, 2], [1, 2, 3]), (1, [1, 2, 3], [1, 2, 3]), (2, [1, 2, 3], [1, 2, 3]), (3, [2, 3], [2, 3]), (4, [2], [2, 3])], rets := some ([2], [2, 3]) } Tryz.func121 (by kernel_rfl)
@[go_sem] theorem d121 : s121.g = 121 ∧ s121.fs = ⟨[.ro 1], s121.F, false⟩ := ⟨nr rfl, nr rfl⟩
@[go_sem] theorem e121 (xName : ByteArray) (xValue : ByteArray) (h0 : smHeader (Header.mk xName xValue)) : s121.F [.agg [.s xName, .s xValue]] = some (.agg (rHeader .mut (Header.mk xName xValue)), [.u]) := mkS_eq (0) rfl rfl (fun cx h => by
  obtain ⟨q0, q1⟩ := h0
  simp only [go_sem, reduceIte, ↓reduceIte, reduceCtorEq, nA, nS, nM, nB, nE, nL, nT, nN, iL, iT, iE, iA, iM, iS, iG, iB, iN, iZ, h, q0, q1]) (by simp only [go_sem, reduceIte, ↓reduceIte, reduceCtorEq, nA, nS, nM, nB, nE, nL, nT, nN, iL, iT, iE, iA, iM, iS, iG, iB, iN, iZ, okRes, hasRo, hasRoL, hasRoLL])
noncomputable def s69 : SP Tryz.prog := mkS tyA 69 Tryz.f69 [s121] { md := [.ro 1], rg := [(0, [0], []), (1, [0, 3], []), (2, [0, 3, 4], []), (3, [0, 3, 4, 11], []), (4, [0, 3, 4], []), (5, [0, 3, 4], []), (6, [2], [])], lv := [(0, [0, 3, 4], [])], out := [(0, [3], [])], rets := some ([2], []) } Tryz.func69 (by kernel_rfl)
@[go_sem] theorem d69 : s69.g = 69 ∧ s69.fs = ⟨[.ro 1], s69.F, false⟩ := ⟨nr rfl, nr rfl⟩
@[go_sem] theorem e69 (xs : List Header) (h0 : smL smHeader xs) : s69.F [.sl .ro 2 (xs.map (rHeader .ro))] = some (.sl .mut 2 (xs.map (rHeader .mut)), [.u]) := mkS_eq (xs.length + 1) rfl rfl (fun cx h => by
  have hb := loopN_eq Tryz.f69 0 _ _ rfl rfl
  have hx := h0.1
  have c1 : ((xs.length : Int) * (32 : Nat) ≤ 140737488355328) := by omega
  have c2 : 0 ≤ (xs.length : Int) := by omega
  have hr := (loop_fold (cx := cx) (blk := 0) (body := loopN Tryz.f69 0) xs (fun k (_ : Unit) => ⟨E [(0, .sl .ro 2 (xs.map (rHeader .ro))), (3, .sl .mut 2 (fillUp (rHeader .mut) [.s ⟨#[]⟩, .s ⟨#[]⟩] xs k)), (4, .i .i64 k)], B []⟩) (fun _ => ⟨E [(3, .sl .mut 2 (xs.map (rHeader .mut)))], B []⟩) (fun _ _ => ()) (fun _ _ => True)
    (fun l _ G => by simp only [go_sem, reduceIte, ↓reduceIte, reduceCtorEq, nA, nS, nM, nB, nE, nL, nT, nN, iL, iT, iE, iA, iM, iS, iG, iB, iN, iZ, h, Int.lt_irrefl, hb, fillUp_all]) (fun k hk l _ => by
      have h1 : ((k : Int) < (xs.length : Int)) := Int.ofNat_lt.2 hk
      have h2 := h0.2 _ (List.getElem_mem hk)
      have h3 : (fillUp (rHeader .mut) [.s ⟨#[]⟩, .s ⟨#[]⟩] xs k).set k [.s xs[k].Name, .s xs[k].Value] = fillUp (rHeader .mut) [.s ⟨#[]⟩, .s ⟨#[]⟩] xs (k + 1) := fillUp_set (rHeader .mut) [.s ⟨#[]⟩, .s ⟨#[]⟩] xs k hk
      exact ⟨trivial, _, fun G => by simp only [go_sem, reduceIte, ↓reduceIte, reduceCtorEq, nA, nS, nM, nB, nE, nL, nT, nN, iL, iT, iE, iA, iM, iS, iG, iB, iN, iZ, h, h2, h3, map_gd (rHeader .ro) xs k hk, fillUp_get (rHeader .mut) [.s ⟨#[]⟩, .s ⟨#[]⟩] xs k hk, fillUp_getD (rHeader .mut) [.s ⟨#[]⟩, .s ⟨#[]⟩] xs k hk, fillUp_len (rHeader .mut) [.s ⟨#[]⟩, .s ⟨#[]⟩] xs k (Nat.le_of_lt hk), h1, idx_nt _ _ hk, wrap_nat1 (show k < 9223372036854775807 by omega), hb] <;> with_reducible rfl, by simp only [go_sem, reduceIte, ↓reduceIte, reduceCtorEq, nA, nS, nM, nB, nE, nL, nT, nN, iL, iT, iE, iA, iM, iS, iG, iB, iN, iZ, h]⟩) () trivial (xs.length + 1) (Nat.le_refl _)).2
  rw [hb] at hr
  simp only [go_sem, reduceIte, ↓reduceIte, reduceCtorEq, nA, nS, nM, nB, nE, nL, nT, nN, iL, iT, iE, iA, iM, iS, iG, iB, iN, iZ, h, c1, c2, Int.toNat_natCast, fillUp_zero (rHeader .mut) [.s ⟨#[]⟩, .s ⟨#[]⟩], hr]) (by simp only [go_sem, reduceIte, ↓reduceIte, reduceCtorEq, nA, nS, nM, nB, nE, nL, nT, nN, iL, iT, iE, iA, iM, iS, iG, iB, iN, iZ, okRes, hasRo])
noncomputable def s20 : SP Tryz.prog := mkS tyA 20 Tryz.f20 [s69] { md := [.ro 1], rg := [(0, [1, 2], [1, 2, 3]), (1, [1, 2, 3], [1, 2, 3]), (2, [1, 2, 3], [1, 2, 3]), (3, [1, 2, 3], [1, 2, 3]), (4, [1, 2, 3], [1, 2, 3]), (5, [2, 3], [2, 3]), (6, [2], [2, 3])], rets := some ([2], [2, 3]) } Tryz.func20 (by kernel_rfl)
@[go_sem] theorem d20 : s20.g = 20 ∧ s20.fs = ⟨[.ro 1], s20.F, false⟩ := ⟨nr rfl, nr rfl⟩
@[go_sem] theorem e20 (xMethod : ByteArray) (xHost : ByteArray) (xPath : ByteArray) (xHeaders : List Header) (h0 : smRequest (Request.mk xMethod xHost xPath xHeaders)) : s20.F [.agg [.s xMethod, .s xHost, .s xPath, .sl .ro 2 (xHeaders.map (rHeader .ro))]] = some (.agg (rRequest .mut (Request.mk xMethod xHost xPath xHeaders)), [.u]) := mkS_eq (0) rfl rfl (fun cx h => by
  obtain ⟨q0, q1, q2, q3⟩ := h0
  simp only [go_sem, reduceIte, ↓reduceIte, reduceCtorEq, nA, nS, nM, nB, nE, nL, nT, nN, iL, iT, iE, iA, iM, iS, iG, iB, iN, iZ, h, q0, q1, q2, q3]) (by simp only [go_sem, reduceIte, ↓reduceIte, reduceCtorEq, nA, nS, nM, nB, nE, nL, nT, nN, iL, iT, iE, iA, iM, iS, iG, iB, iN, iZ, okRes, hasRo, hasRoL, hasRoLL])
end Go.Vm.A
