/- Functions of the program, walked by the evaluator. -/
import Derived.Test.YtnbhkifknleipaaGreatDoorWb
import Derived.Test.YtnbhkifknleipaaGreatDoorWa
import Derived.Test.YtnbhkifknleipaaGreatDoorFa
import Derived.Test.YtnbhkifknleipaaGreatDoorFb
set_option autoImplicit false
set_option maxRecDepth 100000
set_option maxHeartbeats 4000000
set_option linter.unusedVariables false
set_option linter.unusedSimpArgs false
namespace Go.Vm.A
open Go.Proofs
open Nat renaming reduceAdd → nA, reduceSub → nS, reduceMul → nM, reduceBEq → nB, reduceEqDiff → nE, reduceLeDiff → nL, reduceLT → nT, reduceBneDiff → nN
open Int renaming reduceLE → iL, reduceLT → iT, reduceEq → iE, reduceAdd → iA, reduceMul → iM, reduceSub → iS, reduceNeg → iG, reduceBEq → iB, reduceBNe → iN, reduceToNat → iZ

noncomputable def s284 : SP Tryz.prog := mkS tyA 284 Tryz.f284 [s254] { md := [.ro 1], rg := [(0, [0], []), (1, [0, 3], []), (2, [0, 3, 4], []), (3, [0, 3, 4], []), (4, [0, 3, 4], []), (5, [0, 3, 4], []), (6, [0, 3, 4], []), (7, [0, 3, 4], []), (8, [0, 3, 4], []), (9, [0, 3, 4], []), (10, [0, 3, 4], []), (11, [0, 4], []), (12, [2], []), (13, [2], [])], rets := some ([2], []) } Tryz.func284 (by kernel_rfl)
@[go_sem] theorem d284 : s284.g = 284 ∧ s284.fs = ⟨[.ro 1], s284.F, false⟩ := ⟨nr rfl, nr rfl⟩
@[go_sem] theorem e284 (c : UInt8) : s284.F [.i .u8 c.toNat] = some (.b (pathB c), [.u]) := mkS_eq (0) rfl rfl (fun cx h => by
  by_cases m : c ∈ pSymB
  · have hw := pathB_sym m
    simp only [pSymB, List.mem_cons, List.not_mem_nil, or_false] at m
    have u47 : (((47 : UInt8).toNat : Nat) : Int) = 47 := rfl
    have u63 : (((63 : UInt8).toNat : Nat) : Int) = 63 := rfl
    have u61 : (((61 : UInt8).toNat : Nat) : Int) = 61 := rfl
    have u38 : (((38 : UInt8).toNat : Nat) : Int) = 38 := rfl
    have u58 : (((58 : UInt8).toNat : Nat) : Int) = 58 := rfl
    have u64 : (((64 : UInt8).toNat : Nat) : Int) = 64 := rfl
    have u44 : (((44 : UInt8).toNat : Nat) : Int) = 44 := rfl
    have u59 : (((59 : UInt8).toNat : Nat) : Int) = 59 := rfl
    have u40 : (((40 : UInt8).toNat : Nat) : Int) = 40 := rfl
    have u41 : (((41 : UInt8).toNat : Nat) : Int) = 41 := rfl
    rcases m with rfl | rfl | rfl | rfl | rfl | rfl | rfl | rfl | rfl | rfl <;> simp only [go_sem, reduceIte, ↓reduceIte, reduceCtorEq, nA, nS, nM, nB, nE, nL, nT, nN, iL, iT, iE, iA, iM, iS, iG, iB, iN, iZ, h, hw, wx, u47, u63, u61, u38, u58, u64, u44, u59, u40, u41]
  · have hw := pathB_not m
    have q47 : ((c.toNat : Int) == 47) = false := byne (v := 47) (fun e => m (by subst e; decide))
    have q63 : ((c.toNat : Int) == 63) = false := byne (v := 63) (fun e => m (by subst e; decide))
    have q61 : ((c.toNat : Int) == 61) = false := byne (v := 61) (fun e => m (by subst e; decide))
    have q38 : ((c.toNat : Int) == 38) = false := byne (v := 38) (fun e => m (by subst e; decide))
    have q58 : ((c.toNat : Int) == 58) = false := byne (v := 58) (fun e => m (by subst e; decide))
    have q64 : ((c.toNat : Int) == 64) = false := byne (v := 64) (fun e => m (by subst e; decide))
    have q44 : ((c.toNat : Int) == 44) = false := byne (v := 44) (fun e => m (by subst e; decide))
    have q59 : ((c.toNat : Int) == 59) = false := byne (v := 59) (fun e => m (by subst e; decide))
    have q40 : ((c.toNat : Int) == 40) = false := byne (v := 40) (fun e => m (by subst e; decide))
    have q41 : ((c.toNat : Int) == 41) = false := byne (v := 41) (fun e => m (by subst e; decide))
    cases h1 : wordB c <;> simp only [go_sem, reduceIte, ↓reduceIte, reduceCtorEq, nA, nS, nM, nB, nE, nL, nT, nN, iL, iT, iE, iA, iM, iS, iG, iB, iN, iZ, h, hw, h1, q47, q63, q61, q38, q58, q64, q44, q59, q40, q41]) (rfl)
noncomputable def s193 : SP Tryz.prog := mkS tyA 193 Tryz.f193 [s284] { md := [.ro 1], rg := [(0, [0], []), (1, [0, 16], []), (2, [2], []), (3, [0, 3], []), (4, [0, 3, 20], []), (5, [0, 3], []), (6, [0, 3, 27], []), (7, [2], []), (8, [2], [])], lv := [(0, [0, 3], [])], out := [(0, [], [])], rets := some ([2], []) } Tryz.func193 (by kernel_rfl)
@[go_sem] theorem d193 : s193.g = 193 ∧ s193.fs = ⟨[.ro 1], s193.F, false⟩ := ⟨nr rfl, nr rfl⟩
@[go_sem] theorem e193 (t : ByteArray) : s193.F [.s t] = some (.b (isPath t), [.u]) := mkS_eq (t.data.toList.length + 1) rfl rfl (fun cx h => by
  have hu : isPath t = (areB pathB 1 100 t && (((t.data[0]?.getD 0).toNat : Int) == 47)) := rfl
  by_cases h1 : (t.size : Int) < 1
  · simp only [go_sem, reduceIte, ↓reduceIte, reduceCtorEq, nA, nS, nM, nB, nE, nL, nT, nN, iL, iT, iE, iA, iM, iS, iG, iB, iN, iZ, h, h1, hu, areB_short h1]
  by_cases h2 : 100 < (t.size : Int)
  · simp only [go_sem, reduceIte, ↓reduceIte, reduceCtorEq, nA, nS, nM, nB, nE, nL, nT, nN, iL, iT, iE, iA, iM, iS, iG, iB, iN, iZ, h, h1, h2, hu, areB_long h2]
  have hi : idx? t.size 0 = some 0 := idx_nt t.size 0 (by omega)
  have hi' : idx? t.data.toList.length 0 = some 0 := by rw [← str_size]; exact hi
  cases h3 : (((t.data[0]?.getD 0).toNat : Int) == 47)
  · simp only [go_sem, reduceIte, ↓reduceIte, reduceCtorEq, nA, nS, nM, nB, nE, nL, nT, nN, iL, iT, iE, iA, iM, iS, iG, iB, iN, iZ, h, h1, h2, h3, hi, hu, bne]
  have hx : t.data.toList.length ≤ 9223372036854775806 := by rw [← str_size]; omega
  have ha := areB_all (p := pathB) h1 h2
  rw [str_size t] at h1 h2
  · have hb0 := loopN_eq Tryz.f193 0 _ _ rfl rfl
    obtain ⟨r, hr, hq⟩ := loop_srch (cx := cx) (blk := 0) (body := loopN Tryz.f193 0) t.data.toList (fun k (s : Unit) => ⟨E [(0, .s t), (3, .i .i64 k)], B []⟩) (fun s => ⟨E [], B []⟩) (fun x s => !pathB x) (fun x s => ()) (fun x s => (.ret, ⟨E [(2, .b false)], B []⟩)) (fun k s => True)
        (fun s hI G => by simp only [go_sem, reduceIte, ↓reduceIte, reduceCtorEq, nA, nS, nM, nB, nE, nL, nT, nN, iL, iT, iE, iA, iM, iS, iG, iB, iN, iZ, h, Int.lt_irrefl, hb0, str_size t]) (fun k hk s hI => by
          have h1 : ((k : Int) < (t.data.toList.length : Int)) := Int.ofNat_lt.2 hk
          have hz := str_at t k hk
          exact ⟨_, _, _, fun G => by simp only [go_sem, reduceIte, ↓reduceIte, reduceCtorEq, nA, nS, nM, nB, nE, nL, nT, nN, iL, iT, iE, iA, iM, iS, iG, iB, iN, iZ, h, hz, str_size t, h1, idx_nt _ _ hk, wrap_nat1 (show k < 9223372036854775807 by omega), hb0] <;> with_reducible rfl, Iff.rfl, fun hc => ⟨trivial, by simp only [go_sem, reduceIte, ↓reduceIte, reduceCtorEq, nA, nS, nM, nB, nE, nL, nT, nN, iL, iT, iE, iA, iM, iS, iG, iB, iN, iZ, h, str_size t]⟩⟩) () trivial (t.data.toList.length + 1) (Nat.le_refl _)
    rw [hb0] at hr
    rcases hq with ⟨s', e1, _, e3⟩ | ⟨x, s', e1, e3⟩
    · simp only [go_sem, reduceIte, ↓reduceIte, reduceCtorEq, nA, nS, nM, nB, nE, nL, nT, nN, iL, iT, iE, iA, iM, iS, iG, iB, iN, iZ, h, h1, h2, h3, hi', bne, str_size t, hr, e3, hu, ha, runS_all e1]
    · simp only [go_sem, reduceIte, ↓reduceIte, reduceCtorEq, nA, nS, nM, nB, nE, nL, nT, nN, iL, iT, iE, iA, iM, iS, iG, iB, iN, iZ, h, h1, h2, h3, hi', bne, str_size t, hr, e3, hu, ha, runS_all' e1]) (rfl)
noncomputable def s339 : SP Tryz.prog := mkS tyA 339 Tryz.f339 [] { md := [.ro 1], rg := [(0, [0], []), (1, [3], []), (2, [3, 4], []), (3, [3, 4, 10], []), (4, [3, 4], []), (5, [3, 4, 24], []), (6, [3, 4], []), (7, [2], [])], lv := [(0, [3, 4], [])], out := [(0, [3], [])], rets := some ([2], []) } Tryz.func339 (by kernel_rfl)
@[go_sem] theorem d339 : s339.g = 339 ∧ s339.fs = ⟨[.ro 1], s339.F, false⟩ := ⟨nr rfl, nr rfl⟩
@[go_sem] theorem e339 (t : ByteArray) (h0 : t.size ≤ 9223372036854775806) : s339.F [.s t] = some (.s (lowS t), [.u]) := mkS_eq (t.data.toList.length + 1) rfl rfl (fun cx h => by
  have hz : t.data.toList.length ≤ 9223372036854775807 := by rw [← str_size]; omega
  have hx : t.data.toList.length ≤ 9223372036854775806 := by rw [← str_size]; exact h0
  have hb0 := loopN_eq Tryz.f339 0 _ _ rfl rfl
  obtain ⟨hI, hr⟩ := loop_fold (cx := cx) (blk := 0) (body := loopN Tryz.f339 0) t.data.toList (fun k (s : Unit) => ⟨E [(3, .sl .mut 1 ((lowUp t.data.toList k).map rByte)), (4, .i .i64 k)], B []⟩) (fun s => ⟨E [(3, .sl .mut 1 ((t.data.toList.map lowB).map rByte))], B []⟩) (fun x s => s) (fun k s => True)
      (fun s hI G => by simp only [go_sem, reduceIte, ↓reduceIte, reduceCtorEq, nA, nS, nM, nB, nE, nL, nT, nN, iL, iT, iE, iA, iM, iS, iG, iB, iN, iZ, h, Int.lt_irrefl, hb0, lowUp_len t.data.toList t.data.toList.length (Nat.le_refl _), lowUp_all t.data.toList, List.length_map]) (fun k hk s hI => by
        have h1 : ((k : Int) < (t.data.toList.length : Int)) := Int.ofNat_lt.2 hk
        have g1 := lowUp_gd t.data.toList k hk
        have g2 := lowUp_g t.data.toList k hk
        have g3 := lowUp_len t.data.toList k (Nat.le_of_lt hk)
        have g4 : (List.take t.data.toList.length ((lowUp t.data.toList k).map rByte)) = (lowUp t.data.toList k).map rByte := List.take_of_length_le (by rw [List.length_map, g3]; exact Nat.le_refl _)
        rcases lowStep t.data.toList k hk with ⟨a1, a2, w1, w2, hs, hv⟩ | ⟨a1, a2, w1, w2, hs, hv⟩ | ⟨a1, a2, w1, w2, hs, hv⟩
        all_goals exact ⟨trivial, _, fun G => by simp only [go_sem, reduceIte, ↓reduceIte, reduceCtorEq, nA, nS, nM, nB, nE, nL, nT, nN, iL, iT, iE, iA, iM, iS, iG, iB, iN, iZ, h, g1, g2, g3, g4, a1, a2, w1, w2, hs, List.length_map, h1, idx_nt _ _ hk, wrap_nat1 (show k < 9223372036854775807 by omega), hb0] <;> with_reducible rfl, by simp only [go_sem, reduceIte, ↓reduceIte, reduceCtorEq, nA, nS, nM, nB, nE, nL, nT, nN, iL, iT, iE, iA, iM, iS, iG, iB, iN, iZ, h, hv]⟩) () trivial (t.data.toList.length + 1) (Nat.le_refl _)
  rw [hb0] at hr
  rw [lowUp_zero] at hr
  simp only [go_sem, reduceIte, ↓reduceIte, reduceCtorEq, nA, nS, nM, nB, nE, nL, nT, nN, iL, iT, iE, iA, iM, iS, iG, iB, iN, iZ, h, hz, hr, str_size t, lowS]) (rfl)
noncomputable def s285 : SP Tryz.prog := mkS tyA 285 Tryz.f285 [s339] { md := [.ro 1, .ro 1], rets := some ([4], []) } Tryz.func285 (by kernel_rfl)
@[go_sem] theorem d285 : s285.g = 285 ∧ s285.fs = ⟨[.ro 1, .ro 1], s285.F, false⟩ := ⟨nr rfl, nr rfl⟩
@[go_sem] theorem e285 (a : ByteArray) (b : ByteArray) (h0 : (a.size ≤ 9223372036854775806 ∧ b.size ≤ 9223372036854775806)) : s285.F [.s a, .s b] = some (.b (eqv (lowS a) (lowS b)), [.u, .u]) := mkS_eq (0) rfl rfl (fun cx h => by
  simp only [go_sem, reduceIte, ↓reduceIte, reduceCtorEq, nA, nS, nM, nB, nE, nL, nT, nN, iL, iT, iE, iA, iM, iS, iG, iB, iN, iZ, h, h0.1, h0.2, eqv_bytes]) (rfl)
noncomputable def s194 : SP Tryz.prog := mkS tyA 194 Tryz.f194 [s285] { md := [.ro 1, .ro 1], rg := [(0, [0, 1], []), (1, [0, 1, 6], []), (2, [0, 1, 6, 7], []), (3, [0, 1, 6, 7, 8], []), (4, [0, 1, 6, 7, 8, 12], []), (5, [0, 1, 6, 7, 8], []), (6, [0, 1, 6, 7, 8, 22], []), (7, [0, 1, 6, 8, 23], []), (8, [0, 1, 6, 8], []), (9, [0, 1, 6, 8], []), (10, [0, 1, 6, 7, 8], []), (11, [4, 5], [])], lv := [(0, [0, 1, 6, 7, 8], [])], out := [(0, [6, 7], [])], rets := some ([4, 5], []) } Tryz.func194 (by kernel_rfl)
@[go_sem] theorem d194 : s194.g = 194 ∧ s194.fs = ⟨[.ro 1, .ro 1], s194.F, false⟩ := ⟨nr rfl, nr rfl⟩
@[go_sem] theorem e194 (hs : List Header) (name : ByteArray) (h0 : (hs.length ≤ 20 ∧ smL smHeader hs ∧ okN name = true)) : s194.F [.sl .ro 2 (hs.map (rHeader .ro)), .s name] = some (.tup [.s (joinV hs name).1, .b (hasV hs name)], [.u, .u]) := mkS_eq (hs.length + 1) rfl rfl (fun cx h => by
  have hl := h0.1
  have hx : hs.length ≤ 9223372036854775806 := by omega
  have hj := joinV_2 hs name
  have hb0 := loopN_eq Tryz.f194 0 _ _ rfl rfl
  obtain ⟨hI, hr⟩ := loop_fold (cx := cx) (blk := 0) (body := loopN Tryz.f194 0) hs (fun k (s : ByteArray × Bool) => ⟨E [(0, .sl .ro 2 (hs.map (rHeader .ro))), (1, .s name), (6, .s s.1), (7, .b s.2), (8, .i .i64 k)], B []⟩) (fun s => ⟨E [(6, .s s.1), (7, .b s.2)], B []⟩) (fun x s => joinStep name s x) (fun k s => s.1.size ≤ k * 1048578)
      (fun s hI G => by simp only [go_sem, reduceIte, ↓reduceIte, reduceCtorEq, nA, nS, nM, nB, nE, nL, nT, nN, iL, iT, iE, iA, iM, iS, iG, iB, iN, iZ, h, Int.lt_irrefl, hb0, h0.1]) (fun k hk s hI => by
        have h1 : ((k : Int) < (hs.length : Int)) := Int.ofNat_lt.2 hk
        obtain ⟨u1, u2⟩ := h0.2.1.2 _ (List.getElem_mem hk)
        have u2' : hs[k].Value.size ≤ 1048576 := u2
        have hJ := joinStep_size (n := name) hI u2'
        have hl := h0.1
        have e0 : (⟨#[44, 32]⟩ : ByteArray).size = 2 := rfl
        have e1 : s.1.size + 2 ≤ 9223372036854775807 := by omega
        have e1' : s.1.size + (⟨#[44, 32]⟩ : ByteArray).size ≤ 9223372036854775807 := e1
        have e2 : s.1.size + hs[k].Value.size ≤ 9223372036854775807 := by omega
        have e3 : s.1.size + 2 + hs[k].Value.size ≤ 9223372036854775807 := by omega
        have n1 : hs[k].Name.size ≤ 9223372036854775806 ∧ name.size ≤ 9223372036854775806 := ⟨by have : hs[k].Name.size ≤ 1048576 := u1; omega, of_decide_eq_true h0.2.2⟩
        cases d1 : eqv (lowS hs[k].Name) (lowS name) <;> cases d2 : s.2
        all_goals exact ⟨hJ, _, fun G => by simp only [go_sem, reduceIte, ↓reduceIte, reduceCtorEq, nA, nS, nM, nB, nE, nL, nT, nN, iL, iT, iE, iA, iM, iS, iG, iB, iN, iZ, h, e0, e1, e2, e3, map_gd (rHeader .ro) hs k hk, n1, d1, d2, ByteArray.size_append, h1, idx_nt _ _ hk, wrap_nat1 (show k < 9223372036854775807 by omega), hb0] <;> with_reducible rfl, by simp only [go_sem, reduceIte, ↓reduceIte, reduceCtorEq, nA, nS, nM, nB, nE, nL, nT, nN, iL, iT, iE, iA, iM, iS, iG, iB, iN, iZ, h, d1, d2, joinStep]⟩) (⟨#[]⟩, false) (by show 0 ≤ _; omega) (hs.length + 1) (Nat.le_refl _)
  rw [hb0] at hr
  unfold joinV at hj
  simp only [go_sem, reduceIte, ↓reduceIte, reduceCtorEq, nA, nS, nM, nB, nE, nL, nT, nN, iL, iT, iE, iA, iM, iS, iG, iB, iN, iZ, h, hr, joinV, hj]) (rfl)
noncomputable def s88 : SP Tryz.prog := mkS tyA 88 Tryz.f88 [s114, s192, s193, s194] { md := [.ro 1], rg := [(0, [1], [1]), (1, [1, 25], [1]), (2, [2], []), (3, [1, 3], [1]), (4, [1, 3, 30], [1]), (5, [2], []), (6, [1, 5], [1]), (7, [1, 38], [1]), (8, [2], []), (9, [42], []), (10, [2], []), (11, [2], [])], rets := some ([2], []), al := [32] } Tryz.func88 (by kernel_rfl)
@[go_sem] theorem d88 : s88.g = 88 ∧ s88.fs = ⟨[.ro 1], s88.F, false⟩ := ⟨nr rfl, nr rfl⟩
@[go_sem] theorem e88 (rMethod : ByteArray) (rHost : ByteArray) (rPath : ByteArray) (rHeaders : List Header) (h0 : smL smHeader (Request.mk rMethod rHost rPath rHeaders).Headers) : s88.F [.agg [.s rMethod, .s rHost, .s rPath, .sl .ro 2 (rHeaders.map (rHeader .ro))]] = some (.i .i64 (requestFault (Request.mk rMethod rHost rPath rHeaders)), [.u]) := mkS_eq (0) rfl rfl (fun cx h => by
  have hm : isMethod rMethod = (eqv rMethod ⟨#[71, 69, 84]⟩ || eqv rMethod ⟨#[72, 69, 65, 68]⟩) := rfl
  have key : ∀ m : Bool, isMethod rMethod = m → (isMethod rMethod && isHost rHost && isPath rPath) = (m && isHost rHost && isPath rPath) := fun m h => by rw [h]
  have hn1 : okN ⟨#[72, 111, 115, 116]⟩ = true := by decide
  have hn2 : okN ⟨#[104, 111, 115, 116]⟩ = true := by decide
  rcases (show (isMethod rMethod = false ∧ eqv rMethod ⟨#[71, 69, 84]⟩ = false ∧ eqv rMethod ⟨#[72, 69, 65, 68]⟩ = false) ∨ (isMethod rMethod = true ∧ eqv rMethod ⟨#[71, 69, 84]⟩ = true) ∨ (isMethod rMethod = true ∧ eqv rMethod ⟨#[71, 69, 84]⟩ = false ∧ eqv rMethod ⟨#[72, 69, 65, 68]⟩ = true) from by
    rw [hm]; cases eqv rMethod ⟨#[71, 69, 84]⟩ <;> cases eqv rMethod ⟨#[72, 69, 65, 68]⟩ <;> simp) with ⟨m0, m1, m2⟩ | ⟨m0, m1⟩ | ⟨m0, m1, m2⟩
  · simp only [go_sem, reduceIte, ↓reduceIte, reduceCtorEq, nA, nS, nM, nB, nE, nL, nT, nN, iL, iT, iE, iA, iM, iS, iG, iB, iN, iZ, h, m0, m1, m2, eqv_bytesne, eqv_bytes, requestFault]
  · cases h2 : isHost rHost
    · simp only [go_sem, reduceIte, ↓reduceIte, reduceCtorEq, nA, nS, nM, nB, nE, nL, nT, nN, iL, iT, iE, iA, iM, iS, iG, iB, iN, iZ, h, h2, m0, m1, eqv_bytesne, eqv_bytes, requestFault]
    cases h3 : isPath rPath
    · simp only [go_sem, reduceIte, ↓reduceIte, reduceCtorEq, nA, nS, nM, nB, nE, nL, nT, nN, iL, iT, iE, iA, iM, iS, iG, iB, iN, iZ, h, h2, h3, m0, m1, eqv_bytesne, eqv_bytes, requestFault]
    by_cases z : headersFault rHeaders = 0
    rotate_left
    · have z' : (headersFault rHeaders != 0) = true := by simpa using z
      simp only [go_sem, reduceIte, ↓reduceIte, reduceCtorEq, nA, nS, nM, nB, nE, nL, nT, nN, iL, iT, iE, iA, iM, iS, iG, iB, iN, iZ, h, h2, h3, z', m0, m1, eqv_bytesne, eqv_bytes, requestFault]
    have z' : (headersFault rHeaders != 0) = false := by simpa using z
    have h4 : rHeaders.length ≤ 20 ∧ smL smHeader rHeaders ∧ okN ⟨#[72, 111, 115, 116]⟩ = true := ⟨headersFault_ok z, h0, hn1⟩
    have h5 : rHeaders.length ≤ 20 ∧ smL smHeader rHeaders ∧ okN ⟨#[104, 111, 115, 116]⟩ = true := ⟨headersFault_ok z, h0, hn2⟩
    have h6 := valsOf_pos rHeaders ⟨#[72, 111, 115, 116]⟩
    have h7 := hasV_host rHeaders
    cases h8 : hasV rHeaders ⟨#[72, 111, 115, 116]⟩
    · by_cases h9 : 20 ≤ (rHeaders.length : Int)
      · have h10 : ((rHeaders.length : Int) == 20) = true := by have := h4.1; simp; omega
        simp only [go_sem, reduceIte, ↓reduceIte, reduceCtorEq, nA, nS, nM, nB, nE, nL, nT, nN, iL, iT, iE, iA, iM, iS, iG, iB, iN, iZ, h, h2, h3, z, h4, h5, h6, h7, h8, h9, h10, m0, m1, eqv_bytesne, eqv_bytes, requestFault]
      · have h10 : ((rHeaders.length : Int) == 20) = false := by have := h4.1; simp; omega
        simp only [go_sem, reduceIte, ↓reduceIte, reduceCtorEq, nA, nS, nM, nB, nE, nL, nT, nN, iL, iT, iE, iA, iM, iS, iG, iB, iN, iZ, h, h2, h3, z, h4, h5, h6, h7, h8, h9, h10, m0, m1, eqv_bytesne, eqv_bytes, requestFault]
    · simp only [go_sem, reduceIte, ↓reduceIte, reduceCtorEq, nA, nS, nM, nB, nE, nL, nT, nN, iL, iT, iE, iA, iM, iS, iG, iB, iN, iZ, h, h2, h3, z, h4, h5, h6, h7, h8, m0, m1, eqv_bytesne, eqv_bytes, requestFault]
  · cases h2 : isHost rHost
    · simp only [go_sem, reduceIte, ↓reduceIte, reduceCtorEq, nA, nS, nM, nB, nE, nL, nT, nN, iL, iT, iE, iA, iM, iS, iG, iB, iN, iZ, h, h2, m0, m1, m2, eqv_bytesne, eqv_bytes, requestFault]
    cases h3 : isPath rPath
    · simp only [go_sem, reduceIte, ↓reduceIte, reduceCtorEq, nA, nS, nM, nB, nE, nL, nT, nN, iL, iT, iE, iA, iM, iS, iG, iB, iN, iZ, h, h2, h3, m0, m1, m2, eqv_bytesne, eqv_bytes, requestFault]
    by_cases z : headersFault rHeaders = 0
    rotate_left
    · have z' : (headersFault rHeaders != 0) = true := by simpa using z
      simp only [go_sem, reduceIte, ↓reduceIte, reduceCtorEq, nA, nS, nM, nB, nE, nL, nT, nN, iL, iT, iE, iA, iM, iS, iG, iB, iN, iZ, h, h2, h3, z', m0, m1, m2, eqv_bytesne, eqv_bytes, requestFault]
    have z' : (headersFault rHeaders != 0) = false := by simpa using z
    have h4 : rHeaders.length ≤ 20 ∧ smL smHeader rHeaders ∧ okN ⟨#[72, 111, 115, 116]⟩ = true := ⟨headersFault_ok z, h0, hn1⟩
    have h5 : rHeaders.length ≤ 20 ∧ smL smHeader rHeaders ∧ okN ⟨#[104, 111, 115, 116]⟩ = true := ⟨headersFault_ok z, h0, hn2⟩
    have h6 := valsOf_pos rHeaders ⟨#[72, 111, 115, 116]⟩
    have h7 := hasV_host rHeaders
    cases h8 : hasV rHeaders ⟨#[72, 111, 115, 116]⟩
    · by_cases h9 : 20 ≤ (rHeaders.length : Int)
      · have h10 : ((rHeaders.length : Int) == 20) = true := by have := h4.1; simp; omega
        simp only [go_sem, reduceIte, ↓reduceIte, reduceCtorEq, nA, nS, nM, nB, nE, nL, nT, nN, iL, iT, iE, iA, iM, iS, iG, iB, iN, iZ, h, h2, h3, z, h4, h5, h6, h7, h8, h9, h10, m0, m1, m2, eqv_bytesne, eqv_bytes, requestFault]
      · have h10 : ((rHeaders.length : Int) == 20) = false := by have := h4.1; simp; omega
        simp only [go_sem, reduceIte, ↓reduceIte, reduceCtorEq, nA, nS, nM, nB, nE, nL, nT, nN, iL, iT, iE, iA, iM, iS, iG, iB, iN, iZ, h, h2, h3, z, h4, h5, h6, h7, h8, h9, h10, m0, m1, m2, eqv_bytesne, eqv_bytes, requestFault]
    · simp only [go_sem, reduceIte, ↓reduceIte, reduceCtorEq, nA, nS, nM, nB, nE, nL, nT, nN, iL, iT, iE, iA, iM, iS, iG, iB, iN, iZ, h, h2, h3, z, h4, h5, h6, h7, h8, m0, m1, m2, eqv_bytesne, eqv_bytes, requestFault]) (rfl)
def within (a b c : Int) : Bool := decide (b ≤ a) && decide (a ≤ c)
theorem within_t {a b c : Int} : within a b c = true ↔ b ≤ a ∧ a ≤ c := by simp [within]
theorem within_f {a b c : Int} : within a b c = false ↔ ¬ (b ≤ a ∧ a ≤ c) := by rw [← within_t]; simp
noncomputable def s113 : SP Tryz.prog := mkS tyA 113 Tryz.f113 [] { md := [.ro 1, .ro 1, .ro 1], rets := some ([6], []) } Tryz.func113 (by kernel_rfl)
@[go_sem] theorem d113 : s113.g = 113 ∧ s113.fs = ⟨[.ro 1, .ro 1, .ro 1], s113.F, false⟩ := ⟨nr rfl, nr rfl⟩
@[go_sem] theorem e113 (a : Int) (b : Int) (c : Int) : s113.F [.i .i64 a, .i .i64 b, .i .i64 c] = some (.b (within a b c), [.u, .u, .u]) := mkS_eq (0) rfl rfl (fun cx h => by
  simp only [go_sem, reduceIte, ↓reduceIte, reduceCtorEq, nA, nS, nM, nB, nE, nL, nT, nN, iL, iT, iE, iA, iM, iS, iG, iB, iN, iZ, h, within]
  by_cases h : b ≤ a <;> simp [h]) (rfl)
def isTime (a : Int) : Bool := within a 0 1000000000000000
theorem isTime_t {a : Int} : isTime a = true ↔ 0 ≤ a ∧ a ≤ 1000000000000000 := within_t
noncomputable def s129 : SP Tryz.prog := mkS tyA 129 Tryz.f129 [s113] { md := [.ro 1], rets := some ([2], []) } Tryz.func129 (by kernel_rfl)
@[go_sem] theorem d129 : s129.g = 129 ∧ s129.fs = ⟨[.ro 1], s129.F, false⟩ := ⟨nr rfl, nr rfl⟩
@[go_sem] theorem e129 (a : Int) : s129.F [.i .i64 a] = some (.b (isTime a), [.u]) := mkS_eq (0) rfl rfl (fun cx h => by
  simp only [go_sem, reduceIte, ↓reduceIte, reduceCtorEq, nA, nS, nM, nB, nE, nL, nT, nN, iL, iT, iE, iA, iM, iS, iG, iB, iN, iZ, h, isTime]) (rfl)
def metaTimes (m : Meta) : List Int := [m.At, m.Age, m.Life, m.Swr, m.Sie]
theorem viewCells_int (pl : Pl) : ∀ (j : Nat) (xs : List Int), viewCells pl j (xs.map fun a => AV.i .i64 a) = xs.map fun a => AV.i .i64 a
  | _, [] => rfl
  | j, x :: xs => by
    rw [List.map_cons, viewCells, viewCells_int pl (j + 1) xs]; rfl
theorem filtL_int (kp kr : Pl → Bool) : ∀ xs : List Int, filtL kp kr (xs.map fun a => AV.i .i64 a) = xs.map fun a => AV.i .i64 a
  | [] => rfl
  | x :: xs => by
    rw [List.map_cons, filtL, filtL_int kp kr xs]; rfl
def metaFault (m : Meta) : Int := if ((metaTimes m).any fun x => !isTime x) = true then 3 else 0
theorem arrIx_nat {α : Type} {f : α → AV} {xs : List α} {n k : Nat} (hn : n = xs.length) (h : k < xs.length) : arrIx n (xs.map f) (k : Int) = some (f xs[k]) := by
  subst hn
  unfold arrIx idx?
  rw [if_pos (by simp), if_pos (by omega)]
  simp [h]
noncomputable def s195 : SP Tryz.prog := mkS tyA 195 Tryz.f195 [s129] { md := [.ro 1], rg := [(0, [1], [1]), (1, [30], []), (2, [2], []), (3, [2], [])], rets := some ([2], []) } Tryz.func195 (by kernel_rfl)
@[go_sem] theorem d195 : s195.g = 195 ∧ s195.fs = ⟨[.ro 1], s195.F, false⟩ := ⟨nr rfl, nr rfl⟩
@[go_sem] theorem e195 (mAt : Int) (mAge : Int) (mLife : Int) (mSwr : Int) (mSie : Int) (mSoft : Bool) (mNoCache : Bool) : s195.F [.agg [.i .i64 mAt, .i .i64 mAge, .i .i64 mLife, .i .i64 mSwr, .i .i64 mSie, .b mSoft, .b mNoCache]] = some (.i .i64 (metaFault (Meta.mk mAt mAge mLife mSwr mSie mSoft mNoCache)), [.u]) := mkS_eq (0) rfl rfl (fun cx h => by
  have hu : metaFault (Meta.mk mAt mAge mLife mSwr mSie mSoft mNoCache) = if (!isTime mAt || (!isTime mAge || (!isTime mLife || (!isTime mSwr || (!isTime mSie || false))))) = true then 3 else 0 := rfl
  cases cmAt : isTime mAt
  · simp only [go_sem, reduceIte, ↓reduceIte, reduceCtorEq, nA, nS, nM, nB, nE, nL, nT, nN, iL, iT, iE, iA, iM, iS, iG, iB, iN, iZ, h, hu, cmAt]
  cases cmAge : isTime mAge
  · simp only [go_sem, reduceIte, ↓reduceIte, reduceCtorEq, nA, nS, nM, nB, nE, nL, nT, nN, iL, iT, iE, iA, iM, iS, iG, iB, iN, iZ, h, hu, cmAt, cmAge]
  cases cmLife : isTime mLife
  · simp only [go_sem, reduceIte, ↓reduceIte, reduceCtorEq, nA, nS, nM, nB, nE, nL, nT, nN, iL, iT, iE, iA, iM, iS, iG, iB, iN, iZ, h, hu, cmAt, cmAge, cmLife]
  cases cmSwr : isTime mSwr
  · simp only [go_sem, reduceIte, ↓reduceIte, reduceCtorEq, nA, nS, nM, nB, nE, nL, nT, nN, iL, iT, iE, iA, iM, iS, iG, iB, iN, iZ, h, hu, cmAt, cmAge, cmLife, cmSwr]
  cases cmSie : isTime mSie
  · simp only [go_sem, reduceIte, ↓reduceIte, reduceCtorEq, nA, nS, nM, nB, nE, nL, nT, nN, iL, iT, iE, iA, iM, iS, iG, iB, iN, iZ, h, hu, cmAt, cmAge, cmLife, cmSwr, cmSie]
  simp only [go_sem, reduceIte, ↓reduceIte, reduceCtorEq, nA, nS, nM, nB, nE, nL, nT, nN, iL, iT, iE, iA, iM, iS, iG, iB, iN, iZ, h, hu, cmAt, cmAge, cmLife, cmSwr, cmSie]) (rfl)
def isReqW (w : Waiter) : Bool := isTime w.Req && isTime w.Due
/-! two with one number -/
def tw (s : List Waiter) : List Waiter → Bool
  | [] => false
  | x :: r => if (s.any fun y => y.Req == x.Req) = true then true else tw (s ++ [x]) r
theorem tw_inl : ∀ {xs s s' : List Waiter}, runS (fun x s => s.any fun y => y.Req == x.Req) (fun x s => s ++ [x]) xs s = .inl s' → tw s xs = false
  | [], _, _, _ => rfl
  | x :: xs, s, s', h => by
    rw [runS_cons] at h
    split at h
    · cases h
    · rename_i hc; rw [tw, if_neg hc]; exact tw_inl h
theorem tw_inr : ∀ {xs s : List Waiter} {q : Waiter × List Waiter}, runS (fun x s => s.any fun y => y.Req == x.Req) (fun x s => s ++ [x]) xs s = .inr q → tw s xs = true
  | [], _, _, h => by cases h
  | x :: xs, s, q, h => by
    rw [runS_cons] at h
    split at h
    · rename_i hc; rw [tw, if_pos hc]
    · rename_i hc; rw [tw, if_neg hc]; exact tw_inr h
theorem any_flip (ws : List Waiter) (r : Int) : (ws.any fun y => r == y.Req) = ws.any fun y => y.Req == r := by
  congr 1; funext y; exact Bool.eq_iff_iff.2 (by rw [beq_iff_eq, beq_iff_eq]; exact eq_comm)
theorem take_snoc {α : Type} (xs : List α) (k : Nat) (h : k < xs.length) : xs.take (k + 1) = xs.take k ++ [xs[k]] := by
  rw [List.take_add_one, List.getElem?_eq_getElem h]; rfl
theorem runS_any {α : Type} {p : α → Bool} : ∀ {xs : List α} {u u' : Unit}, runS (fun x _ => p x) (fun _ _ => ()) xs u = .inl u' → xs.any p = false
  | [], _, _, _ => rfl
  | x :: xs, u, u', h => by
    rw [runS_cons] at h
    split at h
    · cases h
    · rename_i hc
      simp only [List.any_cons, runS_any h, Bool.or_false]
      simpa using hc
theorem runS_any' {α : Type} {p : α → Bool} : ∀ {xs : List α} {u : Unit} {q : α × Unit}, runS (fun x _ => p x) (fun _ _ => ()) xs u = .inr q → xs.any p = true
  | [], _, _, h => by cases h
  | x :: xs, u, q, h => by
    rw [runS_cons] at h
    split at h
    · rename_i hc; simp [hc]
    · simp only [List.any_cons, runS_any' h, Bool.or_true]
end Go.Vm.A
