/- Functions of the program, walked by the evaluator. -/
import Derived.Test.YtnbhkifknleipaaGreatDoorWb
import Derived.Test.YtnbhkifknleipaaGreatDoorWa
import Derived.Test.YtnbhkifknleipaaGreatDoorFg
set_option autoImplicit false
set_option maxRecDepth 100000
set_option maxHeartbeats 4000000
set_option linter.unusedVariables false
set_option linter.unusedSimpArgs false
namespace Go.Vm.A
open Go.Proofs
open Nat renaming reduceAdd → nA, reduceSub → nS, reduceMul → nM, reduceBEq → nB, reduceEqDiff → nE, reduceLeDiff → nL, reduceLT → nT, reduceBneDiff → nN
open Int renaming reduceLE → iL, reduceLT → iT, reduceEq → iE, reduceAdd → iA, reduceMul → iM, reduceSub → iS, reduceNeg → iG, reduceBEq → iB, reduceBNe → iN, reduceToNat → iZ

noncomputable def s100 : SP Tryz.prog := mkS tyA 100 Tryz.f100 [] { md := [.ro 1, .ro 1], rg := [(0, [0, 1], []), (1, [0, 1, 10], []), (2, [4], []), (3, [0, 1, 5], []), (4, [0, 1, 5, 14], []), (5, [0, 1, 5], []), (6, [0, 1, 5, 25], []), (7, [4], []), (8, [4], [])], lv := [(0, [0, 1, 5], [])], out := [(0, [], [])], rets := some ([4], []), plan := [(6, (.take 0 (.take 1 (.take 2 (.take 3 (.take 4 (.take 5 (.take 6 (.take 7 (.take 8 .done))))))))))] } Tryz.func100 (by kernel_rfl)
@[go_sem] theorem d100 : s100.g = 100 ∧ s100.fs = ⟨[.ro 1, .ro 1], s100.F, false⟩ := ⟨nr rfl, nr rfl⟩
@[go_sem] theorem e100 (xs ys : List ByteArray) (h0 : smL smStr xs) : s100.F [.sl .ro 1 (xs.map rStr), .sl .ro 1 (ys.map rStr)] = some (.b (eqv xs ys), [.u, .u]) := mkS_eq (xs.length + 1) rfl rfl (fun cx h => by
  have hb := loopN_eq Tryz.f100 0 _ _ rfl rfl
  have hx := h0.1
  by_cases hl : xs.length = ys.length
  · obtain ⟨r, hr, hq⟩ := loop_list (cx := cx) (blk := 0) (body := loopN Tryz.f100 0) (xs.zip ys) (fun k (_ : Unit) => ⟨E [(0, .sl .ro 1 (xs.map rStr)), (1, .sl .ro 1 (ys.map rStr)), (5, .i .i64 k)], B []⟩) (fun _ => ⟨E [], B []⟩) (fun x _ => !eqv x.1 x.2) (fun _ _ => ()) (fun _ _ => (.ret, ⟨E [(4, .b false)], B []⟩)) (fun _ _ => True)
      (fun l _ G => by simp only [go_sem, reduceIte, ↓reduceIte, reduceCtorEq, nA, nS, nM, nB, nE, nL, nT, nN, iL, iT, iE, iA, iM, iS, iG, iB, iN, iZ, h, zip_len hl, hl, Int.lt_irrefl, hb]) (fun k hk l _ => by
        have hk : k < xs.length := by rwa [zip_len hl] at hk
        have h1 : ((k : Int) < (xs.length : Int)) := Int.ofNat_lt.2 hk
        have h2 := h0.2 _ (List.getElem_mem hk)
        have h3 : (xs.zip ys)[k] = (xs[k], ys[k]'(by omega)) := by simp
        rw [h3]
        cases hc : eqv xs[k] (ys[k]'(by omega))
        · exact .inl ⟨rfl, fun G => by simp only [go_sem, reduceIte, ↓reduceIte, reduceCtorEq, nA, nS, nM, nB, nE, nL, nT, nN, iL, iT, iE, iA, iM, iS, iG, iB, iN, iZ, h, hc, map_gd rStr xs k hk, map_gd rStr ys k (by omega), idx_nt ys.length k (by omega), eqv_bytes, h1, idx_nt _ _ hk, wrap_nat1 (show k < 9223372036854775807 by omega), hb]⟩
        · exact .inr ⟨rfl, trivial, _, fun G => by simp only [go_sem, reduceIte, ↓reduceIte, reduceCtorEq, nA, nS, nM, nB, nE, nL, nT, nN, iL, iT, iE, iA, iM, iS, iG, iB, iN, iZ, h, hc, map_gd rStr xs k hk, map_gd rStr ys k (by omega), idx_nt ys.length k (by omega), eqv_bytes, h1, idx_nt _ _ hk, wrap_nat1 (show k < 9223372036854775807 by omega), hb] <;> with_reducible rfl, by simp only [go_sem, reduceIte, ↓reduceIte, reduceCtorEq, nA, nS, nM, nB, nE, nL, nT, nN, iL, iT, iE, iA, iM, iS, iG, iB, iN, iZ, h]⟩) () trivial (xs.length + 1) (by rw [zip_len hl]; exact Nat.le_refl _)
    rw [hb] at hr
    have hl2 : ((xs.length : Int) != (ys.length : Int)) = false := by simp [hl]
    rcases hq with ⟨s', e1, e2, e3⟩ | ⟨x, s', e1, e3⟩
    · simp only [go_sem, reduceIte, ↓reduceIte, reduceCtorEq, nA, nS, nM, nB, nE, nL, nT, nN, iL, iT, iE, iA, iM, iS, iG, iB, iN, iZ, h, hl2, hr, e3, zip_eqv hl e1]
    · simp only [go_sem, reduceIte, ↓reduceIte, reduceCtorEq, nA, nS, nM, nB, nE, nL, nT, nN, iL, iT, iE, iA, iM, iS, iG, iB, iN, iZ, h, hl2, hr, e3, zip_nev hl e1]
  · have hl2 : ((xs.length : Int) != (ys.length : Int)) = true := by simpa using fun h => hl (Int.ofNat_inj.1 h)
    simp only [go_sem, reduceIte, ↓reduceIte, reduceCtorEq, nA, nS, nM, nB, nE, nL, nT, nN, iL, iT, iE, iA, iM, iS, iG, iB, iN, iZ, h, hl2, len_nev hl]) (rfl)
noncomputable def s27 : SP Tryz.prog := mkS tyA 27 Tryz.f27 [s97, s98, s99, s100] { md := [.ro 1, .ro 1], rg := [(0, [2, 3], [2, 3]), (1, [2, 3, 9], [2, 3]), (2, [4], []), (3, [2, 3, 14], [2, 3]), (4, [4], []), (5, [2, 3, 20], [2, 3]), (6, [4], []), (7, [2, 3, 26], [2, 3]), (8, [4], []), (9, [2, 3, 32], [2, 3]), (10, [4], []), (11, [2, 3, 38], [2, 3]), (12, [4], []), (13, [43], []), (14, [4], []), (15, [4], [])], rets := some ([4], []) } Tryz.func27 (by kernel_rfl)
@[go_sem] theorem d27 : s27.g = 27 ∧ s27.fs = ⟨[.ro 1, .ro 1], s27.F, false⟩ := ⟨nr rfl, nr rfl⟩
@[go_sem] theorem e27 (xKey : ByteArray) (xStatus : Int) (xHeaders : List Header) (xBody : List UInt8) (xMetaAt : Int) (xMetaAge : Int) (xMetaLife : Int) (xMetaSwr : Int) (xMetaSie : Int) (xMetaSoft : Bool) (xMetaNoCache : Bool) (xTags : List ByteArray) (xPins : Int) (yKey : ByteArray) (yStatus : Int) (yHeaders : List Header) (yBody : List UInt8) (yMetaAt : Int) (yMetaAge : Int) (yMetaLife : Int) (yMetaSwr : Int) (yMetaSie : Int) (yMetaSoft : Bool) (yMetaNoCache : Bool) (yTags : List ByteArray) (yPins : Int) (h0 : smEntry (Entry.mk xKey xStatus xHeaders xBody (Meta.mk xMetaAt xMetaAge xMetaLife xMetaSwr xMetaSie xMetaSoft xMetaNoCache) xTags xPins)) : s27.F [.agg [.s xKey, .i .i64 xStatus, .sl .ro 2 (xHeaders.map (rHeader .ro)), .sl .ro 1 (xBody.map rByte), .i .i64 xMetaAt, .i .i64 xMetaAge, .i .i64 xMetaLife, .i .i64 xMetaSwr, .i .i64 xMetaSie, .b xMetaSoft, .b xMetaNoCache, .sl .ro 1 (xTags.map rStr), .i .i64 xPins], .agg [.s yKey, .i .i64 yStatus, .sl .ro 2 (yHeaders.map (rHeader .ro)), .sl .ro 1 (yBody.map rByte), .i .i64 yMetaAt, .i .i64 yMetaAge, .i .i64 yMetaLife, .i .i64 yMetaSwr, .i .i64 yMetaSie, .b yMetaSoft, .b yMetaNoCache, .sl .ro 1 (yTags.map rStr), .i .i64 yPins]] = some (.b (eqv (Entry.mk xKey xStatus xHeaders xBody (Meta.mk xMetaAt xMetaAge xMetaLife xMetaSwr xMetaSie xMetaSoft xMetaNoCache) xTags xPins) (Entry.mk yKey yStatus yHeaders yBody (Meta.mk yMetaAt yMetaAge yMetaLife yMetaSwr yMetaSie yMetaSoft yMetaNoCache) yTags yPins)), [.u, .u]) := mkS_eq (0) rfl rfl (fun cx h => by
  obtain ⟨q0, q1, q2, q3, q4, q5, q6⟩ := h0
  simp only [go_sem, reduceIte, ↓reduceIte, reduceCtorEq, nA, nS, nM, nB, nE, nL, nT, nN, iL, iT, iE, iA, iM, iS, iG, iB, iN, iZ, h, eqv_intne, eqv_bytes, eqv_boolne, q0, q1, q2, q3, q4, q5, q6]
  simp only [eqv_bool, eqv_int, Entry.eqv (Entry.mk xKey xStatus xHeaders xBody (Meta.mk xMetaAt xMetaAge xMetaLife xMetaSwr xMetaSie xMetaSoft xMetaNoCache) xTags xPins) (Entry.mk yKey yStatus yHeaders yBody (Meta.mk yMetaAt yMetaAge yMetaLife yMetaSwr yMetaSie yMetaSoft yMetaNoCache) yTags yPins), if_b, not_eq_t, if_nb, Bool.and_true]) (rfl)
noncomputable def s203 : SP Tryz.prog := mkS tyA 203 Tryz.f203 [] { md := [.ro 1], rg := [(0, [0], []), (1, [0, 5], []), (2, [2], []), (3, [0, 3], []), (4, [0, 3, 7], []), (5, [0, 3], []), (6, [0, 3], []), (7, [2], [])], lv := [(0, [0, 3], [])], out := [(0, [3], [])], rets := some ([2], []) } Tryz.func203 (by kernel_rfl)
@[go_sem] theorem d203 : s203.g = 203 ∧ s203.fs = ⟨[.ro 1], s203.F, false⟩ := ⟨nr rfl, nr rfl⟩
@[go_sem] theorem e203 (k : Int) (h0 : k + 1 ≤ 9223372036854775807) : s203.F [.i .i64 k] = some (.s (mkText k), [.u]) := mkS_eq (k.toNat + 1) rfl rfl (fun cx h => by
  have hb := loopN_eq Tryz.f203 0 _ _ rfl rfl
  have lp := loop_gen (cx := cx) (blk := 0) (body := loopN Tryz.f203 0) (fun (p : Int × ByteArray) => ⟨E [(0, .i .i64 p.1), (3, .s p.2)], B []⟩) (fun p => 0 ≤ p.1 ∧ p.1 + p.2.size ≤ 9223372036854775807) (fun p => p.1.toNat) (fun p r => r = some (.ex 0, ⟨E [(3, .s (digs p.1.toNat p.1 p.2))], B []⟩)) (fun ⟨k, s⟩ ⟨i1, i2⟩ => by
    simp only at i1 i2 ⊢
    by_cases hk : 0 < k
    · have e1 : k.tdiv 10 = k / 10 := Int.tdiv_eq_ediv_of_nonneg i1
      have e2 : k.tmod 10 = k % 10 := Int.tmod_eq_emod_of_nonneg i1
      have w1 : (IntKind.i64).wrap (48 + k.tmod 10) = 48 + k.tmod 10 := wrap_id (by omega) (by omega)
      have w2 : (IntKind.u8).wrap (48 + k.tmod 10) = (48 + k.tmod 10) % 256 := by simp [IntKind.wrap, IntKind.bits, IntKind.signed]
      have w3 : (IntKind.i64).wrap (k.tdiv 10) = k.tdiv 10 := wrap_id (by omega) (by omega)
      have z2 : (#[UInt8.ofNat ((48 + k.tmod 10) % 256).toNat] : Array UInt8).size + s.size ≤ 9223372036854775807 := by show 1 + s.size ≤ _; omega
      refine .inr ⟨_, (k.tdiv 10, ByteArray.mk #[UInt8.ofNat ((48 + k.tmod 10) % 256).toNat] ++ s), ?_, ?_, ?_, ?_, fun G => by simp only [go_sem, reduceIte, ↓reduceIte, reduceCtorEq, nA, nS, nM, nB, nE, nL, nT, nN, iL, iT, iE, iA, iM, iS, iG, iB, iN, iZ, h, hb, hk, w1, w2, w3, z2, strOf]; rfl⟩
      · simp only [go_sem, reduceIte, ↓reduceIte, reduceCtorEq, nA, nS, nM, nB, nE, nL, nT, nN, iL, iT, iE, iA, iM, iS, iG, iB, iN, iZ, h]
      · rw [ByteArray.size_append]; exact ⟨by show 0 ≤ k.tdiv 10; omega, by show k.tdiv 10 + ((1 + s.size : Nat) : Int) ≤ _; omega⟩
      · simp only; omega
      · intro r hr
        rw [hr, show digs k.toNat k s = digs (k.tdiv 10).toNat (k.tdiv 10) (ByteArray.mk #[UInt8.ofNat ((48 + k.tmod 10) % 256).toNat] ++ s) from by
          obtain ⟨m, hm⟩ : ∃ m, k.toNat = m + 1 := ⟨k.toNat - 1, by omega⟩
          rw [hm, digs, if_pos hk]
          exact digs_stop _ _ _ _ (by omega) (Nat.le_refl _)]
    · obtain rfl : k = 0 := by omega
      exact .inl fun G => by simp only [go_sem, reduceIte, ↓reduceIte, reduceCtorEq, nA, nS, nM, nB, nE, nL, nT, nN, iL, iT, iE, iA, iM, iS, iG, iB, iN, iZ, h, hb, digs])
  rw [hb] at lp
  unfold mkText
  by_cases hk : k ≤ 0
  · simp only [go_sem, reduceIte, ↓reduceIte, reduceCtorEq, nA, nS, nM, nB, nE, nL, nT, nN, iL, iT, iE, iA, iM, iS, iG, iB, iN, iZ, h, hk]
  · have l1 := lp (k.toNat + 1) (k, ⟨#[]⟩) ⟨by omega, by show k + ((0 : Nat) : Int) ≤ _; omega⟩ (Nat.lt_succ_self _)
    have z3 : (#[109] : Array UInt8).size + (digs k.toNat k ⟨#[]⟩).size ≤ 9223372036854775807 := by
      have := digs_size k.toNat k ⟨#[]⟩
      show 1 + _ ≤ _
      have e2 : (ByteArray.mk #[]).size = 0 := rfl
      omega
    simp only [go_sem, reduceIte, ↓reduceIte, reduceCtorEq, nA, nS, nM, nB, nE, nL, nT, nN, iL, iT, iE, iA, iM, iS, iG, iB, iN, iZ, h, hk, l1, z3]) (rfl)
noncomputable def s101 : SP Tryz.prog := mkS tyA 101 Tryz.f101 [s203] { md := [.mv, .ro 1], rg := [(0, [0, 1], []), (1, [0, 1, 5], []), (2, [0, 1, 5, 9], []), (3, [0, 1, 5], []), (4, [0, 1, 5], []), (5, [0, 1, 5], []), (6, [0, 1, 5], []), (7, [0, 1, 5], []), (8, [0, 4], [])], lv := [(0, [0, 1, 5], [])], out := [(0, [0, 1], [])], rets := some ([0, 4], []) } Tryz.func101 (by kernel_rfl)
@[go_sem] theorem d101 : s101.g = 101 ∧ s101.fs = ⟨[.mv, .ro 1], s101.F, false⟩ := ⟨nr rfl, nr rfl⟩
@[go_sem] theorem e101 (xs : List Header) (k : Int) (h1 : 0 ≤ k) (h0 : (mkL mkHeaderE xs k).2 ≤ 9223372036854775807) : s101.F [.sl .mut 2 (xs.map (rHeader .mut)), .i .i64 k] = some (.i .i64 (mkL mkHeaderE xs k).2, [.sl .mut 2 ((mkL mkHeaderE xs k).1.map (rHeader .mut)), .u]) := mkS_eq (xs.length + 1) rfl rfl (fun cx h => by
  have hb := loopN_eq Tryz.f101 0 _ _ rfl rfl
  have hx := mkL_cnt mkHeaderE_ge xs k
  have hr := (loop_fold (cx := cx) (blk := 0) (body := loopN Tryz.f101 0) xs (fun i (s : Int) => ⟨E [(0, .sl .mut 2 ((mkUp mkHeaderE xs k i).map (rHeader .mut))), (1, .i .i64 s), (5, .i .i64 i)], B []⟩) (fun _ => ⟨E [(0, .sl .mut 2 ((mkL mkHeaderE xs k).1.map (rHeader .mut))), (1, .i .i64 (mkL mkHeaderE xs k).2)], B []⟩) (fun x s => (mkHeaderE x s).2) (fun i s => s = mkAt mkHeaderE xs k i)
    (fun s hI G => by simp only [go_sem, reduceIte, ↓reduceIte, reduceCtorEq, nA, nS, nM, nB, nE, nL, nT, nN, iL, iT, iE, iA, iM, iS, iG, iB, iN, iZ, h, Int.lt_irrefl, hb, mkUp_len, mkL_take, mkUp_take, mkUp_end, mkL_len, hI, mkAt_end]) (fun i hk s hI => by
      have h2 : ((i : Int) < (xs.length : Int)) := Int.ofNat_lt.2 hk
      have g1 := mkAt_ge mkHeaderE_ge xs k i
      have g2 := mkAt_le mkHeaderE_ge xs k i hk
      rw [← hI] at g1 g2

      have h3 := mkUp_set (f := mkHeaderE) (rHeader .mut) xs k i hk
      rw [← hI] at h3
      simp only [mkHeaderE, rHeader] at h3 g2
      have v0 : (IntKind.i64).wrap (s) = s := wrap_id (by omega) (by omega)
      have t1 : s + 1 ≤ 9223372036854775807 := by omega
      have v1 : (IntKind.i64).wrap (s + 1) = s + 1 := wrap_id (by omega) (by omega)
      have t2 : s + 1 + 1 ≤ 9223372036854775807 := by omega
      have v2 : (IntKind.i64).wrap (s + 1 + 1) = s + 1 + 1 := wrap_id (by omega) (by omega)
      have hL : i < ((mkUp mkHeaderE xs k i).map (rHeader .mut)).length := by rw [List.length_map, mkUp_len]; exact hk
      have hg := fun y => set_get ((mkUp mkHeaderE xs k i).map (rHeader .mut)) i y hL
      have hG := fun y => set_getD ((mkUp mkHeaderE xs k i).map (rHeader .mut)) i y hL
      refine ⟨by rw [mkAt_succ xs k i hk, ← hI], _, fun G => by simp only [go_sem, reduceIte, ↓reduceIte, reduceCtorEq, nA, nS, nM, nB, nE, nL, nT, nN, iL, iT, iE, iA, iM, iS, iG, iB, iN, iZ, h, h3, hg, hG, mkUp_len (f := mkHeaderE) xs k i, mkUp_get (f := mkHeaderE) (rHeader .mut) xs k i hk, mkUp_getD (f := mkHeaderE) (rHeader .mut) xs k i hk, mkUp_take (f := mkHeaderE) (rHeader .mut) xs k i, mkB_def, v0, t1, v1, t2, v2, h2, idx_nt _ _ hk, wrap_nat1 (show i < 9223372036854775807 by omega), hb] <;> with_reducible rfl, by simp only [go_sem, reduceIte, ↓reduceIte, reduceCtorEq, nA, nS, nM, nB, nE, nL, nT, nN, iL, iT, iE, iA, iM, iS, iG, iB, iN, iZ, h, mkHeaderE]⟩) k rfl (xs.length + 1) (Nat.le_refl _)).2
  rw [hb] at hr
  simp only [go_sem, reduceIte, ↓reduceIte, reduceCtorEq, nA, nS, nM, nB, nE, nL, nT, nN, iL, iT, iE, iA, iM, iS, iG, iB, iN, iZ, h, hr, mkUp_zero]) (by simp only [go_sem, reduceIte, ↓reduceIte, reduceCtorEq, nA, nS, nM, nB, nE, nL, nT, nN, iL, iT, iE, iA, iM, iS, iG, iB, iN, iZ, okRes, hasRo])
noncomputable def s28 : SP Tryz.prog := mkS tyA 28 Tryz.f28 [s101] { md := [.mv, .ro 1], rg := [(0, [0, 1, 2], [2]), (1, [0, 1], []), (2, [0, 4], [])], rets := some ([0, 4], []), al := [2] } Tryz.func28 (by kernel_rfl)
@[go_sem] theorem d28 : s28.g = 28 ∧ s28.fs = ⟨[.mv, .ro 1], s28.F, false⟩ := ⟨nr rfl, nr rfl⟩
@[go_sem] theorem e28 (xMethod : ByteArray) (xHost : ByteArray) (xPath : ByteArray) (xHeaders : List Header) (k : Int) (h1 : 0 ≤ k) (h0 : (mkRequestV (Request.mk xMethod xHost xPath xHeaders) k).2 ≤ 9223372036854775807) : s28.F [.agg [.s xMethod, .s xHost, .s xPath, .sl .mut 2 (xHeaders.map (rHeader .mut))], .i .i64 k] = some (.i .i64 (mkRequestV (Request.mk xMethod xHost xPath xHeaders) k).2, [.agg (rRequest .mut (mkRequestV (Request.mk xMethod xHost xPath xHeaders) k).1), .u]) := mkS_eq (0) rfl rfl (fun cx h => by
  obtain ⟨q0, hq0⟩ : ∃ q, (mkL mkHeaderE xHeaders k).2 = q := ⟨_, rfl⟩
  have b0 := mkL_ge mkHeaderE_ge xHeaders k
  rw [hq0] at b0
  have p0 : 0 ≤ k := by omega
  simp only [mkRequestV_eq, hq0] at h0
  have c0 : q0 ≤ 9223372036854775807 := by omega
  have d0 : ¬ (q0 < 0) := by omega
  simp only [go_sem, reduceIte, ↓reduceIte, reduceCtorEq, nA, nS, nM, nB, nE, nL, nT, nN, iL, iT, iE, iA, iM, iS, iG, iB, iN, iZ, h, p0, c0, d0, hq0, mkRequestV_eq]) (by simp only [go_sem, reduceIte, ↓reduceIte, reduceCtorEq, nA, nS, nM, nB, nE, nL, nT, nN, iL, iT, iE, iA, iM, iS, iG, iB, iN, iZ, mkRequestV_eq, okRes, hasRo, hasRoL, hasRoLL])
noncomputable def s102 : SP Tryz.prog := mkS tyA 102 Tryz.f102 [] { md := [.mv, .ro 1], rg := [(0, [0, 1], []), (1, [0, 1, 5], []), (2, [0, 1, 5, 9], []), (3, [0, 1, 5], []), (4, [0, 1, 5], []), (5, [0, 1, 5], []), (6, [0, 4], [])], lv := [(0, [0, 1, 5], [])], out := [(0, [0, 1], [])], rets := some ([0, 4], []) } Tryz.func102 (by kernel_rfl)
@[go_sem] theorem d102 : s102.g = 102 ∧ s102.fs = ⟨[.mv, .ro 1], s102.F, false⟩ := ⟨nr rfl, nr rfl⟩
@[go_sem] theorem e102 (xs : List UInt8) (k : Int) (h1 : 0 ≤ k) (h0 : (mkL mkByte xs k).2 ≤ 9223372036854775807) : s102.F [.sl .mut 1 (xs.map rByte), .i .i64 k] = some (.i .i64 (mkL mkByte xs k).2, [.sl .mut 1 ((mkL mkByte xs k).1.map rByte), .u]) := mkS_eq (xs.length + 1) rfl rfl (fun cx h => by
  have hb := loopN_eq Tryz.f102 0 _ _ rfl rfl
  have hx := mkL_cnt mkByte_ge xs k
  have hr := (loop_fold (cx := cx) (blk := 0) (body := loopN Tryz.f102 0) xs (fun i (s : Int) => ⟨E [(0, .sl .mut 1 ((mkUp mkByte xs k i).map rByte)), (1, .i .i64 s), (5, .i .i64 i)], B []⟩) (fun _ => ⟨E [(0, .sl .mut 1 ((mkL mkByte xs k).1.map rByte)), (1, .i .i64 (mkL mkByte xs k).2)], B []⟩) (fun x s => (mkByte x s).2) (fun i s => s = mkAt mkByte xs k i)
    (fun s hI G => by simp only [go_sem, reduceIte, ↓reduceIte, reduceCtorEq, nA, nS, nM, nB, nE, nL, nT, nN, iL, iT, iE, iA, iM, iS, iG, iB, iN, iZ, h, Int.lt_irrefl, hb, mkUp_len, mkL_take, mkUp_take, mkUp_end, mkL_len, hI, mkAt_end]) (fun i hk s hI => by
      have h2 : ((i : Int) < (xs.length : Int)) := Int.ofNat_lt.2 hk
      have g1 := mkAt_ge mkByte_ge xs k i
      have g2 := mkAt_le mkByte_ge xs k i hk
      rw [← hI] at g1 g2

      have h3 := mkUp_set (f := mkByte) rByte xs k i hk
      rw [← hI] at h3
      simp only [mkByte, rByte] at h3 g2
      have v0 : (IntKind.i64).wrap (s) = s := wrap_id (by omega) (by omega)
      have v1 : (IntKind.i64).wrap (s + 1) = s + 1 := wrap_id (by omega) (by omega)
      have hL : i < ((mkUp mkByte xs k i).map rByte).length := by rw [List.length_map, mkUp_len]; exact hk
      have hg := fun y => set_get ((mkUp mkByte xs k i).map rByte) i y hL
      have hG := fun y => set_getD ((mkUp mkByte xs k i).map rByte) i y hL
      refine ⟨by rw [mkAt_succ xs k i hk, ← hI], _, fun G => by simp only [go_sem, reduceIte, ↓reduceIte, reduceCtorEq, nA, nS, nM, nB, nE, nL, nT, nN, iL, iT, iE, iA, iM, iS, iG, iB, iN, iZ, h, h3, hg, hG, mkUp_len (f := mkByte) xs k i, mkUp_get (f := mkByte) rByte xs k i hk, mkUp_getD (f := mkByte) rByte xs k i hk, mkUp_take (f := mkByte) rByte xs k i, mkB_def, v0, v1, h2, idx_nt _ _ hk, wrap_nat1 (show i < 9223372036854775807 by omega), hb] <;> with_reducible rfl, by simp only [go_sem, reduceIte, ↓reduceIte, reduceCtorEq, nA, nS, nM, nB, nE, nL, nT, nN, iL, iT, iE, iA, iM, iS, iG, iB, iN, iZ, h, mkByte]⟩) k rfl (xs.length + 1) (Nat.le_refl _)).2
  rw [hb] at hr
  simp only [go_sem, reduceIte, ↓reduceIte, reduceCtorEq, nA, nS, nM, nB, nE, nL, nT, nN, iL, iT, iE, iA, iM, iS, iG, iB, iN, iZ, h, hr, mkUp_zero]) (by simp only [go_sem, reduceIte, ↓reduceIte, reduceCtorEq, nA, nS, nM, nB, nE, nL, nT, nN, iL, iT, iE, iA, iM, iS, iG, iB, iN, iZ, okRes, hasRo])
noncomputable def s103 : SP Tryz.prog := mkS tyA 103 Tryz.f103 [s203] { md := [.mv, .ro 1], rg := [(0, [0, 1], []), (1, [0, 1, 5], []), (2, [0, 1, 5, 9], []), (3, [0, 1, 5], []), (4, [0, 1, 5], []), (5, [0, 1, 5], []), (6, [0, 4], [])], lv := [(0, [0, 1, 5], [])], out := [(0, [0, 1], [])], rets := some ([0, 4], []) } Tryz.func103 (by kernel_rfl)
@[go_sem] theorem d103 : s103.g = 103 ∧ s103.fs = ⟨[.mv, .ro 1], s103.F, false⟩ := ⟨nr rfl, nr rfl⟩
@[go_sem] theorem e103 (xs : List ByteArray) (k : Int) (h1 : 0 ≤ k) (h0 : (mkL mkStr xs k).2 ≤ 9223372036854775807) : s103.F [.sl .mut 1 (xs.map rStr), .i .i64 k] = some (.i .i64 (mkL mkStr xs k).2, [.sl .mut 1 ((mkL mkStr xs k).1.map rStr), .u]) := mkS_eq (xs.length + 1) rfl rfl (fun cx h => by
  have hb := loopN_eq Tryz.f103 0 _ _ rfl rfl
  have hx := mkL_cnt mkStr_ge xs k
  have hr := (loop_fold (cx := cx) (blk := 0) (body := loopN Tryz.f103 0) xs (fun i (s : Int) => ⟨E [(0, .sl .mut 1 ((mkUp mkStr xs k i).map rStr)), (1, .i .i64 s), (5, .i .i64 i)], B []⟩) (fun _ => ⟨E [(0, .sl .mut 1 ((mkL mkStr xs k).1.map rStr)), (1, .i .i64 (mkL mkStr xs k).2)], B []⟩) (fun x s => (mkStr x s).2) (fun i s => s = mkAt mkStr xs k i)
    (fun s hI G => by simp only [go_sem, reduceIte, ↓reduceIte, reduceCtorEq, nA, nS, nM, nB, nE, nL, nT, nN, iL, iT, iE, iA, iM, iS, iG, iB, iN, iZ, h, Int.lt_irrefl, hb, mkUp_len, mkL_take, mkUp_take, mkUp_end, mkL_len, hI, mkAt_end]) (fun i hk s hI => by
      have h2 : ((i : Int) < (xs.length : Int)) := Int.ofNat_lt.2 hk
      have g1 := mkAt_ge mkStr_ge xs k i
      have g2 := mkAt_le mkStr_ge xs k i hk
      rw [← hI] at g1 g2

      have h3 := mkUp_set (f := mkStr) rStr xs k i hk
      rw [← hI] at h3
      simp only [mkStr, rStr] at h3 g2
      have v0 : (IntKind.i64).wrap (s) = s := wrap_id (by omega) (by omega)
      have t1 : s + 1 ≤ 9223372036854775807 := by omega
      have v1 : (IntKind.i64).wrap (s + 1) = s + 1 := wrap_id (by omega) (by omega)
      have hL : i < ((mkUp mkStr xs k i).map rStr).length := by rw [List.length_map, mkUp_len]; exact hk
      have hg := fun y => set_get ((mkUp mkStr xs k i).map rStr) i y hL
      have hG := fun y => set_getD ((mkUp mkStr xs k i).map rStr) i y hL
      refine ⟨by rw [mkAt_succ xs k i hk, ← hI], _, fun G => by simp only [go_sem, reduceIte, ↓reduceIte, reduceCtorEq, nA, nS, nM, nB, nE, nL, nT, nN, iL, iT, iE, iA, iM, iS, iG, iB, iN, iZ, h, h3, hg, hG, mkUp_len (f := mkStr) xs k i, mkUp_get (f := mkStr) rStr xs k i hk, mkUp_getD (f := mkStr) rStr xs k i hk, mkUp_take (f := mkStr) rStr xs k i, mkB_def, v0, t1, v1, h2, idx_nt _ _ hk, wrap_nat1 (show i < 9223372036854775807 by omega), hb] <;> with_reducible rfl, by simp only [go_sem, reduceIte, ↓reduceIte, reduceCtorEq, nA, nS, nM, nB, nE, nL, nT, nN, iL, iT, iE, iA, iM, iS, iG, iB, iN, iZ, h, mkStr]⟩) k rfl (xs.length + 1) (Nat.le_refl _)).2
  rw [hb] at hr
  simp only [go_sem, reduceIte, ↓reduceIte, reduceCtorEq, nA, nS, nM, nB, nE, nL, nT, nN, iL, iT, iE, iA, iM, iS, iG, iB, iN, iZ, h, hr, mkUp_zero]) (by simp only [go_sem, reduceIte, ↓reduceIte, reduceCtorEq, nA, nS, nM, nB, nE, nL, nT, nN, iL, iT, iE, iA, iM, iS, iG, iB, iN, iZ, okRes, hasRo])
noncomputable def s29 : SP Tryz.prog := mkS tyA 29 Tryz.f29 [s101, s102, s103] { md := [.mv, .ro 1], rg := [(0, [0, 1, 2], [2]), (1, [0, 1, 2], [2]), (2, [0, 1, 2], [2]), (3, [0, 1], []), (4, [0, 4], [])], rets := some ([0, 4], []), al := [2] } Tryz.func29 (by kernel_rfl)
@[go_sem] theorem d29 : s29.g = 29 ∧ s29.fs = ⟨[.mv, .ro 1], s29.F, false⟩ := ⟨nr rfl, nr rfl⟩
@[go_sem] theorem e29 (xKey : ByteArray) (xStatus : Int) (xHeaders : List Header) (xBody : List UInt8) (xMetaAt : Int) (xMetaAge : Int) (xMetaLife : Int) (xMetaSwr : Int) (xMetaSie : Int) (xMetaSoft : Bool) (xMetaNoCache : Bool) (xTags : List ByteArray) (xPins : Int) (k : Int) (h1 : 0 ≤ k) (h0 : (mkEntryV (Entry.mk xKey xStatus xHeaders xBody (Meta.mk xMetaAt xMetaAge xMetaLife xMetaSwr xMetaSie xMetaSoft xMetaNoCache) xTags xPins) k).2 ≤ 9223372036854775807) : s29.F [.agg [.s xKey, .i .i64 xStatus, .sl .mut 2 (xHeaders.map (rHeader .mut)), .sl .mut 1 (xBody.map rByte), .i .i64 xMetaAt, .i .i64 xMetaAge, .i .i64 xMetaLife, .i .i64 xMetaSwr, .i .i64 xMetaSie, .b xMetaSoft, .b xMetaNoCache, .sl .mut 1 (xTags.map rStr), .i .i64 xPins], .i .i64 k] = some (.i .i64 (mkEntryV (Entry.mk xKey xStatus xHeaders xBody (Meta.mk xMetaAt xMetaAge xMetaLife xMetaSwr xMetaSie xMetaSoft xMetaNoCache) xTags xPins) k).2, [.agg (rEntry .mut (mkEntryV (Entry.mk xKey xStatus xHeaders xBody (Meta.mk xMetaAt xMetaAge xMetaLife xMetaSwr xMetaSie xMetaSoft xMetaNoCache) xTags xPins) k).1), .u]) := mkS_eq (0) rfl rfl (fun cx h => by
  obtain ⟨q0, hq0⟩ : ∃ q, (mkL mkHeaderE xHeaders k).2 = q := ⟨_, rfl⟩
  have b0 := mkL_ge mkHeaderE_ge xHeaders k
  rw [hq0] at b0
  have p0 : 0 ≤ k := by omega
  obtain ⟨q1, hq1⟩ : ∃ q, (mkL mkByte xBody q0).2 = q := ⟨_, rfl⟩
  have b1 := mkL_ge mkByte_ge xBody q0
  rw [hq1] at b1
  have p1 : 0 ≤ q0 := by omega
  obtain ⟨q2, hq2⟩ : ∃ q, (mkL mkStr xTags q1).2 = q := ⟨_, rfl⟩
  have b2 := mkL_ge mkStr_ge xTags q1
  rw [hq2] at b2
  have p2 : 0 ≤ q1 := by omega
  simp only [mkEntryV_eq, hq0, hq1, hq2] at h0
  have c0 : q0 ≤ 9223372036854775807 := by omega
  have d0 : ¬ (q0 < 0) := by omega
  have c1 : q1 ≤ 9223372036854775807 := by omega
  have d1 : ¬ (q1 < 0) := by omega
  have c2 : q2 ≤ 9223372036854775807 := by omega
  have d2 : ¬ (q2 < 0) := by omega
  simp only [go_sem, reduceIte, ↓reduceIte, reduceCtorEq, nA, nS, nM, nB, nE, nL, nT, nN, iL, iT, iE, iA, iM, iS, iG, iB, iN, iZ, h, p0, p1, p2, c0, d0, c1, d1, c2, d2, hq0, hq1, hq2, mkEntryV_eq]) (by simp only [go_sem, reduceIte, ↓reduceIte, reduceCtorEq, nA, nS, nM, nB, nE, nL, nT, nN, iL, iT, iE, iA, iM, iS, iG, iB, iN, iZ, mkEntryV_eq, okRes, hasRo, hasRoL, hasRoLL])
noncomputable def s30 : SP Tryz.prog := mkS tyA 30 Tryz.f30 [s28] { md := [.mv, .ro 1], rg := [(0, [0, 1, 2], [2]), (1, [0, 1], []), (2, [0, 4], [])], rets := some ([0, 4], []), al := [2] } Tryz.func30 (by kernel_rfl)
@[go_sem] theorem d30 : s30.g = 30 ∧ s30.fs = ⟨[.mv, .ro 1], s30.F, false⟩ := ⟨nr rfl, nr rfl⟩
@[go_sem] theorem e30 (xCode : Int) (xRequestMethod : ByteArray) (xRequestHost : ByteArray) (xRequestPath : ByteArray) (xRequestHeaders : List Header) (k : Int) (h1 : 0 ≤ k) (h0 : (mkRequestResultV (RequestResult.mk xCode (Request.mk xRequestMethod xRequestHost xRequestPath xRequestHeaders)) k).2 ≤ 9223372036854775807) : s30.F [.agg [.i .i64 xCode, .s xRequestMethod, .s xRequestHost, .s xRequestPath, .sl .mut 2 (xRequestHeaders.map (rHeader .mut))], .i .i64 k] = some (.i .i64 (mkRequestResultV (RequestResult.mk xCode (Request.mk xRequestMethod xRequestHost xRequestPath xRequestHeaders)) k).2, [.agg (rRequestResult .mut (mkRequestResultV (RequestResult.mk xCode (Request.mk xRequestMethod xRequestHost xRequestPath xRequestHeaders)) k).1), .u]) := mkS_eq (0) rfl rfl (fun cx h => by
  obtain ⟨q0, hq0⟩ : ∃ q, (mkRequestV (Request.mk xRequestMethod xRequestHost xRequestPath xRequestHeaders) k).2 = q := ⟨_, rfl⟩
  have b0 := mkRequestV_ge (Request.mk xRequestMethod xRequestHost xRequestPath xRequestHeaders) k
  rw [hq0] at b0
  have p0 : 0 ≤ k := by omega
  simp only [mkRequestResultV_eq, hq0] at h0
  have c0 : q0 ≤ 9223372036854775807 := by omega
  have d0 : ¬ (q0 < 0) := by omega
  simp only [go_sem, reduceIte, ↓reduceIte, reduceCtorEq, nA, nS, nM, nB, nE, nL, nT, nN, iL, iT, iE, iA, iM, iS, iG, iB, iN, iZ, h, p0, c0, d0, hq0, mkRequestResultV_eq]
  simp only [mkRequestV_eq]) (by simp only [go_sem, reduceIte, ↓reduceIte, reduceCtorEq, nA, nS, nM, nB, nE, nL, nT, nN, iL, iT, iE, iA, iM, iS, iG, iB, iN, iZ, mkRequestResultV_eq, okRes, hasRo, hasRoL, hasRoLL])
end Go.Vm.A
