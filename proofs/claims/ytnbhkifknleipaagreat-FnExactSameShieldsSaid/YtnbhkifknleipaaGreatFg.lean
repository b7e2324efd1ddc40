/- Functions of the program, walked by the evaluator. -/
import Derived.Test.YtnbhkifknleipaaGreatWb
import Derived.Test.YtnbhkifknleipaaGreatWa
import Derived.Test.YtnbhkifknleipaaGreatFf
set_option autoImplicit false
set_option maxRecDepth 100000
set_option maxHeartbeats 4000000
set_option linter.unusedVariables false
set_option linter.unusedSimpArgs false
namespace Go.Vm.A
open Go.Proofs
open Nat renaming reduceAdd → nA, reduceSub → nS, reduceMul → nM, reduceBEq → nB, reduceEqDiff → nE, reduceLeDiff → nL, reduceLT → nT, reduceBneDiff → nN
open Int renaming reduceLE → iL, reduceLT → iT, reduceEq → iE, reduceAdd → iA, reduceMul → iM, reduceSub → iS, reduceNeg → iG, reduceBEq → iB, reduceBNe → iN, reduceToNat → iZ

noncomputable def s71 : SP Tryz.prog := mkS tyA 71 Tryz.f71 [] { md := [.ro 1, .ro 1], rg := [(0, [0, 1], []), (1, [0, 1, 10], []), (2, [4], []), (3, [0, 1, 12, 13], []), (4, [0, 1, 12, 13, 14], []), (5, [0, 1, 5, 12, 13], []), (6, [0, 1, 12, 13, 24], []), (7, [4], []), (8, [0, 1, 12, 13], []), (9, [4], [])], lv := [(0, [0, 1, 12, 13], [])], out := [(0, [], [])], rets := some ([4], []), plan := [(6, (.take 0 (.take 1 (.take 2 (.take 3 (.take 4 (.take 5 (.take 6 (.take 7 (.take 8 .done))))))))))] } Tryz.func71 (by kernel_rfl)
@[go_sem] theorem d71 : s71.g = 71 ∧ s71.fs = ⟨[.ro 1, .ro 1], s71.F, false⟩ := ⟨nr rfl, nr rfl⟩
@[go_sem] theorem e71 (xs ys : List Header) (h0 : smL smHeader xs) : s71.F [.sl .ro 2 (xs.map (rHeader .ro)), .sl .ro 2 (ys.map (rHeader .ro))] = some (.b (eqv xs ys), [.u, .u]) := mkS_eq (xs.length + 1) rfl rfl (fun cx h => by
  have hx := h0.1
  by_cases hl : xs.length = ys.length
  · have hb0 := loopN_eq Tryz.f71 0 _ _ rfl rfl
    obtain ⟨r, hr, hq⟩ := loop_srch (cx := cx) (blk := 0) (body := loopN Tryz.f71 0) (xs.zip ys) (fun k (s : Unit) => ⟨E [(0, .sl .ro 2 (xs.map (rHeader .ro))), (1, .sl .ro 2 (ys.map (rHeader .ro))), (12, .i .i64 xs.length), (13, .i .i64 k)], B []⟩) (fun s => ⟨E [], B []⟩) (fun x s => !eqv x.1 x.2) (fun x s => s) (fun x s => (.ret, ⟨E [(4, .b false)], B []⟩)) (fun k s => True)
        (fun s hI G => by simp only [go_sem, reduceIte, ↓reduceIte, reduceCtorEq, nA, nS, nM, nB, nE, nL, nT, nN, iL, iT, iE, iA, iM, iS, iG, iB, iN, iZ, h, Int.lt_irrefl, hb0, zip_len hl, hl]) (fun k hk s hI => by
          have h1 : ((k : Int) < ((xs.zip ys).length : Int)) := Int.ofNat_lt.2 hk
          have hk' : k < xs.length := by rwa [zip_len hl] at hk
          have h1' : ((k : Int) < (xs.length : Int)) := Int.ofNat_lt.2 hk'
          have h2 := h0.2 _ (List.getElem_mem hk')
          have h3 : (xs.zip ys)[k] = (xs[k], ys[k]'(by omega)) := by simp
          rw [h3]
          have h4 := h2
          obtain ⟨u0, u1⟩ := h2
          exact ⟨_, _, _, fun G => by simp only [go_sem, reduceIte, ↓reduceIte, reduceCtorEq, nA, nS, nM, nB, nE, nL, nT, nN, iL, iT, iE, iA, iM, iS, iG, iB, iN, iZ, h, h1', idx_nt _ _ hk', idx_nt ys.length k (by omega), map_gd (rHeader .ro) xs k hk', map_gd (rHeader .ro) ys k (by omega), wrap_nat1 (show k < 9223372036854775807 by omega), h4, if_oret, Header.eqv xs[k] (ys[k]'(by omega)), u0, u1, eqv_byte, eqv_intne, eqv_int, eqv_bytes, eqv_boolne, h1, idx_nt _ _ hk, wrap_nat1 (show k < 9223372036854775807 by omega), hb0] <;> with_reducible rfl, by first | exact Iff.rfl | ((simp only [Header.eqv xs[k] (ys[k]'(by omega))] <;> simp) <;> done) | ((simp only [Header.eqv xs[k] (ys[k]'(by omega))] <;> simp [eqv]) <;> done) | (simp only [Header.eqv xs[k] (ys[k]'(by omega))] <;> simp [eqv] <;> (by_cases g : xs[k].Get = (ys[k]'(by omega)).Get <;> simp [g])), fun hc => ⟨trivial, by simp only [go_sem, reduceIte, ↓reduceIte, reduceCtorEq, nA, nS, nM, nB, nE, nL, nT, nN, iL, iT, iE, iA, iM, iS, iG, iB, iN, iZ, h]⟩⟩) () trivial (xs.length + 1) (by rw [zip_len hl]; exact Nat.le_refl _)
    rw [hb0] at hr
    have hl2 : ((xs.length : Int) != (ys.length : Int)) = false := by simp [hl]
    rcases hq with ⟨s', e1, _, e3⟩ | ⟨x, s', e1, e3⟩
    · simp only [go_sem, reduceIte, ↓reduceIte, reduceCtorEq, nA, nS, nM, nB, nE, nL, nT, nN, iL, iT, iE, iA, iM, iS, iG, iB, iN, iZ, h, hl2, hr, e3, zip_eqv hl e1]
    · simp only [go_sem, reduceIte, ↓reduceIte, reduceCtorEq, nA, nS, nM, nB, nE, nL, nT, nN, iL, iT, iE, iA, iM, iS, iG, iB, iN, iZ, h, hl2, hr, e3, zip_nev hl e1]
  · have hl2 : ((xs.length : Int) != (ys.length : Int)) = true := by simpa using fun h => hl (Int.ofNat_inj.1 h)
    simp only [go_sem, reduceIte, ↓reduceIte, reduceCtorEq, nA, nS, nM, nB, nE, nL, nT, nN, iL, iT, iE, iA, iM, iS, iG, iB, iN, iZ, h, hl2, len_nev hl]) (rfl)
noncomputable def s72 : SP Tryz.prog := mkS tyA 72 Tryz.f72 [] { md := [.ro 1, .ro 1], rets := some ([4], []) } Tryz.func72 (by kernel_rfl)
@[go_sem] theorem d72 : s72.g = 72 ∧ s72.fs = ⟨[.ro 1, .ro 1], s72.F, false⟩ := ⟨nr rfl, nr rfl⟩
@[go_sem] theorem e72 (x : List UInt8) (y : List UInt8) : s72.F [.sl .ro 1 (x.map rByte), .sl .ro 1 (y.map rByte)] = some (.b (eqv x y), [.u, .u]) := mkS_eq (0) rfl rfl (fun cx h => by
  simp only [go_sem, reduceIte, ↓reduceIte, reduceCtorEq, nA, nS, nM, nB, nE, nL, nT, nN, iL, iT, iE, iA, iM, iS, iG, iB, iN, iZ, h, eqv_bytes, eqv_mk]) (rfl)
noncomputable def s48 : SP Tryz.prog := mkS tyA 48 Tryz.f48 [s46, s71, s72] { md := [.ro 1, .ro 1], rets := some ([4], []) } Tryz.func48 (by kernel_rfl)
@[go_sem] theorem d48 : s48.g = 48 ∧ s48.fs = ⟨[.ro 1, .ro 1], s48.F, false⟩ := ⟨nr rfl, nr rfl⟩
@[go_sem] theorem e48 (xKey : ByteArray) (xStatus : Int) (xHeaders : List Header) (xBody : List UInt8) (xMetaAt : Int) (xMetaAge : Int) (xMetaLife : Int) (xMetaSwr : Int) (xMetaSie : Int) (xMetaSoft : Bool) (xMetaNoCache : Bool) (xTags : List ByteArray) (xPins : Int) (yKey : ByteArray) (yStatus : Int) (yHeaders : List Header) (yBody : List UInt8) (yMetaAt : Int) (yMetaAge : Int) (yMetaLife : Int) (yMetaSwr : Int) (yMetaSie : Int) (yMetaSoft : Bool) (yMetaNoCache : Bool) (yTags : List ByteArray) (yPins : Int) (h0 : smEntry (Entry.mk xKey xStatus xHeaders xBody (Meta.mk xMetaAt xMetaAge xMetaLife xMetaSwr xMetaSie xMetaSoft xMetaNoCache) xTags xPins)) : s48.F [.agg [.s xKey, .i .i64 xStatus, .sl .ro 2 (xHeaders.map (rHeader .ro)), .sl .ro 1 (xBody.map rByte), .i .i64 xMetaAt, .i .i64 xMetaAge, .i .i64 xMetaLife, .i .i64 xMetaSwr, .i .i64 xMetaSie, .b xMetaSoft, .b xMetaNoCache, .sl .ro 1 (xTags.map rStr), .i .i64 xPins], .agg [.s yKey, .i .i64 yStatus, .sl .ro 2 (yHeaders.map (rHeader .ro)), .sl .ro 1 (yBody.map rByte), .i .i64 yMetaAt, .i .i64 yMetaAge, .i .i64 yMetaLife, .i .i64 yMetaSwr, .i .i64 yMetaSie, .b yMetaSoft, .b yMetaNoCache, .sl .ro 1 (yTags.map rStr), .i .i64 yPins]] = some (.b (eqv (Entry.mk xKey xStatus xHeaders xBody (Meta.mk xMetaAt xMetaAge xMetaLife xMetaSwr xMetaSie xMetaSoft xMetaNoCache) xTags xPins) (Entry.mk yKey yStatus yHeaders yBody (Meta.mk yMetaAt yMetaAge yMetaLife yMetaSwr yMetaSie yMetaSoft yMetaNoCache) yTags yPins)), [.u, .u]) := mkS_eq (0) rfl rfl (fun cx h => by
  obtain ⟨q0, q1, q2, q3, q4, q5, q6⟩ := h0
  simp only [go_sem, reduceIte, ↓reduceIte, reduceCtorEq, nA, nS, nM, nB, nE, nL, nT, nN, iL, iT, iE, iA, iM, iS, iG, iB, iN, iZ, h, eqv_intne, eqv_int, eqv_bytes, eqv_boolne, eqv_bool, eqv_mk, q0, q1, q2, q3, q4, q5, q6]
  simp only [Entry.eqv (Entry.mk xKey xStatus xHeaders xBody (Meta.mk xMetaAt xMetaAge xMetaLife xMetaSwr xMetaSie xMetaSoft xMetaNoCache) xTags xPins) (Entry.mk yKey yStatus yHeaders yBody (Meta.mk yMetaAt yMetaAge yMetaLife yMetaSwr yMetaSie yMetaSoft yMetaNoCache) yTags yPins), Meta.eqv, if_sb, if_and', if_or', Bool.and_true, Bool.and_assoc]) (rfl)
noncomputable def s47 : SP Tryz.prog := mkS tyA 47 Tryz.f47 [s48] { md := [.ro 1, .ro 1, .ro 1], rg := [(0, [0, 1, 2], []), (1, [0, 1, 2, 14], []), (2, [6], []), (3, [0, 1, 2, 15, 16, 17], []), (4, [0, 1, 2, 15, 16, 17, 18], []), (5, [0, 1, 2, 7, 8, 15, 16, 17], [8]), (6, [0, 1, 2, 8, 9, 15, 16, 17, 22], [8, 9]), (7, [0, 1, 2, 15, 16, 17, 30], []), (8, [6], []), (9, [0, 1, 2, 15, 16, 17], []), (10, [6], [])], lv := [(0, [0, 1, 2, 15, 16, 17], [])], out := [(0, [], [])], rets := some ([6], []) } Tryz.func47 (by kernel_rfl)
@[go_sem] theorem d47 : s47.g = 47 ∧ s47.fs = ⟨[.ro 1, .ro 1, .ro 1], s47.F, false⟩ := ⟨nr rfl, nr rfl⟩
@[go_sem] theorem e47 (xs ys : List Entry) (h0 : smL smEntry xs) : s47.F [.sl .ro 13 (xs.map (rEntry .ro)), .sl .ro 13 (ys.map (rEntry .ro)), .fn 48 []] = some (.b (eqv xs ys), [.u, .u, .u]) := mkS_eq (xs.length + 1) rfl rfl (fun cx h => by
  have hx := h0.1
  by_cases hl : xs.length = ys.length
  · have hb0 := loopN_eq Tryz.f47 0 _ _ rfl rfl
    obtain ⟨r, hr, hq⟩ := loop_srch (cx := cx) (blk := 0) (body := loopN Tryz.f47 0) (xs.zip ys) (fun k (s : Unit) => ⟨E [(0, .sl .ro 13 (xs.map (rEntry .ro))), (1, .sl .ro 13 (ys.map (rEntry .ro))), (2, .fn 48 []), (15, .sl .ro 13 (xs.map (rEntry .ro))), (16, .i .i64 xs.length), (17, .i .i64 k)], B []⟩) (fun s => ⟨E [], B []⟩) (fun x s => !eqv x.1 x.2) (fun x s => s) (fun x s => (.ret, ⟨E [(6, .b false)], B []⟩)) (fun k s => True)
        (fun s hI G => by simp only [go_sem, reduceIte, ↓reduceIte, reduceCtorEq, nA, nS, nM, nB, nE, nL, nT, nN, iL, iT, iE, iA, iM, iS, iG, iB, iN, iZ, h, Int.lt_irrefl, hb0, zip_len hl, hl]) (fun k hk s hI => by
          have h1 : ((k : Int) < ((xs.zip ys).length : Int)) := Int.ofNat_lt.2 hk
          have hk' : k < xs.length := by rwa [zip_len hl] at hk
          have h1' : ((k : Int) < (xs.length : Int)) := Int.ofNat_lt.2 hk'
          have h2 := h0.2 _ (List.getElem_mem hk')
          have h3 : (xs.zip ys)[k] = (xs[k], ys[k]'(by omega)) := by simp
          rw [h3]
          have h4 := h2
          obtain ⟨u0, u1, u2, u3, u4, u5, u6⟩ := h2
          exact ⟨_, _, _, fun G => by simp only [go_sem, reduceIte, ↓reduceIte, reduceCtorEq, nA, nS, nM, nB, nE, nL, nT, nN, iL, iT, iE, iA, iM, iS, iG, iB, iN, iZ, h, h1', idx_nt _ _ hk', idx_nt ys.length k (by omega), map_gd (rEntry .ro) xs k hk', map_gd (rEntry .ro) ys k (by omega), wrap_nat1 (show k < 9223372036854775807 by omega), h4, if_oret, Entry.eqv xs[k] (ys[k]'(by omega)), u0, u1, u2, u3, u4, u5, u6, eqv_byte, eqv_intne, eqv_int, eqv_bytes, eqv_boolne, h1, idx_nt _ _ hk, wrap_nat1 (show k < 9223372036854775807 by omega), hb0] <;> with_reducible rfl, by first | exact Iff.rfl | ((simp only [Entry.eqv xs[k] (ys[k]'(by omega))] <;> simp) <;> done) | ((simp only [Entry.eqv xs[k] (ys[k]'(by omega))] <;> simp [eqv]) <;> done) | (simp only [Entry.eqv xs[k] (ys[k]'(by omega))] <;> simp [eqv] <;> (by_cases g : xs[k].Get = (ys[k]'(by omega)).Get <;> simp [g])), fun hc => ⟨trivial, by simp only [go_sem, reduceIte, ↓reduceIte, reduceCtorEq, nA, nS, nM, nB, nE, nL, nT, nN, iL, iT, iE, iA, iM, iS, iG, iB, iN, iZ, h]⟩⟩) () trivial (xs.length + 1) (by rw [zip_len hl]; exact Nat.le_refl _)
    rw [hb0] at hr
    have hl2 : ((xs.length : Int) != (ys.length : Int)) = false := by simp [hl]
    rcases hq with ⟨s', e1, _, e3⟩ | ⟨x, s', e1, e3⟩
    · simp only [go_sem, reduceIte, ↓reduceIte, reduceCtorEq, nA, nS, nM, nB, nE, nL, nT, nN, iL, iT, iE, iA, iM, iS, iG, iB, iN, iZ, h, hl2, hr, e3, zip_eqv hl e1]
    · simp only [go_sem, reduceIte, ↓reduceIte, reduceCtorEq, nA, nS, nM, nB, nE, nL, nT, nN, iL, iT, iE, iA, iM, iS, iG, iB, iN, iZ, h, hl2, hr, e3, zip_nev hl e1]
  · have hl2 : ((xs.length : Int) != (ys.length : Int)) = true := by simpa using fun h => hl (Int.ofNat_inj.1 h)
    simp only [go_sem, reduceIte, ↓reduceIte, reduceCtorEq, nA, nS, nM, nB, nE, nL, nT, nN, iL, iT, iE, iA, iM, iS, iG, iB, iN, iZ, h, hl2, len_nev hl]) (rfl)
noncomputable def s23 : SP Tryz.prog := mkS tyA 23 Tryz.f23 [s47, s48] { md := [.ro 1, .ro 1], rets := some ([4], []) } Tryz.func23 (by kernel_rfl)
@[go_sem] theorem d23 : s23.g = 23 ∧ s23.fs = ⟨[.ro 1, .ro 1], s23.F, false⟩ := ⟨nr rfl, nr rfl⟩
@[go_sem] theorem e23 (xBudget : Int) (xGuard : Int) (xTrial : List Entry) (xKept : List Entry) (yBudget : Int) (yGuard : Int) (yTrial : List Entry) (yKept : List Entry) (h0 : smStore (Store.mk xBudget xGuard xTrial xKept)) : s23.F [.agg [.i .i64 xBudget, .i .i64 xGuard, .sl .ro 13 (xTrial.map (rEntry .ro)), .sl .ro 13 (xKept.map (rEntry .ro))], .agg [.i .i64 yBudget, .i .i64 yGuard, .sl .ro 13 (yTrial.map (rEntry .ro)), .sl .ro 13 (yKept.map (rEntry .ro))]] = some (.b (eqv (Store.mk xBudget xGuard xTrial xKept) (Store.mk yBudget yGuard yTrial yKept)), [.u, .u]) := mkS_eq (0) rfl rfl (fun cx h => by
  obtain ⟨q0, q1, q2, q3⟩ := h0
  simp only [go_sem, reduceIte, ↓reduceIte, reduceCtorEq, nA, nS, nM, nB, nE, nL, nT, nN, iL, iT, iE, iA, iM, iS, iG, iB, iN, iZ, h, eqv_intne, eqv_int, eqv_bytes, eqv_boolne, eqv_bool, eqv_mk, q0, q1, q2, q3]
  simp only [Store.eqv (Store.mk xBudget xGuard xTrial xKept) (Store.mk yBudget yGuard yTrial yKept), if_sb, if_and', if_or', Bool.and_true, Bool.and_assoc]) (rfl)
noncomputable def s73 : SP Tryz.prog := mkS tyA 73 Tryz.f73 [] { md := [.ro 1, .ro 1], rg := [(0, [0, 1], []), (1, [0, 1, 10], []), (2, [4], []), (3, [0, 1, 12, 13], []), (4, [0, 1, 12, 13, 14], []), (5, [0, 1, 5, 12, 13], []), (6, [0, 1, 12, 13, 24], []), (7, [4], []), (8, [0, 1, 12, 13], []), (9, [4], [])], lv := [(0, [0, 1, 12, 13], [])], out := [(0, [], [])], rets := some ([4], []), plan := [(6, (.take 0 (.take 1 (.take 2 (.take 3 (.take 4 (.take 5 (.take 6 (.take 7 (.take 8 .done))))))))))] } Tryz.func73 (by kernel_rfl)
@[go_sem] theorem d73 : s73.g = 73 ∧ s73.fs = ⟨[.ro 1, .ro 1], s73.F, false⟩ := ⟨nr rfl, nr rfl⟩
@[go_sem] theorem e73 (xs ys : List Wait) (h0 : smL smWait xs) : s73.F [.sl .ro 2 (xs.map (rWait .ro)), .sl .ro 2 (ys.map (rWait .ro))] = some (.b (eqv xs ys), [.u, .u]) := mkS_eq (xs.length + 1) rfl rfl (fun cx h => by
  have hx := h0.1
  by_cases hl : xs.length = ys.length
  · have hb0 := loopN_eq Tryz.f73 0 _ _ rfl rfl
    obtain ⟨r, hr, hq⟩ := loop_srch (cx := cx) (blk := 0) (body := loopN Tryz.f73 0) (xs.zip ys) (fun k (s : Unit) => ⟨E [(0, .sl .ro 2 (xs.map (rWait .ro))), (1, .sl .ro 2 (ys.map (rWait .ro))), (12, .i .i64 xs.length), (13, .i .i64 k)], B []⟩) (fun s => ⟨E [], B []⟩) (fun x s => !eqv x.1 x.2) (fun x s => s) (fun x s => (.ret, ⟨E [(4, .b false)], B []⟩)) (fun k s => True)
        (fun s hI G => by simp only [go_sem, reduceIte, ↓reduceIte, reduceCtorEq, nA, nS, nM, nB, nE, nL, nT, nN, iL, iT, iE, iA, iM, iS, iG, iB, iN, iZ, h, Int.lt_irrefl, hb0, zip_len hl, hl]) (fun k hk s hI => by
          have h1 : ((k : Int) < ((xs.zip ys).length : Int)) := Int.ofNat_lt.2 hk
          have hk' : k < xs.length := by rwa [zip_len hl] at hk
          have h1' : ((k : Int) < (xs.length : Int)) := Int.ofNat_lt.2 hk'
          have h2 := h0.2 _ (List.getElem_mem hk')
          have h3 : (xs.zip ys)[k] = (xs[k], ys[k]'(by omega)) := by simp
          rw [h3]
          have h4 := h2
          obtain ⟨u0, u1⟩ := h2
          exact ⟨_, _, _, fun G => by simp only [go_sem, reduceIte, ↓reduceIte, reduceCtorEq, nA, nS, nM, nB, nE, nL, nT, nN, iL, iT, iE, iA, iM, iS, iG, iB, iN, iZ, h, h1', idx_nt _ _ hk', idx_nt ys.length k (by omega), map_gd (rWait .ro) xs k hk', map_gd (rWait .ro) ys k (by omega), wrap_nat1 (show k < 9223372036854775807 by omega), h4, if_oret, Wait.eqv xs[k] (ys[k]'(by omega)), u0, u1, eqv_byte, eqv_intne, eqv_int, eqv_bytes, eqv_boolne, h1, idx_nt _ _ hk, wrap_nat1 (show k < 9223372036854775807 by omega), hb0] <;> with_reducible rfl, by first | exact Iff.rfl | ((simp only [Wait.eqv xs[k] (ys[k]'(by omega))] <;> simp) <;> done) | ((simp only [Wait.eqv xs[k] (ys[k]'(by omega))] <;> simp [eqv]) <;> done) | (simp only [Wait.eqv xs[k] (ys[k]'(by omega))] <;> simp [eqv] <;> (by_cases g : xs[k].Get = (ys[k]'(by omega)).Get <;> simp [g])), fun hc => ⟨trivial, by simp only [go_sem, reduceIte, ↓reduceIte, reduceCtorEq, nA, nS, nM, nB, nE, nL, nT, nN, iL, iT, iE, iA, iM, iS, iG, iB, iN, iZ, h]⟩⟩) () trivial (xs.length + 1) (by rw [zip_len hl]; exact Nat.le_refl _)
    rw [hb0] at hr
    have hl2 : ((xs.length : Int) != (ys.length : Int)) = false := by simp [hl]
    rcases hq with ⟨s', e1, _, e3⟩ | ⟨x, s', e1, e3⟩
    · simp only [go_sem, reduceIte, ↓reduceIte, reduceCtorEq, nA, nS, nM, nB, nE, nL, nT, nN, iL, iT, iE, iA, iM, iS, iG, iB, iN, iZ, h, hl2, hr, e3, zip_eqv hl e1]
    · simp only [go_sem, reduceIte, ↓reduceIte, reduceCtorEq, nA, nS, nM, nB, nE, nL, nT, nN, iL, iT, iE, iA, iM, iS, iG, iB, iN, iZ, h, hl2, hr, e3, zip_nev hl e1]
  · have hl2 : ((xs.length : Int) != (ys.length : Int)) = true := by simpa using fun h => hl (Int.ofNat_inj.1 h)
    simp only [go_sem, reduceIte, ↓reduceIte, reduceCtorEq, nA, nS, nM, nB, nE, nL, nT, nN, iL, iT, iE, iA, iM, iS, iG, iB, iN, iZ, h, hl2, len_nev hl]) (rfl)
noncomputable def s49 : SP Tryz.prog := mkS tyA 49 Tryz.f49 [s73] { md := [.ro 1, .ro 1], rets := some ([4], []) } Tryz.func49 (by kernel_rfl)
@[go_sem] theorem d49 : s49.g = 49 ∧ s49.fs = ⟨[.ro 1, .ro 1], s49.F, false⟩ := ⟨nr rfl, nr rfl⟩
@[go_sem] theorem e49 (xBusy : Int) (xQueue : List Wait) (yBusy : Int) (yQueue : List Wait) (h0 : smBulk (Bulk.mk xBusy xQueue)) : s49.F [.agg [.i .i64 xBusy, .sl .ro 2 (xQueue.map (rWait .ro))], .agg [.i .i64 yBusy, .sl .ro 2 (yQueue.map (rWait .ro))]] = some (.b (eqv (Bulk.mk xBusy xQueue) (Bulk.mk yBusy yQueue)), [.u, .u]) := mkS_eq (0) rfl rfl (fun cx h => by
  obtain ⟨q0, q1⟩ := h0
  simp only [go_sem, reduceIte, ↓reduceIte, reduceCtorEq, nA, nS, nM, nB, nE, nL, nT, nN, iL, iT, iE, iA, iM, iS, iG, iB, iN, iZ, h, eqv_intne, eqv_int, eqv_bytes, eqv_boolne, eqv_bool, eqv_mk, q0, q1]
  simp only [Bulk.eqv (Bulk.mk xBusy xQueue) (Bulk.mk yBusy yQueue), if_sb, if_and', if_or', Bool.and_true, Bool.and_assoc]) (rfl)
noncomputable def s74 : SP Tryz.prog := mkS tyA 74 Tryz.f74 [] { md := [.ro 1, .ro 1], rg := [(0, [0, 1], []), (1, [0, 1, 10], []), (2, [4], []), (3, [0, 1, 12, 13], []), (4, [0, 1, 12, 13, 14], []), (5, [0, 1, 5, 12, 13], []), (6, [0, 1, 12, 13, 24], []), (7, [4], []), (8, [0, 1, 12, 13], []), (9, [4], [])], lv := [(0, [0, 1, 12, 13], [])], out := [(0, [], [])], rets := some ([4], []), plan := [(6, (.take 0 (.take 1 (.take 2 (.take 3 (.take 4 (.take 5 (.take 6 (.take 7 (.take 8 .done))))))))))] } Tryz.func74 (by kernel_rfl)
@[go_sem] theorem d74 : s74.g = 74 ∧ s74.fs = ⟨[.ro 1, .ro 1], s74.F, false⟩ := ⟨nr rfl, nr rfl⟩
@[go_sem] theorem e74 (xs ys : List Mark) (h0 : smL smMark xs) : s74.F [.sl .ro 2 (xs.map (rMark .ro)), .sl .ro 2 (ys.map (rMark .ro))] = some (.b (eqv xs ys), [.u, .u]) := mkS_eq (xs.length + 1) rfl rfl (fun cx h => by
  have hx := h0.1
  by_cases hl : xs.length = ys.length
  · have hb0 := loopN_eq Tryz.f74 0 _ _ rfl rfl
    obtain ⟨r, hr, hq⟩ := loop_srch (cx := cx) (blk := 0) (body := loopN Tryz.f74 0) (xs.zip ys) (fun k (s : Unit) => ⟨E [(0, .sl .ro 2 (xs.map (rMark .ro))), (1, .sl .ro 2 (ys.map (rMark .ro))), (12, .i .i64 xs.length), (13, .i .i64 k)], B []⟩) (fun s => ⟨E [], B []⟩) (fun x s => !eqv x.1 x.2) (fun x s => s) (fun x s => (.ret, ⟨E [(4, .b false)], B []⟩)) (fun k s => True)
        (fun s hI G => by simp only [go_sem, reduceIte, ↓reduceIte, reduceCtorEq, nA, nS, nM, nB, nE, nL, nT, nN, iL, iT, iE, iA, iM, iS, iG, iB, iN, iZ, h, Int.lt_irrefl, hb0, zip_len hl, hl]) (fun k hk s hI => by
          have h1 : ((k : Int) < ((xs.zip ys).length : Int)) := Int.ofNat_lt.2 hk
          have hk' : k < xs.length := by rwa [zip_len hl] at hk
          have h1' : ((k : Int) < (xs.length : Int)) := Int.ofNat_lt.2 hk'
          have h2 := h0.2 _ (List.getElem_mem hk')
          have h3 : (xs.zip ys)[k] = (xs[k], ys[k]'(by omega)) := by simp
          rw [h3]
          have h4 := h2
          obtain ⟨u0, u1⟩ := h2
          exact ⟨_, _, _, fun G => by simp only [go_sem, reduceIte, ↓reduceIte, reduceCtorEq, nA, nS, nM, nB, nE, nL, nT, nN, iL, iT, iE, iA, iM, iS, iG, iB, iN, iZ, h, h1', idx_nt _ _ hk', idx_nt ys.length k (by omega), map_gd (rMark .ro) xs k hk', map_gd (rMark .ro) ys k (by omega), wrap_nat1 (show k < 9223372036854775807 by omega), h4, if_oret, Mark.eqv xs[k] (ys[k]'(by omega)), u0, u1, eqv_byte, eqv_intne, eqv_int, eqv_bytes, eqv_boolne, h1, idx_nt _ _ hk, wrap_nat1 (show k < 9223372036854775807 by omega), hb0] <;> with_reducible rfl, by first | exact Iff.rfl | ((simp only [Mark.eqv xs[k] (ys[k]'(by omega))] <;> simp) <;> done) | ((simp only [Mark.eqv xs[k] (ys[k]'(by omega))] <;> simp [eqv]) <;> done) | (simp only [Mark.eqv xs[k] (ys[k]'(by omega))] <;> simp [eqv] <;> (by_cases g : xs[k].Get = (ys[k]'(by omega)).Get <;> simp [g])), fun hc => ⟨trivial, by simp only [go_sem, reduceIte, ↓reduceIte, reduceCtorEq, nA, nS, nM, nB, nE, nL, nT, nN, iL, iT, iE, iA, iM, iS, iG, iB, iN, iZ, h]⟩⟩) () trivial (xs.length + 1) (by rw [zip_len hl]; exact Nat.le_refl _)
    rw [hb0] at hr
    have hl2 : ((xs.length : Int) != (ys.length : Int)) = false := by simp [hl]
    rcases hq with ⟨s', e1, _, e3⟩ | ⟨x, s', e1, e3⟩
    · simp only [go_sem, reduceIte, ↓reduceIte, reduceCtorEq, nA, nS, nM, nB, nE, nL, nT, nN, iL, iT, iE, iA, iM, iS, iG, iB, iN, iZ, h, hl2, hr, e3, zip_eqv hl e1]
    · simp only [go_sem, reduceIte, ↓reduceIte, reduceCtorEq, nA, nS, nM, nB, nE, nL, nT, nN, iL, iT, iE, iA, iM, iS, iG, iB, iN, iZ, h, hl2, hr, e3, zip_nev hl e1]
  · have hl2 : ((xs.length : Int) != (ys.length : Int)) = true := by simpa using fun h => hl (Int.ofNat_inj.1 h)
    simp only [go_sem, reduceIte, ↓reduceIte, reduceCtorEq, nA, nS, nM, nB, nE, nL, nT, nN, iL, iT, iE, iA, iM, iS, iG, iB, iN, iZ, h, hl2, len_nev hl]) (rfl)
noncomputable def s50 : SP Tryz.prog := mkS tyA 50 Tryz.f50 [s74] { md := [.ro 1, .ro 1], rets := some ([4], []) } Tryz.func50 (by kernel_rfl)
@[go_sem] theorem d50 : s50.g = 50 ∧ s50.fs = ⟨[.ro 1, .ro 1], s50.F, false⟩ := ⟨nr rfl, nr rfl⟩
@[go_sem] theorem e50 (xState : Int) (xSince : Int) (xOut : Int) (xMarks : List Mark) (yState : Int) (ySince : Int) (yOut : Int) (yMarks : List Mark) (h0 : smBreaker (Breaker.mk xState xSince xOut xMarks)) : s50.F [.agg [.i .i64 xState, .i .i64 xSince, .i .i64 xOut, .sl .ro 2 (xMarks.map (rMark .ro))], .agg [.i .i64 yState, .i .i64 ySince, .i .i64 yOut, .sl .ro 2 (yMarks.map (rMark .ro))]] = some (.b (eqv (Breaker.mk xState xSince xOut xMarks) (Breaker.mk yState ySince yOut yMarks)), [.u, .u]) := mkS_eq (0) rfl rfl (fun cx h => by
  obtain ⟨q0, q1, q2, q3⟩ := h0
  simp only [go_sem, reduceIte, ↓reduceIte, reduceCtorEq, nA, nS, nM, nB, nE, nL, nT, nN, iL, iT, iE, iA, iM, iS, iG, iB, iN, iZ, h, eqv_intne, eqv_int, eqv_bytes, eqv_boolne, eqv_bool, eqv_mk, q0, q1, q2, q3]
  simp only [Breaker.eqv (Breaker.mk xState xSince xOut xMarks) (Breaker.mk yState ySince yOut yMarks), if_sb, if_and', if_or', Bool.and_true, Bool.and_assoc]) (rfl)
noncomputable def s25 : SP Tryz.prog := mkS tyA 25 Tryz.f25 [s49, s50] { md := [.ro 1, .ro 1], rets := some ([4], []) } Tryz.func25 (by kernel_rfl)
@[go_sem] theorem d25 : s25.g = 25 ∧ s25.fs = ⟨[.ro 1, .ro 1], s25.F, false⟩ := ⟨nr rfl, nr rfl⟩
@[go_sem] theorem e25 (xHost : ByteArray) (xBulkBusy : Int) (xBulkQueue : List Wait) (xBreakerState : Int) (xBreakerSince : Int) (xBreakerOut : Int) (xBreakerMarks : List Mark) (yHost : ByteArray) (yBulkBusy : Int) (yBulkQueue : List Wait) (yBreakerState : Int) (yBreakerSince : Int) (yBreakerOut : Int) (yBreakerMarks : List Mark) (h0 : smOrigin (Origin.mk xHost (Bulk.mk xBulkBusy xBulkQueue) (Breaker.mk xBreakerState xBreakerSince xBreakerOut xBreakerMarks))) : s25.F [.agg [.s xHost, .i .i64 xBulkBusy, .sl .ro 2 (xBulkQueue.map (rWait .ro)), .i .i64 xBreakerState, .i .i64 xBreakerSince, .i .i64 xBreakerOut, .sl .ro 2 (xBreakerMarks.map (rMark .ro))], .agg [.s yHost, .i .i64 yBulkBusy, .sl .ro 2 (yBulkQueue.map (rWait .ro)), .i .i64 yBreakerState, .i .i64 yBreakerSince, .i .i64 yBreakerOut, .sl .ro 2 (yBreakerMarks.map (rMark .ro))]] = some (.b (eqv (Origin.mk xHost (Bulk.mk xBulkBusy xBulkQueue) (Breaker.mk xBreakerState xBreakerSince xBreakerOut xBreakerMarks)) (Origin.mk yHost (Bulk.mk yBulkBusy yBulkQueue) (Breaker.mk yBreakerState yBreakerSince yBreakerOut yBreakerMarks))), [.u, .u]) := mkS_eq (0) rfl rfl (fun cx h => by
  obtain ⟨q0, q1, q2⟩ := h0
  simp only [go_sem, reduceIte, ↓reduceIte, reduceCtorEq, nA, nS, nM, nB, nE, nL, nT, nN, iL, iT, iE, iA, iM, iS, iG, iB, iN, iZ, h, eqv_intne, eqv_int, eqv_bytes, eqv_boolne, eqv_bool, eqv_mk, q0, q1, q2]
  simp only [Origin.eqv (Origin.mk xHost (Bulk.mk xBulkBusy xBulkQueue) (Breaker.mk xBreakerState xBreakerSince xBreakerOut xBreakerMarks)) (Origin.mk yHost (Bulk.mk yBulkBusy yBulkQueue) (Breaker.mk yBreakerState yBreakerSince yBreakerOut yBreakerMarks)), if_sb, if_and', if_or', Bool.and_true, Bool.and_assoc]) (rfl)
noncomputable def s24 : SP Tryz.prog := mkS tyA 24 Tryz.f24 [s25] { md := [.ro 1, .ro 1, .ro 1], rg := [(0, [0, 1, 2], []), (1, [0, 1, 2, 14], []), (2, [6], []), (3, [0, 1, 2, 15, 16, 17], []), (4, [0, 1, 2, 15, 16, 17, 18], []), (5, [0, 1, 2, 7, 8, 15, 16, 17], [8]), (6, [0, 1, 2, 8, 9, 15, 16, 17, 22], [8, 9]), (7, [0, 1, 2, 15, 16, 17, 30], []), (8, [6], []), (9, [0, 1, 2, 15, 16, 17], []), (10, [6], [])], lv := [(0, [0, 1, 2, 15, 16, 17], [])], out := [(0, [], [])], rets := some ([6], []) } Tryz.func24 (by kernel_rfl)
@[go_sem] theorem d24 : s24.g = 24 ∧ s24.fs = ⟨[.ro 1, .ro 1, .ro 1], s24.F, false⟩ := ⟨nr rfl, nr rfl⟩
@[go_sem] theorem e24 (xs ys : List Origin) (h0 : smL smOrigin xs) : s24.F [.sl .ro 7 (xs.map (rOrigin .ro)), .sl .ro 7 (ys.map (rOrigin .ro)), .fn 25 []] = some (.b (eqv xs ys), [.u, .u, .u]) := mkS_eq (xs.length + 1) rfl rfl (fun cx h => by
  have hx := h0.1
  by_cases hl : xs.length = ys.length
  · have hb0 := loopN_eq Tryz.f24 0 _ _ rfl rfl
    obtain ⟨r, hr, hq⟩ := loop_srch (cx := cx) (blk := 0) (body := loopN Tryz.f24 0) (xs.zip ys) (fun k (s : Unit) => ⟨E [(0, .sl .ro 7 (xs.map (rOrigin .ro))), (1, .sl .ro 7 (ys.map (rOrigin .ro))), (2, .fn 25 []), (15, .sl .ro 7 (xs.map (rOrigin .ro))), (16, .i .i64 xs.length), (17, .i .i64 k)], B []⟩) (fun s => ⟨E [], B []⟩) (fun x s => !eqv x.1 x.2) (fun x s => s) (fun x s => (.ret, ⟨E [(6, .b false)], B []⟩)) (fun k s => True)
        (fun s hI G => by simp only [go_sem, reduceIte, ↓reduceIte, reduceCtorEq, nA, nS, nM, nB, nE, nL, nT, nN, iL, iT, iE, iA, iM, iS, iG, iB, iN, iZ, h, Int.lt_irrefl, hb0, zip_len hl, hl]) (fun k hk s hI => by
          have h1 : ((k : Int) < ((xs.zip ys).length : Int)) := Int.ofNat_lt.2 hk
          have hk' : k < xs.length := by rwa [zip_len hl] at hk
          have h1' : ((k : Int) < (xs.length : Int)) := Int.ofNat_lt.2 hk'
          have h2 := h0.2 _ (List.getElem_mem hk')
          have h3 : (xs.zip ys)[k] = (xs[k], ys[k]'(by omega)) := by simp
          rw [h3]
          have h4 := h2
          obtain ⟨u0, u1, u2⟩ := h2
          exact ⟨_, _, _, fun G => by simp only [go_sem, reduceIte, ↓reduceIte, reduceCtorEq, nA, nS, nM, nB, nE, nL, nT, nN, iL, iT, iE, iA, iM, iS, iG, iB, iN, iZ, h, h1', idx_nt _ _ hk', idx_nt ys.length k (by omega), map_gd (rOrigin .ro) xs k hk', map_gd (rOrigin .ro) ys k (by omega), wrap_nat1 (show k < 9223372036854775807 by omega), h4, if_oret, Origin.eqv xs[k] (ys[k]'(by omega)), u0, u1, u2, eqv_byte, eqv_intne, eqv_int, eqv_bytes, eqv_boolne, h1, idx_nt _ _ hk, wrap_nat1 (show k < 9223372036854775807 by omega), hb0] <;> with_reducible rfl, by first | exact Iff.rfl | ((simp only [Origin.eqv xs[k] (ys[k]'(by omega))] <;> simp) <;> done) | ((simp only [Origin.eqv xs[k] (ys[k]'(by omega))] <;> simp [eqv]) <;> done) | (simp only [Origin.eqv xs[k] (ys[k]'(by omega))] <;> simp [eqv] <;> (by_cases g : xs[k].Get = (ys[k]'(by omega)).Get <;> simp [g])), fun hc => ⟨trivial, by simp only [go_sem, reduceIte, ↓reduceIte, reduceCtorEq, nA, nS, nM, nB, nE, nL, nT, nN, iL, iT, iE, iA, iM, iS, iG, iB, iN, iZ, h]⟩⟩) () trivial (xs.length + 1) (by rw [zip_len hl]; exact Nat.le_refl _)
    rw [hb0] at hr
    have hl2 : ((xs.length : Int) != (ys.length : Int)) = false := by simp [hl]
    rcases hq with ⟨s', e1, _, e3⟩ | ⟨x, s', e1, e3⟩
    · simp only [go_sem, reduceIte, ↓reduceIte, reduceCtorEq, nA, nS, nM, nB, nE, nL, nT, nN, iL, iT, iE, iA, iM, iS, iG, iB, iN, iZ, h, hl2, hr, e3, zip_eqv hl e1]
    · simp only [go_sem, reduceIte, ↓reduceIte, reduceCtorEq, nA, nS, nM, nB, nE, nL, nT, nN, iL, iT, iE, iA, iM, iS, iG, iB, iN, iZ, h, hl2, hr, e3, zip_nev hl e1]
  · have hl2 : ((xs.length : Int) != (ys.length : Int)) = true := by simpa using fun h => hl (Int.ofNat_inj.1 h)
    simp only [go_sem, reduceIte, ↓reduceIte, reduceCtorEq, nA, nS, nM, nB, nE, nL, nT, nN, iL, iT, iE, iA, iM, iS, iG, iB, iN, iZ, h, hl2, len_nev hl]) (rfl)
end Go.Vm.A
