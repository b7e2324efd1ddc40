/- Functions of the program, walked by the evaluator. -/
import Derived.Test.YtnbhkifknleipaaGreatDoorWb
import Derived.Test.YtnbhkifknleipaaGreatDoorWa
import Derived.Test.YtnbhkifknleipaaGreatDoorFa
import Derived.Test.YtnbhkifknleipaaGreatDoorFb
import Derived.Test.YtnbhkifknleipaaGreatDoorFc
import Derived.Test.YtnbhkifknleipaaGreatDoorFd
import Derived.Test.YtnbhkifknleipaaGreatDoorFe
import Derived.Test.YtnbhkifknleipaaGreatDoorFf
import Derived.Test.YtnbhkifknleipaaGreatDoorFg
import Derived.Test.YtnbhkifknleipaaGreatDoorFh
set_option autoImplicit false
set_option maxRecDepth 100000
set_option maxHeartbeats 4000000
set_option linter.unusedVariables false
set_option linter.unusedSimpArgs false
namespace Go.Vm.A
open Go.Proofs
open Nat renaming reduceAdd → nA, reduceSub → nS, reduceMul → nM, reduceBEq → nB, reduceEqDiff → nE, reduceLeDiff → nL, reduceLT → nT, reduceBneDiff → nN
open Int renaming reduceLE → iL, reduceLT → iT, reduceEq → iE, reduceAdd → iA, reduceMul → iM, reduceSub → iS, reduceNeg → iG, reduceBEq → iB, reduceBNe → iN, reduceToNat → iZ

noncomputable def s204 : SP Tryz.prog := mkS tyA 204 Tryz.f204 [s203] { md := [.ro 1, .ro 1], rg := [(0, [0, 1], []), (1, [0, 1, 5], []), (2, [0, 1, 5, 9], []), (3, [0, 1, 5], []), (4, [0, 1, 5, 19], []), (5, [4], []), (6, [0, 1, 5], []), (7, [0, 1, 5, 29], []), (8, [4], []), (9, [0, 1, 5], []), (10, [4], [])], lv := [(0, [0, 1, 5], [])], out := [(0, [1], [])], rets := some ([4], []), plan := [(4, (.take 0 (.take 1 (.take 2 (.take 3 (.take 4 (.take 5 (.one 6 (.take 7 .done))))))))), (7, (.take 0 (.take 1 (.take 2 (.take 3 (.take 4 (.take 5 (.one 6 (.take 7 .done)))))))))] } Tryz.func204 (by kernel_rfl)
@[go_sem] theorem d204 : s204.g = 204 ∧ s204.fs = ⟨[.ro 1, .ro 1], s204.F, false⟩ := ⟨nr rfl, nr rfl⟩
@[go_sem] theorem e204 (xs : List Header) (k : Int) (h1 : 0 ≤ k) (h0 : (mkL mkHeaderE xs k).2 ≤ 9223372036854775807) : s204.F [.sl .ro 2 ((mkL mkHeaderE xs k).1.map (rHeader .ro)), .i .i64 k] = some (.i .i64 (mkL mkHeaderE xs k).2, [.u, .u]) := mkS_eq (xs.length + 1) rfl rfl (fun cx h => by
  have hb := loopN_eq Tryz.f204 0 _ _ rfl rfl
  have hx := mkL_cnt mkHeaderE_ge xs k
  have hr := (loop_fold (cx := cx) (blk := 0) (body := loopN Tryz.f204 0) xs (fun i (s : Int) => ⟨E [(0, .sl .ro 2 ((mkL mkHeaderE xs k).1.map (rHeader .ro))), (1, .i .i64 s), (5, .i .i64 i)], B []⟩) (fun _ => ⟨E [(1, .i .i64 (mkL mkHeaderE xs k).2)], B []⟩) (fun x s => (mkHeaderE x s).2) (fun i s => s = mkAt mkHeaderE xs k i)
    (fun s hI G => by simp only [go_sem, reduceIte, ↓reduceIte, reduceCtorEq, nA, nS, nM, nB, nE, nL, nT, nN, iL, iT, iE, iA, iM, iS, iG, iB, iN, iZ, h, Int.lt_irrefl, hb, mkL_len, hI, mkAt_end]) (fun i hk s hI => by
      have h2 : ((i : Int) < (xs.length : Int)) := Int.ofNat_lt.2 hk
      have g1 := mkAt_ge mkHeaderE_ge xs k i
      have g2 := mkAt_le mkHeaderE_ge xs k i hk
      rw [← hI] at g1 g2

      have h3 := mkL_gd (f := mkHeaderE) (rHeader .ro) xs k i hk
      rw [← hI] at h3
      simp only [mkHeaderE, rHeader] at h3 g2
      have v0 : (IntKind.i64).wrap (s) = s := wrap_id (by omega) (by omega)
      have t1 : s + 1 ≤ 9223372036854775807 := by omega
      have v1 : (IntKind.i64).wrap (s + 1) = s + 1 := wrap_id (by omega) (by omega)
      have t2 : s + 1 + 1 ≤ 9223372036854775807 := by omega
      have v2 : (IntKind.i64).wrap (s + 1 + 1) = s + 1 + 1 := wrap_id (by omega) (by omega)
      refine ⟨by rw [mkAt_succ xs k i hk, ← hI], _, fun G => by simp only [go_sem, reduceIte, ↓reduceIte, reduceCtorEq, nA, nS, nM, nB, nE, nL, nT, nN, iL, iT, iE, iA, iM, iS, iG, iB, iN, iZ, h, h3, mkL_len, mkB_def, v0, t1, v1, t2, v2, h2, idx_nt _ _ hk, wrap_nat1 (show i < 9223372036854775807 by omega), hb] <;> with_reducible rfl, by simp only [go_sem, reduceIte, ↓reduceIte, reduceCtorEq, nA, nS, nM, nB, nE, nL, nT, nN, iL, iT, iE, iA, iM, iS, iG, iB, iN, iZ, h, mkHeaderE]⟩) k rfl (xs.length + 1) (Nat.le_refl _)).2
  rw [hb] at hr
  simp only [go_sem, reduceIte, ↓reduceIte, reduceCtorEq, nA, nS, nM, nB, nE, nL, nT, nN, iL, iT, iE, iA, iM, iS, iG, iB, iN, iZ, h, hr]) (rfl)
noncomputable def s104 : SP Tryz.prog := mkS tyA 104 Tryz.f104 [s204] { md := [.ro 1, .ro 1], rg := [(0, [1, 2], [2]), (1, [1], []), (2, [1, 10], []), (3, [4], []), (4, [4], [])], rets := some ([4], []) } Tryz.func104 (by kernel_rfl)
@[go_sem] theorem d104 : s104.g = 104 ∧ s104.fs = ⟨[.ro 1, .ro 1], s104.F, false⟩ := ⟨nr rfl, nr rfl⟩
@[go_sem] theorem e104 (xMethod : ByteArray) (xHost : ByteArray) (xPath : ByteArray) (xHeaders : List Header) (k : Int) (h1 : 0 ≤ k) (h0 : (mkRequestV (Request.mk xMethod xHost xPath xHeaders) k).2 ≤ 9223372036854775807) : s104.F [.agg [.s xMethod, .s xHost, .s xPath, .sl .ro 2 ((mkL mkHeaderE xHeaders k).1.map (rHeader .ro))], .i .i64 k] = some (.i .i64 (mkRequestV (Request.mk xMethod xHost xPath xHeaders) k).2, [.u, .u]) := mkS_eq (0) rfl rfl (fun cx h => by
  obtain ⟨q0, hq0⟩ : ∃ q, (mkL mkHeaderE xHeaders k).2 = q := ⟨_, rfl⟩
  have b0 := mkL_ge mkHeaderE_ge xHeaders k
  rw [hq0] at b0
  have p0 : 0 ≤ k := by omega
  simp only [mkRequestV_eq, hq0] at h0
  have c0 : q0 ≤ 9223372036854775807 := by omega
  have d0 : ¬ (q0 < 0) := by omega
  simp only [go_sem, reduceIte, ↓reduceIte, reduceCtorEq, nA, nS, nM, nB, nE, nL, nT, nN, iL, iT, iE, iA, iM, iS, iG, iB, iN, iZ, h, p0, c0, d0, hq0, mkRequestV_eq]) (rfl)
noncomputable def s31 : SP Tryz.prog := mkS tyA 31 Tryz.f31 [s104] { md := [.ro 1, .ro 1], rg := [(0, [1, 2], [2]), (1, [1], []), (2, [1, 10], []), (3, [4], []), (4, [4], [])], rets := some ([4], []) } Tryz.func31 (by kernel_rfl)
@[go_sem] theorem d31 : s31.g = 31 ∧ s31.fs = ⟨[.ro 1, .ro 1], s31.F, false⟩ := ⟨nr rfl, nr rfl⟩
@[go_sem] theorem e31 (xCode : Int) (xRequestMethod : ByteArray) (xRequestHost : ByteArray) (xRequestPath : ByteArray) (xRequestHeaders : List Header) (k : Int) (h1 : 0 ≤ k) (h0 : (mkRequestResultV (RequestResult.mk xCode (Request.mk xRequestMethod xRequestHost xRequestPath xRequestHeaders)) k).2 ≤ 9223372036854775807) : s31.F [.agg [.i .i64 xCode, .s xRequestMethod, .s xRequestHost, .s xRequestPath, .sl .ro 2 ((mkL mkHeaderE xRequestHeaders k).1.map (rHeader .ro))], .i .i64 k] = some (.i .i64 (mkRequestResultV (RequestResult.mk xCode (Request.mk xRequestMethod xRequestHost xRequestPath xRequestHeaders)) k).2, [.u, .u]) := mkS_eq (0) rfl rfl (fun cx h => by
  obtain ⟨q0, hq0⟩ : ∃ q, (mkRequestV (Request.mk xRequestMethod xRequestHost xRequestPath xRequestHeaders) k).2 = q := ⟨_, rfl⟩
  have b0 := mkRequestV_ge (Request.mk xRequestMethod xRequestHost xRequestPath xRequestHeaders) k
  rw [hq0] at b0
  have p0 : 0 ≤ k := by omega
  simp only [mkRequestResultV_eq, hq0] at h0
  have c0 : q0 ≤ 9223372036854775807 := by omega
  have d0 : ¬ (q0 < 0) := by omega
  simp only [mkRequestV_eq] at hq0
  simp only [go_sem, reduceIte, ↓reduceIte, reduceCtorEq, nA, nS, nM, nB, nE, nL, nT, nN, iL, iT, iE, iA, iM, iS, iG, iB, iN, iZ, h, p0, c0, d0, hq0, mkRequestV_eq, mkRequestResultV_eq]) (rfl)
noncomputable def s4 : SP Tryz.prog := mkS tyA 4 Tryz.f4 [s19, s20, s21, s22, s23, s24, s25, s26, s27, s28, s29, s30, s31] { md := [.ro 1, .ro 1, .ro 1], rg := [(0, [2, 3, 4], [3, 4]), (1, [2, 3, 4, 7], [3, 4]), (2, [2, 3, 4, 7], [3, 4]), (3, [2, 3, 4, 7, 20], [3, 4]), (4, [6], []), (5, [2, 3, 4, 7], [3, 4]), (6, [2, 3, 4, 25], [3, 4]), (7, [6], []), (8, [2, 3, 4, 8], [3, 4, 8]), (9, [2, 3, 4, 8, 9], [3, 4, 8, 9]), (10, [2, 3, 4, 8, 9, 10], [3, 4, 8, 9, 10]), (11, [2, 3, 4, 8, 9, 10, 11], [3, 4, 8, 9, 10, 11]), (12, [2, 3, 4, 8, 9, 10, 11, 43], [3, 4, 8, 9, 10, 11]), (13, [6], []), (14, [2, 3, 4, 8, 9, 10, 11, 48], [3, 4, 8, 9, 10, 11]), (15, [6], []), (16, [2, 3, 4, 8, 9, 10, 11, 53], [3, 4, 8, 9, 10, 11]), (17, [6], []), (18, [2, 3, 4, 8, 9, 10, 11, 12], [3, 4, 8, 9, 10, 11]), (19, [2, 3, 4, 8, 10, 11, 12], [3, 4, 8, 10, 11]), (20, [2, 3, 4, 8, 11, 12], [3, 4, 8, 11]), (21, [2, 3, 4, 8, 11, 67], [3, 4, 8, 11]), (22, [6], []), (23, [2, 3, 4, 8, 11, 13], [3, 4, 8, 11]), (24, [2, 3, 4, 8, 11, 13], [3, 4, 8, 11]), (25, [2, 3, 4, 8, 11, 13, 14], [3, 4, 8, 11]), (26, [2, 3, 4, 8, 11, 13, 14], [3, 4, 8, 11]), (27, [2, 3, 4, 8, 11, 13, 14, 75], [3, 4, 8, 11]), (28, [6], []), (29, [2, 3, 4, 8, 11, 13, 78], [3, 4, 8, 11]), (30, [6], []), (31, [8, 11, 13, 15], [8, 11, 15]), (32, [11, 13, 88], [11]), (33, [6], []), (34, [11, 13, 14], [11]), (35, [13, 14], []), (36, [13, 14, 93], []), (37, [6], []), (38, [96], []), (39, [6], []), (40, [6], [])], rets := some ([6], []), plan := [(8, (.take 0 (.take 2 (.take 4 (.alt 1 (.alt 3 (.alt 5 (.one 6 (.one 7 .done)) (.one 6 (.one 5 (.one 7 .done)))) (.one 6 (.one 3 (.one 5 (.one 7 .done))))) (.one 6 (.one 1 (.one 3 (.one 5 (.one 7 .done)))))))))), (14, (.take 0 (.take 1 (.one 2 (.one 3 (.take 4 .done)))))), (16, (.take 0 (.take 1 (.one 2 (.one 3 (.take 4 .done)))))), (31, (.take 0 (.take 2 (.take 4 (.alt 1 (.alt 3 (.alt 5 (.one 6 (.one 7 .done)) (.one 6 (.one 5 (.one 7 .done)))) (.one 6 (.one 3 (.one 5 (.one 7 .done))))) (.one 6 (.one 1 (.one 3 (.one 5 (.one 7 .done))))))))))] } Tryz.func4 (by kernel_rfl)
@[go_sem] theorem d4 : s4.g = 4 ∧ s4.fs = ⟨[.ro 1, .ro 1, .ro 1], s4.F, false⟩ := ⟨nr rfl, nr rfl⟩
theorem e4 (rMethod : ByteArray) (rHost : ByteArray) (rPath : ByteArray) (rHeaders : List Header) (eKey : ByteArray) (eStatus : Int) (eHeaders : List Header) (eBody : List UInt8) (eMetaAt : Int) (eMetaAge : Int) (eMetaLife : Int) (eMetaSwr : Int) (eMetaSie : Int) (eMetaSoft : Bool) (eMetaNoCache : Bool) (eTags : List ByteArray) (ePins : Int) (has : Bool) (h0 : okRequest (Request.mk rMethod rHost rPath rHeaders) ∧ okEntry (Entry.mk eKey eStatus eHeaders eBody (Meta.mk eMetaAt eMetaAge eMetaLife eMetaSwr eMetaSie eMetaSoft eMetaNoCache) eTags ePins) ∧ okBool has) : s4.F [.agg [.s rMethod, .s rHost, .s rPath, .sl .ro 2 (rHeaders.map (rHeader .ro))], .agg [.s eKey, .i .i64 eStatus, .sl .ro 2 (eHeaders.map (rHeader .ro)), .sl .ro 1 (eBody.map rByte), .i .i64 eMetaAt, .i .i64 eMetaAge, .i .i64 eMetaLife, .i .i64 eMetaSwr, .i .i64 eMetaSie, .b eMetaSoft, .b eMetaNoCache, .sl .ro 1 (eTags.map rStr), .i .i64 ePins], .b has] = some (.b true, [.u, .u, .u]) := mkS_eq (0) rfl rfl (fun cx h => by
  have h0_0 := h0.1
  by_cases hc0 : szRequest (Request.mk rMethod rHost rPath rHeaders) 1048576 < 0
  · simp only [go_sem, reduceIte, ↓reduceIte, reduceCtorEq, nA, nS, nM, nB, nE, nL, nT, nN, iL, iT, iE, iA, iM, iS, iG, iB, iN, iZ, h, hc0, h0_0]
  obtain ⟨hs0, hl0⟩ := szRequest_fact _ _ h0_0 (by decide) (by decide) (show 0 ≤ szRequest (Request.mk rMethod rHost rPath rHeaders) 1048576 by omega)
  have h0_1 := h0.2.1
  by_cases hc1 : szEntry (Entry.mk eKey eStatus eHeaders eBody (Meta.mk eMetaAt eMetaAge eMetaLife eMetaSwr eMetaSie eMetaSoft eMetaNoCache) eTags ePins) (szRequest (Request.mk rMethod rHost rPath rHeaders) 1048576) < 0
  · simp only [go_sem, reduceIte, ↓reduceIte, reduceCtorEq, nA, nS, nM, nB, nE, nL, nT, nN, iL, iT, iE, iA, iM, iS, iG, iB, iN, iZ, h, hc1, h0_1, hc0, h0_0]
  obtain ⟨hs1, hl1⟩ := szEntry_fact _ _ h0_1 (by omega) (by omega) (show 0 ≤ szEntry (Entry.mk eKey eStatus eHeaders eBody (Meta.mk eMetaAt eMetaAge eMetaLife eMetaSwr eMetaSie eMetaSoft eMetaNoCache) eTags ePins) (szRequest (Request.mk rMethod rHost rPath rHeaders) 1048576) by omega)
  obtain ⟨R, hR⟩ : ∃ R, fetchFor (Request.mk rMethod rHost rPath rHeaders) (Entry.mk eKey eStatus eHeaders eBody (Meta.mk eMetaAt eMetaAge eMetaLife eMetaSwr eMetaSie eMetaSoft eMetaNoCache) eTags ePins) has = R := ⟨_, rfl⟩
  have hsm := fetchFor_sm (Request.mk rMethod rHost rPath rHeaders) (Entry.mk eKey eStatus eHeaders eBody (Meta.mk eMetaAt eMetaAge eMetaLife eMetaSwr eMetaSie eMetaSoft eMetaNoCache) eTags ePins) has hs0 hs1.2.2.1
  rw [hR] at hsm
  have f0 := mkRequestV_le (Request.mk rMethod rHost rPath rHeaders) 1 hs0
  have g0 := mkRequestV_ge (Request.mk rMethod rHost rPath rHeaders) 1
  have f0' : (mkRequestV (Request.mk rMethod rHost rPath rHeaders) 1).2 ≤ 9223372036854775807 := by omega
  have g0' : ¬ ((mkRequestV (Request.mk rMethod rHost rPath rHeaders) 1).2 < 0) := by omega
  have f1 := mkEntryV_le (Entry.mk eKey eStatus eHeaders eBody (Meta.mk eMetaAt eMetaAge eMetaLife eMetaSwr eMetaSie eMetaSoft eMetaNoCache) eTags ePins) (mkRequestV (Request.mk rMethod rHost rPath rHeaders) 1).2 hs1
  have g1 := mkEntryV_ge (Entry.mk eKey eStatus eHeaders eBody (Meta.mk eMetaAt eMetaAge eMetaLife eMetaSwr eMetaSie eMetaSoft eMetaNoCache) eTags ePins) (mkRequestV (Request.mk rMethod rHost rPath rHeaders) 1).2
  have f1' : (mkEntryV (Entry.mk eKey eStatus eHeaders eBody (Meta.mk eMetaAt eMetaAge eMetaLife eMetaSwr eMetaSie eMetaSoft eMetaNoCache) eTags ePins) (mkRequestV (Request.mk rMethod rHost rPath rHeaders) 1).2).2 ≤ 9223372036854775807 := by omega
  have g1' : ¬ ((mkEntryV (Entry.mk eKey eStatus eHeaders eBody (Meta.mk eMetaAt eMetaAge eMetaLife eMetaSwr eMetaSie eMetaSoft eMetaNoCache) eTags ePins) (mkRequestV (Request.mk rMethod rHost rPath rHeaders) 1).2).2 < 0) := by omega
  have p1' : 0 ≤ (mkRequestV (Request.mk rMethod rHost rPath rHeaders) 1).2 := by omega
  have f2 := mkRequestResultV_le R 1 hsm
  have g2 := mkRequestResultV_ge R 1
  have f2' : (mkRequestResultV R 1).2 ≤ 9223372036854775807 := by omega
  have g2' : ¬ ((mkRequestResultV R 1).2 < 0) := by omega
  simp only [mkEntryV_eq, mkRequestResultV_eq, mkRequestV_eq] at f0' g0' f1' g1' p1' f2' g2'
  simp only [go_sem, reduceIte, ↓reduceIte, reduceCtorEq, nA, nS, nM, nB, nE, nL, nT, nN, iL, iT, iE, iA, iM, iS, iG, iB, iN, iZ, h, hc0, hc1, hs0, hs1, h0_0, h0_1, hR, hsm, f0', g0', f1', g1', p1', f2', g2', eqv_self, hs0.2.2.2, hs1.2.2.1, mkEntryV_eq, mkRequestResultV_eq, mkRequestV_eq]) (rfl)
end Go.Vm.A
