/- Functions of the program, walked by the evaluator. -/
import Derived.Test.YtnbhkifknleipaaGreatDoorWb
import Derived.Test.YtnbhkifknleipaaGreatDoorWa
import Derived.Test.YtnbhkifknleipaaGreatDoorFa
import Derived.Test.YtnbhkifknleipaaGreatDoorFb
import Derived.Test.YtnbhkifknleipaaGreatDoorFc
import Derived.Test.YtnbhkifknleipaaGreatDoorFd
set_option autoImplicit false
set_option maxRecDepth 100000
set_option maxHeartbeats 4000000
set_option linter.unusedVariables false
set_option linter.unusedSimpArgs false
namespace Go.Vm.A
open Go.Proofs
open Nat renaming reduceAdd → nA, reduceSub → nS, reduceMul → nM, reduceBEq → nB, reduceEqDiff → nE, reduceLeDiff → nL, reduceLT → nT, reduceBneDiff → nN
open Int renaming reduceLE → iL, reduceLT → iT, reduceEq → iE, reduceAdd → iA, reduceMul → iM, reduceSub → iS, reduceNeg → iG, reduceBEq → iB, reduceBNe → iN, reduceToNat → iZ

noncomputable def s21 : SP Tryz.prog := mkS tyA 21 Tryz.f21 [s88, s89, s90] { md := [.ro 1, .ro 1, .ro 1], rg := [(0, [2, 3, 4, 6, 23], [3, 4, 6]), (1, [2, 3, 4, 6, 7, 23], [3, 4, 6]), (2, [2, 3, 4, 6, 7, 12, 23], [3, 4, 6]), (3, [6, 23], [6]), (4, [2, 3, 4, 6, 15, 23], [3, 4, 6]), (5, [2, 3, 4, 6, 8, 23], [3, 4, 6]), (6, [2, 3, 4, 6, 8, 19, 23], [3, 4, 6]), (7, [6, 23], [6]), (8, [6, 23], [6])], rets := some ([6, 23], [6]) } Tryz.func21 (by kernel_rfl)
@[go_sem] theorem d21 : s21.g = 21 ∧ s21.fs = ⟨[.ro 1, .ro 1, .ro 1], s21.F, false⟩ := ⟨nr rfl, nr rfl⟩
@[go_sem] theorem e21 (rMethod : ByteArray) (rHost : ByteArray) (rPath : ByteArray) (rHeaders : List Header) (eKey : ByteArray) (eStatus : Int) (eHeaders : List Header) (eBody : List UInt8) (eMetaAt : Int) (eMetaAge : Int) (eMetaLife : Int) (eMetaSwr : Int) (eMetaSie : Int) (eMetaSoft : Bool) (eMetaNoCache : Bool) (eTags : List ByteArray) (ePins : Int) (has : Bool) (h0 : (smL smHeader (Request.mk rMethod rHost rPath rHeaders).Headers ∧ smL smHeader (Entry.mk eKey eStatus eHeaders eBody (Meta.mk eMetaAt eMetaAge eMetaLife eMetaSwr eMetaSie eMetaSoft eMetaNoCache) eTags ePins).Headers)) : s21.F [.agg [.s rMethod, .s rHost, .s rPath, .sl .ro 2 (rHeaders.map (rHeader .ro))], .agg [.s eKey, .i .i64 eStatus, .sl .ro 2 (eHeaders.map (rHeader .ro)), .sl .ro 1 (eBody.map rByte), .i .i64 eMetaAt, .i .i64 eMetaAge, .i .i64 eMetaLife, .i .i64 eMetaSwr, .i .i64 eMetaSie, .b eMetaSoft, .b eMetaNoCache, .sl .ro 1 (eTags.map rStr), .i .i64 ePins], .b has] = some (.agg (rRequestResult .mut (fetchFor (Request.mk rMethod rHost rPath rHeaders) (Entry.mk eKey eStatus eHeaders eBody (Meta.mk eMetaAt eMetaAge eMetaLife eMetaSwr eMetaSie eMetaSoft eMetaNoCache) eTags ePins) has)), [.u, .u, .u]) := mkS_eq (0) rfl rfl (fun cx h => by
  obtain ⟨hH, hE⟩ := h0
  by_cases z : requestFault (Request.mk rMethod rHost rPath rHeaders) = 0
  rotate_left
  · have z' : (requestFault (Request.mk rMethod rHost rPath rHeaders) != 0) = true := by simpa using z
    have z2 : (requestFault (Request.mk rMethod rHost rPath rHeaders) == 0) = false := by simpa using z
    simp only [go_sem, reduceIte, ↓reduceIte, reduceCtorEq, nA, nS, nM, nB, nE, nL, nT, nN, iL, iT, iE, iA, iM, iS, iG, iB, iN, iZ, h, hH, z', z2, fetchFor, noReq]
  have hl := headersFault_ok (requestFault_ok z)
  simp only at hl
  have z' : (requestFault (Request.mk rMethod rHost rPath rHeaders) != 0) = false := by simpa using z
  cases has
  · have hk := hl
    simp only [go_sem, reduceIte, ↓reduceIte, reduceCtorEq, nA, nS, nM, nB, nE, nL, nT, nN, iL, iT, iE, iA, iM, iS, iG, iB, iN, iZ, h, hH, hE, z, hk, fetchFor, noReq]
  by_cases y : entryFault (Entry.mk eKey eStatus eHeaders eBody (Meta.mk eMetaAt eMetaAge eMetaLife eMetaSwr eMetaSie eMetaSoft eMetaNoCache) eTags ePins) = 0
  rotate_left
  · have y' : (entryFault (Entry.mk eKey eStatus eHeaders eBody (Meta.mk eMetaAt eMetaAge eMetaLife eMetaSwr eMetaSie eMetaSoft eMetaNoCache) eTags ePins) != 0) = true := by simpa using y
    simp only [go_sem, reduceIte, ↓reduceIte, reduceCtorEq, nA, nS, nM, nB, nE, nL, nT, nN, iL, iT, iE, iA, iM, iS, iG, iB, iN, iZ, h, hH, hE, z, y', fetchFor, noReq]
  have y' : (entryFault (Entry.mk eKey eStatus eHeaders eBody (Meta.mk eMetaAt eMetaAge eMetaLife eMetaSwr eMetaSie eMetaSoft eMetaNoCache) eTags ePins) != 0) = false := by simpa using y
  have hk := hl
  have hk2 := headersFault_ok (entryFault_ok y)
  simp only at hk2
  simp only [go_sem, reduceIte, ↓reduceIte, reduceCtorEq, nA, nS, nM, nB, nE, nL, nT, nN, iL, iT, iE, iA, iM, iS, iG, iB, iN, iZ, h, hH, hE, z, y, hk, hk2, fetchFor, noReq]) (by simp only [go_sem, reduceIte, ↓reduceIte, reduceCtorEq, nA, nS, nM, nB, nE, nL, nT, nN, iL, iT, iE, iA, iM, iS, iG, iB, iN, iZ, okRes, hasRo, hasRoL, hasRoLL])
noncomputable def s199 : SP Tryz.prog := mkS tyA 199 Tryz.f199 [] { md := [.ro 1], rg := [(0, [1, 2], [1, 2, 3]), (1, [1, 2, 3], [1, 2, 3]), (2, [1, 2, 3], [1, 2, 3]), (3, [2, 3], [2, 3]), (4, [2], [2, 3])], rets := some ([2], [2, 3]) } Tryz.func199 (by kernel_rfl)
@[go_sem] theorem d199 : s199.g = 199 ∧ s199.fs = ⟨[.ro 1], s199.F, false⟩ := ⟨nr rfl, nr rfl⟩
@[go_sem] theorem e199 (xName : ByteArray) (xValue : ByteArray) (h0 : smHeader (Header.mk xName xValue)) : s199.F [.agg [.s xName, .s xValue]] = some (.agg (rHeader .mut (Header.mk xName xValue)), [.u]) := mkS_eq (0) rfl rfl (fun cx h => by
  obtain ⟨q0, q1⟩ := h0
  simp only [go_sem, reduceIte, ↓reduceIte, reduceCtorEq, nA, nS, nM, nB, nE, nL, nT, nN, iL, iT, iE, iA, iM, iS, iG, iB, iN, iZ, h, q0, q1]) (by simp only [go_sem, reduceIte, ↓reduceIte, reduceCtorEq, nA, nS, nM, nB, nE, nL, nT, nN, iL, iT, iE, iA, iM, iS, iG, iB, iN, iZ, okRes, hasRo, hasRoL, hasRoLL])
noncomputable def s91 : SP Tryz.prog := mkS tyA 91 Tryz.f91 [s199] { md := [.ro 1], rg := [(0, [0], []), (1, [0, 3], []), (2, [0, 3, 4], []), (3, [0, 3, 4, 11], []), (4, [0, 3, 4], []), (5, [0, 3, 4], []), (6, [2], [])], lv := [(0, [0, 3, 4], [])], out := [(0, [3], [])], rets := some ([2], []) } Tryz.func91 (by kernel_rfl)
@[go_sem] theorem d91 : s91.g = 91 ∧ s91.fs = ⟨[.ro 1], s91.F, false⟩ := ⟨nr rfl, nr rfl⟩
@[go_sem] theorem e91 (xs : List Header) (h0 : smL smHeader xs) : s91.F [.sl .ro 2 (xs.map (rHeader .ro))] = some (.sl .mut 2 (xs.map (rHeader .mut)), [.u]) := mkS_eq (xs.length + 1) rfl rfl (fun cx h => by
  have hb := loopN_eq Tryz.f91 0 _ _ rfl rfl
  have hx := h0.1
  have c1 : ((xs.length : Int) * (32 : Nat) ≤ 140737488355328) := by omega
  have c2 : 0 ≤ (xs.length : Int) := by omega
  have hr := (loop_fold (cx := cx) (blk := 0) (body := loopN Tryz.f91 0) xs (fun k (_ : Unit) => ⟨E [(0, .sl .ro 2 (xs.map (rHeader .ro))), (3, .sl .mut 2 (fillUp (rHeader .mut) [.s ⟨#[]⟩, .s ⟨#[]⟩] xs k)), (4, .i .i64 k)], B []⟩) (fun _ => ⟨E [(3, .sl .mut 2 (xs.map (rHeader .mut)))], B []⟩) (fun _ _ => ()) (fun _ _ => True)
    (fun l _ G => by simp only [go_sem, reduceIte, ↓reduceIte, reduceCtorEq, nA, nS, nM, nB, nE, nL, nT, nN, iL, iT, iE, iA, iM, iS, iG, iB, iN, iZ, h, Int.lt_irrefl, hb, fillUp_all]) (fun k hk l _ => by
      have h1 : ((k : Int) < (xs.length : Int)) := Int.ofNat_lt.2 hk
      have h2 := h0.2 _ (List.getElem_mem hk)
      have h3 : (fillUp (rHeader .mut) [.s ⟨#[]⟩, .s ⟨#[]⟩] xs k).set k [.s xs[k].Name, .s xs[k].Value] = fillUp (rHeader .mut) [.s ⟨#[]⟩, .s ⟨#[]⟩] xs (k + 1) := fillUp_set (rHeader .mut) [.s ⟨#[]⟩, .s ⟨#[]⟩] xs k hk
      exact ⟨trivial, _, fun G => by simp only [go_sem, reduceIte, ↓reduceIte, reduceCtorEq, nA, nS, nM, nB, nE, nL, nT, nN, iL, iT, iE, iA, iM, iS, iG, iB, iN, iZ, h, h2, h3, map_gd (rHeader .ro) xs k hk, fillUp_get (rHeader .mut) [.s ⟨#[]⟩, .s ⟨#[]⟩] xs k hk, fillUp_getD (rHeader .mut) [.s ⟨#[]⟩, .s ⟨#[]⟩] xs k hk, fillUp_len (rHeader .mut) [.s ⟨#[]⟩, .s ⟨#[]⟩] xs k (Nat.le_of_lt hk), h1, idx_nt _ _ hk, wrap_nat1 (show k < 9223372036854775807 by omega), hb] <;> with_reducible rfl, by simp only [go_sem, reduceIte, ↓reduceIte, reduceCtorEq, nA, nS, nM, nB, nE, nL, nT, nN, iL, iT, iE, iA, iM, iS, iG, iB, iN, iZ, h]⟩) () trivial (xs.length + 1) (Nat.le_refl _)).2
  rw [hb] at hr
  simp only [go_sem, reduceIte, ↓reduceIte, reduceCtorEq, nA, nS, nM, nB, nE, nL, nT, nN, iL, iT, iE, iA, iM, iS, iG, iB, iN, iZ, h, c1, c2, Int.toNat_natCast, fillUp_zero (rHeader .mut) [.s ⟨#[]⟩, .s ⟨#[]⟩], hr]) (by simp only [go_sem, reduceIte, ↓reduceIte, reduceCtorEq, nA, nS, nM, nB, nE, nL, nT, nN, iL, iT, iE, iA, iM, iS, iG, iB, iN, iZ, okRes, hasRo])
noncomputable def s22 : SP Tryz.prog := mkS tyA 22 Tryz.f22 [s91] { md := [.ro 1], rg := [(0, [1, 2], [1, 2, 3]), (1, [1, 2, 3], [1, 2, 3]), (2, [1, 2, 3], [1, 2, 3]), (3, [1, 2, 3], [1, 2, 3]), (4, [1, 2, 3], [1, 2, 3]), (5, [2, 3], [2, 3]), (6, [2], [2, 3])], rets := some ([2], [2, 3]) } Tryz.func22 (by kernel_rfl)
@[go_sem] theorem d22 : s22.g = 22 ∧ s22.fs = ⟨[.ro 1], s22.F, false⟩ := ⟨nr rfl, nr rfl⟩
@[go_sem] theorem e22 (xMethod : ByteArray) (xHost : ByteArray) (xPath : ByteArray) (xHeaders : List Header) (h0 : smRequest (Request.mk xMethod xHost xPath xHeaders)) : s22.F [.agg [.s xMethod, .s xHost, .s xPath, .sl .ro 2 (xHeaders.map (rHeader .ro))]] = some (.agg (rRequest .mut (Request.mk xMethod xHost xPath xHeaders)), [.u]) := mkS_eq (0) rfl rfl (fun cx h => by
  obtain ⟨q0, q1, q2, q3⟩ := h0
  simp only [go_sem, reduceIte, ↓reduceIte, reduceCtorEq, nA, nS, nM, nB, nE, nL, nT, nN, iL, iT, iE, iA, iM, iS, iG, iB, iN, iZ, h, q0, q1, q2, q3]) (by simp only [go_sem, reduceIte, ↓reduceIte, reduceCtorEq, nA, nS, nM, nB, nE, nL, nT, nN, iL, iT, iE, iA, iM, iS, iG, iB, iN, iZ, okRes, hasRo, hasRoL, hasRoLL])
noncomputable def s92 : SP Tryz.prog := mkS tyA 92 Tryz.f92 [] { md := [.ro 1], rg := [(0, [0], []), (1, [0, 3], []), (2, [0, 3, 4], []), (3, [0, 3, 4, 11], []), (4, [0, 3, 4], []), (5, [0, 3, 4], []), (6, [2], [])], lv := [(0, [0, 3, 4], [])], out := [(0, [3], [])], rets := some ([2], []) } Tryz.func92 (by kernel_rfl)
@[go_sem] theorem d92 : s92.g = 92 ∧ s92.fs = ⟨[.ro 1], s92.F, false⟩ := ⟨nr rfl, nr rfl⟩
@[go_sem] theorem e92 (xs : List UInt8) (h0 : smL smByte xs) : s92.F [.sl .ro 1 (xs.map rByte)] = some (.sl .mut 1 (xs.map rByte), [.u]) := mkS_eq (xs.length + 1) rfl rfl (fun cx h => by
  have hb := loopN_eq Tryz.f92 0 _ _ rfl rfl
  have hx := h0.1
  have c1 : ((xs.length : Int) * 1 ≤ 140737488355328) := by omega
  have c2 : 0 ≤ (xs.length : Int) := by omega
  have hr := (loop_fold (cx := cx) (blk := 0) (body := loopN Tryz.f92 0) xs (fun k (_ : Unit) => ⟨E [(0, .sl .ro 1 (xs.map rByte)), (3, .sl .mut 1 (fillUp rByte [.i .u8 0] xs k)), (4, .i .i64 k)], B []⟩) (fun _ => ⟨E [(3, .sl .mut 1 (xs.map rByte))], B []⟩) (fun _ _ => ()) (fun _ _ => True)
    (fun l _ G => by simp only [go_sem, reduceIte, ↓reduceIte, reduceCtorEq, nA, nS, nM, nB, nE, nL, nT, nN, iL, iT, iE, iA, iM, iS, iG, iB, iN, iZ, h, Int.lt_irrefl, hb, fillUp_all]) (fun k hk l _ => by
      have h1 : ((k : Int) < (xs.length : Int)) := Int.ofNat_lt.2 hk
      have h2 := h0.2 _ (List.getElem_mem hk)
      have h3 : (fillUp rByte [.i .u8 0] xs k).set k [.i .u8 xs[k].toNat] = fillUp rByte [.i .u8 0] xs (k + 1) := fillUp_set rByte [.i .u8 0] xs k hk
      exact ⟨trivial, _, fun G => by simp only [go_sem, reduceIte, ↓reduceIte, reduceCtorEq, nA, nS, nM, nB, nE, nL, nT, nN, iL, iT, iE, iA, iM, iS, iG, iB, iN, iZ, h, h2, h3, map_gd rByte xs k hk, fillUp_get rByte [.i .u8 0] xs k hk, fillUp_getD rByte [.i .u8 0] xs k hk, fillUp_len rByte [.i .u8 0] xs k (Nat.le_of_lt hk), h1, idx_nt _ _ hk, wrap_nat1 (show k < 9223372036854775807 by omega), hb] <;> with_reducible rfl, by simp only [go_sem, reduceIte, ↓reduceIte, reduceCtorEq, nA, nS, nM, nB, nE, nL, nT, nN, iL, iT, iE, iA, iM, iS, iG, iB, iN, iZ, h]⟩) () trivial (xs.length + 1) (Nat.le_refl _)).2
  rw [hb] at hr
  simp only [go_sem, reduceIte, ↓reduceIte, reduceCtorEq, nA, nS, nM, nB, nE, nL, nT, nN, iL, iT, iE, iA, iM, iS, iG, iB, iN, iZ, h, c1, c2, Int.toNat_natCast, fillUp_zero rByte [.i .u8 0], hr]) (by simp only [go_sem, reduceIte, ↓reduceIte, reduceCtorEq, nA, nS, nM, nB, nE, nL, nT, nN, iL, iT, iE, iA, iM, iS, iG, iB, iN, iZ, okRes, hasRo])
noncomputable def s93 : SP Tryz.prog := mkS tyA 93 Tryz.f93 [] { md := [.ro 1], rg := [(0, [1, 2], [1, 2, 3]), (1, [1, 2, 3], [1, 2, 3]), (2, [1, 2, 3], [1, 2, 3]), (3, [1, 2, 3], [1, 2, 3]), (4, [1, 2, 3], [1, 2, 3]), (5, [1, 2, 3], [1, 2, 3]), (6, [1, 2, 3], [1, 2, 3]), (7, [1, 2, 3], [1, 2, 3]), (8, [2, 3], [2, 3]), (9, [2], [2, 3])], rets := some ([2], [2, 3]) } Tryz.func93 (by kernel_rfl)
@[go_sem] theorem d93 : s93.g = 93 ∧ s93.fs = ⟨[.ro 1], s93.F, false⟩ := ⟨nr rfl, nr rfl⟩
@[go_sem] theorem e93 (xAt : Int) (xAge : Int) (xLife : Int) (xSwr : Int) (xSie : Int) (xSoft : Bool) (xNoCache : Bool) (h0 : smMeta (Meta.mk xAt xAge xLife xSwr xSie xSoft xNoCache)) : s93.F [.agg [.i .i64 xAt, .i .i64 xAge, .i .i64 xLife, .i .i64 xSwr, .i .i64 xSie, .b xSoft, .b xNoCache]] = some (.agg (rMeta .mut (Meta.mk xAt xAge xLife xSwr xSie xSoft xNoCache)), [.u]) := mkS_eq (0) rfl rfl (fun cx h => by
  obtain ⟨q0, q1, q2, q3, q4, q5, q6⟩ := h0
  simp only [go_sem, reduceIte, ↓reduceIte, reduceCtorEq, nA, nS, nM, nB, nE, nL, nT, nN, iL, iT, iE, iA, iM, iS, iG, iB, iN, iZ, h, q0, q1, q2, q3, q4, q5, q6]) (by simp only [go_sem, reduceIte, ↓reduceIte, reduceCtorEq, nA, nS, nM, nB, nE, nL, nT, nN, iL, iT, iE, iA, iM, iS, iG, iB, iN, iZ, okRes, hasRo, hasRoL, hasRoLL])
noncomputable def s94 : SP Tryz.prog := mkS tyA 94 Tryz.f94 [] { md := [.ro 1], rg := [(0, [0], []), (1, [0, 3], []), (2, [0, 3, 4], []), (3, [0, 3, 4, 11], []), (4, [0, 3, 4], []), (5, [0, 3, 4], []), (6, [2], [])], lv := [(0, [0, 3, 4], [])], out := [(0, [3], [])], rets := some ([2], []) } Tryz.func94 (by kernel_rfl)
@[go_sem] theorem d94 : s94.g = 94 ∧ s94.fs = ⟨[.ro 1], s94.F, false⟩ := ⟨nr rfl, nr rfl⟩
@[go_sem] theorem e94 (xs : List ByteArray) (h0 : smL smStr xs) : s94.F [.sl .ro 1 (xs.map rStr)] = some (.sl .mut 1 (xs.map rStr), [.u]) := mkS_eq (xs.length + 1) rfl rfl (fun cx h => by
  have hb := loopN_eq Tryz.f94 0 _ _ rfl rfl
  have hx := h0.1
  have c1 : ((xs.length : Int) * (16 : Nat) ≤ 140737488355328) := by omega
  have c2 : 0 ≤ (xs.length : Int) := by omega
  have hr := (loop_fold (cx := cx) (blk := 0) (body := loopN Tryz.f94 0) xs (fun k (_ : Unit) => ⟨E [(0, .sl .ro 1 (xs.map rStr)), (3, .sl .mut 1 (fillUp rStr [.s ⟨#[]⟩] xs k)), (4, .i .i64 k)], B []⟩) (fun _ => ⟨E [(3, .sl .mut 1 (xs.map rStr))], B []⟩) (fun _ _ => ()) (fun _ _ => True)
    (fun l _ G => by simp only [go_sem, reduceIte, ↓reduceIte, reduceCtorEq, nA, nS, nM, nB, nE, nL, nT, nN, iL, iT, iE, iA, iM, iS, iG, iB, iN, iZ, h, Int.lt_irrefl, hb, fillUp_all]) (fun k hk l _ => by
      have h1 : ((k : Int) < (xs.length : Int)) := Int.ofNat_lt.2 hk
      have h2 := h0.2 _ (List.getElem_mem hk)
      have h3 : (fillUp rStr [.s ⟨#[]⟩] xs k).set k [.s xs[k]] = fillUp rStr [.s ⟨#[]⟩] xs (k + 1) := fillUp_set rStr [.s ⟨#[]⟩] xs k hk
      exact ⟨trivial, _, fun G => by simp only [go_sem, reduceIte, ↓reduceIte, reduceCtorEq, nA, nS, nM, nB, nE, nL, nT, nN, iL, iT, iE, iA, iM, iS, iG, iB, iN, iZ, h, h2, h3, map_gd rStr xs k hk, fillUp_get rStr [.s ⟨#[]⟩] xs k hk, fillUp_getD rStr [.s ⟨#[]⟩] xs k hk, fillUp_len rStr [.s ⟨#[]⟩] xs k (Nat.le_of_lt hk), h1, idx_nt _ _ hk, wrap_nat1 (show k < 9223372036854775807 by omega), hb] <;> with_reducible rfl, by simp only [go_sem, reduceIte, ↓reduceIte, reduceCtorEq, nA, nS, nM, nB, nE, nL, nT, nN, iL, iT, iE, iA, iM, iS, iG, iB, iN, iZ, h]⟩) () trivial (xs.length + 1) (Nat.le_refl _)).2
  rw [hb] at hr
  simp only [go_sem, reduceIte, ↓reduceIte, reduceCtorEq, nA, nS, nM, nB, nE, nL, nT, nN, iL, iT, iE, iA, iM, iS, iG, iB, iN, iZ, h, c1, c2, Int.toNat_natCast, fillUp_zero rStr [.s ⟨#[]⟩], hr]) (by simp only [go_sem, reduceIte, ↓reduceIte, reduceCtorEq, nA, nS, nM, nB, nE, nL, nT, nN, iL, iT, iE, iA, iM, iS, iG, iB, iN, iZ, okRes, hasRo])
noncomputable def s23 : SP Tryz.prog := mkS tyA 23 Tryz.f23 [s91, s92, s93, s94] { md := [.ro 1], rg := [(0, [1, 2], [1, 2, 3]), (1, [1, 2, 3], [1, 2, 3]), (2, [1, 2, 3], [1, 2, 3]), (3, [1, 2, 3], [1, 2, 3]), (4, [1, 2, 3], [1, 2, 3]), (5, [1, 2, 3], [1, 2, 3]), (6, [1, 2, 3], [1, 2, 3]), (7, [1, 2, 3], [1, 2, 3]), (8, [2, 3], [2, 3]), (9, [2], [2, 3])], rets := some ([2], [2, 3]) } Tryz.func23 (by kernel_rfl)
@[go_sem] theorem d23 : s23.g = 23 ∧ s23.fs = ⟨[.ro 1], s23.F, false⟩ := ⟨nr rfl, nr rfl⟩
@[go_sem] theorem e23 (xKey : ByteArray) (xStatus : Int) (xHeaders : List Header) (xBody : List UInt8) (xMetaAt : Int) (xMetaAge : Int) (xMetaLife : Int) (xMetaSwr : Int) (xMetaSie : Int) (xMetaSoft : Bool) (xMetaNoCache : Bool) (xTags : List ByteArray) (xPins : Int) (h0 : smEntry (Entry.mk xKey xStatus xHeaders xBody (Meta.mk xMetaAt xMetaAge xMetaLife xMetaSwr xMetaSie xMetaSoft xMetaNoCache) xTags xPins)) : s23.F [.agg [.s xKey, .i .i64 xStatus, .sl .ro 2 (xHeaders.map (rHeader .ro)), .sl .ro 1 (xBody.map rByte), .i .i64 xMetaAt, .i .i64 xMetaAge, .i .i64 xMetaLife, .i .i64 xMetaSwr, .i .i64 xMetaSie, .b xMetaSoft, .b xMetaNoCache, .sl .ro 1 (xTags.map rStr), .i .i64 xPins]] = some (.agg (rEntry .mut (Entry.mk xKey xStatus xHeaders xBody (Meta.mk xMetaAt xMetaAge xMetaLife xMetaSwr xMetaSie xMetaSoft xMetaNoCache) xTags xPins)), [.u]) := mkS_eq (0) rfl rfl (fun cx h => by
  obtain ⟨q0, q1, q2, q3, q4, q5, q6⟩ := h0
  simp only [go_sem, reduceIte, ↓reduceIte, reduceCtorEq, nA, nS, nM, nB, nE, nL, nT, nN, iL, iT, iE, iA, iM, iS, iG, iB, iN, iZ, h, q0, q1, q2, q3, q4, q5, q6]) (by simp only [go_sem, reduceIte, ↓reduceIte, reduceCtorEq, nA, nS, nM, nB, nE, nL, nT, nN, iL, iT, iE, iA, iM, iS, iG, iB, iN, iZ, okRes, hasRo, hasRoL, hasRoLL])
noncomputable def s302 : SP Tryz.prog := mkS tyA 302 Tryz.f302 [] { md := [.ro 1], rets := some ([2], []) } Tryz.func302 (by kernel_rfl)
@[go_sem] theorem d302 : s302.g = 302 ∧ s302.fs = ⟨[.ro 1], s302.F, false⟩ := ⟨nr rfl, nr rfl⟩
@[go_sem] theorem e302 (c : UInt8) : s302.F [.i .u8 c.toNat] = some (.b (letterB c), [.u]) := mkS_eq (0) rfl rfl (fun cx h => by
  by_cases h1 : 97 ≤ (c.toNat : Int) <;> by_cases h2 : (c.toNat : Int) ≤ 122 <;> by_cases h3 : 65 ≤ (c.toNat : Int) <;> by_cases h4 : (c.toNat : Int) ≤ 90 <;> simp only [go_sem, reduceIte, ↓reduceIte, reduceCtorEq, nA, nS, nM, nB, nE, nL, nT, nN, iL, iT, iE, iA, iM, iS, iG, iB, iN, iZ, h, h1, h2, h3, h4, letterB]) (rfl)
noncomputable def s303 : SP Tryz.prog := mkS tyA 303 Tryz.f303 [] { md := [.ro 1], rets := some ([2], []) } Tryz.func303 (by kernel_rfl)
@[go_sem] theorem d303 : s303.g = 303 ∧ s303.fs = ⟨[.ro 1], s303.F, false⟩ := ⟨nr rfl, nr rfl⟩
@[go_sem] theorem e303 (c : UInt8) : s303.F [.i .u8 c.toNat] = some (.b (digitB c), [.u]) := mkS_eq (0) rfl rfl (fun cx h => by
  by_cases h1 : 48 ≤ (c.toNat : Int) <;> by_cases h2 : (c.toNat : Int) ≤ 57 <;> simp only [go_sem, reduceIte, ↓reduceIte, reduceCtorEq, nA, nS, nM, nB, nE, nL, nT, nN, iL, iT, iE, iA, iM, iS, iG, iB, iN, iZ, h, h1, h2, digitB]) (rfl)
noncomputable def s378 : SP Tryz.prog := ⟨378, ⟨[.ro 1, .ro 1], idxF, false⟩, idx_ok Tryz.func378 (by kernel_rfl) (by kernel_rfl) (by kernel_rfl) (by kernel_rfl)⟩
@[go_sem] theorem d378 : s378.g = 378 ∧ s378.fs = ⟨[.ro 1, .ro 1], s378.F, false⟩ := ⟨nr rfl, nr rfl⟩
@[go_sem] theorem e378 (s : ByteArray) (c : UInt8) : s378.F [.s s, .i .u8 c.toNat] = some (.i .i64 (ixB s c), [.u, .u]) := by
  show idxF [.s s, .i .u8 c.toNat] = _
  rw [idxF_eq, int_u8]
  rfl
noncomputable def s354 : SP Tryz.prog := mkS tyA 354 Tryz.f354 [s378] { md := [.ro 1, .ro 1], rets := some ([4], []) } Tryz.func354 (by kernel_rfl)
@[go_sem] theorem d354 : s354.g = 354 ∧ s354.fs = ⟨[.ro 1, .ro 1], s354.F, false⟩ := ⟨nr rfl, nr rfl⟩
@[go_sem] theorem e354 (s : ByteArray) (c : UInt8) : s354.F [.s s, .i .u8 c.toNat] = some (.i .i64 (ixB s c), [.u, .u]) := mkS_eq (0) rfl rfl (fun cx h => by
  simp only [go_sem, reduceIte, ↓reduceIte, reduceCtorEq, nA, nS, nM, nB, nE, nL, nT, nN, iL, iT, iE, iA, iM, iS, iG, iB, iN, iZ, h]) (rfl)
noncomputable def s304 : SP Tryz.prog := mkS tyA 304 Tryz.f304 [s354] { md := [.ro 1, .ro 1], rets := some ([4], []) } Tryz.func304 (by kernel_rfl)
@[go_sem] theorem d304 : s304.g = 304 ∧ s304.fs = ⟨[.ro 1, .ro 1], s304.F, false⟩ := ⟨nr rfl, nr rfl⟩
@[go_sem] theorem e304 (s : ByteArray) (c : UInt8) : s304.F [.s s, .i .u8 c.toNat] = some (.i .i64 (ixB s c), [.u, .u]) := mkS_eq (0) rfl rfl (fun cx h => by
  simp only [go_sem, reduceIte, ↓reduceIte, reduceCtorEq, nA, nS, nM, nB, nE, nL, nT, nN, iL, iT, iE, iA, iM, iS, iG, iB, iN, iZ, h]) (rfl)
noncomputable def s259 : SP Tryz.prog := mkS tyA 259 Tryz.f259 [s302, s303, s304] { md := [.ro 1], rets := some ([2], []) } Tryz.func259 (by kernel_rfl)
@[go_sem] theorem d259 : s259.g = 259 ∧ s259.fs = ⟨[.ro 1], s259.F, false⟩ := ⟨nr rfl, nr rfl⟩
@[go_sem] theorem e259 (c : UInt8) : s259.F [.i .u8 c.toNat] = some (.b (wordB c), [.u]) := mkS_eq (0) rfl rfl (fun cx h => by
  have hix := ixB_sym c
  have hu : wordB c = (letterB c || digitB c || symB.contains c) := rfl
  cases h1 : letterB c <;> cases h2 : digitB c <;> cases h3 : symB.contains c <;> simp only [go_sem, reduceIte, ↓reduceIte, reduceCtorEq, nA, nS, nM, nB, nE, nL, nT, nN, iL, iT, iE, iA, iM, iS, iG, iB, iN, iZ, h, h1, h2, h3, hu, hix]) (rfl)
noncomputable def s344 : SP Tryz.prog := mkS tyA 344 Tryz.f344 [] { md := [.ro 1], rets := some ([2], []) } Tryz.func344 (by kernel_rfl)
@[go_sem] theorem d344 : s344.g = 344 ∧ s344.fs = ⟨[.ro 1], s344.F, false⟩ := ⟨nr rfl, nr rfl⟩
@[go_sem] theorem e344 (c : UInt8) : s344.F [.i .u8 c.toNat] = some (.b (plainB c), [.u]) := mkS_eq (0) rfl rfl (fun cx h => by
  cases h1 : ((c.toNat : Int) == 9) <;> by_cases h2 : 32 ≤ (c.toNat : Int) <;> by_cases h3 : (c.toNat : Int) ≤ 126 <;> simp only [go_sem, reduceIte, ↓reduceIte, reduceCtorEq, nA, nS, nM, nB, nE, nL, nT, nN, iL, iT, iE, iA, iM, iS, iG, iB, iN, iZ, h, h1, h2, h3, plainB]) (rfl)
noncomputable def s219 : SP Tryz.prog := mkS tyA 219 Tryz.f219 [s302, s303] { md := [.ro 1], rets := some ([2], []) } Tryz.func219 (by kernel_rfl)
@[go_sem] theorem d219 : s219.g = 219 ∧ s219.fs = ⟨[.ro 1], s219.F, false⟩ := ⟨nr rfl, nr rfl⟩
@[go_sem] theorem e219 (c : UInt8) : s219.F [.i .u8 c.toNat] = some (.b (hostB c), [.u]) := mkS_eq (0) rfl rfl (fun cx h => by
  cases h1 : letterB c <;> cases h2 : digitB c <;> cases h3 : ((c.toNat : Int) == 46) <;> cases h4 : ((c.toNat : Int) == 45) <;> simp only [go_sem, reduceIte, ↓reduceIte, reduceCtorEq, nA, nS, nM, nB, nE, nL, nT, nN, iL, iT, iE, iA, iM, iS, iG, iB, iN, iZ, h, h1, h2, h3, h4, hostB]) (rfl)
noncomputable def s220 : SP Tryz.prog := mkS tyA 220 Tryz.f220 [s259, s304] { md := [.ro 1], rets := some ([2], []) } Tryz.func220 (by kernel_rfl)
@[go_sem] theorem d220 : s220.g = 220 ∧ s220.fs = ⟨[.ro 1], s220.F, false⟩ := ⟨nr rfl, nr rfl⟩
@[go_sem] theorem e220 (c : UInt8) : s220.F [.i .u8 c.toNat] = some (.b (pathB c), [.u]) := mkS_eq (0) rfl rfl (fun cx h => by
  have hix := ixB_psym c
  have hu : pathB c = (wordB c || pSymB.contains c) := rfl
  cases h1 : wordB c <;> cases h3 : pSymB.contains c <;> simp only [go_sem, reduceIte, ↓reduceIte, reduceCtorEq, nA, nS, nM, nB, nE, nL, nT, nN, iL, iT, iE, iA, iM, iS, iG, iB, iN, iZ, h, h1, h3, hu, hix]) (rfl)
noncomputable def s218 : SP Tryz.prog := mkS tyA 218 Tryz.f218 [s219, s220, s259, s303, s344] { md := [.ro 1, .ro 1, .ro 1, .ro 1], rg := [(0, [0, 1, 2, 3], []), (1, [0, 3, 19], []), (2, [8], []), (3, [0, 3, 21, 22], []), (4, [0, 3, 21, 22, 23], []), (5, [0, 3, 9, 21, 22], []), (6, [0, 3, 21, 22, 30], []), (7, [8], []), (8, [0, 3, 21, 22], []), (9, [8], [])], lv := [(0, [0, 3, 21, 22], [])], out := [(0, [], [])], rets := some ([8], []) } Tryz.func218 (by kernel_rfl)
@[go_sem] theorem d218 : s218.g = 218 ∧ s218.fs = ⟨[.ro 1, .ro 1, .ro 1, .ro 1], s218.F, false⟩ := ⟨nr rfl, nr rfl⟩
@[go_sem] theorem e218_259 (t : ByteArray) (lo hi : Int) (hb : hi ≤ 1000000) : s218.F [.s t, .i .i64 lo, .i .i64 hi, .fn 259 []] = some (.b (areB wordB lo hi t), [.u, .u, .u, .u]) := mkS_eq (t.data.toList.length + 1) rfl rfl (fun cx h => by
  by_cases h1 : (t.size : Int) < lo
  · simp only [go_sem, reduceIte, ↓reduceIte, reduceCtorEq, nA, nS, nM, nB, nE, nL, nT, nN, iL, iT, iE, iA, iM, iS, iG, iB, iN, iZ, h, h1, areB_short h1]
  by_cases h2 : hi < (t.size : Int)
  · simp only [go_sem, reduceIte, ↓reduceIte, reduceCtorEq, nA, nS, nM, nB, nE, nL, nT, nN, iL, iT, iE, iA, iM, iS, iG, iB, iN, iZ, h, h1, h2, areB_long h2]
  have hx : t.data.toList.length ≤ 9223372036854775806 := by rw [← str_size]; omega
  have ha := areB_all (p := wordB) h1 h2
  rw [str_size t] at h1 h2
  · have hb0 := loopN_eq Tryz.f218 0 _ _ rfl rfl
    obtain ⟨r, hr, hq⟩ := loop_srch (cx := cx) (blk := 0) (body := loopN Tryz.f218 0) t.data.toList (fun k (s : Unit) => ⟨E [(0, .s t), (3, .fn 259 []), (21, .i .i64 t.size), (22, .i .i64 k)], B []⟩) (fun s => ⟨E [], B []⟩) (fun x s => !wordB x) (fun x s => ()) (fun x s => (.ret, ⟨E [(8, .b false)], B []⟩)) (fun k s => True)
        (fun s hI G => by simp only [go_sem, reduceIte, ↓reduceIte, reduceCtorEq, nA, nS, nM, nB, nE, nL, nT, nN, iL, iT, iE, iA, iM, iS, iG, iB, iN, iZ, h, Int.lt_irrefl, hb0, str_size t]) (fun k hk s hI => by
          have h1 : ((k : Int) < (t.data.toList.length : Int)) := Int.ofNat_lt.2 hk
          have hz := str_at t k hk
          exact ⟨_, _, _, fun G => by simp only [go_sem, reduceIte, ↓reduceIte, reduceCtorEq, nA, nS, nM, nB, nE, nL, nT, nN, iL, iT, iE, iA, iM, iS, iG, iB, iN, iZ, h, hz, str_size t, h1, idx_nt _ _ hk, wrap_nat1 (show k < 9223372036854775807 by omega), hb0] <;> with_reducible rfl, Iff.rfl, fun hc => ⟨trivial, by simp only [go_sem, reduceIte, ↓reduceIte, reduceCtorEq, nA, nS, nM, nB, nE, nL, nT, nN, iL, iT, iE, iA, iM, iS, iG, iB, iN, iZ, h, str_size t]⟩⟩) () trivial (t.data.toList.length + 1) (Nat.le_refl _)
    rw [hb0] at hr
    rcases hq with ⟨s', e1, _, e3⟩ | ⟨x, s', e1, e3⟩
    · simp only [go_sem, reduceIte, ↓reduceIte, reduceCtorEq, nA, nS, nM, nB, nE, nL, nT, nN, iL, iT, iE, iA, iM, iS, iG, iB, iN, iZ, h, h1, h2, str_size t, hr, e3, ha, runS_all e1]
    · simp only [go_sem, reduceIte, ↓reduceIte, reduceCtorEq, nA, nS, nM, nB, nE, nL, nT, nN, iL, iT, iE, iA, iM, iS, iG, iB, iN, iZ, h, h1, h2, str_size t, hr, e3, ha, runS_all' e1]) (rfl)
@[go_sem] theorem e218_344 (t : ByteArray) (lo hi : Int) (hb : hi ≤ 1000000) : s218.F [.s t, .i .i64 lo, .i .i64 hi, .fn 344 []] = some (.b (areB plainB lo hi t), [.u, .u, .u, .u]) := mkS_eq (t.data.toList.length + 1) rfl rfl (fun cx h => by
  by_cases h1 : (t.size : Int) < lo
  · simp only [go_sem, reduceIte, ↓reduceIte, reduceCtorEq, nA, nS, nM, nB, nE, nL, nT, nN, iL, iT, iE, iA, iM, iS, iG, iB, iN, iZ, h, h1, areB_short h1]
  by_cases h2 : hi < (t.size : Int)
  · simp only [go_sem, reduceIte, ↓reduceIte, reduceCtorEq, nA, nS, nM, nB, nE, nL, nT, nN, iL, iT, iE, iA, iM, iS, iG, iB, iN, iZ, h, h1, h2, areB_long h2]
  have hx : t.data.toList.length ≤ 9223372036854775806 := by rw [← str_size]; omega
  have ha := areB_all (p := plainB) h1 h2
  rw [str_size t] at h1 h2
  · have hb0 := loopN_eq Tryz.f218 0 _ _ rfl rfl
    obtain ⟨r, hr, hq⟩ := loop_srch (cx := cx) (blk := 0) (body := loopN Tryz.f218 0) t.data.toList (fun k (s : Unit) => ⟨E [(0, .s t), (3, .fn 344 []), (21, .i .i64 t.size), (22, .i .i64 k)], B []⟩) (fun s => ⟨E [], B []⟩) (fun x s => !plainB x) (fun x s => ()) (fun x s => (.ret, ⟨E [(8, .b false)], B []⟩)) (fun k s => True)
        (fun s hI G => by simp only [go_sem, reduceIte, ↓reduceIte, reduceCtorEq, nA, nS, nM, nB, nE, nL, nT, nN, iL, iT, iE, iA, iM, iS, iG, iB, iN, iZ, h, Int.lt_irrefl, hb0, str_size t]) (fun k hk s hI => by
          have h1 : ((k : Int) < (t.data.toList.length : Int)) := Int.ofNat_lt.2 hk
          have hz := str_at t k hk
          exact ⟨_, _, _, fun G => by simp only [go_sem, reduceIte, ↓reduceIte, reduceCtorEq, nA, nS, nM, nB, nE, nL, nT, nN, iL, iT, iE, iA, iM, iS, iG, iB, iN, iZ, h, hz, str_size t, h1, idx_nt _ _ hk, wrap_nat1 (show k < 9223372036854775807 by omega), hb0] <;> with_reducible rfl, Iff.rfl, fun hc => ⟨trivial, by simp only [go_sem, reduceIte, ↓reduceIte, reduceCtorEq, nA, nS, nM, nB, nE, nL, nT, nN, iL, iT, iE, iA, iM, iS, iG, iB, iN, iZ, h, str_size t]⟩⟩) () trivial (t.data.toList.length + 1) (Nat.le_refl _)
    rw [hb0] at hr
    rcases hq with ⟨s', e1, _, e3⟩ | ⟨x, s', e1, e3⟩
    · simp only [go_sem, reduceIte, ↓reduceIte, reduceCtorEq, nA, nS, nM, nB, nE, nL, nT, nN, iL, iT, iE, iA, iM, iS, iG, iB, iN, iZ, h, h1, h2, str_size t, hr, e3, ha, runS_all e1]
    · simp only [go_sem, reduceIte, ↓reduceIte, reduceCtorEq, nA, nS, nM, nB, nE, nL, nT, nN, iL, iT, iE, iA, iM, iS, iG, iB, iN, iZ, h, h1, h2, str_size t, hr, e3, ha, runS_all' e1]) (rfl)
@[go_sem] theorem e218_219 (t : ByteArray) (lo hi : Int) (hb : hi ≤ 1000000) : s218.F [.s t, .i .i64 lo, .i .i64 hi, .fn 219 []] = some (.b (areB hostB lo hi t), [.u, .u, .u, .u]) := mkS_eq (t.data.toList.length + 1) rfl rfl (fun cx h => by
  by_cases h1 : (t.size : Int) < lo
  · simp only [go_sem, reduceIte, ↓reduceIte, reduceCtorEq, nA, nS, nM, nB, nE, nL, nT, nN, iL, iT, iE, iA, iM, iS, iG, iB, iN, iZ, h, h1, areB_short h1]
  by_cases h2 : hi < (t.size : Int)
  · simp only [go_sem, reduceIte, ↓reduceIte, reduceCtorEq, nA, nS, nM, nB, nE, nL, nT, nN, iL, iT, iE, iA, iM, iS, iG, iB, iN, iZ, h, h1, h2, areB_long h2]
  have hx : t.data.toList.length ≤ 9223372036854775806 := by rw [← str_size]; omega
  have ha := areB_all (p := hostB) h1 h2
  rw [str_size t] at h1 h2
  · have hb0 := loopN_eq Tryz.f218 0 _ _ rfl rfl
    obtain ⟨r, hr, hq⟩ := loop_srch (cx := cx) (blk := 0) (body := loopN Tryz.f218 0) t.data.toList (fun k (s : Unit) => ⟨E [(0, .s t), (3, .fn 219 []), (21, .i .i64 t.size), (22, .i .i64 k)], B []⟩) (fun s => ⟨E [], B []⟩) (fun x s => !hostB x) (fun x s => ()) (fun x s => (.ret, ⟨E [(8, .b false)], B []⟩)) (fun k s => True)
        (fun s hI G => by simp only [go_sem, reduceIte, ↓reduceIte, reduceCtorEq, nA, nS, nM, nB, nE, nL, nT, nN, iL, iT, iE, iA, iM, iS, iG, iB, iN, iZ, h, Int.lt_irrefl, hb0, str_size t]) (fun k hk s hI => by
          have h1 : ((k : Int) < (t.data.toList.length : Int)) := Int.ofNat_lt.2 hk
          have hz := str_at t k hk
          exact ⟨_, _, _, fun G => by simp only [go_sem, reduceIte, ↓reduceIte, reduceCtorEq, nA, nS, nM, nB, nE, nL, nT, nN, iL, iT, iE, iA, iM, iS, iG, iB, iN, iZ, h, hz, str_size t, h1, idx_nt _ _ hk, wrap_nat1 (show k < 9223372036854775807 by omega), hb0] <;> with_reducible rfl, Iff.rfl, fun hc => ⟨trivial, by simp only [go_sem, reduceIte, ↓reduceIte, reduceCtorEq, nA, nS, nM, nB, nE, nL, nT, nN, iL, iT, iE, iA, iM, iS, iG, iB, iN, iZ, h, str_size t]⟩⟩) () trivial (t.data.toList.length + 1) (Nat.le_refl _)
    rw [hb0] at hr
    rcases hq with ⟨s', e1, _, e3⟩ | ⟨x, s', e1, e3⟩
    · simp only [go_sem, reduceIte, ↓reduceIte, reduceCtorEq, nA, nS, nM, nB, nE, nL, nT, nN, iL, iT, iE, iA, iM, iS, iG, iB, iN, iZ, h, h1, h2, str_size t, hr, e3, ha, runS_all e1]
    · simp only [go_sem, reduceIte, ↓reduceIte, reduceCtorEq, nA, nS, nM, nB, nE, nL, nT, nN, iL, iT, iE, iA, iM, iS, iG, iB, iN, iZ, h, h1, h2, str_size t, hr, e3, ha, runS_all' e1]) (rfl)
@[go_sem] theorem e218_220 (t : ByteArray) (lo hi : Int) (hb : hi ≤ 1000000) : s218.F [.s t, .i .i64 lo, .i .i64 hi, .fn 220 []] = some (.b (areB pathB lo hi t), [.u, .u, .u, .u]) := mkS_eq (t.data.toList.length + 1) rfl rfl (fun cx h => by
  by_cases h1 : (t.size : Int) < lo
  · simp only [go_sem, reduceIte, ↓reduceIte, reduceCtorEq, nA, nS, nM, nB, nE, nL, nT, nN, iL, iT, iE, iA, iM, iS, iG, iB, iN, iZ, h, h1, areB_short h1]
  by_cases h2 : hi < (t.size : Int)
  · simp only [go_sem, reduceIte, ↓reduceIte, reduceCtorEq, nA, nS, nM, nB, nE, nL, nT, nN, iL, iT, iE, iA, iM, iS, iG, iB, iN, iZ, h, h1, h2, areB_long h2]
  have hx : t.data.toList.length ≤ 9223372036854775806 := by rw [← str_size]; omega
  have ha := areB_all (p := pathB) h1 h2
  rw [str_size t] at h1 h2
  · have hb0 := loopN_eq Tryz.f218 0 _ _ rfl rfl
    obtain ⟨r, hr, hq⟩ := loop_srch (cx := cx) (blk := 0) (body := loopN Tryz.f218 0) t.data.toList (fun k (s : Unit) => ⟨E [(0, .s t), (3, .fn 220 []), (21, .i .i64 t.size), (22, .i .i64 k)], B []⟩) (fun s => ⟨E [], B []⟩) (fun x s => !pathB x) (fun x s => ()) (fun x s => (.ret, ⟨E [(8, .b false)], B []⟩)) (fun k s => True)
        (fun s hI G => by simp only [go_sem, reduceIte, ↓reduceIte, reduceCtorEq, nA, nS, nM, nB, nE, nL, nT, nN, iL, iT, iE, iA, iM, iS, iG, iB, iN, iZ, h, Int.lt_irrefl, hb0, str_size t]) (fun k hk s hI => by
          have h1 : ((k : Int) < (t.data.toList.length : Int)) := Int.ofNat_lt.2 hk
          have hz := str_at t k hk
          exact ⟨_, _, _, fun G => by simp only [go_sem, reduceIte, ↓reduceIte, reduceCtorEq, nA, nS, nM, nB, nE, nL, nT, nN, iL, iT, iE, iA, iM, iS, iG, iB, iN, iZ, h, hz, str_size t, h1, idx_nt _ _ hk, wrap_nat1 (show k < 9223372036854775807 by omega), hb0] <;> with_reducible rfl, Iff.rfl, fun hc => ⟨trivial, by simp only [go_sem, reduceIte, ↓reduceIte, reduceCtorEq, nA, nS, nM, nB, nE, nL, nT, nN, iL, iT, iE, iA, iM, iS, iG, iB, iN, iZ, h, str_size t]⟩⟩) () trivial (t.data.toList.length + 1) (Nat.le_refl _)
    rw [hb0] at hr
    rcases hq with ⟨s', e1, _, e3⟩ | ⟨x, s', e1, e3⟩
    · simp only [go_sem, reduceIte, ↓reduceIte, reduceCtorEq, nA, nS, nM, nB, nE, nL, nT, nN, iL, iT, iE, iA, iM, iS, iG, iB, iN, iZ, h, h1, h2, str_size t, hr, e3, ha, runS_all e1]
    · simp only [go_sem, reduceIte, ↓reduceIte, reduceCtorEq, nA, nS, nM, nB, nE, nL, nT, nN, iL, iT, iE, iA, iM, iS, iG, iB, iN, iZ, h, h1, h2, str_size t, hr, e3, ha, runS_all' e1]) (rfl)
@[go_sem] theorem e218_303 (t : ByteArray) (lo hi : Int) (hb : hi ≤ 1000000) : s218.F [.s t, .i .i64 lo, .i .i64 hi, .fn 303 []] = some (.b (areB digitB lo hi t), [.u, .u, .u, .u]) := mkS_eq (t.data.toList.length + 1) rfl rfl (fun cx h => by
  by_cases h1 : (t.size : Int) < lo
  · simp only [go_sem, reduceIte, ↓reduceIte, reduceCtorEq, nA, nS, nM, nB, nE, nL, nT, nN, iL, iT, iE, iA, iM, iS, iG, iB, iN, iZ, h, h1, areB_short h1]
  by_cases h2 : hi < (t.size : Int)
  · simp only [go_sem, reduceIte, ↓reduceIte, reduceCtorEq, nA, nS, nM, nB, nE, nL, nT, nN, iL, iT, iE, iA, iM, iS, iG, iB, iN, iZ, h, h1, h2, areB_long h2]
  have hx : t.data.toList.length ≤ 9223372036854775806 := by rw [← str_size]; omega
  have ha := areB_all (p := digitB) h1 h2
  rw [str_size t] at h1 h2
  · have hb0 := loopN_eq Tryz.f218 0 _ _ rfl rfl
    obtain ⟨r, hr, hq⟩ := loop_srch (cx := cx) (blk := 0) (body := loopN Tryz.f218 0) t.data.toList (fun k (s : Unit) => ⟨E [(0, .s t), (3, .fn 303 []), (21, .i .i64 t.size), (22, .i .i64 k)], B []⟩) (fun s => ⟨E [], B []⟩) (fun x s => !digitB x) (fun x s => ()) (fun x s => (.ret, ⟨E [(8, .b false)], B []⟩)) (fun k s => True)
        (fun s hI G => by simp only [go_sem, reduceIte, ↓reduceIte, reduceCtorEq, nA, nS, nM, nB, nE, nL, nT, nN, iL, iT, iE, iA, iM, iS, iG, iB, iN, iZ, h, Int.lt_irrefl, hb0, str_size t]) (fun k hk s hI => by
          have h1 : ((k : Int) < (t.data.toList.length : Int)) := Int.ofNat_lt.2 hk
          have hz := str_at t k hk
          exact ⟨_, _, _, fun G => by simp only [go_sem, reduceIte, ↓reduceIte, reduceCtorEq, nA, nS, nM, nB, nE, nL, nT, nN, iL, iT, iE, iA, iM, iS, iG, iB, iN, iZ, h, hz, str_size t, h1, idx_nt _ _ hk, wrap_nat1 (show k < 9223372036854775807 by omega), hb0] <;> with_reducible rfl, Iff.rfl, fun hc => ⟨trivial, by simp only [go_sem, reduceIte, ↓reduceIte, reduceCtorEq, nA, nS, nM, nB, nE, nL, nT, nN, iL, iT, iE, iA, iM, iS, iG, iB, iN, iZ, h, str_size t]⟩⟩) () trivial (t.data.toList.length + 1) (Nat.le_refl _)
    rw [hb0] at hr
    rcases hq with ⟨s', e1, _, e3⟩ | ⟨x, s', e1, e3⟩
    · simp only [go_sem, reduceIte, ↓reduceIte, reduceCtorEq, nA, nS, nM, nB, nE, nL, nT, nN, iL, iT, iE, iA, iM, iS, iG, iB, iN, iZ, h, h1, h2, str_size t, hr, e3, ha, runS_all e1]
    · simp only [go_sem, reduceIte, ↓reduceIte, reduceCtorEq, nA, nS, nM, nB, nE, nL, nT, nN, iL, iT, iE, iA, iM, iS, iG, iB, iN, iZ, h, h1, h2, str_size t, hr, e3, ha, runS_all' e1]) (rfl)
end Go.Vm.A
