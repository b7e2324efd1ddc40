/- Functions of the program, walked by the evaluator. -/
import Derived.Test.YtnbhkifknleipaaGreatDoorWb
import Derived.Test.YtnbhkifknleipaaGreatDoorWa
import Derived.Test.YtnbhkifknleipaaGreatDoorFd
import Derived.Test.YtnbhkifknleipaaGreatDoorFf
set_option autoImplicit false
set_option maxRecDepth 100000
set_option maxHeartbeats 4000000
set_option linter.unusedVariables false
set_option linter.unusedSimpArgs false
namespace Go.Vm.A
open Go.Proofs
open Nat renaming reduceAdd → nA, reduceSub → nS, reduceMul → nM, reduceBEq → nB, reduceEqDiff → nE, reduceLeDiff → nL, reduceLT → nT, reduceBneDiff → nN
open Int renaming reduceLE → iL, reduceLT → iT, reduceEq → iE, reduceAdd → iA, reduceMul → iM, reduceSub → iS, reduceNeg → iG, reduceBEq → iB, reduceBNe → iN, reduceToNat → iZ

noncomputable def s121 : SP Tryz.prog := mkS tyA 121 Tryz.f121 [s125] { md := [.ro 1, .ro 1], rg := [(0, [0, 1], []), (1, [6], []), (2, [6, 12], []), (3, [4, 5], []), (4, [4, 5], [])], rets := some ([4, 5], []) } Tryz.func121 (by kernel_rfl)
@[go_sem] theorem d121 : s121.g = 121 ∧ s121.fs = ⟨[.ro 1, .ro 1], s121.F, false⟩ := ⟨nr rfl, nr rfl⟩
@[go_sem] theorem e121 (hs : List Header) (name : ByteArray) (h0 : (hs.length ≤ 20 ∧ smL smHeader hs ∧ okN name = true)) : s121.F [.sl .ro 2 (hs.map (rHeader .ro)), .s name] = some (.tup [.s (firstV hs name), .b (hasV hs name)], [.u, .u]) := mkS_eq (0) rfl rfl (fun cx h => by
  cases hv : valsOf hs name with
  | nil =>
    obtain ⟨a1, a2⟩ := firstV_nil hv
    simp only [go_sem, reduceIte, ↓reduceIte, reduceCtorEq, nA, nS, nM, nB, nE, nL, nT, nN, iL, iT, iE, iA, iM, iS, iG, iB, iN, iZ, h, h0, hv, a1, a2]
  | cons v r =>
    obtain ⟨a1, a2⟩ := firstV_cons hv
    have a3 : (((r.length + 1 : Nat) : Int) == 0) = false := by simp; omega
    have a4 : idx? (r.length + 1) 0 = some 0 := idx_nt _ 0 (by omega)
    simp only [go_sem, reduceIte, ↓reduceIte, reduceCtorEq, nA, nS, nM, nB, nE, nL, nT, nN, iL, iT, iE, iA, iM, iS, iG, iB, iN, iZ, h, h0, hv, a1, a2, a3, a4]) (rfl)
noncomputable def s42 : SP Tryz.prog := mkS tyA 42 Tryz.f42 [s118, s121] { md := [.ro 1], rg := [(0, [0, 2], [2]), (1, [0, 2, 3], [2]), (2, [0, 2, 3, 9], [2]), (3, [2], [2]), (4, [2, 4], [2]), (5, [2, 4, 18], [2]), (6, [2], [2]), (7, [2], [2])], rets := some ([2], [2]), al := [12] } Tryz.func42 (by kernel_rfl)
@[go_sem] theorem d42 : s42.g = 42 ∧ s42.fs = ⟨[.ro 1], s42.F, false⟩ := ⟨nr rfl, nr rfl⟩
@[go_sem] theorem e42 (hs : List Header) (h0 : smL smHeader hs) : s42.F [.sl .ro 2 (hs.map (rHeader .ro))] = some (.agg (rTextResult .mut (etagOf hs)), [.u]) := mkS_eq (0) rfl rfl (fun cx h => by
  by_cases z : headersFault hs = 0
  rotate_left
  · have z' : (headersFault hs != 0) = true := by simpa using z
    simp only [go_sem, reduceIte, ↓reduceIte, reduceCtorEq, nA, nS, nM, nB, nE, nL, nT, nN, iL, iT, iE, iA, iM, iS, iG, iB, iN, iZ, h, h0, z', etagOf]
  have z' : (headersFault hs != 0) = false := by simpa using z
  have h1 : hs.length ≤ 20 ∧ smL smHeader hs ∧ okN ⟨#[69, 84, 97, 103]⟩ = true := ⟨headersFault_ok z, h0, by decide⟩
  have h2 : firstV hs ⟨#[69, 84, 97, 103]⟩ = etagV hs := rfl
  cases c1 : eqv (etagV hs) ⟨#[]⟩ <;> simp only [go_sem, reduceIte, ↓reduceIte, reduceCtorEq, nA, nS, nM, nB, nE, nL, nT, nN, iL, iT, iE, iA, iM, iS, iG, iB, iN, iZ, h, h0, z, h1, h2, c1, eqv_bytes, etagOf]) (rfl)
noncomputable def s201 : SP Tryz.prog := mkS tyA 201 Tryz.f201 [s212] { md := [.ro 1, .ro 1], rg := [(0, [0, 1], []), (1, [0, 1, 5], []), (2, [0, 1, 5, 9, 10, 11], []), (3, [0, 1, 5, 9, 10, 11, 12], []), (4, [0, 1, 5, 7, 9, 10, 11], [7]), (5, [0, 1, 5, 7, 9, 10, 11, 19], [7]), (6, [0, 1, 5, 9, 10, 11], []), (7, [0, 1, 5, 9, 10, 11], []), (8, [4], [])], lv := [(0, [0, 1, 5, 9, 10, 11], [])], out := [(0, [5], [])], rets := some ([4], []) } Tryz.func201 (by kernel_rfl)
@[go_sem] theorem d201 : s201.g = 201 ∧ s201.fs = ⟨[.ro 1, .ro 1], s201.F, false⟩ := ⟨nr rfl, nr rfl⟩
@[go_sem] theorem e201 (hs : List Header) (name : ByteArray) (h0 : (hs.length ≤ 20 ∧ smL smHeader hs ∧ okN name = true)) : s201.F [.sl .ro 2 (hs.map (rHeader .ro)), .s name] = some (.sl .mut 2 ((dropV hs name).map (rHeader .mut)), [.u, .u]) := mkS_eq (hs.length + 1) rfl rfl (fun cx h => by
  have hl := h0.1
  have hx : hs.length ≤ 9223372036854775806 := by omega
  have hb0 := loopN_eq Tryz.f201 0 _ _ rfl rfl
  obtain ⟨hI, hr⟩ := loop_fold (cx := cx) (blk := 0) (body := loopN Tryz.f201 0) hs (fun k (s : List Header) => ⟨E [(0, .sl .ro 2 (hs.map (rHeader .ro))), (1, .s name), (5, .sl .mut 2 (s.map (rHeader .mut))), (9, .sl .ro 2 (hs.map (rHeader .ro))), (10, .i .i64 hs.length), (11, .i .i64 k)], B []⟩) (fun s => ⟨E [(5, .sl .mut 2 (s.map (rHeader .mut)))], B []⟩) (fun x s => (if eqv (lowS x.Name) (lowS name) = true then s else s ++ [x])) (fun k s => s.length ≤ k)
      (fun s hI G => by simp only [go_sem, reduceIte, ↓reduceIte, reduceCtorEq, nA, nS, nM, nB, nE, nL, nT, nN, iL, iT, iE, iA, iM, iS, iG, iB, iN, iZ, h, Int.lt_irrefl, hb0, h0.1]) (fun k hk s hI => by
        have h1 : ((k : Int) < (hs.length : Int)) := Int.ofNat_lt.2 hk
        have t3 : (s.length + 1) * 32 ≤ 140737488355328 := by omega
        have t4 : s.map (rHeader .mut) ++ [[.s hs[k].Name, .s hs[k].Value]] = (s ++ [hs[k]]).map (rHeader .mut) := by simp [rHeader]
        obtain ⟨u1, u2⟩ := h0.2.1.2 _ (List.getElem_mem hk)
        have n1 : hs[k].Name.size ≤ 9223372036854775806 ∧ name.size ≤ 9223372036854775806 := ⟨by have : hs[k].Name.size ≤ 1048576 := u1; omega, of_decide_eq_true h0.2.2⟩
        cases d1 : eqv (lowS hs[k].Name) (lowS name)
        all_goals exact ⟨by split <;> (try simp only [List.length_append, List.length_cons, List.length_nil]) <;> omega, _, fun G => by simp only [go_sem, reduceIte, ↓reduceIte, reduceCtorEq, nA, nS, nM, nB, nE, nL, nT, nN, iL, iT, iE, iA, iM, iS, iG, iB, iN, iZ, h, t3, t4, map_gd (rHeader .ro) hs k hk, n1, d1, rHeader, h1, idx_nt _ _ hk, wrap_nat1 (show k < 9223372036854775807 by omega), hb0] <;> with_reducible rfl, by simp only [go_sem, reduceIte, ↓reduceIte, reduceCtorEq, nA, nS, nM, nB, nE, nL, nT, nN, iL, iT, iE, iA, iM, iS, iG, iB, iN, iZ, h, d1]⟩) [] (by simp) (hs.length + 1) (Nat.le_refl _)
  rw [hb0] at hr
  have hff := filt_fold (fun x : Header => eqv (lowS x.Name) (lowS name)) hs []
  simp only [List.nil_append] at hff
  rw [hff] at hr
  simp only [go_sem, reduceIte, ↓reduceIte, reduceCtorEq, nA, nS, nM, nB, nE, nL, nT, nN, iL, iT, iE, iA, iM, iS, iG, iB, iN, iZ, h, hr, dropV]) (by simp only [go_sem, reduceIte, ↓reduceIte, reduceCtorEq, nA, nS, nM, nB, nE, nL, nT, nN, iL, iT, iE, iA, iM, iS, iG, iB, iN, iZ, okRes, hasRo])
noncomputable def s96 : SP Tryz.prog := mkS tyA 96 Tryz.f96 [s42, s201] { md := [.ro 1, .ro 1, .ro 1], rg := [(0, [2, 3, 4, 6, 7, 35], [3, 4, 6]), (1, [2, 3, 4, 6, 7, 35], [3, 4, 6]), (2, [3, 4, 6, 7, 13, 35], [3, 4, 6]), (3, [3, 6, 7, 8, 35], [3, 6, 8]), (4, [3, 6, 7, 8, 24, 35], [3, 6, 8]), (5, [3, 6, 7, 35], [3, 6]), (6, [6, 7, 35], [6])], rets := some ([6, 7, 35], [6]) } Tryz.func96 (by kernel_rfl)
@[go_sem] theorem d96 : s96.g = 96 ∧ s96.fs = ⟨[.ro 1, .ro 1, .ro 1], s96.F, false⟩ := ⟨nr rfl, nr rfl⟩
@[go_sem] theorem e96 (rMethod : ByteArray) (rHost : ByteArray) (rPath : ByteArray) (rHeaders : List Header) (eKey : ByteArray) (eStatus : Int) (eHeaders : List Header) (eBody : List UInt8) (eMetaAt : Int) (eMetaAge : Int) (eMetaLife : Int) (eMetaSwr : Int) (eMetaSie : Int) (eMetaSoft : Bool) (eMetaNoCache : Bool) (eTags : List ByteArray) (ePins : Int) (has : Bool) (h0 : ((Request.mk rMethod rHost rPath rHeaders).Headers.length ≤ 20 ∧ smL smHeader (Request.mk rMethod rHost rPath rHeaders).Headers ∧ smL smHeader (Entry.mk eKey eStatus eHeaders eBody (Meta.mk eMetaAt eMetaAge eMetaLife eMetaSwr eMetaSie eMetaSoft eMetaNoCache) eTags ePins).Headers ∧ (!has || decide (headersFault (Entry.mk eKey eStatus eHeaders eBody (Meta.mk eMetaAt eMetaAge eMetaLife eMetaSwr eMetaSie eMetaSoft eMetaNoCache) eTags ePins).Headers = 0)) = true)) : s96.F [.agg [.s rMethod, .s rHost, .s rPath, .sl .ro 2 (rHeaders.map (rHeader .ro))], .agg [.s eKey, .i .i64 eStatus, .sl .ro 2 (eHeaders.map (rHeader .ro)), .sl .ro 1 (eBody.map rByte), .i .i64 eMetaAt, .i .i64 eMetaAge, .i .i64 eMetaLife, .i .i64 eMetaSwr, .i .i64 eMetaSie, .b eMetaSoft, .b eMetaNoCache, .sl .ro 1 (eTags.map rStr), .i .i64 ePins], .b has] = some (.agg (rRequest .mut (fetchReq (Request.mk rMethod rHost rPath rHeaders) (Entry.mk eKey eStatus eHeaders eBody (Meta.mk eMetaAt eMetaAge eMetaLife eMetaSwr eMetaSie eMetaSoft eMetaNoCache) eTags ePins) has)), [.u, .u, .u]) := mkS_eq (0) rfl rfl (fun cx h => by
  obtain ⟨hl, hH, hE, hEb⟩ := h0
  have hEl : has = true → headersFault eHeaders = 0 := fun x => by subst x; simpa using hEb
  have g1 : rHeaders.length ≤ 20 ∧ smL smHeader rHeaders ∧ okN ⟨#[73, 102, 45, 78, 111, 110, 101, 45, 77, 97, 116, 99, 104]⟩ = true := ⟨hl, hH, by decide⟩
  have g2 : (dropV rHeaders ⟨#[73, 102, 45, 78, 111, 110, 101, 45, 77, 97, 116, 99, 104]⟩).length ≤ 20 ∧ smL smHeader (dropV rHeaders ⟨#[73, 102, 45, 78, 111, 110, 101, 45, 77, 97, 116, 99, 104]⟩) ∧ okN ⟨#[73, 102, 45, 77, 111, 100, 105, 102, 105, 101, 100, 45, 83, 105, 110, 99, 101]⟩ = true := dropV_ok g1 (by decide)
  have g3 : dropV (dropV rHeaders ⟨#[73, 102, 45, 78, 111, 110, 101, 45, 77, 97, 116, 99, 104]⟩) ⟨#[73, 102, 45, 77, 111, 100, 105, 102, 105, 101, 100, 45, 83, 105, 110, 99, 101]⟩ = fetchHs (Request.mk rMethod rHost rPath rHeaders) := rfl
  have g4 := fetchHs_len (Request.mk rMethod rHost rPath rHeaders)
  obtain ⟨L, hL⟩ : ∃ L, fetchHs (Request.mk rMethod rHost rPath rHeaders) = L := ⟨_, rfl⟩
  rw [hL] at g3 g4
  simp only at g4
  have g5 : (L.length + 1) * 32 ≤ 140737488355328 := by omega
  have g6 : L.map (rHeader .mut) ++ [[.s ⟨#[73, 102, 45, 78, 111, 110, 101, 45, 77, 97, 116, 99, 104]⟩, .s (etagV eHeaders)]] = (L ++ [Header.mk ⟨#[73, 102, 45, 78, 111, 110, 101, 45, 77, 97, 116, 99, 104]⟩ (etagV eHeaders)]).map (rHeader .mut) := by simp [rHeader]
  cases has
  · simp only [go_sem, reduceIte, ↓reduceIte, reduceCtorEq, nA, nS, nM, nB, nE, nL, nT, nN, iL, iT, iE, iA, iM, iS, iG, iB, iN, iZ, h, hL, g1, g2, g3, fetchReq]
  have ez := headersFault_ok2 (hEl rfl)
  cases c1 : eqv (etagV eHeaders) ⟨#[]⟩
  rotate_left
  · simp only [go_sem, reduceIte, ↓reduceIte, reduceCtorEq, nA, nS, nM, nB, nE, nL, nT, nN, iL, iT, iE, iA, iM, iS, iG, iB, iN, iZ, h, hL, g1, g2, g3, hE, ez, c1, etagOf, fetchReq]
  by_cases c2 : (L.length : Int) < 19 <;> simp only [go_sem, reduceIte, ↓reduceIte, reduceCtorEq, nA, nS, nM, nB, nE, nL, nT, nN, iL, iT, iE, iA, iM, iS, iG, iB, iN, iZ, h, hL, g1, g2, g3, g5, g6, hE, ez, c1, c2, etagOf, fetchReq]) (by simp only [go_sem, reduceIte, ↓reduceIte, reduceCtorEq, nA, nS, nM, nB, nE, nL, nT, nN, iL, iT, iE, iA, iM, iS, iG, iB, iN, iZ, okRes, hasRo, hasRoL, hasRoLL])
noncomputable def s24 : SP Tryz.prog := mkS tyA 24 Tryz.f24 [s43, s95, s96] { md := [.ro 1, .ro 1, .ro 1], rg := [(0, [2, 3, 4, 6, 24], [3, 4, 6]), (1, [2, 3, 4, 6, 7, 24], [3, 4, 6]), (2, [2, 3, 4, 6, 7, 14, 24], [3, 4, 6]), (3, [2, 3, 4, 6, 7, 24], [3, 4, 6]), (4, [2, 3, 4, 6, 7, 18, 24], [3, 4, 6]), (5, [6, 24], [6]), (6, [6, 24], [6])], rets := some ([6, 24], [6]) } Tryz.func24 (by kernel_rfl)
@[go_sem] theorem d24 : s24.g = 24 ∧ s24.fs = ⟨[.ro 1, .ro 1, .ro 1], s24.F, false⟩ := ⟨nr rfl, nr rfl⟩
@[go_sem] theorem e24 (rMethod : ByteArray) (rHost : ByteArray) (rPath : ByteArray) (rHeaders : List Header) (eKey : ByteArray) (eStatus : Int) (eHeaders : List Header) (eBody : List UInt8) (eMetaAt : Int) (eMetaAge : Int) (eMetaLife : Int) (eMetaSwr : Int) (eMetaSie : Int) (eMetaSoft : Bool) (eMetaNoCache : Bool) (eTags : List ByteArray) (ePins : Int) (has : Bool) (h0 : (smL smHeader (Request.mk rMethod rHost rPath rHeaders).Headers ∧ smL smHeader (Entry.mk eKey eStatus eHeaders eBody (Meta.mk eMetaAt eMetaAge eMetaLife eMetaSwr eMetaSie eMetaSoft eMetaNoCache) eTags ePins).Headers)) : s24.F [.agg [.s rMethod, .s rHost, .s rPath, .sl .ro 2 (rHeaders.map (rHeader .ro))], .agg [.s eKey, .i .i64 eStatus, .sl .ro 2 (eHeaders.map (rHeader .ro)), .sl .ro 1 (eBody.map rByte), .i .i64 eMetaAt, .i .i64 eMetaAge, .i .i64 eMetaLife, .i .i64 eMetaSwr, .i .i64 eMetaSie, .b eMetaSoft, .b eMetaNoCache, .sl .ro 1 (eTags.map rStr), .i .i64 ePins], .b has] = some (.agg (rRequestResult .mut (fetchFor (Request.mk rMethod rHost rPath rHeaders) (Entry.mk eKey eStatus eHeaders eBody (Meta.mk eMetaAt eMetaAge eMetaLife eMetaSwr eMetaSie eMetaSoft eMetaNoCache) eTags ePins) has)), [.u, .u, .u]) := mkS_eq (0) rfl rfl (fun cx h => by
  obtain ⟨hH, hE⟩ := h0
  by_cases z : requestFault (Request.mk rMethod rHost rPath rHeaders) = 0
  rotate_left
  · have z' : (requestFault (Request.mk rMethod rHost rPath rHeaders) != 0) = true := by simpa using z
    have z2 : (requestFault (Request.mk rMethod rHost rPath rHeaders) == 0) = false := by simpa using z
    simp only [go_sem, reduceIte, ↓reduceIte, reduceCtorEq, nA, nS, nM, nB, nE, nL, nT, nN, iL, iT, iE, iA, iM, iS, iG, iB, iN, iZ, h, hH, z', z2, fetchFor, noReq]
  have hl := headersFault_ok (requestFault_ok z)
  simp only at hl
  have z' : (requestFault (Request.mk rMethod rHost rPath rHeaders) != 0) = false := by simpa using z
  cases has
  · have hk := hl
    simp only [go_sem, reduceIte, ↓reduceIte, reduceCtorEq, nA, nS, nM, nB, nE, nL, nT, nN, iL, iT, iE, iA, iM, iS, iG, iB, iN, iZ, h, hH, hE, z, hk, fetchFor, noReq]
  by_cases y : entryFault (Entry.mk eKey eStatus eHeaders eBody (Meta.mk eMetaAt eMetaAge eMetaLife eMetaSwr eMetaSie eMetaSoft eMetaNoCache) eTags ePins) = 0
  rotate_left
  · have y' : (entryFault (Entry.mk eKey eStatus eHeaders eBody (Meta.mk eMetaAt eMetaAge eMetaLife eMetaSwr eMetaSie eMetaSoft eMetaNoCache) eTags ePins) != 0) = true := by simpa using y
    simp only [go_sem, reduceIte, ↓reduceIte, reduceCtorEq, nA, nS, nM, nB, nE, nL, nT, nN, iL, iT, iE, iA, iM, iS, iG, iB, iN, iZ, h, hH, hE, z, y', fetchFor, noReq]
  have y' : (entryFault (Entry.mk eKey eStatus eHeaders eBody (Meta.mk eMetaAt eMetaAge eMetaLife eMetaSwr eMetaSie eMetaSoft eMetaNoCache) eTags ePins) != 0) = false := by simpa using y
  have hk := hl
  have hk2 := entryFault_ok y
  simp only at hk2
  simp only [go_sem, reduceIte, ↓reduceIte, reduceCtorEq, nA, nS, nM, nB, nE, nL, nT, nN, iL, iT, iE, iA, iM, iS, iG, iB, iN, iZ, h, hH, hE, z, y, hk, hk2, fetchFor, noReq]) (by simp only [go_sem, reduceIte, ↓reduceIte, reduceCtorEq, nA, nS, nM, nB, nE, nL, nT, nN, iL, iT, iE, iA, iM, iS, iG, iB, iN, iZ, okRes, hasRo, hasRoL, hasRoLL])
noncomputable def s202 : SP Tryz.prog := mkS tyA 202 Tryz.f202 [] { md := [.ro 1, .ro 1], rg := [(0, [2, 3], [2, 3]), (1, [2, 3, 9], [2, 3]), (2, [4], []), (3, [14], []), (4, [4], []), (5, [4], [])], rets := some ([4], []) } Tryz.func202 (by kernel_rfl)
@[go_sem] theorem d202 : s202.g = 202 ∧ s202.fs = ⟨[.ro 1, .ro 1], s202.F, false⟩ := ⟨nr rfl, nr rfl⟩
@[go_sem] theorem e202 (xName : ByteArray) (xValue : ByteArray) (yName : ByteArray) (yValue : ByteArray) (h0 : smHeader (Header.mk xName xValue)) : s202.F [.agg [.s xName, .s xValue], .agg [.s yName, .s yValue]] = some (.b (eqv (Header.mk xName xValue) (Header.mk yName yValue)), [.u, .u]) := mkS_eq (0) rfl rfl (fun cx h => by
  obtain ⟨q0, q1⟩ := h0
  simp only [go_sem, reduceIte, ↓reduceIte, reduceCtorEq, nA, nS, nM, nB, nE, nL, nT, nN, iL, iT, iE, iA, iM, iS, iG, iB, iN, iZ, h, eqv_intne, eqv_bytes, eqv_boolne, q0, q1]
  simp only [eqv_bool, eqv_int, Header.eqv (Header.mk xName xValue) (Header.mk yName yValue), if_b, not_eq_t, if_nb, Bool.and_true]) (rfl)
noncomputable def s97 : SP Tryz.prog := mkS tyA 97 Tryz.f97 [s202] { md := [.ro 1, .ro 1], rg := [(0, [0, 1], []), (1, [0, 1, 10], []), (2, [4], []), (3, [0, 1, 5], []), (4, [0, 1, 5, 14], []), (5, [0, 1, 5], []), (6, [0, 1, 5, 26], []), (7, [4], []), (8, [4], [])], lv := [(0, [0, 1, 5], [])], out := [(0, [], [])], rets := some ([4], []), plan := [(6, (.take 0 (.take 1 (.take 2 (.take 3 (.take 4 (.take 5 (.take 6 (.take 7 (.one 8 (.take 9 .done)))))))))))] } Tryz.func97 (by kernel_rfl)
@[go_sem] theorem d97 : s97.g = 97 ∧ s97.fs = ⟨[.ro 1, .ro 1], s97.F, false⟩ := ⟨nr rfl, nr rfl⟩
@[go_sem] theorem e97 (xs ys : List Header) (h0 : smL smHeader xs) : s97.F [.sl .ro 2 (xs.map (rHeader .ro)), .sl .ro 2 (ys.map (rHeader .ro))] = some (.b (eqv xs ys), [.u, .u]) := mkS_eq (xs.length + 1) rfl rfl (fun cx h => by
  have hb := loopN_eq Tryz.f97 0 _ _ rfl rfl
  have hx := h0.1
  by_cases hl : xs.length = ys.length
  · obtain ⟨r, hr, hq⟩ := loop_list (cx := cx) (blk := 0) (body := loopN Tryz.f97 0) (xs.zip ys) (fun k (_ : Unit) => ⟨E [(0, .sl .ro 2 (xs.map (rHeader .ro))), (1, .sl .ro 2 (ys.map (rHeader .ro))), (5, .i .i64 k)], B []⟩) (fun _ => ⟨E [], B []⟩) (fun x _ => !eqv x.1 x.2) (fun _ _ => ()) (fun _ _ => (.ret, ⟨E [(4, .b false)], B []⟩)) (fun _ _ => True)
      (fun l _ G => by simp only [go_sem, reduceIte, ↓reduceIte, reduceCtorEq, nA, nS, nM, nB, nE, nL, nT, nN, iL, iT, iE, iA, iM, iS, iG, iB, iN, iZ, h, zip_len hl, hl, Int.lt_irrefl, hb]) (fun k hk l _ => by
        have hk : k < xs.length := by rwa [zip_len hl] at hk
        have h1 : ((k : Int) < (xs.length : Int)) := Int.ofNat_lt.2 hk
        have h2 := h0.2 _ (List.getElem_mem hk)
        have h3 : (xs.zip ys)[k] = (xs[k], ys[k]'(by omega)) := by simp
        rw [h3]
        cases hc : eqv xs[k] (ys[k]'(by omega))
        · exact .inl ⟨rfl, fun G => by simp only [go_sem, reduceIte, ↓reduceIte, reduceCtorEq, nA, nS, nM, nB, nE, nL, nT, nN, iL, iT, iE, iA, iM, iS, iG, iB, iN, iZ, h, hc, map_gd (rHeader .ro) xs k hk, map_gd (rHeader .ro) ys k (by omega), idx_nt ys.length k (by omega), h2, h1, idx_nt _ _ hk, wrap_nat1 (show k < 9223372036854775807 by omega), hb]⟩
        · exact .inr ⟨rfl, trivial, _, fun G => by simp only [go_sem, reduceIte, ↓reduceIte, reduceCtorEq, nA, nS, nM, nB, nE, nL, nT, nN, iL, iT, iE, iA, iM, iS, iG, iB, iN, iZ, h, hc, map_gd (rHeader .ro) xs k hk, map_gd (rHeader .ro) ys k (by omega), idx_nt ys.length k (by omega), h2, h1, idx_nt _ _ hk, wrap_nat1 (show k < 9223372036854775807 by omega), hb] <;> with_reducible rfl, by simp only [go_sem, reduceIte, ↓reduceIte, reduceCtorEq, nA, nS, nM, nB, nE, nL, nT, nN, iL, iT, iE, iA, iM, iS, iG, iB, iN, iZ, h]⟩) () trivial (xs.length + 1) (by rw [zip_len hl]; exact Nat.le_refl _)
    rw [hb] at hr
    have hl2 : ((xs.length : Int) != (ys.length : Int)) = false := by simp [hl]
    rcases hq with ⟨s', e1, e2, e3⟩ | ⟨x, s', e1, e3⟩
    · simp only [go_sem, reduceIte, ↓reduceIte, reduceCtorEq, nA, nS, nM, nB, nE, nL, nT, nN, iL, iT, iE, iA, iM, iS, iG, iB, iN, iZ, h, hl2, hr, e3, zip_eqv hl e1]
    · simp only [go_sem, reduceIte, ↓reduceIte, reduceCtorEq, nA, nS, nM, nB, nE, nL, nT, nN, iL, iT, iE, iA, iM, iS, iG, iB, iN, iZ, h, hl2, hr, e3, zip_nev hl e1]
  · have hl2 : ((xs.length : Int) != (ys.length : Int)) = true := by simpa using fun h => hl (Int.ofNat_inj.1 h)
    simp only [go_sem, reduceIte, ↓reduceIte, reduceCtorEq, nA, nS, nM, nB, nE, nL, nT, nN, iL, iT, iE, iA, iM, iS, iG, iB, iN, iZ, h, hl2, len_nev hl]) (rfl)
noncomputable def s26 : SP Tryz.prog := mkS tyA 26 Tryz.f26 [s97] { md := [.ro 1, .ro 1], rg := [(0, [2, 3], [2, 3]), (1, [2, 3, 9], [2, 3]), (2, [4], []), (3, [2, 3, 14], [2, 3]), (4, [4], []), (5, [2, 3, 19], [2, 3]), (6, [4], []), (7, [25], []), (8, [4], []), (9, [4], [])], rets := some ([4], []) } Tryz.func26 (by kernel_rfl)
@[go_sem] theorem d26 : s26.g = 26 ∧ s26.fs = ⟨[.ro 1, .ro 1], s26.F, false⟩ := ⟨nr rfl, nr rfl⟩
@[go_sem] theorem e26 (xMethod : ByteArray) (xHost : ByteArray) (xPath : ByteArray) (xHeaders : List Header) (yMethod : ByteArray) (yHost : ByteArray) (yPath : ByteArray) (yHeaders : List Header) (h0 : smRequest (Request.mk xMethod xHost xPath xHeaders)) : s26.F [.agg [.s xMethod, .s xHost, .s xPath, .sl .ro 2 (xHeaders.map (rHeader .ro))], .agg [.s yMethod, .s yHost, .s yPath, .sl .ro 2 (yHeaders.map (rHeader .ro))]] = some (.b (eqv (Request.mk xMethod xHost xPath xHeaders) (Request.mk yMethod yHost yPath yHeaders)), [.u, .u]) := mkS_eq (0) rfl rfl (fun cx h => by
  obtain ⟨q0, q1, q2, q3⟩ := h0
  simp only [go_sem, reduceIte, ↓reduceIte, reduceCtorEq, nA, nS, nM, nB, nE, nL, nT, nN, iL, iT, iE, iA, iM, iS, iG, iB, iN, iZ, h, eqv_intne, eqv_bytes, eqv_boolne, q0, q1, q2, q3]
  simp only [eqv_bool, eqv_int, Request.eqv (Request.mk xMethod xHost xPath xHeaders) (Request.mk yMethod yHost yPath yHeaders), if_b, not_eq_t, if_nb, Bool.and_true]) (rfl)
noncomputable def s25 : SP Tryz.prog := mkS tyA 25 Tryz.f25 [s26] { md := [.ro 1, .ro 1], rg := [(0, [2, 3], [2, 3]), (1, [2, 3, 9], [2, 3]), (2, [4], []), (3, [15], []), (4, [4], []), (5, [4], [])], rets := some ([4], []) } Tryz.func25 (by kernel_rfl)
@[go_sem] theorem d25 : s25.g = 25 ∧ s25.fs = ⟨[.ro 1, .ro 1], s25.F, false⟩ := ⟨nr rfl, nr rfl⟩
@[go_sem] theorem e25 (xCode : Int) (xRequestMethod : ByteArray) (xRequestHost : ByteArray) (xRequestPath : ByteArray) (xRequestHeaders : List Header) (yCode : Int) (yRequestMethod : ByteArray) (yRequestHost : ByteArray) (yRequestPath : ByteArray) (yRequestHeaders : List Header) (h0 : smRequestResult (RequestResult.mk xCode (Request.mk xRequestMethod xRequestHost xRequestPath xRequestHeaders))) : s25.F [.agg [.i .i64 xCode, .s xRequestMethod, .s xRequestHost, .s xRequestPath, .sl .ro 2 (xRequestHeaders.map (rHeader .ro))], .agg [.i .i64 yCode, .s yRequestMethod, .s yRequestHost, .s yRequestPath, .sl .ro 2 (yRequestHeaders.map (rHeader .ro))]] = some (.b (eqv (RequestResult.mk xCode (Request.mk xRequestMethod xRequestHost xRequestPath xRequestHeaders)) (RequestResult.mk yCode (Request.mk yRequestMethod yRequestHost yRequestPath yRequestHeaders))), [.u, .u]) := mkS_eq (0) rfl rfl (fun cx h => by
  obtain ⟨q0, q1⟩ := h0
  simp only [go_sem, reduceIte, ↓reduceIte, reduceCtorEq, nA, nS, nM, nB, nE, nL, nT, nN, iL, iT, iE, iA, iM, iS, iG, iB, iN, iZ, h, eqv_intne, eqv_bytes, eqv_boolne, q0, q1]
  simp only [eqv_bool, eqv_int, RequestResult.eqv (RequestResult.mk xCode (Request.mk xRequestMethod xRequestHost xRequestPath xRequestHeaders)) (RequestResult.mk yCode (Request.mk yRequestMethod yRequestHost yRequestPath yRequestHeaders)), if_b, not_eq_t, if_nb, Bool.and_true]) (rfl)
noncomputable def s98 : SP Tryz.prog := mkS tyA 98 Tryz.f98 [] { md := [.ro 1, .ro 1], rg := [(0, [0, 1], []), (1, [0, 1, 10], []), (2, [4], []), (3, [0, 1, 5], []), (4, [0, 1, 5, 14], []), (5, [0, 1, 5], []), (6, [0, 1, 5, 25], []), (7, [4], []), (8, [4], [])], lv := [(0, [0, 1, 5], [])], out := [(0, [], [])], rets := some ([4], []), plan := [(6, (.take 0 (.take 1 (.take 2 (.take 3 (.take 4 (.take 5 (.take 6 (.take 7 (.take 8 .done))))))))))] } Tryz.func98 (by kernel_rfl)
@[go_sem] theorem d98 : s98.g = 98 ∧ s98.fs = ⟨[.ro 1, .ro 1], s98.F, false⟩ := ⟨nr rfl, nr rfl⟩
@[go_sem] theorem e98 (xs ys : List UInt8) (h0 : smL smByte xs) : s98.F [.sl .ro 1 (xs.map rByte), .sl .ro 1 (ys.map rByte)] = some (.b (eqv xs ys), [.u, .u]) := mkS_eq (xs.length + 1) rfl rfl (fun cx h => by
  have hb := loopN_eq Tryz.f98 0 _ _ rfl rfl
  have hx := h0.1
  by_cases hl : xs.length = ys.length
  · obtain ⟨r, hr, hq⟩ := loop_list (cx := cx) (blk := 0) (body := loopN Tryz.f98 0) (xs.zip ys) (fun k (_ : Unit) => ⟨E [(0, .sl .ro 1 (xs.map rByte)), (1, .sl .ro 1 (ys.map rByte)), (5, .i .i64 k)], B []⟩) (fun _ => ⟨E [], B []⟩) (fun x _ => !eqv x.1 x.2) (fun _ _ => ()) (fun _ _ => (.ret, ⟨E [(4, .b false)], B []⟩)) (fun _ _ => True)
      (fun l _ G => by simp only [go_sem, reduceIte, ↓reduceIte, reduceCtorEq, nA, nS, nM, nB, nE, nL, nT, nN, iL, iT, iE, iA, iM, iS, iG, iB, iN, iZ, h, zip_len hl, hl, Int.lt_irrefl, hb]) (fun k hk l _ => by
        have hk : k < xs.length := by rwa [zip_len hl] at hk
        have h1 : ((k : Int) < (xs.length : Int)) := Int.ofNat_lt.2 hk
        have h2 := h0.2 _ (List.getElem_mem hk)
        have h3 : (xs.zip ys)[k] = (xs[k], ys[k]'(by omega)) := by simp
        rw [h3]
        cases hc : eqv xs[k] (ys[k]'(by omega))
        · exact .inl ⟨rfl, fun G => by simp only [go_sem, reduceIte, ↓reduceIte, reduceCtorEq, nA, nS, nM, nB, nE, nL, nT, nN, iL, iT, iE, iA, iM, iS, iG, iB, iN, iZ, h, hc, map_gd rByte xs k hk, map_gd rByte ys k (by omega), idx_nt ys.length k (by omega), eqv_byte, h1, idx_nt _ _ hk, wrap_nat1 (show k < 9223372036854775807 by omega), hb]⟩
        · exact .inr ⟨rfl, trivial, _, fun G => by simp only [go_sem, reduceIte, ↓reduceIte, reduceCtorEq, nA, nS, nM, nB, nE, nL, nT, nN, iL, iT, iE, iA, iM, iS, iG, iB, iN, iZ, h, hc, map_gd rByte xs k hk, map_gd rByte ys k (by omega), idx_nt ys.length k (by omega), eqv_byte, h1, idx_nt _ _ hk, wrap_nat1 (show k < 9223372036854775807 by omega), hb] <;> with_reducible rfl, by simp only [go_sem, reduceIte, ↓reduceIte, reduceCtorEq, nA, nS, nM, nB, nE, nL, nT, nN, iL, iT, iE, iA, iM, iS, iG, iB, iN, iZ, h]⟩) () trivial (xs.length + 1) (by rw [zip_len hl]; exact Nat.le_refl _)
    rw [hb] at hr
    have hl2 : ((xs.length : Int) != (ys.length : Int)) = false := by simp [hl]
    rcases hq with ⟨s', e1, e2, e3⟩ | ⟨x, s', e1, e3⟩
    · simp only [go_sem, reduceIte, ↓reduceIte, reduceCtorEq, nA, nS, nM, nB, nE, nL, nT, nN, iL, iT, iE, iA, iM, iS, iG, iB, iN, iZ, h, hl2, hr, e3, zip_eqv hl e1]
    · simp only [go_sem, reduceIte, ↓reduceIte, reduceCtorEq, nA, nS, nM, nB, nE, nL, nT, nN, iL, iT, iE, iA, iM, iS, iG, iB, iN, iZ, h, hl2, hr, e3, zip_nev hl e1]
  · have hl2 : ((xs.length : Int) != (ys.length : Int)) = true := by simpa using fun h => hl (Int.ofNat_inj.1 h)
    simp only [go_sem, reduceIte, ↓reduceIte, reduceCtorEq, nA, nS, nM, nB, nE, nL, nT, nN, iL, iT, iE, iA, iM, iS, iG, iB, iN, iZ, h, hl2, len_nev hl]) (rfl)
noncomputable def s99 : SP Tryz.prog := mkS tyA 99 Tryz.f99 [] { md := [.ro 1, .ro 1], rg := [(0, [2, 3], [2, 3]), (1, [2, 3, 9], [2, 3]), (2, [4], []), (3, [2, 3, 14], [2, 3]), (4, [4], []), (5, [2, 3, 19], [2, 3]), (6, [4], []), (7, [2, 3, 24], [2, 3]), (8, [4], []), (9, [2, 3, 29], [2, 3]), (10, [4], []), (11, [2, 3, 34], [2, 3]), (12, [4], []), (13, [39], []), (14, [4], []), (15, [4], [])], rets := some ([4], []) } Tryz.func99 (by kernel_rfl)
@[go_sem] theorem d99 : s99.g = 99 ∧ s99.fs = ⟨[.ro 1, .ro 1], s99.F, false⟩ := ⟨nr rfl, nr rfl⟩
@[go_sem] theorem e99 (xAt : Int) (xAge : Int) (xLife : Int) (xSwr : Int) (xSie : Int) (xSoft : Bool) (xNoCache : Bool) (yAt : Int) (yAge : Int) (yLife : Int) (ySwr : Int) (ySie : Int) (ySoft : Bool) (yNoCache : Bool) (h0 : smMeta (Meta.mk xAt xAge xLife xSwr xSie xSoft xNoCache)) : s99.F [.agg [.i .i64 xAt, .i .i64 xAge, .i .i64 xLife, .i .i64 xSwr, .i .i64 xSie, .b xSoft, .b xNoCache], .agg [.i .i64 yAt, .i .i64 yAge, .i .i64 yLife, .i .i64 ySwr, .i .i64 ySie, .b ySoft, .b yNoCache]] = some (.b (eqv (Meta.mk xAt xAge xLife xSwr xSie xSoft xNoCache) (Meta.mk yAt yAge yLife ySwr ySie ySoft yNoCache)), [.u, .u]) := mkS_eq (0) rfl rfl (fun cx h => by
  obtain ⟨q0, q1, q2, q3, q4, q5, q6⟩ := h0
  simp only [go_sem, reduceIte, ↓reduceIte, reduceCtorEq, nA, nS, nM, nB, nE, nL, nT, nN, iL, iT, iE, iA, iM, iS, iG, iB, iN, iZ, h, eqv_intne, eqv_bytes, eqv_boolne, q0, q1, q2, q3, q4, q5, q6]
  simp only [eqv_bool, eqv_int, Meta.eqv (Meta.mk xAt xAge xLife xSwr xSie xSoft xNoCache) (Meta.mk yAt yAge yLife ySwr ySie ySoft yNoCache), if_b, not_eq_t, if_nb, Bool.and_true]) (rfl)
end Go.Vm.A
