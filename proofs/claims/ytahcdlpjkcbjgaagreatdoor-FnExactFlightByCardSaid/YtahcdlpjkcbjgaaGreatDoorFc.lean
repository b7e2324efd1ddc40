/- Functions of the program, walked by the evaluator. -/
import Derived.Test.YtahcdlpjkcbjgaaGreatDoorFb
set_option autoImplicit false
set_option maxRecDepth 100000
set_option maxHeartbeats 4000000
set_option linter.unusedVariables false
set_option linter.unusedSimpArgs false
namespace Go.Vm.A
open Go.Proofs
open Nat renaming reduceAdd → nA, reduceSub → nS, reduceMul → nM, reduceBEq → nB, reduceEqDiff → nE, reduceLeDiff → nL, reduceLT → nT, reduceBneDiff → nN
open Int renaming reduceLE → iL, reduceLT → iT, reduceEq → iE, reduceAdd → iA, reduceMul → iM, reduceSub → iS, reduceNeg → iG, reduceBEq → iB, reduceBNe → iN, reduceToNat → iZ

noncomputable def s48 : SP Tryz.prog := mkS tyA 48 Tryz.f48 [s65] { md := [.ro 1, .ro 1], rg := [(0, [0, 1, 4], [4]), (1, [1, 4, 5], [4]), (2, [1, 4, 5, 9], [4]), (3, [4], [4]), (4, [1, 4, 13], [4]), (5, [4], [4]), (6, [4], [4])], rets := some ([4], [4]) } Tryz.func48 (by kernel_rfl)
@[go_sem] theorem d48 : s48.g = 48 ∧ s48.fs = ⟨[.ro 1, .ro 1], s48.F, false⟩ := ⟨nr rfl, nr rfl⟩
@[go_sem] theorem e48 (fs : List Flight) (at0 : Int) (h0 : smL smFlight fs) : s48.F [.sl .ro 11 (fs.map (rFlight .ro)), .i .i64 at0] = some (.agg [.i .i64 (if (flightsFault fs != 0) = true then flightsFault fs else if at0 < 0 then 4 else 0), .i .i64 (if (flightsFault fs != 0) = true then 0 else if at0 < 0 then 0 else at0)], [.u, .u]) := mkS_eq (0) rfl rfl (fun cx h => by
  cases h1 : flightsFault fs != 0
  · by_cases h2 : at0 < 0 <;> simp only [go_sem, reduceIte, ↓reduceIte, reduceCtorEq, nA, nS, nM, nB, nE, nL, nT, nN, iL, iT, iE, iA, iM, iS, iG, iB, iN, iZ, h, h0, h1, h2]
  · simp only [go_sem, reduceIte, ↓reduceIte, reduceCtorEq, nA, nS, nM, nB, nE, nL, nT, nN, iL, iT, iE, iA, iM, iS, iG, iB, iN, iZ, h, h0, h1]) (rfl)
noncomputable def s52 : SP Tryz.prog := mkS tyA 52 Tryz.f52 [s66] { md := [.ro 1, .ro 1], rets := some ([4], []), fz := [3] } Tryz.func52 (by kernel_rfl)
@[go_sem] theorem d52 : s52.g = 52 ∧ s52.fs = ⟨[.ro 1, .ro 1], s52.F, false⟩ := ⟨nr rfl, nr rfl⟩
@[go_sem] theorem e52 (fs : List Flight) (id : Int) (h0 : fs.length ≤ 9223372036854775806) : s52.F [.sl .ro 11 (fs.map (rFlight .ro)), .i .i64 id] = some (.i .i64 (idxP (fun x => x.Id == id) fs 0), [.u, .u]) := mkS_eq (0) rfl rfl (fun cx h => by
  simp only [go_sem, reduceIte, ↓reduceIte, reduceCtorEq, nA, nS, nM, nB, nE, nL, nT, nN, iL, iT, iE, iA, iM, iS, iG, iB, iN, iZ, h, h0]) (rfl)
noncomputable def s18 : SP Tryz.prog := mkS tyA 18 Tryz.f18 [s48, s52] { md := [.ro 1, .ro 1], rets := some ([4], [4]) } Tryz.func18 (by kernel_rfl)
@[go_sem] theorem d18 : s18.g = 18 ∧ s18.fs = ⟨[.ro 1, .ro 1], s18.F, false⟩ := ⟨nr rfl, nr rfl⟩
@[go_sem] theorem e18 (fs : List Flight) (id : Int) (h0 : smL smFlight fs) : s18.F [.sl .ro 11 (fs.map (rFlight .ro)), .i .i64 id] = some (.agg (rIntResult .ro (placeR fs (idxP (fun x => x.Id == id) fs 0))), [.u, .u]) := mkS_eq (0) rfl rfl (fun cx h => by
  have hx : fs.length ≤ 9223372036854775806 := by have := h0.1; omega
  simp only [go_sem, reduceIte, ↓reduceIte, reduceCtorEq, nA, nS, nM, nB, nE, nL, nT, nN, iL, iT, iE, iA, iM, iS, iG, iB, iN, iZ, h, h0, hx, placeR]) (rfl)
noncomputable def s5 : SP Tryz.prog := mkS tyA 5 Tryz.f5 [s11, s13, s15, s16, s17, s18] { md := [.ro 1, .ro 1], rg := [(0, [0, 1], []), (1, [0, 1, 5], []), (2, [0, 1, 5], []), (3, [0, 1, 13], []), (4, [4], []), (5, [0, 1, 6], [6]), (6, [0, 1, 6, 7], [6]), (7, [0, 6, 7, 8], [6, 8]), (8, [0, 7, 26], []), (9, [4], []), (10, [31], []), (11, [4], []), (12, [4], [])], rets := some ([4], []) } Tryz.func5 (by kernel_rfl)
@[go_sem] theorem d5 : s5.g = 5 ∧ s5.fs = ⟨[.ro 1, .ro 1], s5.F, false⟩ := ⟨nr rfl, nr rfl⟩
theorem e5 (fs : List Flight) (id : Int) (h0 : (okL okFlight) fs ∧ okInt id) : s5.F [.sl .ro 11 (fs.map (rFlight .ro)), .i .i64 id] = some (.b true, [.u, .u]) := mkS_eq (0) rfl rfl (fun cx h => by
  have h0_0 := h0.1
  by_cases hc0 : szL szFlight fs 1048576 < 0
  · simp only [go_sem, reduceIte, ↓reduceIte, reduceCtorEq, nA, nS, nM, nB, nE, nL, nT, nN, iL, iT, iE, iA, iM, iS, iG, iB, iN, iZ, h, hc0, h0_0]
  obtain ⟨hs0, hl0⟩ := (szL_fact szFlight_fact) _ _ h0_0 (by decide) (by decide) (show 0 ≤ szL szFlight fs 1048576 by omega)
  obtain ⟨R, hR⟩ : ∃ R, placeR fs (idxP (fun x => x.Id == id) fs 0) = R := ⟨_, rfl⟩
  have hsm := sm_trivIntResult (placeR fs (idxP (fun x => x.Id == id) fs 0))
  rw [hR] at hsm
  simp only [go_sem, reduceIte, ↓reduceIte, reduceCtorEq, nA, nS, nM, nB, nE, nL, nT, nN, iL, iT, iE, iA, iM, iS, iG, iB, iN, iZ, h, hc0, hs0, h0_0, hR, hsm, eqv_self]) (rfl)
end Go.Vm.A
