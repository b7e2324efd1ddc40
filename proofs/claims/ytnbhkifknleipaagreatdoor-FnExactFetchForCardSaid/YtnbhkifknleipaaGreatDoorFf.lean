/- Functions of the program, walked by the evaluator. -/
import Derived.Test.YtnbhkifknleipaaGreatDoorWb
import Derived.Test.YtnbhkifknleipaaGreatDoorWa
import Derived.Test.YtnbhkifknleipaaGreatDoorFa
import Derived.Test.YtnbhkifknleipaaGreatDoorFb
import Derived.Test.YtnbhkifknleipaaGreatDoorFc
import Derived.Test.YtnbhkifknleipaaGreatDoorFd
import Derived.Test.YtnbhkifknleipaaGreatDoorFe
set_option autoImplicit false
set_option maxRecDepth 100000
set_option maxHeartbeats 4000000
set_option linter.unusedVariables false
set_option linter.unusedSimpArgs false
namespace Go.Vm.A
open Go.Proofs
open Nat renaming reduceAdd → nA, reduceSub → nS, reduceMul → nM, reduceBEq → nB, reduceEqDiff → nE, reduceLeDiff → nL, reduceLT → nT, reduceBneDiff → nN
open Int renaming reduceLE → iL, reduceLT → iT, reduceEq → iE, reduceAdd → iA, reduceMul → iM, reduceSub → iS, reduceNeg → iG, reduceBEq → iB, reduceBNe → iN, reduceToNat → iZ

noncomputable def s164 : SP Tryz.prog := mkS tyA 164 Tryz.f164 [s218, s259] { md := [.ro 1], rets := some ([2], []) } Tryz.func164 (by kernel_rfl)
@[go_sem] theorem d164 : s164.g = 164 ∧ s164.fs = ⟨[.ro 1], s164.F, false⟩ := ⟨nr rfl, nr rfl⟩
@[go_sem] theorem e164 (t : ByteArray) : s164.F [.s t] = some (.b (isWord t), [.u]) := mkS_eq (0) rfl rfl (fun cx h => by
  simp only [go_sem, reduceIte, ↓reduceIte, reduceCtorEq, nA, nS, nM, nB, nE, nL, nT, nN, iL, iT, iE, iA, iM, iS, iG, iB, iN, iZ, h, isWord]) (rfl)
noncomputable def s297 : SP Tryz.prog := mkS tyA 297 Tryz.f297 [s218, s344] { md := [.ro 1], rets := some ([2], []) } Tryz.func297 (by kernel_rfl)
@[go_sem] theorem d297 : s297.g = 297 ∧ s297.fs = ⟨[.ro 1], s297.F, false⟩ := ⟨nr rfl, nr rfl⟩
@[go_sem] theorem e297 (t : ByteArray) (h0 : (t.size : Int) ≤ 1000000) : s297.F [.s t] = some (.b (areP t), [.u]) := mkS_eq (0) rfl rfl (fun cx h => by
  simp only [go_sem, reduceIte, ↓reduceIte, reduceCtorEq, nA, nS, nM, nB, nE, nL, nT, nN, iL, iT, iE, iA, iM, iS, iG, iB, iN, iZ, h, h0, areP_eq]) (rfl)
noncomputable def s298 : SP Tryz.prog := ⟨298, ⟨[.ro 1, .ro 1], trimF, false⟩, trim_ok Tryz.func298 (by kernel_rfl) rfl Go.Proofs.Tryz.trimSpTab⟩
@[go_sem] theorem d298 : s298.g = 298 ∧ s298.fs = ⟨[.ro 1, .ro 1], s298.F, false⟩ := ⟨nr rfl, nr rfl⟩
@[go_sem] theorem e298 (x : ByteArray) (h0 : x.size ≤ 9223372036854775807) : s298.F [.s x, .s ⟨#[32, 9]⟩] = some (.s (trimB x), [.u, .u]) := by
  show trimF [.s x, .s ⟨#[32, 9]⟩] = _
  have hc : (⟨#[32, 9]⟩ : ByteArray).data.toList = [32, 9] ∧ x.size ≤ 9223372036854775807 := ⟨rfl, h0⟩
  exact if_pos hc
noncomputable def s216 : SP Tryz.prog := mkS tyA 216 Tryz.f216 [s164, s297, s298] { md := [.ro 1], rg := [(0, [1], [1]), (1, [1, 3], [1]), (2, [2], []), (3, [1, 8], [1]), (4, [2], []), (5, [13], []), (6, [2], []), (7, [2], [])], rets := some ([2], []), plan := [(5, (.take 0 (.take 1 (.one 2 (.take 3 (.take 4 (.take 5 (.take 6 (.take 8 (.take 9 (.one 7 (.take 10 (.take 11 (.one 12 .done))))))))))))))] } Tryz.func216 (by kernel_rfl)
@[go_sem] theorem d216 : s216.g = 216 ∧ s216.fs = ⟨[.ro 1], s216.F, false⟩ := ⟨nr rfl, nr rfl⟩
@[go_sem] theorem e216 (xName : ByteArray) (xValue : ByteArray) : s216.F [.agg [.s xName, .s xValue]] = some (.i .i64 (headerCode (Header.mk xName xValue)), [.u]) := mkS_eq (0) rfl rfl (fun cx h => by
  cases h1 : isWord xName
  · simp only [go_sem, reduceIte, ↓reduceIte, reduceCtorEq, nA, nS, nM, nB, nE, nL, nT, nN, iL, iT, iE, iA, iM, iS, iG, iB, iN, iZ, h, h1, headerCode]
  by_cases h2 : 200 < (xValue.size : Int)
  · simp only [go_sem, reduceIte, ↓reduceIte, reduceCtorEq, nA, nS, nM, nB, nE, nL, nT, nN, iL, iT, iE, iA, iM, iS, iG, iB, iN, iZ, h, h1, h2, headerCode]
  have h3 : (xValue.size : Int) ≤ 1000000 := by omega
  have h4 : xValue.size ≤ 9223372036854775806 := by omega
  have h5 : xValue.size ≤ 9223372036854775807 := by omega
  cases h6 : areP xValue
  · simp only [go_sem, reduceIte, ↓reduceIte, reduceCtorEq, nA, nS, nM, nB, nE, nL, nT, nN, iL, iT, iE, iA, iM, iS, iG, iB, iN, iZ, h, h1, h2, h3, h4, h5, h6, headerCode]
  cases h7 : eqv (trimB xValue) xValue <;> simp only [go_sem, reduceIte, ↓reduceIte, reduceCtorEq, nA, nS, nM, nB, nE, nL, nT, nN, iL, iT, iE, iA, iM, iS, iG, iB, iN, iZ, h, h1, h2, h3, h4, h5, h6, h7, eqv_bytes, eqv_boolne, bne, headerCode]) (rfl)
noncomputable def s118 : SP Tryz.prog := mkS tyA 118 Tryz.f118 [s216] { md := [.ro 1], rg := [(0, [0], []), (1, [0, 8], []), (2, [2], []), (3, [0, 9, 10, 11], []), (4, [0, 9, 10, 11, 12], []), (5, [0, 4, 9, 10, 11], [4]), (6, [0, 5, 9, 10, 11], []), (7, [0, 5, 9, 10, 11, 18], []), (8, [2], []), (9, [0, 9, 10, 11], []), (10, [2], [])], lv := [(0, [0, 9, 10, 11], [])], out := [(0, [], [])], rets := some ([2], []) } Tryz.func118 (by kernel_rfl)
@[go_sem] theorem d118 : s118.g = 118 ∧ s118.fs = ⟨[.ro 1], s118.F, false⟩ := ⟨nr rfl, nr rfl⟩
@[go_sem] theorem e118 (hs : List Header) : s118.F [.sl .ro 2 (hs.map (rHeader .ro))] = some (.i .i64 (headersFault hs), [.u]) := mkS_eq (hs.length + 1) rfl rfl (fun cx h => by
  by_cases h1 : 20 < (hs.length : Int)
  · simp only [go_sem, reduceIte, ↓reduceIte, reduceCtorEq, nA, nS, nM, nB, nE, nL, nT, nN, iL, iT, iE, iA, iM, iS, iG, iB, iN, iZ, h, h1, headersFault]
  have hx : hs.length ≤ 9223372036854775806 := by omega
  have hb0 := loopN_eq Tryz.f118 0 _ _ rfl rfl
  obtain ⟨r, hr, hq⟩ := loop_srch (cx := cx) (blk := 0) (body := loopN Tryz.f118 0) hs (fun k (s : Unit) => ⟨E [(0, .sl .ro 2 (hs.map (rHeader .ro))), (9, .sl .ro 2 (hs.map (rHeader .ro))), (10, .i .i64 hs.length), (11, .i .i64 k)], B []⟩) (fun s => ⟨E [], B []⟩) (fun x s => headerCode x != 0) (fun x s => ()) (fun x s => (.ret, ⟨E [(2, .i .i64 (headerCode x))], B []⟩)) (fun k s => True)
      (fun s hI G => by simp only [go_sem, reduceIte, ↓reduceIte, reduceCtorEq, nA, nS, nM, nB, nE, nL, nT, nN, iL, iT, iE, iA, iM, iS, iG, iB, iN, iZ, h, Int.lt_irrefl, hb0, hx]) (fun k hk s hI => by
        have h1 : ((k : Int) < (hs.length : Int)) := Int.ofNat_lt.2 hk
        exact ⟨_, _, _, fun G => by simp only [go_sem, reduceIte, ↓reduceIte, reduceCtorEq, nA, nS, nM, nB, nE, nL, nT, nN, iL, iT, iE, iA, iM, iS, iG, iB, iN, iZ, h, map_gd (rHeader .ro) hs _ hk, rHeader, h1, idx_nt _ _ hk, wrap_nat1 (show k < 9223372036854775807 by omega), hb0] <;> with_reducible rfl, Iff.rfl, fun hc => ⟨trivial, by simp only [go_sem, reduceIte, ↓reduceIte, reduceCtorEq, nA, nS, nM, nB, nE, nL, nT, nN, iL, iT, iE, iA, iM, iS, iG, iB, iN, iZ, h]⟩⟩) () trivial (hs.length + 1) (Nat.le_refl _)
  rw [hb0] at hr
  rcases hq with ⟨s', e1, _, e3⟩ | ⟨x, s', e1, e3⟩
  · simp only [go_sem, reduceIte, ↓reduceIte, reduceCtorEq, nA, nS, nM, nB, nE, nL, nT, nN, iL, iT, iE, iA, iM, iS, iG, iB, iN, iZ, h, h1, hr, e3, headersFault, firstI_inl e1]
  · simp only [go_sem, reduceIte, ↓reduceIte, reduceCtorEq, nA, nS, nM, nB, nE, nL, nT, nN, iL, iT, iE, iA, iM, iS, iG, iB, iN, iZ, h, h1, hr, e3, headersFault, firstI_inr e1]) (rfl)
noncomputable def s122 : SP Tryz.prog := mkS tyA 122 Tryz.f122 [] { md := [.ro 1], rets := some ([2], []) } Tryz.func122 (by kernel_rfl)
@[go_sem] theorem d122 : s122.g = 122 ∧ s122.fs = ⟨[.ro 1], s122.F, false⟩ := ⟨nr rfl, nr rfl⟩
@[go_sem] theorem e122 (t : ByteArray) : s122.F [.s t] = some (.b (isMethod t), [.u]) := mkS_eq (0) rfl rfl (fun cx h => by
  have hu : isMethod t = (eqv t ⟨#[71, 69, 84]⟩ || eqv t ⟨#[72, 69, 65, 68]⟩) := rfl
  cases h1 : eqv t ⟨#[71, 69, 84]⟩ <;> cases h2 : eqv t ⟨#[72, 69, 65, 68]⟩ <;> simp only [go_sem, reduceIte, ↓reduceIte, reduceCtorEq, nA, nS, nM, nB, nE, nL, nT, nN, iL, iT, iE, iA, iM, iS, iG, iB, iN, iZ, h, eqv_bytes, h1, h2, hu]) (rfl)
noncomputable def s123 : SP Tryz.prog := mkS tyA 123 Tryz.f123 [s218, s219] { md := [.ro 1], rets := some ([2], []) } Tryz.func123 (by kernel_rfl)
@[go_sem] theorem d123 : s123.g = 123 ∧ s123.fs = ⟨[.ro 1], s123.F, false⟩ := ⟨nr rfl, nr rfl⟩
@[go_sem] theorem e123 (t : ByteArray) : s123.F [.s t] = some (.b (isHost t), [.u]) := mkS_eq (0) rfl rfl (fun cx h => by
  simp only [go_sem, reduceIte, ↓reduceIte, reduceCtorEq, nA, nS, nM, nB, nE, nL, nT, nN, iL, iT, iE, iA, iM, iS, iG, iB, iN, iZ, h, isHost]) (rfl)
noncomputable def s124 : SP Tryz.prog := mkS tyA 124 Tryz.f124 [s218, s220] { md := [.ro 1], rets := some ([2], []) } Tryz.func124 (by kernel_rfl)
@[go_sem] theorem d124 : s124.g = 124 ∧ s124.fs = ⟨[.ro 1], s124.F, false⟩ := ⟨nr rfl, nr rfl⟩
@[go_sem] theorem e124 (t : ByteArray) : s124.F [.s t] = some (.b (isPath t), [.u]) := mkS_eq (0) rfl rfl (fun cx h => by
  have hu : isPath t = (areB pathB 1 100 t && (((t.data[0]?.getD 0).toNat : Int) == 47)) := rfl
  cases h1 : areB pathB 1 100 t
  · simp only [go_sem, reduceIte, ↓reduceIte, reduceCtorEq, nA, nS, nM, nB, nE, nL, nT, nN, iL, iT, iE, iA, iM, iS, iG, iB, iN, iZ, h, h1, hu]
  have hi : idx? t.size 0 = some 0 := idx_nt t.size 0 (areB_nil h1)
  cases h2 : (((t.data[0]?.getD 0).toNat : Int) == 47) <;> simp only [go_sem, reduceIte, ↓reduceIte, reduceCtorEq, nA, nS, nM, nB, nE, nL, nT, nN, iL, iT, iE, iA, iM, iS, iG, iB, iN, iZ, h, h1, h2, hi, hu]) (rfl)
noncomputable def s238 : SP Tryz.prog := mkS tyA 238 Tryz.f238 [] { md := [.ro 1], rg := [(0, [0], []), (1, [3], []), (2, [3, 8, 9, 10], []), (3, [3, 8, 9, 10, 11], []), (4, [3, 4, 5, 8, 9, 10], []), (5, [3, 4, 5, 8, 9, 10, 20], []), (6, [3, 8, 9, 10], []), (7, [3, 8, 9, 10], []), (8, [2], [])], lv := [(0, [3, 8, 9, 10], [])], out := [(0, [3], [])], rets := some ([2], []) } Tryz.func238 (by kernel_rfl)
@[go_sem] theorem d238 : s238.g = 238 ∧ s238.fs = ⟨[.ro 1], s238.F, false⟩ := ⟨nr rfl, nr rfl⟩
@[go_sem] theorem e238 (t : ByteArray) (h0 : t.size ≤ 9223372036854775806) : s238.F [.s t] = some (.s (lowS t), [.u]) := mkS_eq (t.data.toList.length + 1) rfl rfl (fun cx h => by
  have hz : t.data.toList.length ≤ 9223372036854775807 := by rw [← str_size]; omega
  have hx : t.data.toList.length ≤ 9223372036854775806 := by rw [← str_size]; exact h0
  have hb0 := loopN_eq Tryz.f238 0 _ _ rfl rfl
  obtain ⟨hI, hr⟩ := loop_fold (cx := cx) (blk := 0) (body := loopN Tryz.f238 0) t.data.toList (fun k (s : Unit) => ⟨E [(3, .sl .mut 1 ((lowUp t.data.toList k).map rByte)), (8, .rf ⟨true, 3, [], 0⟩ 1 0 t.data.toList.length), (9, .i .i64 t.data.toList.length), (10, .i .i64 k)], B []⟩) (fun s => ⟨E [(3, .sl .mut 1 ((t.data.toList.map lowB).map rByte))], B []⟩) (fun x s => s) (fun k s => True)
      (fun s hI G => by simp only [go_sem, reduceIte, ↓reduceIte, reduceCtorEq, nA, nS, nM, nB, nE, nL, nT, nN, iL, iT, iE, iA, iM, iS, iG, iB, iN, iZ, h, Int.lt_irrefl, hb0, lowUp_len t.data.toList t.data.toList.length (Nat.le_refl _), lowUp_all t.data.toList, List.length_map]) (fun k hk s hI => by
        have h1 : ((k : Int) < (t.data.toList.length : Int)) := Int.ofNat_lt.2 hk
        have g1 := lowUp_gd t.data.toList k hk
        have g2 := lowUp_g t.data.toList k hk
        have g3 := lowUp_len t.data.toList k (Nat.le_of_lt hk)
        have g4 : (List.take t.data.toList.length ((lowUp t.data.toList k).map rByte)) = (lowUp t.data.toList k).map rByte := List.take_of_length_le (by rw [List.length_map, g3]; exact Nat.le_refl _)
        rcases lowStep t.data.toList k hk with ⟨a1, a2, w1, w2, hs, hv⟩ | ⟨a1, a2, w1, w2, hs, hv⟩ | ⟨a1, a2, w1, w2, hs, hv⟩
        all_goals exact ⟨trivial, _, fun G => by simp only [go_sem, reduceIte, ↓reduceIte, reduceCtorEq, nA, nS, nM, nB, nE, nL, nT, nN, iL, iT, iE, iA, iM, iS, iG, iB, iN, iZ, h, g1, g2, g3, g4, a1, a2, w1, w2, hs, List.length_map, h1, idx_nt _ _ hk, wrap_nat1 (show k < 9223372036854775807 by omega), hb0] <;> with_reducible rfl, by simp only [go_sem, reduceIte, ↓reduceIte, reduceCtorEq, nA, nS, nM, nB, nE, nL, nT, nN, iL, iT, iE, iA, iM, iS, iG, iB, iN, iZ, h, hv]⟩) () trivial (t.data.toList.length + 1) (Nat.le_refl _)
  rw [hb0] at hr
  rw [lowUp_zero] at hr
  simp only [go_sem, reduceIte, ↓reduceIte, reduceCtorEq, nA, nS, nM, nB, nE, nL, nT, nN, iL, iT, iE, iA, iM, iS, iG, iB, iN, iZ, h, hz, hr, str_size t, lowS]) (rfl)
noncomputable def s212 : SP Tryz.prog := mkS tyA 212 Tryz.f212 [s238] { md := [.ro 1, .ro 1], rets := some ([4], []) } Tryz.func212 (by kernel_rfl)
@[go_sem] theorem d212 : s212.g = 212 ∧ s212.fs = ⟨[.ro 1, .ro 1], s212.F, false⟩ := ⟨nr rfl, nr rfl⟩
@[go_sem] theorem e212 (a : ByteArray) (b : ByteArray) (h0 : (a.size ≤ 9223372036854775806 ∧ b.size ≤ 9223372036854775806)) : s212.F [.s a, .s b] = some (.b (eqv (lowS a) (lowS b)), [.u, .u]) := mkS_eq (0) rfl rfl (fun cx h => by
  simp only [go_sem, reduceIte, ↓reduceIte, reduceCtorEq, nA, nS, nM, nB, nE, nL, nT, nN, iL, iT, iE, iA, iM, iS, iG, iB, iN, iZ, h, h0.1, h0.2, eqv_bytes]) (rfl)
noncomputable def s125 : SP Tryz.prog := mkS tyA 125 Tryz.f125 [s212] { md := [.ro 1, .ro 1], rg := [(0, [0, 1], []), (1, [0, 1, 5], []), (2, [0, 1, 5, 9, 10, 11], []), (3, [0, 1, 5, 9, 10, 11, 12], []), (4, [0, 1, 5, 7, 9, 10, 11], [7]), (5, [0, 1, 5, 7, 9, 10, 11, 18], [7]), (6, [0, 1, 5, 9, 10, 11], []), (7, [0, 1, 5, 9, 10, 11], []), (8, [4], [])], lv := [(0, [0, 1, 5, 9, 10, 11], [])], out := [(0, [5], [])], rets := some ([4], []) } Tryz.func125 (by kernel_rfl)
@[go_sem] theorem d125 : s125.g = 125 ∧ s125.fs = ⟨[.ro 1, .ro 1], s125.F, false⟩ := ⟨nr rfl, nr rfl⟩
@[go_sem] theorem e125 (hs : List Header) (name : ByteArray) (h0 : (hs.length ≤ 20 ∧ smL smHeader hs ∧ okN name = true)) : s125.F [.sl .ro 2 (hs.map (rHeader .ro)), .s name] = some (.sl .mut 1 ((valsOf hs name).map rStr), [.u, .u]) := mkS_eq (hs.length + 1) rfl rfl (fun cx h => by
  have hl := h0.1
  have hx : hs.length ≤ 9223372036854775806 := by omega
  have hb0 := loopN_eq Tryz.f125 0 _ _ rfl rfl
  obtain ⟨hI, hr⟩ := loop_fold (cx := cx) (blk := 0) (body := loopN Tryz.f125 0) hs (fun k (s : List ByteArray) => ⟨E [(0, .sl .ro 2 (hs.map (rHeader .ro))), (1, .s name), (5, .sl .mut 1 (s.map rStr)), (9, .sl .ro 2 (hs.map (rHeader .ro))), (10, .i .i64 hs.length), (11, .i .i64 k)], B []⟩) (fun s => ⟨E [(5, .sl .mut 1 (s.map rStr))], B []⟩) (fun x s => (if eqv (lowS x.Name) (lowS name) = true then s ++ [x.Value] else s)) (fun k s => s.length ≤ k)
      (fun s hI G => by simp only [go_sem, reduceIte, ↓reduceIte, reduceCtorEq, nA, nS, nM, nB, nE, nL, nT, nN, iL, iT, iE, iA, iM, iS, iG, iB, iN, iZ, h, Int.lt_irrefl, hb0, h0.1]) (fun k hk s hI => by
        have h1 : ((k : Int) < (hs.length : Int)) := Int.ofNat_lt.2 hk
        have t3 : (s.length + 1) * 16 ≤ 140737488355328 := by omega
        have t4 : s.map rStr ++ [[.s hs[k].Value]] = (s ++ [hs[k].Value]).map rStr := by simp [rStr]
        obtain ⟨u1, u2⟩ := h0.2.1.2 _ (List.getElem_mem hk)
        have n1 : hs[k].Name.size ≤ 9223372036854775806 ∧ name.size ≤ 9223372036854775806 := ⟨by have : hs[k].Name.size ≤ 1048576 := u1; omega, of_decide_eq_true h0.2.2⟩
        cases d1 : eqv (lowS hs[k].Name) (lowS name)
        all_goals exact ⟨by split <;> (try simp only [List.length_append, List.length_cons, List.length_nil]) <;> omega, _, fun G => by simp only [go_sem, reduceIte, ↓reduceIte, reduceCtorEq, nA, nS, nM, nB, nE, nL, nT, nN, iL, iT, iE, iA, iM, iS, iG, iB, iN, iZ, h, t3, t4, map_gd (rHeader .ro) hs k hk, n1, d1, h1, idx_nt _ _ hk, wrap_nat1 (show k < 9223372036854775807 by omega), hb0] <;> with_reducible rfl, by simp only [go_sem, reduceIte, ↓reduceIte, reduceCtorEq, nA, nS, nM, nB, nE, nL, nT, nN, iL, iT, iE, iA, iM, iS, iG, iB, iN, iZ, h, d1]⟩) [] (by simp) (hs.length + 1) (Nat.le_refl _)
  rw [hb0] at hr
  have hff := ffold (fun x : Header => eqv (lowS x.Name) (lowS name)) (fun x => x.Value) hs []
  simp only [List.nil_append] at hff
  rw [hff] at hr
  simp only [go_sem, reduceIte, ↓reduceIte, reduceCtorEq, nA, nS, nM, nB, nE, nL, nT, nN, iL, iT, iE, iA, iM, iS, iG, iB, iN, iZ, h, hr, valsOf]) (by simp only [go_sem, reduceIte, ↓reduceIte, reduceCtorEq, nA, nS, nM, nB, nE, nL, nT, nN, iL, iT, iE, iA, iM, iS, iG, iB, iN, iZ, okRes, hasRo])
noncomputable def s43 : SP Tryz.prog := mkS tyA 43 Tryz.f43 [s118, s122, s123, s124, s125] { md := [.ro 1], rg := [(0, [1], [1]), (1, [1, 19], [1]), (2, [2], []), (3, [1, 3], [1]), (4, [1, 3, 24], [1]), (5, [2], []), (6, [1, 26], [1]), (7, [2], []), (8, [32], []), (9, [2], []), (10, [2], [])], rets := some ([2], []) } Tryz.func43 (by kernel_rfl)
@[go_sem] theorem d43 : s43.g = 43 ∧ s43.fs = ⟨[.ro 1], s43.F, false⟩ := ⟨nr rfl, nr rfl⟩
@[go_sem] theorem e43 (rMethod : ByteArray) (rHost : ByteArray) (rPath : ByteArray) (rHeaders : List Header) (h0 : smL smHeader (Request.mk rMethod rHost rPath rHeaders).Headers) : s43.F [.agg [.s rMethod, .s rHost, .s rPath, .sl .ro 2 (rHeaders.map (rHeader .ro))]] = some (.i .i64 (requestFault (Request.mk rMethod rHost rPath rHeaders)), [.u]) := mkS_eq (0) rfl rfl (fun cx h => by
  have key : ∀ m : Bool, isMethod rMethod = m → (isMethod rMethod && isHost rHost && isPath rPath) = (m && isHost rHost && isPath rPath) := fun m h => by rw [h]
  have hn1 : okN ⟨#[72, 111, 115, 116]⟩ = true := by decide
  have hn2 : okN ⟨#[104, 111, 115, 116]⟩ = true := by decide
  cases m0 : isMethod rMethod
  · simp only [go_sem, reduceIte, ↓reduceIte, reduceCtorEq, nA, nS, nM, nB, nE, nL, nT, nN, iL, iT, iE, iA, iM, iS, iG, iB, iN, iZ, h, m0, requestFault]
  cases h2 : isHost rHost
  · simp only [go_sem, reduceIte, ↓reduceIte, reduceCtorEq, nA, nS, nM, nB, nE, nL, nT, nN, iL, iT, iE, iA, iM, iS, iG, iB, iN, iZ, h, h2, m0, requestFault]
  cases h3 : isPath rPath
  · simp only [go_sem, reduceIte, ↓reduceIte, reduceCtorEq, nA, nS, nM, nB, nE, nL, nT, nN, iL, iT, iE, iA, iM, iS, iG, iB, iN, iZ, h, h2, h3, m0, requestFault]
  by_cases z : headersFault rHeaders = 0
  rotate_left
  · have z' : (headersFault rHeaders != 0) = true := by simpa using z
    simp only [go_sem, reduceIte, ↓reduceIte, reduceCtorEq, nA, nS, nM, nB, nE, nL, nT, nN, iL, iT, iE, iA, iM, iS, iG, iB, iN, iZ, h, h2, h3, z', m0, requestFault]
  have z' : (headersFault rHeaders != 0) = false := by simpa using z
  have h4 : rHeaders.length ≤ 20 ∧ smL smHeader rHeaders ∧ okN ⟨#[72, 111, 115, 116]⟩ = true := ⟨headersFault_ok z, h0, hn1⟩
  have h5 : rHeaders.length ≤ 20 ∧ smL smHeader rHeaders ∧ okN ⟨#[104, 111, 115, 116]⟩ = true := ⟨headersFault_ok z, h0, hn2⟩
  have h6 := valsOf_pos rHeaders ⟨#[72, 111, 115, 116]⟩
  have h7 := hasV_host rHeaders
  cases h8 : hasV rHeaders ⟨#[72, 111, 115, 116]⟩
  · by_cases h9 : 20 ≤ (rHeaders.length : Int)
    · have h10 : ((rHeaders.length : Int) == 20) = true := by have := h4.1; simp; omega
      simp only [go_sem, reduceIte, ↓reduceIte, reduceCtorEq, nA, nS, nM, nB, nE, nL, nT, nN, iL, iT, iE, iA, iM, iS, iG, iB, iN, iZ, h, h2, h3, z, h4, h5, h6, h7, h8, h9, h10, m0, requestFault]
    · have h10 : ((rHeaders.length : Int) == 20) = false := by have := h4.1; simp; omega
      simp only [go_sem, reduceIte, ↓reduceIte, reduceCtorEq, nA, nS, nM, nB, nE, nL, nT, nN, iL, iT, iE, iA, iM, iS, iG, iB, iN, iZ, h, h2, h3, z, h4, h5, h6, h7, h8, h9, h10, m0, requestFault]
  · simp only [go_sem, reduceIte, ↓reduceIte, reduceCtorEq, nA, nS, nM, nB, nE, nL, nT, nN, iL, iT, iE, iA, iM, iS, iG, iB, iN, iZ, h, h2, h3, z, h4, h5, h6, h7, h8, m0, requestFault]) (rfl)
noncomputable def s115 : SP Tryz.prog := mkS tyA 115 Tryz.f115 [] { md := [.ro 1, .ro 1, .ro 1], rets := some ([6], []) } Tryz.func115 (by kernel_rfl)
@[go_sem] theorem d115 : s115.g = 115 ∧ s115.fs = ⟨[.ro 1, .ro 1, .ro 1], s115.F, false⟩ := ⟨nr rfl, nr rfl⟩
@[go_sem] theorem e115 (a : Int) (b : Int) (c : Int) : s115.F [.i .i64 a, .i .i64 b, .i .i64 c] = some (.b (within a b c), [.u, .u, .u]) := mkS_eq (0) rfl rfl (fun cx h => by
  simp only [go_sem, reduceIte, ↓reduceIte, reduceCtorEq, nA, nS, nM, nB, nE, nL, nT, nN, iL, iT, iE, iA, iM, iS, iG, iB, iN, iZ, h, within]
  by_cases h : b ≤ a <;> simp [h]) (rfl)
noncomputable def s184 : SP Tryz.prog := mkS tyA 184 Tryz.f184 [] { md := [.ro 1], rets := some ([2], []) } Tryz.func184 (by kernel_rfl)
@[go_sem] theorem d184 : s184.g = 184 ∧ s184.fs = ⟨[.ro 1], s184.F, false⟩ := ⟨nr rfl, nr rfl⟩
@[go_sem] theorem e184 (t : ByteArray) : s184.F [.s t] = some (.b (isKey t), [.u]) := mkS_eq (0) rfl rfl (fun cx h => by
  by_cases h1 : 1 ≤ (t.size : Int) <;> by_cases h2 : (t.size : Int) ≤ 500 <;> simp only [go_sem, reduceIte, ↓reduceIte, reduceCtorEq, nA, nS, nM, nB, nE, nL, nT, nN, iL, iT, iE, iA, iM, iS, iG, iB, iN, iZ, h, h1, h2, isKey]) (rfl)
noncomputable def s136 : SP Tryz.prog := mkS tyA 136 Tryz.f136 [s115] { md := [.ro 1], rets := some ([2], []) } Tryz.func136 (by kernel_rfl)
@[go_sem] theorem d136 : s136.g = 136 ∧ s136.fs = ⟨[.ro 1], s136.F, false⟩ := ⟨nr rfl, nr rfl⟩
@[go_sem] theorem e136 (a : Int) : s136.F [.i .i64 a] = some (.b (isTime a), [.u]) := mkS_eq (0) rfl rfl (fun cx h => by
  simp only [go_sem, reduceIte, ↓reduceIte, reduceCtorEq, nA, nS, nM, nB, nE, nL, nT, nN, iL, iT, iE, iA, iM, iS, iG, iB, iN, iZ, h, isTime]) (rfl)
noncomputable def s200 : SP Tryz.prog := mkS tyA 200 Tryz.f200 [s136] { md := [.ro 1], rg := [(0, [1], [1]), (1, [15, 16], []), (2, [15, 16, 17], []), (3, [4, 15, 16], []), (4, [15, 16, 21], []), (5, [2], []), (6, [15, 16], []), (7, [2], [])], lv := [(0, [15, 16], [])], out := [(0, [], [])], rets := some ([2], []) } Tryz.func200 (by kernel_rfl)
@[go_sem] theorem d200 : s200.g = 200 ∧ s200.fs = ⟨[.ro 1], s200.F, false⟩ := ⟨nr rfl, nr rfl⟩
@[go_sem] theorem e200 (mAt : Int) (mAge : Int) (mLife : Int) (mSwr : Int) (mSie : Int) (mSoft : Bool) (mNoCache : Bool) : s200.F [.agg [.i .i64 mAt, .i .i64 mAge, .i .i64 mLife, .i .i64 mSwr, .i .i64 mSie, .b mSoft, .b mNoCache]] = some (.i .i64 (metaFault (Meta.mk mAt mAge mLife mSwr mSie mSoft mNoCache)), [.u]) := mkS_eq (6) rfl rfl (fun cx h => by
  obtain ⟨xs, hxs⟩ : ∃ xs : List Int, xs = [mAt, mAge, mLife, mSwr, mSie] := ⟨_, rfl⟩
  have hxl : xs.length = 5 := by rw [hxs]; rfl
  have hm : metaTimes (Meta.mk mAt mAge mLife mSwr mSie mSoft mNoCache) = xs := by rw [hxs]; rfl
  have hz : [AV.i .i64 mAt, .i .i64 mAge, .i .i64 mLife, .i .i64 mSwr, .i .i64 mSie] = xs.map fun a => AV.i .i64 a := by rw [hxs]; rfl
  have hb0 := loopN_eq Tryz.f200 0 _ _ rfl rfl
  obtain ⟨r, hr, hq⟩ := loop_srch (cx := cx) (blk := 0) (body := loopN Tryz.f200 0) xs (fun k (s : Unit) => ⟨E [(15, .agg (xs.map fun a => .i .i64 a)), (16, .i .i64 k)], B []⟩) (fun s => ⟨E [], B []⟩) (fun x s => !isTime x) (fun x s => ()) (fun x s => (.ret, ⟨E [(2, .i .i64 3)], B []⟩)) (fun k s => True)
      (fun s hI G => by simp only [go_sem, reduceIte, ↓reduceIte, reduceCtorEq, nA, nS, nM, nB, nE, nL, nT, nN, iL, iT, iE, iA, iM, iS, iG, iB, iN, iZ, h, Int.lt_irrefl, hb0, hxl, viewCells_int, filtL_int]) (fun k hk s hI => by
        have h1 : ((k : Int) < (xs.length : Int)) := Int.ofNat_lt.2 hk
        have h1' : (k : Int) < 5 := by rw [hxl] at h1; exact h1
        have hA := arrIx_nat (f := fun a => AV.i .i64 a) hxl.symm hk
        exact ⟨_, _, _, fun G => by simp only [go_sem, reduceIte, ↓reduceIte, reduceCtorEq, nA, nS, nM, nB, nE, nL, nT, nN, iL, iT, iE, iA, iM, iS, iG, iB, iN, iZ, h, h1', hA, viewCells_int, filtL_int, h1, idx_nt _ _ hk, wrap_nat1 (show k < 9223372036854775807 by omega), hb0] <;> with_reducible rfl, Iff.rfl, fun hc => ⟨trivial, by simp only [go_sem, reduceIte, ↓reduceIte, reduceCtorEq, nA, nS, nM, nB, nE, nL, nT, nN, iL, iT, iE, iA, iM, iS, iG, iB, iN, iZ, h, filtL_int]⟩⟩) () trivial 6 (by rw [hxl]; exact Nat.le_refl _)
  rw [hb0] at hr
  rcases hq with ⟨s', e1, _, e3⟩ | ⟨x, s', e1, e3⟩
  · simp only [go_sem, reduceIte, ↓reduceIte, reduceCtorEq, nA, nS, nM, nB, nE, nL, nT, nN, iL, iT, iE, iA, iM, iS, iG, iB, iN, iZ, h, hz, hr, e3, filtL_int, metaFault, hm, runS_any e1]
  · simp only [go_sem, reduceIte, ↓reduceIte, reduceCtorEq, nA, nS, nM, nB, nE, nL, nT, nN, iL, iT, iE, iA, iM, iS, iG, iB, iN, iZ, h, hz, hr, e3, filtL_int, metaFault, hm, runS_any' e1]) (rfl)
noncomputable def s95 : SP Tryz.prog := mkS tyA 95 Tryz.f95 [s115, s118, s184, s200] { md := [.ro 1], rg := [(0, [1], [1]), (1, [1, 4], [1]), (2, [2], []), (3, [1, 9], [1]), (4, [2], []), (5, [1, 3], [1]), (6, [1, 3, 33], [1]), (7, [2], []), (8, [1, 44], [1]), (9, [2], []), (10, [2], [])], rets := some ([2], []) } Tryz.func95 (by kernel_rfl)
@[go_sem] theorem d95 : s95.g = 95 ∧ s95.fs = ⟨[.ro 1], s95.F, false⟩ := ⟨nr rfl, nr rfl⟩
@[go_sem] theorem e95 (eKey : ByteArray) (eStatus : Int) (eHeaders : List Header) (eBody : List UInt8) (eMetaAt : Int) (eMetaAge : Int) (eMetaLife : Int) (eMetaSwr : Int) (eMetaSie : Int) (eMetaSoft : Bool) (eMetaNoCache : Bool) (eTags : List ByteArray) (ePins : Int) (h0 : smL smHeader (Entry.mk eKey eStatus eHeaders eBody (Meta.mk eMetaAt eMetaAge eMetaLife eMetaSwr eMetaSie eMetaSoft eMetaNoCache) eTags ePins).Headers) : s95.F [.agg [.s eKey, .i .i64 eStatus, .sl .ro 2 (eHeaders.map (rHeader .ro)), .sl .ro 1 (eBody.map rByte), .i .i64 eMetaAt, .i .i64 eMetaAge, .i .i64 eMetaLife, .i .i64 eMetaSwr, .i .i64 eMetaSie, .b eMetaSoft, .b eMetaNoCache, .sl .ro 1 (eTags.map rStr), .i .i64 ePins]] = some (.i .i64 (entryFault (Entry.mk eKey eStatus eHeaders eBody (Meta.mk eMetaAt eMetaAge eMetaLife eMetaSwr eMetaSie eMetaSoft eMetaNoCache) eTags ePins)), [.u]) := mkS_eq (0) rfl rfl (fun cx h => by
  cases hk : isKey eKey
  · simp only [go_sem, reduceIte, ↓reduceIte, reduceCtorEq, nA, nS, nM, nB, nE, nL, nT, nN, iL, iT, iE, iA, iM, iS, iG, iB, iN, iZ, h, hk, entryFault]
  cases hp : noKept eStatus
  rotate_left
  · have hp' := hp
    unfold noKept at hp'
    simp only [Bool.and_eq_true] at hp'
    obtain ⟨⟨s1, s2⟩, s3⟩ := hp'
    simp only [go_sem, reduceIte, ↓reduceIte, reduceCtorEq, nA, nS, nM, nB, nE, nL, nT, nN, iL, iT, iE, iA, iM, iS, iG, iB, iN, iZ, h, hk, entryFault, hp, s1, s2, s3]
  rcases noKept_f hp with rfl | ⟨s1, rfl⟩ | ⟨s1, s2, rfl⟩
  · cases w1 : within ePins 0 20
    · simp only [go_sem, reduceIte, ↓reduceIte, reduceCtorEq, nA, nS, nM, nB, nE, nL, nT, nN, iL, iT, iE, iA, iM, iS, iG, iB, iN, iZ, h, hk, entryFault, hp, w1]
    by_cases z : headersFault eHeaders = 0
    rotate_left
    · have z' : (headersFault eHeaders != 0) = true := by simpa using z
      simp only [go_sem, reduceIte, ↓reduceIte, reduceCtorEq, nA, nS, nM, nB, nE, nL, nT, nN, iL, iT, iE, iA, iM, iS, iG, iB, iN, iZ, h, hk, entryFault, hp, w1, z']
    have z' : (headersFault eHeaders != 0) = false := by simpa using z
    by_cases b1 : 2000 < (eBody.length : Int)
    · simp only [go_sem, reduceIte, ↓reduceIte, reduceCtorEq, nA, nS, nM, nB, nE, nL, nT, nN, iL, iT, iE, iA, iM, iS, iG, iB, iN, iZ, h, hk, entryFault, hp, w1, z, b1]
    by_cases b2 : 10 < (eTags.length : Int)
    · simp only [go_sem, reduceIte, ↓reduceIte, reduceCtorEq, nA, nS, nM, nB, nE, nL, nT, nN, iL, iT, iE, iA, iM, iS, iG, iB, iN, iZ, h, hk, entryFault, hp, w1, z, b1, b2]
    simp only [go_sem, reduceIte, ↓reduceIte, reduceCtorEq, nA, nS, nM, nB, nE, nL, nT, nN, iL, iT, iE, iA, iM, iS, iG, iB, iN, iZ, h, hk, entryFault, hp, w1, z, b1, b2]
  · cases w1 : within ePins 0 20
    · simp only [go_sem, reduceIte, ↓reduceIte, reduceCtorEq, nA, nS, nM, nB, nE, nL, nT, nN, iL, iT, iE, iA, iM, iS, iG, iB, iN, iZ, h, hk, entryFault, hp, w1]
    by_cases z : headersFault eHeaders = 0
    rotate_left
    · have z' : (headersFault eHeaders != 0) = true := by simpa using z
      simp only [go_sem, reduceIte, ↓reduceIte, reduceCtorEq, nA, nS, nM, nB, nE, nL, nT, nN, iL, iT, iE, iA, iM, iS, iG, iB, iN, iZ, h, hk, entryFault, hp, w1, z']
    have z' : (headersFault eHeaders != 0) = false := by simpa using z
    by_cases b1 : 2000 < (eBody.length : Int)
    · simp only [go_sem, reduceIte, ↓reduceIte, reduceCtorEq, nA, nS, nM, nB, nE, nL, nT, nN, iL, iT, iE, iA, iM, iS, iG, iB, iN, iZ, h, hk, entryFault, hp, w1, z, b1]
    by_cases b2 : 10 < (eTags.length : Int)
    · simp only [go_sem, reduceIte, ↓reduceIte, reduceCtorEq, nA, nS, nM, nB, nE, nL, nT, nN, iL, iT, iE, iA, iM, iS, iG, iB, iN, iZ, h, hk, entryFault, hp, w1, z, b1, b2]
    simp only [go_sem, reduceIte, ↓reduceIte, reduceCtorEq, nA, nS, nM, nB, nE, nL, nT, nN, iL, iT, iE, iA, iM, iS, iG, iB, iN, iZ, h, hk, entryFault, hp, w1, z, b1, b2]
  · cases w1 : within ePins 0 20
    · simp only [go_sem, reduceIte, ↓reduceIte, reduceCtorEq, nA, nS, nM, nB, nE, nL, nT, nN, iL, iT, iE, iA, iM, iS, iG, iB, iN, iZ, h, hk, entryFault, hp, w1]
    by_cases z : headersFault eHeaders = 0
    rotate_left
    · have z' : (headersFault eHeaders != 0) = true := by simpa using z
      simp only [go_sem, reduceIte, ↓reduceIte, reduceCtorEq, nA, nS, nM, nB, nE, nL, nT, nN, iL, iT, iE, iA, iM, iS, iG, iB, iN, iZ, h, hk, entryFault, hp, w1, z']
    have z' : (headersFault eHeaders != 0) = false := by simpa using z
    by_cases b1 : 2000 < (eBody.length : Int)
    · simp only [go_sem, reduceIte, ↓reduceIte, reduceCtorEq, nA, nS, nM, nB, nE, nL, nT, nN, iL, iT, iE, iA, iM, iS, iG, iB, iN, iZ, h, hk, entryFault, hp, w1, z, b1]
    by_cases b2 : 10 < (eTags.length : Int)
    · simp only [go_sem, reduceIte, ↓reduceIte, reduceCtorEq, nA, nS, nM, nB, nE, nL, nT, nN, iL, iT, iE, iA, iM, iS, iG, iB, iN, iZ, h, hk, entryFault, hp, w1, z, b1, b2]
    simp only [go_sem, reduceIte, ↓reduceIte, reduceCtorEq, nA, nS, nM, nB, nE, nL, nT, nN, iL, iT, iE, iA, iM, iS, iG, iB, iN, iZ, h, hk, entryFault, hp, w1, z, b1, b2]) (rfl)
end Go.Vm.A
