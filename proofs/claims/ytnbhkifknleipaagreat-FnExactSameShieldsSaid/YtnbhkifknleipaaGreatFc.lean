/- Functions of the program, walked by the evaluator. -/
import Derived.Test.YtnbhkifknleipaaGreatWb
import Derived.Test.YtnbhkifknleipaaGreatWa
import Derived.Test.YtnbhkifknleipaaGreatFb
set_option autoImplicit false
set_option maxRecDepth 100000
set_option maxHeartbeats 4000000
set_option linter.unusedVariables false
set_option linter.unusedSimpArgs false
namespace Go.Vm.A
open Go.Proofs
open Nat renaming reduceAdd → nA, reduceSub → nS, reduceMul → nM, reduceBEq → nB, reduceEqDiff → nE, reduceLeDiff → nL, reduceLT → nT, reduceBneDiff → nN
open Int renaming reduceLE → iL, reduceLT → iT, reduceEq → iE, reduceAdd → iA, reduceMul → iM, reduceSub → iS, reduceNeg → iG, reduceBEq → iB, reduceBNe → iN, reduceToNat → iZ

noncomputable def s65 : SP Tryz.prog := mkS tyA 65 Tryz.f65 [] { md := [.ro 1, .ro 1], rg := [(0, [0, 1], []), (1, [0, 1, 10], []), (2, [4], []), (3, [0, 1, 5], []), (4, [0, 1, 5, 14], []), (5, [0, 1, 5], []), (6, [0, 1, 5, 25], []), (7, [4], []), (8, [4], [])], lv := [(0, [0, 1, 5], [])], out := [(0, [], [])], rets := some ([4], []), plan := [(6, (.take 0 (.take 1 (.take 2 (.take 3 (.take 4 (.take 5 (.take 6 (.take 7 (.take 8 .done))))))))))] } Tryz.func65 (by kernel_rfl)
@[go_sem] theorem d65 : s65.g = 65 ∧ s65.fs = ⟨[.ro 1, .ro 1], s65.F, false⟩ := ⟨nr rfl, nr rfl⟩
@[go_sem] theorem e65 (xs ys : List Header) (h0 : smL smHeader xs) : s65.F [.sl .ro 2 (xs.map (rHeader .ro)), .sl .ro 2 (ys.map (rHeader .ro))] = some (.b (eqv xs ys), [.u, .u]) := mkS_eq (xs.length + 1) rfl rfl (fun cx h => by
  have hx := h0.1
  by_cases hl : xs.length = ys.length
  · have hb0 := loopN_eq Tryz.f65 0 _ _ rfl rfl
    obtain ⟨r, hr, hq⟩ := loop_srch (cx := cx) (blk := 0) (body := loopN Tryz.f65 0) (xs.zip ys) (fun k (s : Unit) => ⟨E [(0, .sl .ro 2 (xs.map (rHeader .ro))), (1, .sl .ro 2 (ys.map (rHeader .ro))), (5, .i .i64 k)], B []⟩) (fun s => ⟨E [], B []⟩) (fun x s => !eqv x.1 x.2) (fun x s => s) (fun x s => (.ret, ⟨E [(4, .b false)], B []⟩)) (fun k s => True)
        (fun s hI G => by simp only [go_sem, reduceIte, ↓reduceIte, reduceCtorEq, nA, nS, nM, nB, nE, nL, nT, nN, iL, iT, iE, iA, iM, iS, iG, iB, iN, iZ, h, Int.lt_irrefl, hb0, zip_len hl, hl]) (fun k hk s hI => by
          have h1 : ((k : Int) < ((xs.zip ys).length : Int)) := Int.ofNat_lt.2 hk
          have hk' : k < xs.length := by rwa [zip_len hl] at hk
          have h1' : ((k : Int) < (xs.length : Int)) := Int.ofNat_lt.2 hk'
          have h2 := h0.2 _ (List.getElem_mem hk')
          have h3 : (xs.zip ys)[k] = (xs[k], ys[k]'(by omega)) := by simp
          rw [h3]
          have h4 := h2
          obtain ⟨u0, u1⟩ := h2
          exact ⟨_, _, _, fun G => by simp only [go_sem, reduceIte, ↓reduceIte, reduceCtorEq, nA, nS, nM, nB, nE, nL, nT, nN, iL, iT, iE, iA, iM, iS, iG, iB, iN, iZ, h, h1', idx_nt _ _ hk', idx_nt ys.length k (by omega), map_gd (rHeader .ro) xs k hk', map_gd (rHeader .ro) ys k (by omega), wrap_nat1 (show k < 9223372036854775807 by omega), h4, if_oret, Header.eqv xs[k] (ys[k]'(by omega)), u0, u1, eqv_byte, eqv_intne, eqv_int, eqv_bytes, eqv_boolne, h1, idx_nt _ _ hk, wrap_nat1 (show k < 9223372036854775807 by omega), hb0] <;> with_reducible rfl, by first | exact Iff.rfl | ((simp only [Header.eqv xs[k] (ys[k]'(by omega))] <;> simp) <;> done) | ((simp only [Header.eqv xs[k] (ys[k]'(by omega))] <;> simp [eqv]) <;> done) | (simp only [Header.eqv xs[k] (ys[k]'(by omega))] <;> simp [eqv] <;> (by_cases g : xs[k].Get = (ys[k]'(by omega)).Get <;> simp [g])), fun hc => ⟨trivial, by simp only [go_sem, reduceIte, ↓reduceIte, reduceCtorEq, nA, nS, nM, nB, nE, nL, nT, nN, iL, iT, iE, iA, iM, iS, iG, iB, iN, iZ, h]⟩⟩) () trivial (xs.length + 1) (by rw [zip_len hl]; exact Nat.le_refl _)
    rw [hb0] at hr
    have hl2 : ((xs.length : Int) != (ys.length : Int)) = false := by simp [hl]
    rcases hq with ⟨s', e1, _, e3⟩ | ⟨x, s', e1, e3⟩
    · simp only [go_sem, reduceIte, ↓reduceIte, reduceCtorEq, nA, nS, nM, nB, nE, nL, nT, nN, iL, iT, iE, iA, iM, iS, iG, iB, iN, iZ, h, hl2, hr, e3, zip_eqv hl e1]
    · simp only [go_sem, reduceIte, ↓reduceIte, reduceCtorEq, nA, nS, nM, nB, nE, nL, nT, nN, iL, iT, iE, iA, iM, iS, iG, iB, iN, iZ, h, hl2, hr, e3, zip_nev hl e1]
  · have hl2 : ((xs.length : Int) != (ys.length : Int)) = true := by simpa using fun h => hl (Int.ofNat_inj.1 h)
    simp only [go_sem, reduceIte, ↓reduceIte, reduceCtorEq, nA, nS, nM, nB, nE, nL, nT, nN, iL, iT, iE, iA, iM, iS, iG, iB, iN, iZ, h, hl2, len_nev hl]) (rfl)
noncomputable def ops64 : Array Oper := match regN Tryz.f64 1 with
  | .region _ ops _ => ops
  | _ => #[]
noncomputable def lst64 (a b : Nat) : Array Bool := (List.replicate a true ++ List.replicate b false).toArray
noncomputable def fd64 (p : Plan) : FD := { md := [.ro 1, .ro 1], rets := some ([4], []), plan := [(1, p)] }
theorem pk64_0 (p q : Plan) : planOk (lateAt (mkCx tyA [s35, s65] (fd64 q) 0) ops64) ops64 true (lst64 0 78) (.take 0 (.take 1 (.take 2 (.take 3 (.take 4 (.take 5 (.take 6 (.take 7 p)))))))) = planOk (lateAt (mkCx tyA [s35, s65] (fd64 q) 0) ops64) ops64 true (lst64 8 70) p := by kernel_rfl
theorem pk64_8 (p q : Plan) : planOk (lateAt (mkCx tyA [s35, s65] (fd64 q) 0) ops64) ops64 true (lst64 8 70) (.take 8 (.take 9 (.take 10 (.take 11 (.take 12 (.take 13 (.take 14 (.take 15 p)))))))) = planOk (lateAt (mkCx tyA [s35, s65] (fd64 q) 0) ops64) ops64 true (lst64 16 62) p := by kernel_rfl
theorem pk64_16 (p q : Plan) : planOk (lateAt (mkCx tyA [s35, s65] (fd64 q) 0) ops64) ops64 true (lst64 16 62) (.take 16 (.take 17 (.take 18 (.take 19 (.take 20 (.take 21 (.take 22 (.take 23 p)))))))) = planOk (lateAt (mkCx tyA [s35, s65] (fd64 q) 0) ops64) ops64 true (lst64 24 54) p := by kernel_rfl
theorem pk64_24 (p q : Plan) : planOk (lateAt (mkCx tyA [s35, s65] (fd64 q) 0) ops64) ops64 true (lst64 24 54) (.take 24 (.take 25 (.take 26 (.take 27 (.take 28 (.one 29 (.take 30 (.take 31 p)))))))) = planOk (lateAt (mkCx tyA [s35, s65] (fd64 q) 0) ops64) ops64 true (lst64 32 46) p := by kernel_rfl
theorem pk64_32 (p q : Plan) : planOk (lateAt (mkCx tyA [s35, s65] (fd64 q) 0) ops64) ops64 true (lst64 32 46) (.take 32 (.take 33 (.take 34 (.take 35 (.take 36 (.take 37 (.take 38 (.take 39 p)))))))) = planOk (lateAt (mkCx tyA [s35, s65] (fd64 q) 0) ops64) ops64 true (lst64 40 38) p := by kernel_rfl
theorem pk64_40 (p q : Plan) : planOk (lateAt (mkCx tyA [s35, s65] (fd64 q) 0) ops64) ops64 true (lst64 40 38) (.take 40 (.take 41 (.take 42 (.take 43 (.take 44 (.take 45 (.take 46 (.take 47 p)))))))) = planOk (lateAt (mkCx tyA [s35, s65] (fd64 q) 0) ops64) ops64 true (lst64 48 30) p := by kernel_rfl
theorem pk64_48 (p q : Plan) : planOk (lateAt (mkCx tyA [s35, s65] (fd64 q) 0) ops64) ops64 true (lst64 48 30) (.take 48 (.take 49 (.take 50 (.take 51 (.take 52 (.take 53 (.take 54 (.take 55 p)))))))) = planOk (lateAt (mkCx tyA [s35, s65] (fd64 q) 0) ops64) ops64 true (lst64 56 22) p := by kernel_rfl
theorem pk64_56 (p q : Plan) : planOk (lateAt (mkCx tyA [s35, s65] (fd64 q) 0) ops64) ops64 true (lst64 56 22) (.take 56 (.take 57 (.take 58 (.take 59 (.take 60 (.take 61 (.take 62 (.take 63 p)))))))) = planOk (lateAt (mkCx tyA [s35, s65] (fd64 q) 0) ops64) ops64 true (lst64 64 14) p := by kernel_rfl
theorem pk64_64 (p q : Plan) : planOk (lateAt (mkCx tyA [s35, s65] (fd64 q) 0) ops64) ops64 true (lst64 64 14) (.one 64 (.take 65 (.take 66 (.take 67 (.take 68 (.take 69 (.take 70 (.take 71 p)))))))) = planOk (lateAt (mkCx tyA [s35, s65] (fd64 q) 0) ops64) ops64 true (lst64 72 6) p := by kernel_rfl
theorem pk64_72 (p q : Plan) : planOk (lateAt (mkCx tyA [s35, s65] (fd64 q) 0) ops64) ops64 true (lst64 72 6) (.take 72 (.take 73 (.take 74 (.take 75 (.take 76 (.one 77 p)))))) = planOk (lateAt (mkCx tyA [s35, s65] (fd64 q) 0) ops64) ops64 true (lst64 78 0) p := by kernel_rfl
theorem pk64_e (q : Plan) : planOk (lateAt (mkCx tyA [s35, s65] (fd64 q) 0) ops64) ops64 true (lst64 78 0) .done = true := by kernel_rfl
theorem ck64 (q : Plan) : ckS tyA [s35, s65] (fd64 q) Tryz.f64 = (((((planOk (lateAt (mkCx tyA [s35, s65] (fd64 q) 0) ops64) ops64 true (lst64 0 78) q && true) && decide (q.depth ≤ 78)) && true) && true) && true) := by kernel_rfl
theorem pf64 (q : Plan) : planOk (lateAt (mkCx tyA [s35, s65] (fd64 q) 0) ops64) ops64 true (lst64 0 78) (.take 0 (.take 1 (.take 2 (.take 3 (.take 4 (.take 5 (.take 6 (.take 7 (.take 8 (.take 9 (.take 10 (.take 11 (.take 12 (.take 13 (.take 14 (.take 15 (.take 16 (.take 17 (.take 18 (.take 19 (.take 20 (.take 21 (.take 22 (.take 23 (.take 24 (.take 25 (.take 26 (.take 27 (.take 28 (.one 29 (.take 30 (.take 31 (.take 32 (.take 33 (.take 34 (.take 35 (.take 36 (.take 37 (.take 38 (.take 39 (.take 40 (.take 41 (.take 42 (.take 43 (.take 44 (.take 45 (.take 46 (.take 47 (.take 48 (.take 49 (.take 50 (.take 51 (.take 52 (.take 53 (.take 54 (.take 55 (.take 56 (.take 57 (.take 58 (.take 59 (.take 60 (.take 61 (.take 62 (.take 63 (.one 64 (.take 65 (.take 66 (.take 67 (.take 68 (.take 69 (.take 70 (.take 71 (.take 72 (.take 73 (.take 74 (.take 75 (.take 76 (.one 77 .done)))))))))))))))))))))))))))))))))))))))))))))))))))))))))))))))))))))))))))))) = true := (pk64_0 _ _).trans ((pk64_8 _ _).trans ((pk64_16 _ _).trans ((pk64_24 _ _).trans ((pk64_32 _ _).trans ((pk64_40 _ _).trans ((pk64_48 _ _).trans ((pk64_56 _ _).trans ((pk64_64 _ _).trans ((pk64_72 _ _).trans (pk64_e _))))))))))
theorem ok64 : ckS tyA [s35, s65] (fd64 (.take 0 (.take 1 (.take 2 (.take 3 (.take 4 (.take 5 (.take 6 (.take 7 (.take 8 (.take 9 (.take 10 (.take 11 (.take 12 (.take 13 (.take 14 (.take 15 (.take 16 (.take 17 (.take 18 (.take 19 (.take 20 (.take 21 (.take 22 (.take 23 (.take 24 (.take 25 (.take 26 (.take 27 (.take 28 (.one 29 (.take 30 (.take 31 (.take 32 (.take 33 (.take 34 (.take 35 (.take 36 (.take 37 (.take 38 (.take 39 (.take 40 (.take 41 (.take 42 (.take 43 (.take 44 (.take 45 (.take 46 (.take 47 (.take 48 (.take 49 (.take 50 (.take 51 (.take 52 (.take 53 (.take 54 (.take 55 (.take 56 (.take 57 (.take 58 (.take 59 (.take 60 (.take 61 (.take 62 (.take 63 (.one 64 (.take 65 (.take 66 (.take 67 (.take 68 (.take 69 (.take 70 (.take 71 (.take 72 (.take 73 (.take 74 (.take 75 (.take 76 (.one 77 .done))))))))))))))))))))))))))))))))))))))))))))))))))))))))))))))))))))))))))))))) Tryz.f64 = true := by
  rw [ck64, pf64]
  rfl
noncomputable def s64 : SP Tryz.prog := mkS tyA 64 Tryz.f64 [s35, s65] { md := [.ro 1, .ro 1], rets := some ([4], []), plan := [(1, (.take 0 (.take 1 (.take 2 (.take 3 (.take 4 (.take 5 (.take 6 (.take 7 (.take 8 (.take 9 (.take 10 (.take 11 (.take 12 (.take 13 (.take 14 (.take 15 (.take 16 (.take 17 (.take 18 (.take 19 (.take 20 (.take 21 (.take 22 (.take 23 (.take 24 (.take 25 (.take 26 (.take 27 (.take 28 (.one 29 (.take 30 (.take 31 (.take 32 (.take 33 (.take 34 (.take 35 (.take 36 (.take 37 (.take 38 (.take 39 (.take 40 (.take 41 (.take 42 (.take 43 (.take 44 (.take 45 (.take 46 (.take 47 (.take 48 (.take 49 (.take 50 (.take 51 (.take 52 (.take 53 (.take 54 (.take 55 (.take 56 (.take 57 (.take 58 (.take 59 (.take 60 (.take 61 (.take 62 (.take 63 (.one 64 (.take 65 (.take 66 (.take 67 (.take 68 (.take 69 (.take 70 (.take 71 (.take 72 (.take 73 (.take 74 (.take 75 (.take 76 (.one 77 .done)))))))))))))))))))))))))))))))))))))))))))))))))))))))))))))))))))))))))))))))] } Tryz.func64 (ok64)
@[go_sem] theorem d64 : s64.g = 64 ∧ s64.fs = ⟨[.ro 1, .ro 1], s64.F, false⟩ := ⟨nr rfl, nr rfl⟩
@[go_sem] theorem e64 (xKey : ByteArray) (xStatus : Int) (xHeaders : List Header) (xBody : List UInt8) (xMetaAt : Int) (xMetaAge : Int) (xMetaLife : Int) (xMetaSwr : Int) (xMetaSie : Int) (xMetaSoft : Bool) (xMetaNoCache : Bool) (xTags : List ByteArray) (xPins : Int) (yKey : ByteArray) (yStatus : Int) (yHeaders : List Header) (yBody : List UInt8) (yMetaAt : Int) (yMetaAge : Int) (yMetaLife : Int) (yMetaSwr : Int) (yMetaSie : Int) (yMetaSoft : Bool) (yMetaNoCache : Bool) (yTags : List ByteArray) (yPins : Int) (h0 : smEntry (Entry.mk xKey xStatus xHeaders xBody (Meta.mk xMetaAt xMetaAge xMetaLife xMetaSwr xMetaSie xMetaSoft xMetaNoCache) xTags xPins)) : s64.F [.pr [.s xKey, .i .i64 xStatus, .sl .ro 2 (xHeaders.map (rHeader .ro)), .sl .ro 1 (xBody.map rByte), .i .i64 xMetaAt, .i .i64 xMetaAge, .i .i64 xMetaLife, .i .i64 xMetaSwr, .i .i64 xMetaSie, .b xMetaSoft, .b xMetaNoCache, .sl .ro 1 (xTags.map rStr), .i .i64 xPins], .pr [.s yKey, .i .i64 yStatus, .sl .ro 2 (yHeaders.map (rHeader .ro)), .sl .ro 1 (yBody.map rByte), .i .i64 yMetaAt, .i .i64 yMetaAge, .i .i64 yMetaLife, .i .i64 yMetaSwr, .i .i64 yMetaSie, .b yMetaSoft, .b yMetaNoCache, .sl .ro 1 (yTags.map rStr), .i .i64 yPins]] = some (.b (eqv (Entry.mk xKey xStatus xHeaders xBody (Meta.mk xMetaAt xMetaAge xMetaLife xMetaSwr xMetaSie xMetaSoft xMetaNoCache) xTags xPins) (Entry.mk yKey yStatus yHeaders yBody (Meta.mk yMetaAt yMetaAge yMetaLife yMetaSwr yMetaSie yMetaSoft yMetaNoCache) yTags yPins)), [.u, .u]) := mkS_eq (0) rfl rfl (fun cx h => by
  obtain ⟨q0, q1, q2, q3, q4, q5, q6⟩ := h0
  simp only [go_sem, reduceIte, ↓reduceIte, reduceCtorEq, nA, nS, nM, nB, nE, nL, nT, nN, iL, iT, iE, iA, iM, iS, iG, iB, iN, iZ, h, eqv_intne, eqv_int, eqv_bytes, eqv_boolne, eqv_bool, eqv_mk, q0, q1, q2, q3, q4, q5, q6]
  simp only [Entry.eqv (Entry.mk xKey xStatus xHeaders xBody (Meta.mk xMetaAt xMetaAge xMetaLife xMetaSwr xMetaSie xMetaSoft xMetaNoCache) xTags xPins) (Entry.mk yKey yStatus yHeaders yBody (Meta.mk yMetaAt yMetaAge yMetaLife yMetaSwr yMetaSie yMetaSoft yMetaNoCache) yTags yPins), Meta.eqv, if_sb, if_and', if_or', Bool.and_true, Bool.and_assoc]) (rfl)
noncomputable def s36 : SP Tryz.prog := mkS tyA 36 Tryz.f36 [s64] { md := [.ro 1, .ro 1], rg := [(0, [0, 1], []), (1, [0, 1, 10], []), (2, [4], []), (3, [0, 1, 5], []), (4, [0, 1, 5, 14], []), (5, [0, 1, 5], []), (6, [0, 1, 5, 24], []), (7, [4], []), (8, [4], [])], lv := [(0, [0, 1, 5], [])], out := [(0, [], [])], rets := some ([4], []), plan := [(6, (.take 0 (.take 1 (.take 2 (.take 3 (.take 4 (.take 5 (.one 6 (.take 7 .done)))))))))] } Tryz.func36 (by kernel_rfl)
@[go_sem] theorem d36 : s36.g = 36 ∧ s36.fs = ⟨[.ro 1, .ro 1], s36.F, false⟩ := ⟨nr rfl, nr rfl⟩
@[go_sem] theorem e36 (xs ys : List Entry) (h0 : smL smEntry xs) : s36.F [.sl .ro 13 (xs.map (rEntry .ro)), .sl .ro 13 (ys.map (rEntry .ro))] = some (.b (eqv xs ys), [.u, .u]) := mkS_eq (xs.length + 1) rfl rfl (fun cx h => by
  have hx := h0.1
  by_cases hl : xs.length = ys.length
  · have hb0 := loopN_eq Tryz.f36 0 _ _ rfl rfl
    obtain ⟨r, hr, hq⟩ := loop_srch (cx := cx) (blk := 0) (body := loopN Tryz.f36 0) (xs.zip ys) (fun k (s : Unit) => ⟨E [(0, .sl .ro 13 (xs.map (rEntry .ro))), (1, .sl .ro 13 (ys.map (rEntry .ro))), (5, .i .i64 k)], B []⟩) (fun s => ⟨E [], B []⟩) (fun x s => !eqv x.1 x.2) (fun x s => s) (fun x s => (.ret, ⟨E [(4, .b false)], B []⟩)) (fun k s => True)
        (fun s hI G => by simp only [go_sem, reduceIte, ↓reduceIte, reduceCtorEq, nA, nS, nM, nB, nE, nL, nT, nN, iL, iT, iE, iA, iM, iS, iG, iB, iN, iZ, h, Int.lt_irrefl, hb0, zip_len hl, hl]) (fun k hk s hI => by
          have h1 : ((k : Int) < ((xs.zip ys).length : Int)) := Int.ofNat_lt.2 hk
          have hk' : k < xs.length := by rwa [zip_len hl] at hk
          have h1' : ((k : Int) < (xs.length : Int)) := Int.ofNat_lt.2 hk'
          have h2 := h0.2 _ (List.getElem_mem hk')
          have h3 : (xs.zip ys)[k] = (xs[k], ys[k]'(by omega)) := by simp
          rw [h3]
          have h4 := h2
          obtain ⟨u0, u1, u2, u3, u4, u5, u6⟩ := h2
          exact ⟨_, _, _, fun G => by simp only [go_sem, reduceIte, ↓reduceIte, reduceCtorEq, nA, nS, nM, nB, nE, nL, nT, nN, iL, iT, iE, iA, iM, iS, iG, iB, iN, iZ, h, h1', idx_nt _ _ hk', idx_nt ys.length k (by omega), map_gd (rEntry .ro) xs k hk', map_gd (rEntry .ro) ys k (by omega), wrap_nat1 (show k < 9223372036854775807 by omega), h4, if_oret, Entry.eqv xs[k] (ys[k]'(by omega)), u0, u1, u2, u3, u4, u5, u6, eqv_byte, eqv_intne, eqv_int, eqv_bytes, eqv_boolne, h1, idx_nt _ _ hk, wrap_nat1 (show k < 9223372036854775807 by omega), hb0] <;> with_reducible rfl, by first | exact Iff.rfl | ((simp only [Entry.eqv xs[k] (ys[k]'(by omega))] <;> simp) <;> done) | ((simp only [Entry.eqv xs[k] (ys[k]'(by omega))] <;> simp [eqv]) <;> done) | (simp only [Entry.eqv xs[k] (ys[k]'(by omega))] <;> simp [eqv] <;> (by_cases g : xs[k].Get = (ys[k]'(by omega)).Get <;> simp [g])), fun hc => ⟨trivial, by simp only [go_sem, reduceIte, ↓reduceIte, reduceCtorEq, nA, nS, nM, nB, nE, nL, nT, nN, iL, iT, iE, iA, iM, iS, iG, iB, iN, iZ, h]⟩⟩) () trivial (xs.length + 1) (by rw [zip_len hl]; exact Nat.le_refl _)
    rw [hb0] at hr
    have hl2 : ((xs.length : Int) != (ys.length : Int)) = false := by simp [hl]
    rcases hq with ⟨s', e1, _, e3⟩ | ⟨x, s', e1, e3⟩
    · simp only [go_sem, reduceIte, ↓reduceIte, reduceCtorEq, nA, nS, nM, nB, nE, nL, nT, nN, iL, iT, iE, iA, iM, iS, iG, iB, iN, iZ, h, hl2, hr, e3, zip_eqv hl e1]
    · simp only [go_sem, reduceIte, ↓reduceIte, reduceCtorEq, nA, nS, nM, nB, nE, nL, nT, nN, iL, iT, iE, iA, iM, iS, iG, iB, iN, iZ, h, hl2, hr, e3, zip_nev hl e1]
  · have hl2 : ((xs.length : Int) != (ys.length : Int)) = true := by simpa using fun h => hl (Int.ofNat_inj.1 h)
    simp only [go_sem, reduceIte, ↓reduceIte, reduceCtorEq, nA, nS, nM, nB, nE, nL, nT, nN, iL, iT, iE, iA, iM, iS, iG, iB, iN, iZ, h, hl2, len_nev hl]) (rfl)
noncomputable def s14 : SP Tryz.prog := mkS tyA 14 Tryz.f14 [s36] { md := [.ro 1, .ro 1], rets := some ([4], []) } Tryz.func14 (by kernel_rfl)
@[go_sem] theorem d14 : s14.g = 14 ∧ s14.fs = ⟨[.ro 1, .ro 1], s14.F, false⟩ := ⟨nr rfl, nr rfl⟩
@[go_sem] theorem e14 (xBudget : Int) (xGuard : Int) (xTrial : List Entry) (xKept : List Entry) (yBudget : Int) (yGuard : Int) (yTrial : List Entry) (yKept : List Entry) (h0 : smStore (Store.mk xBudget xGuard xTrial xKept)) : s14.F [.agg [.i .i64 xBudget, .i .i64 xGuard, .sl .ro 13 (xTrial.map (rEntry .ro)), .sl .ro 13 (xKept.map (rEntry .ro))], .agg [.i .i64 yBudget, .i .i64 yGuard, .sl .ro 13 (yTrial.map (rEntry .ro)), .sl .ro 13 (yKept.map (rEntry .ro))]] = some (.b (eqv (Store.mk xBudget xGuard xTrial xKept) (Store.mk yBudget yGuard yTrial yKept)), [.u, .u]) := mkS_eq (0) rfl rfl (fun cx h => by
  obtain ⟨q0, q1, q2, q3⟩ := h0
  simp only [go_sem, reduceIte, ↓reduceIte, reduceCtorEq, nA, nS, nM, nB, nE, nL, nT, nN, iL, iT, iE, iA, iM, iS, iG, iB, iN, iZ, h, eqv_intne, eqv_int, eqv_bytes, eqv_boolne, eqv_bool, eqv_mk, q0, q1, q2, q3]
  simp only [Store.eqv (Store.mk xBudget xGuard xTrial xKept) (Store.mk yBudget yGuard yTrial yKept), if_sb, if_and', if_or', Bool.and_true, Bool.and_assoc]) (rfl)
noncomputable def s37 : SP Tryz.prog := mkS tyA 37 Tryz.f37 [s65] { md := [.ro 1, .ro 1], rets := some ([4], []) } Tryz.func37 (by kernel_rfl)
@[go_sem] theorem d37 : s37.g = 37 ∧ s37.fs = ⟨[.ro 1, .ro 1], s37.F, false⟩ := ⟨nr rfl, nr rfl⟩
@[go_sem] theorem e37 (xMethod : ByteArray) (xHost : ByteArray) (xPath : ByteArray) (xHeaders : List Header) (yMethod : ByteArray) (yHost : ByteArray) (yPath : ByteArray) (yHeaders : List Header) (h0 : smRequest (Request.mk xMethod xHost xPath xHeaders)) : s37.F [.agg [.s xMethod, .s xHost, .s xPath, .sl .ro 2 (xHeaders.map (rHeader .ro))], .agg [.s yMethod, .s yHost, .s yPath, .sl .ro 2 (yHeaders.map (rHeader .ro))]] = some (.b (eqv (Request.mk xMethod xHost xPath xHeaders) (Request.mk yMethod yHost yPath yHeaders)), [.u, .u]) := mkS_eq (0) rfl rfl (fun cx h => by
  obtain ⟨q0, q1, q2, q3⟩ := h0
  simp only [go_sem, reduceIte, ↓reduceIte, reduceCtorEq, nA, nS, nM, nB, nE, nL, nT, nN, iL, iT, iE, iA, iM, iS, iG, iB, iN, iZ, h, eqv_intne, eqv_int, eqv_bytes, eqv_boolne, eqv_bool, eqv_mk, q0, q1, q2, q3]
  simp only [Request.eqv (Request.mk xMethod xHost xPath xHeaders) (Request.mk yMethod yHost yPath yHeaders), if_sb, if_and', if_or', Bool.and_true, Bool.and_assoc]) (rfl)
noncomputable def s38 : SP Tryz.prog := mkS tyA 38 Tryz.f38 [] { md := [.ro 1, .ro 1], rg := [(0, [0, 1], []), (1, [0, 1, 10], []), (2, [4], []), (3, [0, 1, 5], []), (4, [0, 1, 5, 14], []), (5, [0, 1, 5], []), (6, [0, 1, 5, 25], []), (7, [4], []), (8, [4], [])], lv := [(0, [0, 1, 5], [])], out := [(0, [], [])], rets := some ([4], []), plan := [(6, (.take 0 (.take 1 (.take 2 (.take 3 (.take 4 (.take 5 (.take 6 (.take 7 (.take 8 .done))))))))))] } Tryz.func38 (by kernel_rfl)
@[go_sem] theorem d38 : s38.g = 38 ∧ s38.fs = ⟨[.ro 1, .ro 1], s38.F, false⟩ := ⟨nr rfl, nr rfl⟩
@[go_sem] theorem e38 (xs ys : List Waiter) (h0 : smL smWaiter xs) : s38.F [.sl .ro 4 (xs.map (rWaiter .ro)), .sl .ro 4 (ys.map (rWaiter .ro))] = some (.b (eqv xs ys), [.u, .u]) := mkS_eq (xs.length + 1) rfl rfl (fun cx h => by
  have hx := h0.1
  by_cases hl : xs.length = ys.length
  · have hb0 := loopN_eq Tryz.f38 0 _ _ rfl rfl
    obtain ⟨r, hr, hq⟩ := loop_srch (cx := cx) (blk := 0) (body := loopN Tryz.f38 0) (xs.zip ys) (fun k (s : Unit) => ⟨E [(0, .sl .ro 4 (xs.map (rWaiter .ro))), (1, .sl .ro 4 (ys.map (rWaiter .ro))), (5, .i .i64 k)], B []⟩) (fun s => ⟨E [], B []⟩) (fun x s => !eqv x.1 x.2) (fun x s => s) (fun x s => (.ret, ⟨E [(4, .b false)], B []⟩)) (fun k s => True)
        (fun s hI G => by simp only [go_sem, reduceIte, ↓reduceIte, reduceCtorEq, nA, nS, nM, nB, nE, nL, nT, nN, iL, iT, iE, iA, iM, iS, iG, iB, iN, iZ, h, Int.lt_irrefl, hb0, zip_len hl, hl]) (fun k hk s hI => by
          have h1 : ((k : Int) < ((xs.zip ys).length : Int)) := Int.ofNat_lt.2 hk
          have hk' : k < xs.length := by rwa [zip_len hl] at hk
          have h1' : ((k : Int) < (xs.length : Int)) := Int.ofNat_lt.2 hk'
          have h2 := h0.2 _ (List.getElem_mem hk')
          have h3 : (xs.zip ys)[k] = (xs[k], ys[k]'(by omega)) := by simp
          rw [h3]
          have h4 := h2
          obtain ⟨u0, u1, u2, u3⟩ := h2
          exact ⟨_, _, _, fun G => by simp only [go_sem, reduceIte, ↓reduceIte, reduceCtorEq, nA, nS, nM, nB, nE, nL, nT, nN, iL, iT, iE, iA, iM, iS, iG, iB, iN, iZ, h, h1', idx_nt _ _ hk', idx_nt ys.length k (by omega), map_gd (rWaiter .ro) xs k hk', map_gd (rWaiter .ro) ys k (by omega), wrap_nat1 (show k < 9223372036854775807 by omega), h4, if_oret, Waiter.eqv xs[k] (ys[k]'(by omega)), u0, u1, u2, u3, eqv_byte, eqv_intne, eqv_int, eqv_bytes, eqv_boolne, h1, idx_nt _ _ hk, wrap_nat1 (show k < 9223372036854775807 by omega), hb0] <;> with_reducible rfl, by first | exact Iff.rfl | ((simp only [Waiter.eqv xs[k] (ys[k]'(by omega))] <;> simp) <;> done) | ((simp only [Waiter.eqv xs[k] (ys[k]'(by omega))] <;> simp [eqv]) <;> done) | (simp only [Waiter.eqv xs[k] (ys[k]'(by omega))] <;> simp [eqv] <;> (by_cases g : xs[k].Get = (ys[k]'(by omega)).Get <;> simp [g])), fun hc => ⟨trivial, by simp only [go_sem, reduceIte, ↓reduceIte, reduceCtorEq, nA, nS, nM, nB, nE, nL, nT, nN, iL, iT, iE, iA, iM, iS, iG, iB, iN, iZ, h]⟩⟩) () trivial (xs.length + 1) (by rw [zip_len hl]; exact Nat.le_refl _)
    rw [hb0] at hr
    have hl2 : ((xs.length : Int) != (ys.length : Int)) = false := by simp [hl]
    rcases hq with ⟨s', e1, _, e3⟩ | ⟨x, s', e1, e3⟩
    · simp only [go_sem, reduceIte, ↓reduceIte, reduceCtorEq, nA, nS, nM, nB, nE, nL, nT, nN, iL, iT, iE, iA, iM, iS, iG, iB, iN, iZ, h, hl2, hr, e3, zip_eqv hl e1]
    · simp only [go_sem, reduceIte, ↓reduceIte, reduceCtorEq, nA, nS, nM, nB, nE, nL, nT, nN, iL, iT, iE, iA, iM, iS, iG, iB, iN, iZ, h, hl2, hr, e3, zip_nev hl e1]
  · have hl2 : ((xs.length : Int) != (ys.length : Int)) = true := by simpa using fun h => hl (Int.ofNat_inj.1 h)
    simp only [go_sem, reduceIte, ↓reduceIte, reduceCtorEq, nA, nS, nM, nB, nE, nL, nT, nN, iL, iT, iE, iA, iM, iS, iG, iB, iN, iZ, h, hl2, len_nev hl]) (rfl)
noncomputable def s15 : SP Tryz.prog := mkS tyA 15 Tryz.f15 [s37, s38] { md := [.ro 1, .ro 1], rg := [(0, [0, 1], []), (1, [0, 1, 12], []), (2, [4], []), (3, [0, 1, 5], []), (4, [0, 1, 5, 16], []), (5, [0, 1, 5], []), (6, [0, 1, 5, 6, 19], [6]), (7, [0, 1, 5, 6, 7, 19, 23], [6, 7]), (8, [0, 1, 5, 82], []), (9, [4], []), (10, [4], [])], lv := [(0, [0, 1, 5], [])], out := [(0, [], [])], rets := some ([4], []) } Tryz.func15 (by kernel_rfl)
@[go_sem] theorem d15 : s15.g = 15 ∧ s15.fs = ⟨[.ro 1, .ro 1], s15.F, false⟩ := ⟨nr rfl, nr rfl⟩
@[go_sem] theorem e15 (xs ys : List Flight) (h0 : smL smFlight xs) : s15.F [.sl .ro 11 (xs.map (rFlight .ro)), .sl .ro 11 (ys.map (rFlight .ro))] = some (.b (eqv xs ys), [.u, .u]) := mkS_eq (xs.length + 1) rfl rfl (fun cx h => by
  have hx := h0.1
  by_cases hl : xs.length = ys.length
  · have hb0 := loopN_eq Tryz.f15 0 _ _ rfl rfl
    obtain ⟨r, hr, hq⟩ := loop_srch (cx := cx) (blk := 0) (body := loopN Tryz.f15 0) (xs.zip ys) (fun k (s : Unit) => ⟨E [(0, .sl .ro 11 (xs.map (rFlight .ro))), (1, .sl .ro 11 (ys.map (rFlight .ro))), (5, .i .i64 k)], B []⟩) (fun s => ⟨E [], B []⟩) (fun x s => !eqv x.1 x.2) (fun x s => s) (fun x s => (.ret, ⟨E [(4, .b false)], B []⟩)) (fun k s => True)
        (fun s hI G => by simp only [go_sem, reduceIte, ↓reduceIte, reduceCtorEq, nA, nS, nM, nB, nE, nL, nT, nN, iL, iT, iE, iA, iM, iS, iG, iB, iN, iZ, h, Int.lt_irrefl, hb0, zip_len hl, hl]) (fun k hk s hI => by
          have h1 : ((k : Int) < ((xs.zip ys).length : Int)) := Int.ofNat_lt.2 hk
          have hk' : k < xs.length := by rwa [zip_len hl] at hk
          have h1' : ((k : Int) < (xs.length : Int)) := Int.ofNat_lt.2 hk'
          have h2 := h0.2 _ (List.getElem_mem hk')
          have h3 : (xs.zip ys)[k] = (xs[k], ys[k]'(by omega)) := by simp
          rw [h3]
          have h4 := h2
          obtain ⟨u0, u1, u2, u3, u4, u5, u6, u7⟩ := h2
          exact ⟨_, _, _, fun G => by simp only [go_sem, reduceIte, ↓reduceIte, reduceCtorEq, nA, nS, nM, nB, nE, nL, nT, nN, iL, iT, iE, iA, iM, iS, iG, iB, iN, iZ, h, h1', idx_nt _ _ hk', idx_nt ys.length k (by omega), map_gd (rFlight .ro) xs k hk', map_gd (rFlight .ro) ys k (by omega), wrap_nat1 (show k < 9223372036854775807 by omega), h4, if_oret, Flight.eqv xs[k] (ys[k]'(by omega)), u0, u1, u2, u3, u4, u5, u6, u7, eqv_byte, eqv_intne, eqv_int, eqv_bytes, eqv_boolne, h1, idx_nt _ _ hk, wrap_nat1 (show k < 9223372036854775807 by omega), hb0] <;> with_reducible rfl, by first | exact Iff.rfl | ((simp only [Flight.eqv xs[k] (ys[k]'(by omega))] <;> simp) <;> done) | ((simp only [Flight.eqv xs[k] (ys[k]'(by omega))] <;> simp [eqv]) <;> done) | (simp only [Flight.eqv xs[k] (ys[k]'(by omega))] <;> simp [eqv] <;> (by_cases g : xs[k].Get = (ys[k]'(by omega)).Get <;> simp [g])), fun hc => ⟨trivial, by simp only [go_sem, reduceIte, ↓reduceIte, reduceCtorEq, nA, nS, nM, nB, nE, nL, nT, nN, iL, iT, iE, iA, iM, iS, iG, iB, iN, iZ, h]⟩⟩) () trivial (xs.length + 1) (by rw [zip_len hl]; exact Nat.le_refl _)
    rw [hb0] at hr
    have hl2 : ((xs.length : Int) != (ys.length : Int)) = false := by simp [hl]
    rcases hq with ⟨s', e1, _, e3⟩ | ⟨x, s', e1, e3⟩
    · simp only [go_sem, reduceIte, ↓reduceIte, reduceCtorEq, nA, nS, nM, nB, nE, nL, nT, nN, iL, iT, iE, iA, iM, iS, iG, iB, iN, iZ, h, hl2, hr, e3, zip_eqv hl e1]
    · simp only [go_sem, reduceIte, ↓reduceIte, reduceCtorEq, nA, nS, nM, nB, nE, nL, nT, nN, iL, iT, iE, iA, iM, iS, iG, iB, iN, iZ, h, hl2, hr, e3, zip_nev hl e1]
  · have hl2 : ((xs.length : Int) != (ys.length : Int)) = true := by simpa using fun h => hl (Int.ofNat_inj.1 h)
    simp only [go_sem, reduceIte, ↓reduceIte, reduceCtorEq, nA, nS, nM, nB, nE, nL, nT, nN, iL, iT, iE, iA, iM, iS, iG, iB, iN, iZ, h, hl2, len_nev hl]) (rfl)
end Go.Vm.A
