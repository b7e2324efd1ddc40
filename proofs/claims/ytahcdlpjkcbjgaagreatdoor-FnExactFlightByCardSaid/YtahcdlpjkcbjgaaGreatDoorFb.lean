/- Functions of the program, walked by the evaluator. -/
import Derived.Test.YtahcdlpjkcbjgaaGreatDoorFa
set_option autoImplicit false
set_option maxRecDepth 100000
set_option maxHeartbeats 4000000
set_option linter.unusedVariables false
set_option linter.unusedSimpArgs false
namespace Go.Vm.A
open Go.Proofs
open Nat renaming reduceAdd → nA, reduceSub → nS, reduceMul → nM, reduceBEq → nB, reduceEqDiff → nE, reduceLeDiff → nL, reduceLT → nT, reduceBneDiff → nN
open Int renaming reduceLE → iL, reduceLT → iT, reduceEq → iE, reduceAdd → iA, reduceMul → iM, reduceSub → iS, reduceNeg → iG, reduceBEq → iB, reduceBNe → iN, reduceToNat → iZ

noncomputable def s124 : SP Tryz.prog := mkS tyA 124 Tryz.f124 [s140] { md := [.ro 1, .ro 1], rg := [(0, [0, 1], []), (1, [0, 1, 6], []), (2, [0, 1, 6, 7], []), (3, [0, 1, 6, 7, 8], []), (4, [0, 1, 6, 7, 8, 12], []), (5, [0, 1, 6, 7, 8], []), (6, [0, 1, 6, 7, 8, 22], []), (7, [0, 1, 6, 8, 23], []), (8, [0, 1, 6, 8], []), (9, [0, 1, 6, 8], []), (10, [0, 1, 6, 7, 8], []), (11, [4, 5], [])], lv := [(0, [0, 1, 6, 7, 8], [])], out := [(0, [6, 7], [])], rets := some ([4, 5], []) } Tryz.func124 (by kernel_rfl)
@[go_sem] theorem d124 : s124.g = 124 ∧ s124.fs = ⟨[.ro 1, .ro 1], s124.F, false⟩ := ⟨nr rfl, nr rfl⟩
@[go_sem] theorem e124 (hs : List Header) (name : ByteArray) (h0 : (hs.length ≤ 20 ∧ smL smHeader hs ∧ okN name = true)) : s124.F [.sl .ro 2 (hs.map (rHeader .ro)), .s name] = some (.tup [.s (joinV hs name).1, .b (hasV hs name)], [.u, .u]) := mkS_eq (hs.length + 1) rfl rfl (fun cx h => by
  have hl := h0.1
  have hx : hs.length ≤ 9223372036854775806 := by omega
  have hj := joinV_2 hs name
  have hb0 := loopN_eq Tryz.f124 0 _ _ rfl rfl
  obtain ⟨hI, hr⟩ := loop_fold (cx := cx) (blk := 0) (body := loopN Tryz.f124 0) hs (fun k (s : ByteArray × Bool) => ⟨E [(0, .sl .ro 2 (hs.map (rHeader .ro))), (1, .s name), (6, .s s.1), (7, .b s.2), (8, .i .i64 k)], B []⟩) (fun s => ⟨E [(6, .s s.1), (7, .b s.2)], B []⟩) (fun x s => joinStep name s x) (fun k s => s.1.size ≤ k * 1048578)
      (fun s hI G => by simp only [go_sem, reduceIte, ↓reduceIte, reduceCtorEq, nA, nS, nM, nB, nE, nL, nT, nN, iL, iT, iE, iA, iM, iS, iG, iB, iN, iZ, h, Int.lt_irrefl, hb0, h0.1]) (fun k hk s hI => by
        have h1 : ((k : Int) < (hs.length : Int)) := Int.ofNat_lt.2 hk
        obtain ⟨u1, u2⟩ := h0.2.1.2 _ (List.getElem_mem hk)
        have u2' : hs[k].Value.size ≤ 1048576 := u2
        have hJ := joinStep_size (n := name) hI u2'
        have hl := h0.1
        have e0 : (⟨#[44, 32]⟩ : ByteArray).size = 2 := rfl
        have e1 : s.1.size + 2 ≤ 9223372036854775807 := by omega
        have e1' : s.1.size + (⟨#[44, 32]⟩ : ByteArray).size ≤ 9223372036854775807 := e1
        have e2 : s.1.size + hs[k].Value.size ≤ 9223372036854775807 := by omega
        have e3 : s.1.size + 2 + hs[k].Value.size ≤ 9223372036854775807 := by omega
        have n1 : hs[k].Name.size ≤ 9223372036854775806 ∧ name.size ≤ 9223372036854775806 := ⟨by have : hs[k].Name.size ≤ 1048576 := u1; omega, of_decide_eq_true h0.2.2⟩
        cases d1 : eqv (lowS hs[k].Name) (lowS name) <;> cases d2 : s.2
        all_goals exact ⟨hJ, _, fun G => by simp only [go_sem, reduceIte, ↓reduceIte, reduceCtorEq, nA, nS, nM, nB, nE, nL, nT, nN, iL, iT, iE, iA, iM, iS, iG, iB, iN, iZ, h, e0, e1, e2, e3, map_gd (rHeader .ro) hs k hk, n1, d1, d2, ByteArray.size_append, h1, idx_nt _ _ hk, wrap_nat1 (show k < 9223372036854775807 by omega), hb0] <;> with_reducible rfl, by simp only [go_sem, reduceIte, ↓reduceIte, reduceCtorEq, nA, nS, nM, nB, nE, nL, nT, nN, iL, iT, iE, iA, iM, iS, iG, iB, iN, iZ, h, d1, d2, joinStep]⟩) (⟨#[]⟩, false) (by show 0 ≤ _; omega) (hs.length + 1) (Nat.le_refl _)
  rw [hb0] at hr
  unfold joinV at hj
  simp only [go_sem, reduceIte, ↓reduceIte, reduceCtorEq, nA, nS, nM, nB, nE, nL, nT, nN, iL, iT, iE, iA, iM, iS, iG, iB, iN, iZ, h, hr, joinV, hj]) (rfl)
noncomputable def s108 : SP Tryz.prog := mkS tyA 108 Tryz.f108 [s93, s122, s123, s124] { md := [.ro 1], rg := [(0, [1], [1]), (1, [1, 25], [1]), (2, [2], []), (3, [1, 3], [1]), (4, [1, 3, 30], [1]), (5, [2], []), (6, [1, 5], [1]), (7, [1, 38], [1]), (8, [2], []), (9, [42], []), (10, [2], []), (11, [2], [])], rets := some ([2], []), al := [32] } Tryz.func108 (by kernel_rfl)
@[go_sem] theorem d108 : s108.g = 108 ∧ s108.fs = ⟨[.ro 1], s108.F, false⟩ := ⟨nr rfl, nr rfl⟩
@[go_sem] theorem e108 (rMethod : ByteArray) (rHost : ByteArray) (rPath : ByteArray) (rHeaders : List Header) (h0 : smL smHeader (Request.mk rMethod rHost rPath rHeaders).Headers) : s108.F [.agg [.s rMethod, .s rHost, .s rPath, .sl .ro 2 (rHeaders.map (rHeader .ro))]] = some (.i .i64 (requestFault (Request.mk rMethod rHost rPath rHeaders)), [.u]) := mkS_eq (0) rfl rfl (fun cx h => by
  have hm : isMethod rMethod = (eqv rMethod ⟨#[71, 69, 84]⟩ || eqv rMethod ⟨#[72, 69, 65, 68]⟩) := rfl
  have key : ∀ m : Bool, isMethod rMethod = m → (isMethod rMethod && isHost rHost && isPath rPath) = (m && isHost rHost && isPath rPath) := fun m h => by rw [h]
  have hn1 : okN ⟨#[72, 111, 115, 116]⟩ = true := by decide
  have hn2 : okN ⟨#[104, 111, 115, 116]⟩ = true := by decide
  rcases (show (isMethod rMethod = false ∧ eqv rMethod ⟨#[71, 69, 84]⟩ = false ∧ eqv rMethod ⟨#[72, 69, 65, 68]⟩ = false) ∨ (isMethod rMethod = true ∧ eqv rMethod ⟨#[71, 69, 84]⟩ = true) ∨ (isMethod rMethod = true ∧ eqv rMethod ⟨#[71, 69, 84]⟩ = false ∧ eqv rMethod ⟨#[72, 69, 65, 68]⟩ = true) from by
    rw [hm]; cases eqv rMethod ⟨#[71, 69, 84]⟩ <;> cases eqv rMethod ⟨#[72, 69, 65, 68]⟩ <;> simp) with ⟨m0, m1, m2⟩ | ⟨m0, m1⟩ | ⟨m0, m1, m2⟩
  · simp only [go_sem, reduceIte, ↓reduceIte, reduceCtorEq, nA, nS, nM, nB, nE, nL, nT, nN, iL, iT, iE, iA, iM, iS, iG, iB, iN, iZ, h, m0, m1, m2, eqv_bytesne, eqv_bytes, requestFault]
  · cases h2 : isHost rHost
    · simp only [go_sem, reduceIte, ↓reduceIte, reduceCtorEq, nA, nS, nM, nB, nE, nL, nT, nN, iL, iT, iE, iA, iM, iS, iG, iB, iN, iZ, h, h2, m0, m1, eqv_bytesne, eqv_bytes, requestFault]
    cases h3 : isPath rPath
    · simp only [go_sem, reduceIte, ↓reduceIte, reduceCtorEq, nA, nS, nM, nB, nE, nL, nT, nN, iL, iT, iE, iA, iM, iS, iG, iB, iN, iZ, h, h2, h3, m0, m1, eqv_bytesne, eqv_bytes, requestFault]
    by_cases z : headersFault rHeaders = 0
    rotate_left
    · have z' : (headersFault rHeaders != 0) = true := by simpa using z
      simp only [go_sem, reduceIte, ↓reduceIte, reduceCtorEq, nA, nS, nM, nB, nE, nL, nT, nN, iL, iT, iE, iA, iM, iS, iG, iB, iN, iZ, h, h2, h3, z', m0, m1, eqv_bytesne, eqv_bytes, requestFault]
    have z' : (headersFault rHeaders != 0) = false := by simpa using z
    have h4 : rHeaders.length ≤ 20 ∧ smL smHeader rHeaders ∧ okN ⟨#[72, 111, 115, 116]⟩ = true := ⟨headersFault_ok z, h0, hn1⟩
    have h5 : rHeaders.length ≤ 20 ∧ smL smHeader rHeaders ∧ okN ⟨#[104, 111, 115, 116]⟩ = true := ⟨headersFault_ok z, h0, hn2⟩
    have h6 := valsOf_pos rHeaders ⟨#[72, 111, 115, 116]⟩
    have h7 := hasV_host rHeaders
    cases h8 : hasV rHeaders ⟨#[72, 111, 115, 116]⟩
    · by_cases h9 : 20 ≤ (rHeaders.length : Int)
      · have h10 : ((rHeaders.length : Int) == 20) = true := by have := h4.1; simp; omega
        simp only [go_sem, reduceIte, ↓reduceIte, reduceCtorEq, nA, nS, nM, nB, nE, nL, nT, nN, iL, iT, iE, iA, iM, iS, iG, iB, iN, iZ, h, h2, h3, z, h4, h5, h6, h7, h8, h9, h10, m0, m1, eqv_bytesne, eqv_bytes, requestFault]
      · have h10 : ((rHeaders.length : Int) == 20) = false := by have := h4.1; simp; omega
        simp only [go_sem, reduceIte, ↓reduceIte, reduceCtorEq, nA, nS, nM, nB, nE, nL, nT, nN, iL, iT, iE, iA, iM, iS, iG, iB, iN, iZ, h, h2, h3, z, h4, h5, h6, h7, h8, h9, h10, m0, m1, eqv_bytesne, eqv_bytes, requestFault]
    · simp only [go_sem, reduceIte, ↓reduceIte, reduceCtorEq, nA, nS, nM, nB, nE, nL, nT, nN, iL, iT, iE, iA, iM, iS, iG, iB, iN, iZ, h, h2, h3, z, h4, h5, h6, h7, h8, m0, m1, eqv_bytesne, eqv_bytes, requestFault]
  · cases h2 : isHost rHost
    · simp only [go_sem, reduceIte, ↓reduceIte, reduceCtorEq, nA, nS, nM, nB, nE, nL, nT, nN, iL, iT, iE, iA, iM, iS, iG, iB, iN, iZ, h, h2, m0, m1, m2, eqv_bytesne, eqv_bytes, requestFault]
    cases h3 : isPath rPath
    · simp only [go_sem, reduceIte, ↓reduceIte, reduceCtorEq, nA, nS, nM, nB, nE, nL, nT, nN, iL, iT, iE, iA, iM, iS, iG, iB, iN, iZ, h, h2, h3, m0, m1, m2, eqv_bytesne, eqv_bytes, requestFault]
    by_cases z : headersFault rHeaders = 0
    rotate_left
    · have z' : (headersFault rHeaders != 0) = true := by simpa using z
      simp only [go_sem, reduceIte, ↓reduceIte, reduceCtorEq, nA, nS, nM, nB, nE, nL, nT, nN, iL, iT, iE, iA, iM, iS, iG, iB, iN, iZ, h, h2, h3, z', m0, m1, m2, eqv_bytesne, eqv_bytes, requestFault]
    have z' : (headersFault rHeaders != 0) = false := by simpa using z
    have h4 : rHeaders.length ≤ 20 ∧ smL smHeader rHeaders ∧ okN ⟨#[72, 111, 115, 116]⟩ = true := ⟨headersFault_ok z, h0, hn1⟩
    have h5 : rHeaders.length ≤ 20 ∧ smL smHeader rHeaders ∧ okN ⟨#[104, 111, 115, 116]⟩ = true := ⟨headersFault_ok z, h0, hn2⟩
    have h6 := valsOf_pos rHeaders ⟨#[72, 111, 115, 116]⟩
    have h7 := hasV_host rHeaders
    cases h8 : hasV rHeaders ⟨#[72, 111, 115, 116]⟩
    · by_cases h9 : 20 ≤ (rHeaders.length : Int)
      · have h10 : ((rHeaders.length : Int) == 20) = true := by have := h4.1; simp; omega
        simp only [go_sem, reduceIte, ↓reduceIte, reduceCtorEq, nA, nS, nM, nB, nE, nL, nT, nN, iL, iT, iE, iA, iM, iS, iG, iB, iN, iZ, h, h2, h3, z, h4, h5, h6, h7, h8, h9, h10, m0, m1, m2, eqv_bytesne, eqv_bytes, requestFault]
      · have h10 : ((rHeaders.length : Int) == 20) = false := by have := h4.1; simp; omega
        simp only [go_sem, reduceIte, ↓reduceIte, reduceCtorEq, nA, nS, nM, nB, nE, nL, nT, nN, iL, iT, iE, iA, iM, iS, iG, iB, iN, iZ, h, h2, h3, z, h4, h5, h6, h7, h8, h9, h10, m0, m1, m2, eqv_bytesne, eqv_bytes, requestFault]
    · simp only [go_sem, reduceIte, ↓reduceIte, reduceCtorEq, nA, nS, nM, nB, nE, nL, nT, nN, iL, iT, iE, iA, iM, iS, iG, iB, iN, iZ, h, h2, h3, z, h4, h5, h6, h7, h8, m0, m1, m2, eqv_bytesne, eqv_bytes, requestFault]) (rfl)
def isReqW (w : Waiter) : Bool := isTime w.Req && isTime w.Due
def namesCode (xs : List ByteArray) : Int := if 4 < (xs.length : Int) then 2 else if (xs.any fun x => !isWord x) = true then 5 else 0
theorem any_not {α : Type} (p : α → Bool) : ∀ xs : List α, (xs.any fun x => !p x) = !xs.all p
  | [] => rfl
  | x :: xs => by rw [List.any_cons, List.all_cons, any_not p xs]; cases p x <;> rfl
def isKey (t : ByteArray) : Bool := decide (1 ≤ (t.size : Int)) && decide ((t.size : Int) ≤ 500)
noncomputable def flightFault (f : Flight) : Int :=
  if (isTime f.Id && isTime f.Due) = false then 3 else if isKey f.Key = false then 2 else if (requestFault f.Get != 0) = true then requestFault f.Get else if (!f.Out && f.Due != 0) = true then 8
  else if 10 < (f.Waiters.length : Int) then 2 else if (f.Waiters.any fun x => !isReqW x) = true then 3 else if tw [] f.Waiters = true then 6 else 0
theorem flightFault_ok {f : Flight} (h : flightFault f = 0) : f.Waiters.length ≤ 10 := by
  unfold flightFault at h
  split at h
  · cases h
  split at h
  · cases h
  split at h
  · rename_i hc; rw [h] at hc; cases hc
  split at h
  · cases h
  split at h
  · cases h
  omega
noncomputable def s85 : SP Tryz.prog := mkS tyA 85 Tryz.f85 [s22, s86, s108] { md := [.ro 1], rg := [(0, [1], [1]), (1, [1, 14], [1]), (2, [2], []), (3, [1, 24], [1]), (4, [2], []), (5, [1, 3], [1]), (6, [1, 3, 29], [1]), (7, [2], []), (8, [1, 38], [1]), (9, [2], []), (10, [1, 42], [1]), (11, [2], []), (12, [1, 4], [1]), (13, [1, 4, 47], [1]), (14, [1, 4], [1]), (15, [1, 4, 67], [1]), (16, [2], []), (17, [70], []), (18, [2], []), (19, [2], [])], lv := [(0, [1, 4], [1])], out := [(0, [1], [1])], rets := some ([2], []) } Tryz.func85 (by kernel_rfl)
@[go_sem] theorem d85 : s85.g = 85 ∧ s85.fs = ⟨[.ro 1], s85.F, false⟩ := ⟨nr rfl, nr rfl⟩
@[go_sem] theorem e85 (fId : Int) (fKey : ByteArray) (fBack : Bool) (fOut : Bool) (fDue : Int) (fDoomed : Bool) (fGetMethod : ByteArray) (fGetHost : ByteArray) (fGetPath : ByteArray) (fGetHeaders : List Header) (fWaiters : List Waiter) (h0 : smL smHeader (Flight.mk fId fKey fBack fOut fDue fDoomed (Request.mk fGetMethod fGetHost fGetPath fGetHeaders) fWaiters).Get.Headers) : s85.F [.agg [.i .i64 fId, .s fKey, .b fBack, .b fOut, .i .i64 fDue, .b fDoomed, .s fGetMethod, .s fGetHost, .s fGetPath, .sl .ro 2 (fGetHeaders.map (rHeader .ro)), .sl .ro 4 (fWaiters.map (rWaiter .ro))]] = some (.i .i64 (flightFault (Flight.mk fId fKey fBack fOut fDue fDoomed (Request.mk fGetMethod fGetHost fGetPath fGetHeaders) fWaiters)), [.u]) := mkS_eq (fWaiters.length + 1) rfl rfl (fun cx h => by
  have hH : smL smHeader fGetHeaders := h0
  cases t1 : isTime fId
  · simp only [go_sem, reduceIte, ↓reduceIte, reduceCtorEq, nA, nS, nM, nB, nE, nL, nT, nN, iL, iT, iE, iA, iM, iS, iG, iB, iN, iZ, h, t1, flightFault]
  cases t2 : isTime fDue
  · simp only [go_sem, reduceIte, ↓reduceIte, reduceCtorEq, nA, nS, nM, nB, nE, nL, nT, nN, iL, iT, iE, iA, iM, iS, iG, iB, iN, iZ, h, t1, t2, flightFault]
  have hku : isKey fKey = (decide (1 ≤ (fKey.size : Int)) && decide ((fKey.size : Int) ≤ 500)) := rfl
  by_cases k1 : (fKey.size : Int) < 1
  · have hk : isKey fKey = false := by rw [hku]; simp; omega
    simp only [go_sem, reduceIte, ↓reduceIte, reduceCtorEq, nA, nS, nM, nB, nE, nL, nT, nN, iL, iT, iE, iA, iM, iS, iG, iB, iN, iZ, h, t1, t2, k1, hk, flightFault]
  by_cases k2 : 500 < (fKey.size : Int)
  · have hk : isKey fKey = false := by rw [hku]; simp; omega
    simp only [go_sem, reduceIte, ↓reduceIte, reduceCtorEq, nA, nS, nM, nB, nE, nL, nT, nN, iL, iT, iE, iA, iM, iS, iG, iB, iN, iZ, h, t1, t2, k1, k2, hk, flightFault]
  have hk : isKey fKey = true := by rw [hku]; simp; omega
  by_cases z : requestFault (Request.mk fGetMethod fGetHost fGetPath fGetHeaders) = 0
  rotate_left
  · have z' : (requestFault (Request.mk fGetMethod fGetHost fGetPath fGetHeaders) != 0) = true := by simpa using z
    simp only [go_sem, reduceIte, ↓reduceIte, reduceCtorEq, nA, nS, nM, nB, nE, nL, nT, nN, iL, iT, iE, iA, iM, iS, iG, iB, iN, iZ, h, t1, t2, k1, k2, hk, hH, z', flightFault]
  rcases (show (fOut = true ∧ True) ∨ (fOut = false ∧ (fDue != 0) = false) ∨ (fOut = false ∧ (fDue != 0) = true) from by cases fOut <;> cases (fDue != 0) <;> simp) with ⟨o1, o2⟩ | ⟨o1, o2⟩ | ⟨o1, o2⟩
  rotate_left
  rotate_left
  · simp only [go_sem, reduceIte, ↓reduceIte, reduceCtorEq, nA, nS, nM, nB, nE, nL, nT, nN, iL, iT, iE, iA, iM, iS, iG, iB, iN, iZ, h, t1, t2, k1, k2, hk, hH, z, o1, o2, flightFault]
  all_goals
    by_cases w1 : 10 < (fWaiters.length : Int)
    · simp only [go_sem, reduceIte, ↓reduceIte, reduceCtorEq, nA, nS, nM, nB, nE, nL, nT, nN, iL, iT, iE, iA, iM, iS, iG, iB, iN, iZ, h, t1, t2, k1, k2, hk, hH, z, o1, o2, w1, flightFault]
    have hx : fWaiters.length ≤ 9223372036854775806 := by omega
    have hb0 := loopN_eq Tryz.f85 0 _ _ rfl rfl
    obtain ⟨r, hr, hq⟩ := loop_list (cx := cx) (blk := 0) (body := loopN Tryz.f85 0) fWaiters (fun k (s : Unit) => ⟨E [(1, .p ⟨false, 1, [], 0⟩), (4, .i .i64 k)], B [(1, [.i .i64 fId, .s fKey, .b fBack, .b fOut, .i .i64 fDue, .b fDoomed, .s fGetMethod, .s fGetHost, .s fGetPath, .sl .ro 2 (fGetHeaders.map (rHeader .ro)), .sl .ro 4 (fWaiters.map (rWaiter .ro))])]⟩) (fun s => ⟨E [(1, .p ⟨false, 1, [], 0⟩)], B [(1, [.i .i64 fId, .s fKey, .b fBack, .b fOut, .i .i64 fDue, .b fDoomed, .s fGetMethod, .s fGetHost, .s fGetPath, .sl .ro 2 (fGetHeaders.map (rHeader .ro)), .sl .ro 4 (fWaiters.map (rWaiter .ro))])]⟩) (fun x s => !isReqW x) (fun x s => ()) (fun x s => (.ret, ⟨E [(2, .i .i64 3)], B []⟩)) (fun k s => True)
        (fun s hI G => by simp only [go_sem, reduceIte, ↓reduceIte, reduceCtorEq, nA, nS, nM, nB, nE, nL, nT, nN, iL, iT, iE, iA, iM, iS, iG, iB, iN, iZ, h, Int.lt_irrefl, hb0, hx, o1]) (fun k hk s hI => by
          have h1 : ((k : Int) < (fWaiters.length : Int)) := Int.ofNat_lt.2 hk
          have hu : isReqW fWaiters[k] = (isTime fWaiters[k].Req && isTime fWaiters[k].Due) := rfl
          by_cases c0 : isReqW fWaiters[k] = true
          · skip
            have c2 := c0
            rw [hu, Bool.and_eq_true] at c2
            obtain ⟨a1, a2⟩ := c2
            all_goals exact .inr ⟨by rw [c0]; rfl, trivial, _, fun G => by simp only [go_sem, reduceIte, ↓reduceIte, reduceCtorEq, nA, nS, nM, nB, nE, nL, nT, nN, iL, iT, iE, iA, iM, iS, iG, iB, iN, iZ, h, map_gd (rWaiter .ro) fWaiters _ hk, o1, a1, a2, h1, idx_nt _ _ hk, wrap_nat1 (show k < 9223372036854775807 by omega), hb0] <;> with_reducible rfl, by simp only [go_sem, reduceIte, ↓reduceIte, reduceCtorEq, nA, nS, nM, nB, nE, nL, nT, nN, iL, iT, iE, iA, iM, iS, iG, iB, iN, iZ, h, o1]⟩
          · have c1 : isReqW fWaiters[k] = false := by simpa using c0
            have c2 := c1
            rw [hu] at c2
            rcases (show (isTime fWaiters[k].Req = false ∧ True) ∨ (isTime fWaiters[k].Req = true ∧ isTime fWaiters[k].Due = false) from by cases h3 : isTime fWaiters[k].Req <;> simp [h3] at c2 ⊢; exact c2) with ⟨a1, a2⟩ | ⟨a1, a2⟩
            all_goals exact .inl ⟨by rw [c1]; rfl, fun G => by simp only [go_sem, reduceIte, ↓reduceIte, reduceCtorEq, nA, nS, nM, nB, nE, nL, nT, nN, iL, iT, iE, iA, iM, iS, iG, iB, iN, iZ, h, map_gd (rWaiter .ro) fWaiters _ hk, o1, a1, a2, h1, idx_nt _ _ hk, wrap_nat1 (show k < 9223372036854775807 by omega), hb0]⟩) () trivial (fWaiters.length + 1) (Nat.le_refl _)
    rw [hb0] at hr
    simp only [o1] at hr
    have hn := any_not isReqW fWaiters
    rcases hq with ⟨s', e1, _, e3⟩ | ⟨x, s', e1, e3⟩
    · have e2 := runS_all e1
      cases w3 : tw [] fWaiters <;> simp only [go_sem, reduceIte, ↓reduceIte, reduceCtorEq, nA, nS, nM, nB, nE, nL, nT, nN, iL, iT, iE, iA, iM, iS, iG, iB, iN, iZ, h, t1, t2, k1, k2, hk, hH, z, o1, o2, w1, hx, hr, e3, hn, e2, w3, flightFault]
    · have e2 := runS_all' e1
      simp only [go_sem, reduceIte, ↓reduceIte, reduceCtorEq, nA, nS, nM, nB, nE, nL, nT, nN, iL, iT, iE, iA, iM, iS, iG, iB, iN, iZ, h, t1, t2, k1, k2, hk, hH, z, o1, o2, w1, hx, hr, e3, hn, e2, flightFault]) (rfl)
/-! flights -/
def unsF (fs : List Flight) : Bool := (fs.zip fs.tail).any fun p => decide (p.2.Id ≤ p.1.Id)
def leO (x : Flight) : Option Int → Bool
  | none => false
  | some y => decide (x.Id ≤ y)
def unsO : Option Int → List Flight → Bool
  | _, [] => false
  | s, x :: r => if leO x s = true then true else unsO (some x.Id) r
theorem unsO_some : ∀ (y : Flight) (xs : List Flight), unsO (some y.Id) xs = ((y :: xs).zip xs).any fun p => decide (p.2.Id ≤ p.1.Id)
  | _, [] => rfl
  | y, x :: r => by
    rw [unsO, List.zip_cons_cons, List.any_cons, unsO_some x r]
    show (if decide (x.Id ≤ y.Id) = true then true else _) = _
    cases decide (x.Id ≤ y.Id) <;> rfl
theorem unsO_none (fs : List Flight) : unsO none fs = unsF fs := by
  cases fs with
  | nil => rfl
  | cons x r => exact unsO_some x r
theorem unsO_inl : ∀ {xs : List Flight} {s s' : Option Int}, runS (fun x s => leO x s) (fun x _ => some x.Id) xs s = .inl s' → unsO s xs = false
  | [], _, _, _ => rfl
  | x :: xs, s, s', h => by
    rw [runS_cons] at h
    split at h
    · cases h
    · rename_i hc; rw [unsO, if_neg hc]; exact unsO_inl h
theorem unsO_inr : ∀ {xs : List Flight} {s : Option Int} {q : Flight × Option Int}, runS (fun x s => leO x s) (fun x _ => some x.Id) xs s = .inr q → unsO s xs = true
  | [], _, _, h => by cases h
  | x :: xs, s, q, h => by
    rw [runS_cons] at h
    split at h
    · rename_i hc; rw [unsO, if_pos hc]
    · rename_i hc; rw [unsO, if_neg hc]; exact unsO_inr h
def dup {α : Type} (q : α → α → Bool) (s : List α) : List α → Bool
  | [] => false
  | x :: r => if (s.any fun y => q y x) = true then true else dup q (s ++ [x]) r
theorem dup_inl {α : Type} {p : α → α → Bool} : ∀ {xs s s' : List α}, runS (fun x s => s.any fun y => p y x) (fun x s => s ++ [x]) xs s = .inl s' → dup p s xs = false
  | [], _, _, _ => rfl
  | x :: xs, s, s', h => by
    rw [runS_cons] at h
    split at h
    · cases h
    · rename_i hc; rw [dup, if_neg hc]; exact dup_inl h
theorem dup_inr {α : Type} {p : α → α → Bool} : ∀ {xs s : List α} {q : α × List α}, runS (fun x s => s.any fun y => p y x) (fun x s => s ++ [x]) xs s = .inr q → dup p s xs = true
  | [], _, _, h => by cases h
  | x :: xs, s, q, h => by
    rw [runS_cons] at h
    split at h
    · rename_i hc; rw [dup, if_pos hc]
    · rename_i hc; rw [dup, if_neg hc]; exact dup_inr h
noncomputable def sameKey (y x : Flight) : Bool := eqv y.Key x.Key
def allW (fs : List Flight) : List Waiter := fs.flatMap (·.Waiters)
noncomputable def flightsFault (fs : List Flight) : Int :=
  if 24 < (fs.length : Int) then 2 else if (firstI (fs.map flightFault) != 0) = true then firstI (fs.map flightFault) else if unsF fs = true then 1
  else if dup sameKey [] fs = true then 6 else if tw [] (allW fs) = true then 6 else 0
theorem runS_zero {α : Type} {f : α → Int} {σ : Type} {g : α → σ → σ} : ∀ {xs : List α} {u u' : σ}, runS (fun x _ => f x != 0) g xs u = .inl u' → ∀ x ∈ xs, f x = 0
  | [], _, _, _, x, hx => by cases hx
  | y :: xs, u, u', h, x, hx => by
    rw [runS_cons] at h
    split at h
    · cases h
    · rename_i hc
      rcases List.mem_cons.1 hx with rfl | hx
      · simpa using hc
      · exact runS_zero h x hx
theorem runS_hit {α σ : Type} {c : α → σ → Bool} {g : α → σ → σ} : ∀ {xs : List α} {s : σ} {q : α × σ}, runS c g xs s = .inr q → c q.1 q.2 = true
  | [], s, q, h => by cases h
  | x :: xs, s, q, h => by
    rw [runS_cons] at h
    split at h
    · rename_i hc; injection h with h; subst h; exact hc
    · exact runS_hit h
theorem allW_len : ∀ {fs : List Flight}, (∀ x ∈ fs, x.Waiters.length ≤ 10) → (allW fs).length ≤ 10 * fs.length
  | [], _ => Nat.zero_le _
  | x :: fs, h => by
    have h1 := h x (List.mem_cons_self ..)
    have h2 := allW_len (fs := fs) (fun y hy => h y (List.mem_cons_of_mem _ hy))
    unfold allW at h2 ⊢
    rw [List.flatMap_cons, List.length_append, List.length_cons]
    omega
theorem allW_snoc (fs : List Flight) (k : Nat) (h : k < fs.length) : allW (fs.take (k + 1)) = allW (fs.take k) ++ fs[k].Waiters := by
  unfold allW
  rw [take_snoc fs k h, List.flatMap_append]
  simp
theorem wrow_plain (ws : List Waiter) : (ws.map (rWaiter .ro)).all (·.all plain) = true := by
  simp [rWaiter, plain]
theorem any_flipK (fs : List Flight) (x : Flight) : (fs.any fun y => eqv x.Key y.Key) = fs.any fun y => sameKey y x := by
  congr 1; funext y
  unfold sameKey
  rw [Bool.eq_iff_iff, eqv_iff, eqv_iff]
  exact eq_comm
noncomputable def s62 : SP Tryz.prog := mkS tyA 62 Tryz.f62 [s85, s86] { md := [.ro 1], rg := [(0, [0], []), (1, [0, 11], []), (2, [2], []), (3, [0, 3], []), (4, [0, 3, 4], []), (5, [0, 3, 4, 16], []), (6, [0, 3, 4], []), (7, [0, 3, 4, 5], []), (8, [0, 3, 4, 5, 25], []), (9, [2], []), (10, [0, 3, 4], []), (11, [0, 3, 6], []), (12, [0, 3, 6, 37], []), (13, [0, 3, 6], []), (14, [0, 3, 6, 51], []), (15, [2], []), (16, [0, 3, 7], []), (17, [0, 3, 7, 55], []), (18, [0, 3, 7], []), (19, [0, 3, 7, 8], []), (20, [0, 3, 7, 8, 60], []), (21, [0, 3, 7, 8], []), (22, [0, 3, 7, 8, 73], []), (23, [2], []), (24, [75], []), (25, [2], []), (26, [2], [])], lv := [(0, [0, 3, 4], []), (2, [0, 3, 6], []), (4, [0, 3, 7], []), (6, [0, 3, 7, 8], [])], out := [(0, [0, 3], []), (2, [0, 3], []), (4, [3], []), (6, [0, 3, 7], [])], rets := some ([2], []), plan := [(14, (.take 0 (.take 1 (.take 2 (.take 3 (.take 4 (.take 5 (.take 6 (.take 7 (.take 8 (.take 9 (.take 10 (.take 11 .done))))))))))))), (22, (.take 0 (.take 1 (.take 2 (.take 3 (.take 4 (.take 5 (.take 6 (.take 7 (.take 8 (.take 9 (.take 10 .done))))))))))))] } Tryz.func62 (by kernel_rfl)
@[go_sem] theorem d62 : s62.g = 62 ∧ s62.fs = ⟨[.ro 1], s62.F, false⟩ := ⟨nr rfl, nr rfl⟩
@[go_sem] theorem e62 (fs : List Flight) (h0 : smL smFlight fs) : s62.F [.sl .ro 11 (fs.map (rFlight .ro))] = some (.i .i64 (flightsFault fs), [.u]) := mkS_eq (fs.length + 1) rfl rfl (fun cx h => by
  by_cases h1 : 24 < (fs.length : Int)
  · simp only [go_sem, reduceIte, ↓reduceIte, reduceCtorEq, nA, nS, nM, nB, nE, nL, nT, nN, iL, iT, iE, iA, iM, iS, iG, iB, iN, iZ, h, flightsFault, h1]
  have hx : fs.length ≤ 9223372036854775806 := by omega
  have hb0 := loopN_eq Tryz.f62 0 _ _ rfl rfl
  obtain ⟨z0, hz0, hqz0⟩ := loop_list (cx := cx) (blk := 0) (body := loopN Tryz.f62 0) fs (fun k (s : Unit) => ⟨E [(0, .sl .ro 11 (fs.map (rFlight .ro))), (3, .sl .mut 4 ((allW (fs.take k)).map (rWaiter .ro))), (4, .i .i64 k)], B []⟩) (fun s => ⟨E [(0, .sl .ro 11 (fs.map (rFlight .ro))), (3, .sl .mut 4 ((allW (fs.take (fs.length))).map (rWaiter .ro)))], B []⟩) (fun x s => flightFault x != 0) (fun x s => ()) (fun x s => (.ret, ⟨E [(2, .i .i64 (flightFault x))], B []⟩)) (fun k s => (allW (fs.take k)).length ≤ 10 * k)
      (fun s hI G => by simp only [go_sem, reduceIte, ↓reduceIte, reduceCtorEq, nA, nS, nM, nB, nE, nL, nT, nN, iL, iT, iE, iA, iM, iS, iG, iB, iN, iZ, h, Int.lt_irrefl, hb0, hx, List.take_length]) (fun k hk s hI => by
        have h1 : ((k : Int) < (fs.length : Int)) := Int.ofNat_lt.2 hk
        obtain ⟨u0, u1, u2, u3, u4, u5, u6, u7⟩ := h0.2 _ (List.getElem_mem hk)
        have hH : smL smHeader fs[k].Get.Headers := u6.2.2.2
        by_cases c0 : flightFault fs[k] = 0
        · skip
          have hw := flightFault_ok c0
          have p1 := wrow_plain fs[k].Waiters
          have p2 : (allW (fs.take k)).map (rWaiter .ro) ++ fs[k].Waiters.map (rWaiter .ro) = (allW (fs.take (k + 1))).map (rWaiter .ro) := by rw [allW_snoc fs k hk, List.map_append]
          have p3 : ((allW (fs.take k)).length + fs[k].Waiters.length) * 32 ≤ 140737488355328 := by omega
          have p4 : (fs[k].Waiters.map (rWaiter .ro)).take fs[k].Waiters.length = fs[k].Waiters.map (rWaiter .ro) := List.take_of_length_le (by simp)
          all_goals exact .inr ⟨by rw [c0]; rfl, (by rw [allW_snoc fs k hk, List.length_append]; omega), _, fun G => by simp only [go_sem, reduceIte, ↓reduceIte, reduceCtorEq, nA, nS, nM, nB, nE, nL, nT, nN, iL, iT, iE, iA, iM, iS, iG, iB, iN, iZ, h, map_gd (rFlight .ro) fs _ hk, hH, c0, p1, p2, p3, p4, List.length_map, List.length_append, h1, idx_nt _ _ hk, wrap_nat1 (show k < 9223372036854775807 by omega), hb0] <;> with_reducible rfl, by simp only [go_sem, reduceIte, ↓reduceIte, reduceCtorEq, nA, nS, nM, nB, nE, nL, nT, nN, iL, iT, iE, iA, iM, iS, iG, iB, iN, iZ, h, p2]⟩
        · have c1 : (flightFault fs[k] != 0) = true := by simpa using c0
          all_goals exact .inl ⟨c1, fun G => by simp only [go_sem, reduceIte, ↓reduceIte, reduceCtorEq, nA, nS, nM, nB, nE, nL, nT, nN, iL, iT, iE, iA, iM, iS, iG, iB, iN, iZ, h, map_gd (rFlight .ro) fs _ hk, hH, List.length_map, List.length_append, c1, h1, idx_nt _ _ hk, wrap_nat1 (show k < 9223372036854775807 by omega), hb0]⟩) () (Nat.zero_le _) (fs.length + 1) (Nat.le_refl _)
  rw [hb0] at hz0
  have hT : allW (fs.take 0) = [] := rfl
  simp only [hT, List.map_nil] at hz0
  rcases hqz0 with ⟨s0, e1, _, e3⟩ | ⟨x, s0, e1, e3⟩
  rotate_left
  · have e2 := firstI_inr e1
    have e4 : (flightFault x != 0) = true := runS_hit e1
    simp only [go_sem, reduceIte, ↓reduceIte, reduceCtorEq, nA, nS, nM, nB, nE, nL, nT, nN, iL, iT, iE, iA, iM, iS, iG, iB, iN, iZ, h, hz0, e3, e2, e4, flightsFault, h1]
  have e2 := firstI_inl e1
  have hall : ∀ x ∈ fs, x.Waiters.length ≤ 10 := fun x hx => flightFault_ok (runS_zero e1 x hx)
  have hb1 := loopN_eq Tryz.f62 1 _ _ rfl rfl
  obtain ⟨z1, hz1, hqz1⟩ := loop_srch (cx := cx) (blk := 2) (body := loopN Tryz.f62 1) (fs.zip fs.tail) (fun k (s : Unit) => ⟨E [(0, .sl .ro 11 (fs.map (rFlight .ro))), (3, .sl .mut 4 ((allW fs).map (rWaiter .ro))), (6, .i .i64 ((k + 1 : Nat) : Int))], B []⟩) (fun s => ⟨E [(0, .sl .ro 11 (fs.map (rFlight .ro))), (3, .sl .mut 4 ((allW fs).map (rWaiter .ro)))], B []⟩) (fun x s => decide (x.2.Id ≤ x.1.Id)) (fun x s => ()) (fun x s => (.ret, ⟨E [(2, .i .i64 1)], B []⟩)) (fun k s => True)
      (fun s hI G => by simp only [go_sem, reduceIte, ↓reduceIte, reduceCtorEq, nA, nS, nM, nB, nE, nL, nT, nN, iL, iT, iE, iA, iM, iS, iG, iB, iN, iZ, h, Int.lt_irrefl, hb1, show ¬ ((((fs.zip fs.tail).length + 1 : Nat) : Int) < (fs.length : Int)) by simp; omega]) (fun k hk s hI => by
        have h1 : ((k : Int) < ((fs.zip fs.tail).length : Int)) := Int.ofNat_lt.2 hk
        have hk2 : k + 1 < fs.length := by simp at hk; omega
        have h3 : (fs.zip fs.tail)[k] = (fs[k]'(by omega), fs[k + 1]'hk2) := by simp
        rw [h3]
        have i0 : ((k + 1 : Nat) : Int) < (fs.length : Int) := Int.ofNat_lt.2 hk2
        have i2 : (IntKind.i64).wrap (((k + 1 : Nat) : Int) - 1) = (k : Int) := by rw [wrap_id (by omega) (by omega)]; omega
        have i3 : (IntKind.i64).wrap (((k + 1 : Nat) : Int) + 1) = ((k + 1 + 1 : Nat) : Int) := wrap_nat1 (by omega)
        exact ⟨_, _, _, fun G => by simp only [go_sem, reduceIte, ↓reduceIte, reduceCtorEq, nA, nS, nM, nB, nE, nL, nT, nN, iL, iT, iE, iA, iM, iS, iG, iB, iN, iZ, h, i0, i2, i3, idx_nt fs.length _ hk2, idx_nt fs.length k (by omega), map_gd (rFlight .ro) fs _ hk2, map_gd (rFlight .ro) fs k (by omega), h1, idx_nt _ _ hk, wrap_nat1 (show k < 9223372036854775807 by omega), hb1] <;> with_reducible rfl, by simp, fun hc => ⟨trivial, by simp only [go_sem, reduceIte, ↓reduceIte, reduceCtorEq, nA, nS, nM, nB, nE, nL, nT, nN, iL, iT, iE, iA, iM, iS, iG, iB, iN, iZ, h]⟩⟩) () trivial (fs.length + 1) (by simp <;> omega)
  rw [hb1] at hz1
  rcases hqz1 with ⟨s1, g1, _, g3⟩ | ⟨x, s1, g1, g3⟩
  rotate_left
  · have g2 : unsF fs = true := runS_any' g1
    simp only [go_sem, reduceIte, ↓reduceIte, reduceCtorEq, nA, nS, nM, nB, nE, nL, nT, nN, iL, iT, iE, iA, iM, iS, iG, iB, iN, iZ, h, hz0, e3, e2, hz1, g3, g2, List.take_length, flightsFault, h1]
  have g2 : unsF fs = false := runS_any g1
  have hb2 := loopN_eq Tryz.f62 2 _ _ rfl rfl
  obtain ⟨z2, hz2, hqz2⟩ := loop_srch (cx := cx) (blk := 4) (body := loopN Tryz.f62 2) fs (fun k (s : List Flight) => ⟨E [(0, .sl .ro 11 (fs.map (rFlight .ro))), (3, .sl .mut 4 ((allW fs).map (rWaiter .ro))), (7, .i .i64 k)], B []⟩) (fun s => ⟨E [(3, .sl .mut 4 ((allW fs).map (rWaiter .ro)))], B []⟩) (fun x s => s.any fun y => sameKey y x) (fun x s => s ++ [x]) (fun x s => (.ret, ⟨E [(2, .i .i64 6)], B []⟩)) (fun k s => s = fs.take k)
      (fun s hI G => by simp only [go_sem, reduceIte, ↓reduceIte, reduceCtorEq, nA, nS, nM, nB, nE, nL, nT, nN, iL, iT, iE, iA, iM, iS, iG, iB, iN, iZ, h, Int.lt_irrefl, hb2, hx]) (fun k hk s hI => by
        have h1 : ((k : Int) < (fs.length : Int)) := Int.ofNat_lt.2 hk
        obtain ⟨q, hq0⟩ : ∃ q, q = k := ⟨k, rfl⟩
        have hq1 : q < fs.length := by omega
        have hlen : (fs.take q).length = q := by rw [List.length_take]; omega
        have hb3 := loopN_eq Tryz.f62 3 _ _ rfl rfl
        obtain ⟨r2, hr2, hqr2⟩ := loop_srch (cx := cx) (blk := 6) (body := loopN Tryz.f62 3) (fs.take q) (fun k (s : Unit) => ⟨E [(0, .sl .ro 11 (fs.map (rFlight .ro))), (3, .sl .mut 4 ((allW fs).map (rWaiter .ro))), (7, .i .i64 q), (8, .i .i64 k)], B []⟩) (fun s => ⟨E [(0, .sl .ro 11 (fs.map (rFlight .ro))), (3, .sl .mut 4 ((allW fs).map (rWaiter .ro))), (7, .i .i64 q)], B []⟩) (fun x s => eqv fs[q].Key x.Key) (fun x s => ()) (fun x s => (.ret, ⟨E [(2, .i .i64 6)], B []⟩)) (fun k s => True)
            (fun s hI G => by simp only [go_sem, reduceIte, ↓reduceIte, reduceCtorEq, nA, nS, nM, nB, nE, nL, nT, nN, iL, iT, iE, iA, iM, iS, iG, iB, iN, iZ, h, Int.lt_irrefl, hb3, hlen, Int.lt_irrefl]) (fun k hk s hI => by
              have h1 : ((k : Int) < ((fs.take q).length : Int)) := Int.ofNat_lt.2 hk
              have hk2 : k < q := by rw [List.length_take] at hk; omega
              have hk3 : k < fs.length := by omega
              have hkq : (k : Int) < (q : Int) := by omega
              have e1 : (fs.take q)[k] = fs[k] := by simp
              have i1 := idx_nt fs.length k hk3
              have i2 := idx_nt fs.length q hq1
              have w1 := wrap_nat1 (show k < 9223372036854775807 by omega)
              all_goals exact ⟨_, _, _, fun G => by simp only [go_sem, reduceIte, ↓reduceIte, reduceCtorEq, nA, nS, nM, nB, nE, nL, nT, nN, iL, iT, iE, iA, iM, iS, iG, iB, iN, iZ, h, hkq, e1, i1, i2, w1, eqv_bytes, map_gd (rFlight .ro) fs k hk3, map_gd (rFlight .ro) fs q hq1, List.length_map, h1, idx_nt _ _ hk, wrap_nat1 (show k < 9223372036854775807 by omega), hb3] <;> with_reducible rfl, by rw [e1], fun hc => ⟨trivial, by simp only [go_sem, reduceIte, ↓reduceIte, reduceCtorEq, nA, nS, nM, nB, nE, nL, nT, nN, iL, iT, iE, iA, iM, iS, iG, iB, iN, iZ, h, hlen]⟩⟩) () trivial (fs.length + 1) (by rw [List.length_take]; omega)
        rw [hb3] at hr2
        subst hq0
        have hfl := any_flipK (fs.take q) fs[q]
        have hy : r2 = (if (s.any fun y => sameKey y fs[q]) = true then some (.ret, ⟨E [(2, .i .i64 6)], B []⟩) else some (.ex 6, ⟨E [(0, .sl .ro 11 (fs.map (rFlight .ro))), (3, .sl .mut 4 ((allW fs).map (rWaiter .ro))), (7, .i .i64 q)], B []⟩)) := by
          subst hI
          rcases hqr2 with ⟨s', e1, _, e3⟩ | ⟨x, s', e1, e3⟩
          · rw [← hfl, runS_any e1, e3]; rfl
          · rw [← hfl, runS_any' e1, e3]; rfl
        rw [hy] at hr2
        exact ⟨_, _, _, fun G => by simp only [go_sem, reduceIte, ↓reduceIte, reduceCtorEq, nA, nS, nM, nB, nE, nL, nT, nN, iL, iT, iE, iA, iM, iS, iG, iB, iN, iZ, h, hr2, h1, idx_nt fs.length q hk, wrap_nat1 (show q < 9223372036854775807 by omega), hb2] <;> with_reducible rfl, Iff.rfl, fun hc => ⟨(by rw [hI]; exact (take_snoc fs q hk).symm), by simp only [go_sem, reduceIte, ↓reduceIte, reduceCtorEq, nA, nS, nM, nB, nE, nL, nT, nN, iL, iT, iE, iA, iM, iS, iG, iB, iN, iZ, h]⟩⟩) [] rfl (fs.length + 1) (Nat.le_refl _)
  rw [hb2] at hz2
  have hal : (allW fs).length ≤ 9223372036854775806 := by have := allW_len hall; omega
  rcases hqz2 with ⟨s2, k1, _, k3⟩ | ⟨x, s2, k1, k3⟩
  · have k2 := dup_inl k1
    cases k4 : tw [] (allW fs) <;> simp only [go_sem, reduceIte, ↓reduceIte, reduceCtorEq, nA, nS, nM, nB, nE, nL, nT, nN, iL, iT, iE, iA, iM, iS, iG, iB, iN, iZ, h, hz0, e3, e2, hz1, g3, g2, hz2, k3, k2, k4, hal, List.take_length, flightsFault, h1]
  · have k2 := dup_inr k1
    simp only [go_sem, reduceIte, ↓reduceIte, reduceCtorEq, nA, nS, nM, nB, nE, nL, nT, nN, iL, iT, iE, iA, iM, iS, iG, iB, iN, iZ, h, hz0, e3, e2, hz1, g3, g2, hz2, k3, k2, List.take_length, flightsFault, h1]) (rfl)
noncomputable def s45 : SP Tryz.prog := mkS tyA 45 Tryz.f45 [s62] { md := [.ro 1, .ro 1], rg := [(0, [0, 1, 4], [4]), (1, [1, 4, 5], [4]), (2, [1, 4, 5, 9], [4]), (3, [4], [4]), (4, [1, 4, 13], [4]), (5, [4], [4]), (6, [4], [4])], rets := some ([4], [4]) } Tryz.func45 (by kernel_rfl)
@[go_sem] theorem d45 : s45.g = 45 ∧ s45.fs = ⟨[.ro 1, .ro 1], s45.F, false⟩ := ⟨nr rfl, nr rfl⟩
@[go_sem] theorem e45 (fs : List Flight) (at0 : Int) (h0 : smL smFlight fs) : s45.F [.sl .ro 11 (fs.map (rFlight .ro)), .i .i64 at0] = some (.agg [.i .i64 (if (flightsFault fs != 0) = true then flightsFault fs else if at0 < 0 then 4 else 0), .i .i64 (if (flightsFault fs != 0) = true then 0 else if at0 < 0 then 0 else at0)], [.u, .u]) := mkS_eq (0) rfl rfl (fun cx h => by
  cases h1 : flightsFault fs != 0
  · by_cases h2 : at0 < 0 <;> simp only [go_sem, reduceIte, ↓reduceIte, reduceCtorEq, nA, nS, nM, nB, nE, nL, nT, nN, iL, iT, iE, iA, iM, iS, iG, iB, iN, iZ, h, h0, h1, h2]
  · simp only [go_sem, reduceIte, ↓reduceIte, reduceCtorEq, nA, nS, nM, nB, nE, nL, nT, nN, iL, iT, iE, iA, iM, iS, iG, iB, iN, iZ, h, h0, h1]) (rfl)
noncomputable def s51 : SP Tryz.prog := mkS tyA 51 Tryz.f51 [] { md := [.ro 1, .ro 1], rg := [(0, [0, 1], []), (1, [0, 1, 5], []), (2, [0, 1, 5, 9], []), (3, [0, 1, 5], []), (4, [0, 1, 5, 18], []), (5, [4], []), (6, [4], [])], lv := [(0, [0, 1, 5], [])], out := [(0, [], [])], rets := some ([4], []) } Tryz.func51 (by kernel_rfl)
@[go_sem] theorem d51 : s51.g = 51 ∧ s51.fs = ⟨[.ro 1, .ro 1], s51.F, false⟩ := ⟨nr rfl, nr rfl⟩
@[go_sem] theorem e51 (fs : List Flight) (id : Int) (h0 : fs.length ≤ 9223372036854775806) : s51.F [.sl .ro 11 (fs.map (rFlight .ro)), .i .i64 id] = some (.i .i64 (idxP (fun x => x.Id == id) fs 0), [.u, .u]) := mkS_eq (fs.length + 1) rfl rfl (fun cx h => by
  have hx := h0
  have hb0 := loopN_eq Tryz.f51 0 _ _ rfl rfl
  obtain ⟨r, hr, hq⟩ := loop_srch (cx := cx) (blk := 0) (body := loopN Tryz.f51 0) fs (fun k (s : Nat) => ⟨E [(0, .sl .ro 11 (fs.map (rFlight .ro))), (1, .i .i64 id), (5, .i .i64 k)], B []⟩) (fun s => ⟨E [], B []⟩) (fun x s => x.Id == id) (fun x s => s + 1) (fun x s => (.ret, ⟨E [(4, .i .i64 s)], B []⟩)) (fun k s => k = s)
      (fun s hI G => by simp only [go_sem, reduceIte, ↓reduceIte, reduceCtorEq, nA, nS, nM, nB, nE, nL, nT, nN, iL, iT, iE, iA, iM, iS, iG, iB, iN, iZ, h, Int.lt_irrefl, hb0, hI]) (fun k hk s hI => by
        have h1 : ((k : Int) < (fs.length : Int)) := Int.ofNat_lt.2 hk
        obtain rfl := hI
        exact ⟨_, _, _, fun G => by simp only [go_sem, reduceIte, ↓reduceIte, reduceCtorEq, nA, nS, nM, nB, nE, nL, nT, nN, iL, iT, iE, iA, iM, iS, iG, iB, iN, iZ, h, map_gd (rFlight .ro) fs _ hk, h1, idx_nt _ _ hk, wrap_nat1 (show k < 9223372036854775807 by omega), hb0] <;> with_reducible rfl, Iff.rfl, fun hc => ⟨rfl, by simp only [go_sem, reduceIte, ↓reduceIte, reduceCtorEq, nA, nS, nM, nB, nE, nL, nT, nN, iL, iT, iE, iA, iM, iS, iG, iB, iN, iZ, h]⟩⟩) 0 rfl (fs.length + 1) (Nat.le_refl _)
  rw [hb0] at hr
  rcases hq with ⟨s', e1, _, e3⟩ | ⟨x, s', e1, e3⟩
  · simp only [go_sem, reduceIte, ↓reduceIte, reduceCtorEq, nA, nS, nM, nB, nE, nL, nT, nN, iL, iT, iE, iA, iM, iS, iG, iB, iN, iZ, h, hr, e3, runS_idx e1]
  · simp only [go_sem, reduceIte, ↓reduceIte, reduceCtorEq, nA, nS, nM, nB, nE, nL, nT, nN, iL, iT, iE, iA, iM, iS, iG, iB, iN, iZ, h, hr, e3, runS_idx' e1]) (rfl)
noncomputable def placeR (fs : List Flight) (i : Int) : IntResult := ⟨if (flightsFault fs != 0) = true then flightsFault fs else if i < 0 then 4 else 0, if (flightsFault fs != 0) = true then 0 else if i < 0 then 0 else i⟩
noncomputable def s17 : SP Tryz.prog := mkS tyA 17 Tryz.f17 [s45, s51] { md := [.ro 1, .ro 1], rets := some ([4], [4]) } Tryz.func17 (by kernel_rfl)
@[go_sem] theorem d17 : s17.g = 17 ∧ s17.fs = ⟨[.ro 1, .ro 1], s17.F, false⟩ := ⟨nr rfl, nr rfl⟩
@[go_sem] theorem e17 (fs : List Flight) (id : Int) (h0 : smL smFlight fs) : s17.F [.sl .ro 11 (fs.map (rFlight .ro)), .i .i64 id] = some (.agg (rIntResult .ro (placeR fs (idxP (fun x => x.Id == id) fs 0))), [.u, .u]) := mkS_eq (0) rfl rfl (fun cx h => by
  have hx : fs.length ≤ 9223372036854775806 := by have := h0.1; omega
  simp only [go_sem, reduceIte, ↓reduceIte, reduceCtorEq, nA, nS, nM, nB, nE, nL, nT, nN, iL, iT, iE, iA, iM, iS, iG, iB, iN, iZ, h, h0, hx, placeR]) (rfl)
noncomputable def s67 : SP Tryz.prog := mkS tyA 67 Tryz.f67 [] { md := [.ro 1, .ro 1], rets := some ([3], []) } Tryz.func67 (by kernel_rfl)
@[go_sem] theorem d67 : s67.g = 67 ∧ s67.fs = ⟨[.ro 1, .ro 1], s67.F, false⟩ := ⟨nr rfl, nr rfl⟩
@[go_sem] theorem e67 (xId : Int) (xKey : ByteArray) (xBack : Bool) (xOut : Bool) (xDue : Int) (xDoomed : Bool) (xGetMethod : ByteArray) (xGetHost : ByteArray) (xGetPath : ByteArray) (xGetHeaders : List Header) (xWaiters : List Waiter) (key : ByteArray) : s67.F [.agg [.i .i64 xId, .s xKey, .b xBack, .b xOut, .i .i64 xDue, .b xDoomed, .s xGetMethod, .s xGetHost, .s xGetPath, .sl .ro 2 (xGetHeaders.map (rHeader .ro)), .sl .ro 4 (xWaiters.map (rWaiter .ro))], .pr [.s key]] = some (.b (eqv (Flight.mk xId xKey xBack xOut xDue xDoomed (Request.mk xGetMethod xGetHost xGetPath xGetHeaders) xWaiters).Key key), [.u, .u]) := mkS_eq (0) rfl rfl (fun cx h => by
  simp only [go_sem, reduceIte, ↓reduceIte, reduceCtorEq, nA, nS, nM, nB, nE, nL, nT, nN, iL, iT, iE, iA, iM, iS, iG, iB, iN, iZ, h, eqv_bytes]) (rfl)
noncomputable def s70 : SP Tryz.prog := mkS tyA 70 Tryz.f70 [] { md := [.ro 1, .ro 1], rets := some ([3], []) } Tryz.func70 (by kernel_rfl)
@[go_sem] theorem d70 : s70.g = 70 ∧ s70.fs = ⟨[.ro 1, .ro 1], s70.F, false⟩ := ⟨nr rfl, nr rfl⟩
@[go_sem] theorem e70 (xId : Int) (xKey : ByteArray) (xBack : Bool) (xOut : Bool) (xDue : Int) (xDoomed : Bool) (xGetMethod : ByteArray) (xGetHost : ByteArray) (xGetPath : ByteArray) (xGetHeaders : List Header) (xWaiters : List Waiter) (id : Int) : s70.F [.agg [.i .i64 xId, .s xKey, .b xBack, .b xOut, .i .i64 xDue, .b xDoomed, .s xGetMethod, .s xGetHost, .s xGetPath, .sl .ro 2 (xGetHeaders.map (rHeader .ro)), .sl .ro 4 (xWaiters.map (rWaiter .ro))], .pr [.i .i64 id]] = some (.b ((Flight.mk xId xKey xBack xOut xDue xDoomed (Request.mk xGetMethod xGetHost xGetPath xGetHeaders) xWaiters).Id == id), [.u, .u]) := mkS_eq (0) rfl rfl (fun cx h => by
  simp only [go_sem, reduceIte, ↓reduceIte, reduceCtorEq, nA, nS, nM, nB, nE, nL, nT, nN, iL, iT, iE, iA, iM, iS, iG, iB, iN, iZ, h]) (rfl)
noncomputable def s66 : SP Tryz.prog := mkS tyA 66 Tryz.f66 [s67, s70] { md := [.ro 1, .ro 1], rg := [(0, [0, 1], []), (1, [0, 1, 7, 8], []), (2, [0, 1, 7, 8, 9], []), (3, [0, 1, 5, 7, 8], []), (4, [0, 1, 5, 7, 8, 16], []), (5, [4], []), (6, [0, 1, 7, 8], []), (7, [4], [])], lv := [(0, [0, 1, 7, 8], [])], out := [(0, [], [])], rets := some ([4], []) } Tryz.func66 (by kernel_rfl)
@[go_sem] theorem d66 : s66.g = 66 ∧ s66.fs = ⟨[.ro 1, .ro 1], s66.F, false⟩ := ⟨nr rfl, nr rfl⟩
@[go_sem] theorem e66_67 (xs : List Flight) (key : ByteArray) (hb : xs.length ≤ 9223372036854775806) : s66.F [.sl .ro 11 (xs.map (rFlight .ro)), .fn 67 [.pr [.s key]]] = some (.i .i64 (idxP (fun x => eqv x.Key key) xs 0), [.u, .u]) := mkS_eq (xs.length + 1) rfl rfl (fun cx h => by
  have hx := hb
  have hb0 := loopN_eq Tryz.f66 0 _ _ rfl rfl
  obtain ⟨r, hr, hq⟩ := loop_srch (cx := cx) (blk := 0) (body := loopN Tryz.f66 0) xs (fun k (s : Nat) => ⟨E [(0, .sl .ro 11 (xs.map (rFlight .ro))), (1, .fn 67 [.pr [.s key]]), (7, .i .i64 xs.length), (8, .i .i64 k)], B []⟩) (fun s => ⟨E [], B []⟩) (fun x s => eqv x.Key key) (fun x s => s + 1) (fun x s => (.ret, ⟨E [(4, .i .i64 s)], B []⟩)) (fun k s => k = s)
      (fun s hI G => by simp only [go_sem, reduceIte, ↓reduceIte, reduceCtorEq, nA, nS, nM, nB, nE, nL, nT, nN, iL, iT, iE, iA, iM, iS, iG, iB, iN, iZ, h, Int.lt_irrefl, hb0, hI]) (fun k hk s hI => by
        have h1 : ((k : Int) < (xs.length : Int)) := Int.ofNat_lt.2 hk
        obtain rfl := hI
        exact ⟨_, _, _, fun G => by simp only [go_sem, reduceIte, ↓reduceIte, reduceCtorEq, nA, nS, nM, nB, nE, nL, nT, nN, iL, iT, iE, iA, iM, iS, iG, iB, iN, iZ, h, map_gd (rFlight .ro) xs _ hk, decide_eq_true_eq, h1, idx_nt _ _ hk, wrap_nat1 (show k < 9223372036854775807 by omega), hb0] <;> with_reducible rfl, by first | exact Iff.rfl | simp, fun hc => ⟨rfl, by simp only [go_sem, reduceIte, ↓reduceIte, reduceCtorEq, nA, nS, nM, nB, nE, nL, nT, nN, iL, iT, iE, iA, iM, iS, iG, iB, iN, iZ, h]⟩⟩) 0 rfl (xs.length + 1) (Nat.le_refl _)
  rw [hb0] at hr
  rcases hq with ⟨s', e1, _, e3⟩ | ⟨x, s', e1, e3⟩
  · simp only [go_sem, reduceIte, ↓reduceIte, reduceCtorEq, nA, nS, nM, nB, nE, nL, nT, nN, iL, iT, iE, iA, iM, iS, iG, iB, iN, iZ, h, hr, e3, runS_idx e1]
  · simp only [go_sem, reduceIte, ↓reduceIte, reduceCtorEq, nA, nS, nM, nB, nE, nL, nT, nN, iL, iT, iE, iA, iM, iS, iG, iB, iN, iZ, h, hr, e3, runS_idx' e1]) (rfl)
@[go_sem] theorem e66_70 (xs : List Flight) (id : Int) (hb : xs.length ≤ 9223372036854775806) : s66.F [.sl .ro 11 (xs.map (rFlight .ro)), .fn 70 [.pr [.i .i64 id]]] = some (.i .i64 (idxP (fun x => x.Id == id) xs 0), [.u, .u]) := mkS_eq (xs.length + 1) rfl rfl (fun cx h => by
  have hx := hb
  have hb0 := loopN_eq Tryz.f66 0 _ _ rfl rfl
  obtain ⟨r, hr, hq⟩ := loop_srch (cx := cx) (blk := 0) (body := loopN Tryz.f66 0) xs (fun k (s : Nat) => ⟨E [(0, .sl .ro 11 (xs.map (rFlight .ro))), (1, .fn 70 [.pr [.i .i64 id]]), (7, .i .i64 xs.length), (8, .i .i64 k)], B []⟩) (fun s => ⟨E [], B []⟩) (fun x s => x.Id == id) (fun x s => s + 1) (fun x s => (.ret, ⟨E [(4, .i .i64 s)], B []⟩)) (fun k s => k = s)
      (fun s hI G => by simp only [go_sem, reduceIte, ↓reduceIte, reduceCtorEq, nA, nS, nM, nB, nE, nL, nT, nN, iL, iT, iE, iA, iM, iS, iG, iB, iN, iZ, h, Int.lt_irrefl, hb0, hI]) (fun k hk s hI => by
        have h1 : ((k : Int) < (xs.length : Int)) := Int.ofNat_lt.2 hk
        obtain rfl := hI
        exact ⟨_, _, _, fun G => by simp only [go_sem, reduceIte, ↓reduceIte, reduceCtorEq, nA, nS, nM, nB, nE, nL, nT, nN, iL, iT, iE, iA, iM, iS, iG, iB, iN, iZ, h, map_gd (rFlight .ro) xs _ hk, decide_eq_true_eq, h1, idx_nt _ _ hk, wrap_nat1 (show k < 9223372036854775807 by omega), hb0] <;> with_reducible rfl, by first | exact Iff.rfl | simp, fun hc => ⟨rfl, by simp only [go_sem, reduceIte, ↓reduceIte, reduceCtorEq, nA, nS, nM, nB, nE, nL, nT, nN, iL, iT, iE, iA, iM, iS, iG, iB, iN, iZ, h]⟩⟩) 0 rfl (xs.length + 1) (Nat.le_refl _)
  rw [hb0] at hr
  rcases hq with ⟨s', e1, _, e3⟩ | ⟨x, s', e1, e3⟩
  · simp only [go_sem, reduceIte, ↓reduceIte, reduceCtorEq, nA, nS, nM, nB, nE, nL, nT, nN, iL, iT, iE, iA, iM, iS, iG, iB, iN, iZ, h, hr, e3, runS_idx e1]
  · simp only [go_sem, reduceIte, ↓reduceIte, reduceCtorEq, nA, nS, nM, nB, nE, nL, nT, nN, iL, iT, iE, iA, iM, iS, iG, iB, iN, iZ, h, hr, e3, runS_idx' e1]) (rfl)
noncomputable def s49 : SP Tryz.prog := mkS tyA 49 Tryz.f49 [s66] { md := [.ro 1, .ro 1], rets := some ([4], []), fz := [3] } Tryz.func49 (by kernel_rfl)
@[go_sem] theorem d49 : s49.g = 49 ∧ s49.fs = ⟨[.ro 1, .ro 1], s49.F, false⟩ := ⟨nr rfl, nr rfl⟩
@[go_sem] theorem e49 (fs : List Flight) (key : ByteArray) (h0 : fs.length ≤ 9223372036854775806) : s49.F [.sl .ro 11 (fs.map (rFlight .ro)), .s key] = some (.i .i64 (idxP (fun x => eqv x.Key key) fs 0), [.u, .u]) := mkS_eq (0) rfl rfl (fun cx h => by
  simp only [go_sem, reduceIte, ↓reduceIte, reduceCtorEq, nA, nS, nM, nB, nE, nL, nT, nN, iL, iT, iE, iA, iM, iS, iG, iB, iN, iZ, h, h0]) (rfl)
noncomputable def s33 : SP Tryz.prog := mkS tyA 33 Tryz.f33 [] { md := [.ro 1, .ro 1, .ro 1], rets := some ([6], []) } Tryz.func33 (by kernel_rfl)
@[go_sem] theorem d33 : s33.g = 33 ∧ s33.fs = ⟨[.ro 1, .ro 1, .ro 1], s33.F, false⟩ := ⟨nr rfl, nr rfl⟩
@[go_sem] theorem e33 (a : Int) (b : Int) (c : Int) : s33.F [.i .i64 a, .i .i64 b, .i .i64 c] = some (.b (within a b c), [.u, .u, .u]) := mkS_eq (0) rfl rfl (fun cx h => by
  simp only [go_sem, reduceIte, ↓reduceIte, reduceCtorEq, nA, nS, nM, nB, nE, nL, nT, nN, iL, iT, iE, iA, iM, iS, iG, iB, iN, iZ, h, within]
  by_cases h : b ≤ a <;> simp [h]) (rfl)
noncomputable def s34 : SP Tryz.prog := mkS tyA 34 Tryz.f34 [s33] { md := [.ro 1], rets := some ([2], []) } Tryz.func34 (by kernel_rfl)
@[go_sem] theorem d34 : s34.g = 34 ∧ s34.fs = ⟨[.ro 1], s34.F, false⟩ := ⟨nr rfl, nr rfl⟩
@[go_sem] theorem e34 (a : Int) : s34.F [.i .i64 a] = some (.b (isTime a), [.u]) := mkS_eq (0) rfl rfl (fun cx h => by
  simp only [go_sem, reduceIte, ↓reduceIte, reduceCtorEq, nA, nS, nM, nB, nE, nL, nT, nN, iL, iT, iE, iA, iM, iS, iG, iB, iN, iZ, h, isTime]) (rfl)
noncomputable def s130 : SP Tryz.prog := mkS tyA 130 Tryz.f130 [] { md := [.ro 1, .ro 1], rets := some ([3], []) } Tryz.func130 (by kernel_rfl)
@[go_sem] theorem d130 : s130.g = 130 ∧ s130.fs = ⟨[.ro 1, .ro 1], s130.F, false⟩ := ⟨nr rfl, nr rfl⟩
@[go_sem] theorem e130 (wReq : Int) (wHead : Bool) (wDue : Int) (wLate : Bool) (req : Int) : s130.F [.agg [.i .i64 wReq, .b wHead, .i .i64 wDue, .b wLate], .pr [.i .i64 req]] = some (.b ((Waiter.mk wReq wHead wDue wLate).Req == req), [.u, .u]) := mkS_eq (0) rfl rfl (fun cx h => by
  simp only [go_sem, reduceIte, ↓reduceIte, reduceCtorEq, nA, nS, nM, nB, nE, nL, nT, nN, iL, iT, iE, iA, iM, iS, iG, iB, iN, iZ, h]) (rfl)
noncomputable def s113 : SP Tryz.prog := mkS tyA 113 Tryz.f113 [s34] { md := [.ro 1], rets := some ([2], []) } Tryz.func113 (by kernel_rfl)
@[go_sem] theorem d113 : s113.g = 113 ∧ s113.fs = ⟨[.ro 1], s113.F, false⟩ := ⟨nr rfl, nr rfl⟩
@[go_sem] theorem e113 (wReq : Int) (wHead : Bool) (wDue : Int) (wLate : Bool) : s113.F [.agg [.i .i64 wReq, .b wHead, .i .i64 wDue, .b wLate]] = some (.b (isReqW (Waiter.mk wReq wHead wDue wLate)), [.u]) := mkS_eq (0) rfl rfl (fun cx h => by
  simp only [go_sem, reduceIte, ↓reduceIte, reduceCtorEq, nA, nS, nM, nB, nE, nL, nT, nN, iL, iT, iE, iA, iM, iS, iG, iB, iN, iZ, h]
  simp only [isReqW]
  cases isTime wReq <;> cases isTime wDue <;> rfl) (rfl)
noncomputable def s112 : SP Tryz.prog := mkS tyA 112 Tryz.f112 [s113] { md := [.ro 1], rets := some ([2], []) } Tryz.func112 (by kernel_rfl)
@[go_sem] theorem d112 : s112.g = 112 ∧ s112.fs = ⟨[.ro 1], s112.F, false⟩ := ⟨nr rfl, nr rfl⟩
@[go_sem] theorem e112 (wReq : Int) (wHead : Bool) (wDue : Int) (wLate : Bool) : s112.F [.agg [.i .i64 wReq, .b wHead, .i .i64 wDue, .b wLate]] = some (.b (!isReqW (Waiter.mk wReq wHead wDue wLate)), [.u]) := mkS_eq (0) rfl rfl (fun cx h => by
  simp only [go_sem, reduceIte, ↓reduceIte, reduceCtorEq, nA, nS, nM, nB, nE, nL, nT, nN, iL, iT, iE, iA, iM, iS, iG, iB, iN, iZ, h]) (rfl)
noncomputable def s129 : SP Tryz.prog := mkS tyA 129 Tryz.f129 [s112, s130] { md := [.ro 1, .ro 1], rg := [(0, [0, 1], []), (1, [0, 1, 7, 8], []), (2, [0, 1, 7, 8, 9], []), (3, [0, 1, 5, 7, 8], []), (4, [0, 1, 5, 7, 8, 16], []), (5, [4], []), (6, [0, 1, 7, 8], []), (7, [4], [])], lv := [(0, [0, 1, 7, 8], [])], out := [(0, [], [])], rets := some ([4], []) } Tryz.func129 (by kernel_rfl)
@[go_sem] theorem d129 : s129.g = 129 ∧ s129.fs = ⟨[.ro 1, .ro 1], s129.F, false⟩ := ⟨nr rfl, nr rfl⟩
@[go_sem] theorem e129_130 (xs : List Waiter) (req : Int) (hb : xs.length ≤ 9223372036854775806) : s129.F [.sl .ro 4 (xs.map (rWaiter .ro)), .fn 130 [.pr [.i .i64 req]]] = some (.i .i64 (idxP (fun x => x.Req == req) xs 0), [.u, .u]) := mkS_eq (xs.length + 1) rfl rfl (fun cx h => by
  have hx := hb
  have hb0 := loopN_eq Tryz.f129 0 _ _ rfl rfl
  obtain ⟨r, hr, hq⟩ := loop_srch (cx := cx) (blk := 0) (body := loopN Tryz.f129 0) xs (fun k (s : Nat) => ⟨E [(0, .sl .ro 4 (xs.map (rWaiter .ro))), (1, .fn 130 [.pr [.i .i64 req]]), (7, .i .i64 xs.length), (8, .i .i64 k)], B []⟩) (fun s => ⟨E [], B []⟩) (fun x s => x.Req == req) (fun x s => s + 1) (fun x s => (.ret, ⟨E [(4, .i .i64 s)], B []⟩)) (fun k s => k = s)
      (fun s hI G => by simp only [go_sem, reduceIte, ↓reduceIte, reduceCtorEq, nA, nS, nM, nB, nE, nL, nT, nN, iL, iT, iE, iA, iM, iS, iG, iB, iN, iZ, h, Int.lt_irrefl, hb0, hI]) (fun k hk s hI => by
        have h1 : ((k : Int) < (xs.length : Int)) := Int.ofNat_lt.2 hk
        obtain rfl := hI
        exact ⟨_, _, _, fun G => by simp only [go_sem, reduceIte, ↓reduceIte, reduceCtorEq, nA, nS, nM, nB, nE, nL, nT, nN, iL, iT, iE, iA, iM, iS, iG, iB, iN, iZ, h, map_gd (rWaiter .ro) xs _ hk, decide_eq_true_eq, h1, idx_nt _ _ hk, wrap_nat1 (show k < 9223372036854775807 by omega), hb0] <;> with_reducible rfl, by first | exact Iff.rfl | simp, fun hc => ⟨rfl, by simp only [go_sem, reduceIte, ↓reduceIte, reduceCtorEq, nA, nS, nM, nB, nE, nL, nT, nN, iL, iT, iE, iA, iM, iS, iG, iB, iN, iZ, h]⟩⟩) 0 rfl (xs.length + 1) (Nat.le_refl _)
  rw [hb0] at hr
  rcases hq with ⟨s', e1, _, e3⟩ | ⟨x, s', e1, e3⟩
  · simp only [go_sem, reduceIte, ↓reduceIte, reduceCtorEq, nA, nS, nM, nB, nE, nL, nT, nN, iL, iT, iE, iA, iM, iS, iG, iB, iN, iZ, h, hr, e3, runS_idx e1]
  · simp only [go_sem, reduceIte, ↓reduceIte, reduceCtorEq, nA, nS, nM, nB, nE, nL, nT, nN, iL, iT, iE, iA, iM, iS, iG, iB, iN, iZ, h, hr, e3, runS_idx' e1]) (rfl)
@[go_sem] theorem e129_112 (xs : List Waiter)  (hb : xs.length ≤ 9223372036854775806) : s129.F [.sl .ro 4 (xs.map (rWaiter .ro)), .fn 112 []] = some (.i .i64 (idxP (fun x => !isReqW x) xs 0), [.u, .u]) := mkS_eq (xs.length + 1) rfl rfl (fun cx h => by
  have hx := hb
  have hb0 := loopN_eq Tryz.f129 0 _ _ rfl rfl
  obtain ⟨r, hr, hq⟩ := loop_srch (cx := cx) (blk := 0) (body := loopN Tryz.f129 0) xs (fun k (s : Nat) => ⟨E [(0, .sl .ro 4 (xs.map (rWaiter .ro))), (1, .fn 112 []), (7, .i .i64 xs.length), (8, .i .i64 k)], B []⟩) (fun s => ⟨E [], B []⟩) (fun x s => !isReqW x) (fun x s => s + 1) (fun x s => (.ret, ⟨E [(4, .i .i64 s)], B []⟩)) (fun k s => k = s)
      (fun s hI G => by simp only [go_sem, reduceIte, ↓reduceIte, reduceCtorEq, nA, nS, nM, nB, nE, nL, nT, nN, iL, iT, iE, iA, iM, iS, iG, iB, iN, iZ, h, Int.lt_irrefl, hb0, hI]) (fun k hk s hI => by
        have h1 : ((k : Int) < (xs.length : Int)) := Int.ofNat_lt.2 hk
        obtain rfl := hI
        exact ⟨_, _, _, fun G => by simp only [go_sem, reduceIte, ↓reduceIte, reduceCtorEq, nA, nS, nM, nB, nE, nL, nT, nN, iL, iT, iE, iA, iM, iS, iG, iB, iN, iZ, h, map_gd (rWaiter .ro) xs _ hk, decide_eq_true_eq, h1, idx_nt _ _ hk, wrap_nat1 (show k < 9223372036854775807 by omega), hb0] <;> with_reducible rfl, by first | exact Iff.rfl | simp, fun hc => ⟨rfl, by simp only [go_sem, reduceIte, ↓reduceIte, reduceCtorEq, nA, nS, nM, nB, nE, nL, nT, nN, iL, iT, iE, iA, iM, iS, iG, iB, iN, iZ, h]⟩⟩) 0 rfl (xs.length + 1) (Nat.le_refl _)
  rw [hb0] at hr
  rcases hq with ⟨s', e1, _, e3⟩ | ⟨x, s', e1, e3⟩
  · simp only [go_sem, reduceIte, ↓reduceIte, reduceCtorEq, nA, nS, nM, nB, nE, nL, nT, nN, iL, iT, iE, iA, iM, iS, iG, iB, iN, iZ, h, hr, e3, runS_idx e1]
  · simp only [go_sem, reduceIte, ↓reduceIte, reduceCtorEq, nA, nS, nM, nB, nE, nL, nT, nN, iL, iT, iE, iA, iM, iS, iG, iB, iN, iZ, h, hr, e3, runS_idx' e1]) (rfl)
noncomputable def s111 : SP Tryz.prog := mkS tyA 111 Tryz.f111 [s129] { md := [.ro 1, .ro 1], rets := some ([4], []) } Tryz.func111 (by kernel_rfl)
@[go_sem] theorem d111 : s111.g = 111 ∧ s111.fs = ⟨[.ro 1, .ro 1], s111.F, false⟩ := ⟨nr rfl, nr rfl⟩
@[go_sem] theorem e111_130 (xs : List Waiter) (req : Int) (hb : xs.length ≤ 9223372036854775806) : s111.F [.sl .ro 4 (xs.map (rWaiter .ro)), .fn 130 [.pr [.i .i64 req]]] = some (.b (xs.any (fun x => x.Req == req)), [.u, .u]) := mkS_eq (0) rfl rfl (fun cx h => by
  simp only [go_sem, reduceIte, ↓reduceIte, reduceCtorEq, nA, nS, nM, nB, nE, nL, nT, nN, iL, iT, iE, iA, iM, iS, iG, iB, iN, iZ, h, hb, idxP_any]) (rfl)
@[go_sem] theorem e111_112 (xs : List Waiter)  (hb : xs.length ≤ 9223372036854775806) : s111.F [.sl .ro 4 (xs.map (rWaiter .ro)), .fn 112 []] = some (.b (xs.any (fun x => !isReqW x)), [.u, .u]) := mkS_eq (0) rfl rfl (fun cx h => by
  simp only [go_sem, reduceIte, ↓reduceIte, reduceCtorEq, nA, nS, nM, nB, nE, nL, nT, nN, iL, iT, iE, iA, iM, iS, iG, iB, iN, iZ, h, hb, idxP_any]) (rfl)
noncomputable def s114 : SP Tryz.prog := mkS tyA 114 Tryz.f114 [s111] { md := [.ro 1, .ro 1], rets := some ([4], []), fz := [3] } Tryz.func114 (by kernel_rfl)
@[go_sem] theorem d114 : s114.g = 114 ∧ s114.fs = ⟨[.ro 1, .ro 1], s114.F, false⟩ := ⟨nr rfl, nr rfl⟩
@[go_sem] theorem e114 (fId : Int) (fKey : ByteArray) (fBack : Bool) (fOut : Bool) (fDue : Int) (fDoomed : Bool) (fGetMethod : ByteArray) (fGetHost : ByteArray) (fGetPath : ByteArray) (fGetHeaders : List Header) (fWaiters : List Waiter) (req : Int) (h0 : (Flight.mk fId fKey fBack fOut fDue fDoomed (Request.mk fGetMethod fGetHost fGetPath fGetHeaders) fWaiters).Waiters.length ≤ 9223372036854775806) : s114.F [.agg [.i .i64 fId, .s fKey, .b fBack, .b fOut, .i .i64 fDue, .b fDoomed, .s fGetMethod, .s fGetHost, .s fGetPath, .sl .ro 2 (fGetHeaders.map (rHeader .ro)), .sl .ro 4 (fWaiters.map (rWaiter .ro))], .i .i64 req] = some (.b ((Flight.mk fId fKey fBack fOut fDue fDoomed (Request.mk fGetMethod fGetHost fGetPath fGetHeaders) fWaiters).Waiters.any fun x => x.Req == req), [.u, .u]) := mkS_eq (0) rfl rfl (fun cx h => by
  simp only [go_sem, reduceIte, ↓reduceIte, reduceCtorEq, nA, nS, nM, nB, nE, nL, nT, nN, iL, iT, iE, iA, iM, iS, iG, iB, iN, iZ, h, h0]) (rfl)
@[go_sem] theorem e114_0 (fId : Int) (fKey : ByteArray) (fBack : Bool) (fOut : Bool) (fDue : Int) (fDoomed : Bool) (fGetMethod : ByteArray) (fGetHost : ByteArray) (fGetPath : ByteArray) (fWaiters : List Waiter) (req : Int) (h0 : fWaiters.length ≤ 9223372036854775806) : s114.F [.agg [.i .i64 fId, .s fKey, .b fBack, .b fOut, .i .i64 fDue, .b fDoomed, .s fGetMethod, .s fGetHost, .s fGetPath, .sl .ro 2 [], .sl .ro 4 (fWaiters.map (rWaiter .ro))], .i .i64 req] = some (.b (fWaiters.any fun x => x.Req == req), [.u, .u]) := e114 fId fKey fBack fOut fDue fDoomed fGetMethod fGetHost fGetPath [] fWaiters req h0
noncomputable def s90 : SP Tryz.prog := mkS tyA 90 Tryz.f90 [s114] { md := [.ro 1], rg := [(0, [0], []), (1, [0, 5, 6, 7], []), (2, [0, 5, 6, 7, 8], []), (3, [0, 3, 4, 5, 6, 7], [4]), (4, [0, 5, 6, 7, 18], []), (5, [2], []), (6, [0, 5, 6, 7], []), (7, [2], [])], lv := [(0, [0, 5, 6, 7], [])], out := [(0, [], [])], rets := some ([2], []), plan := [(4, (.take 0 (.take 1 (.take 2 (.take 3 (.take 4 (.take 5 (.one 6 .done))))))))] } Tryz.func90 (by kernel_rfl)
@[go_sem] theorem d90 : s90.g = 90 ∧ s90.fs = ⟨[.ro 1], s90.F, false⟩ := ⟨nr rfl, nr rfl⟩
@[go_sem] theorem e90 (ws : List Waiter) (h0 : ws.length ≤ 9223372036854775806) : s90.F [.sl .ro 4 (ws.map (rWaiter .ro))] = some (.b (tw [] ws), [.u]) := mkS_eq (ws.length + 1) rfl rfl (fun cx h => by
  have hx := h0
  have hb0 := loopN_eq Tryz.f90 0 _ _ rfl rfl
  obtain ⟨r, hr, hq⟩ := loop_srch (cx := cx) (blk := 0) (body := loopN Tryz.f90 0) ws (fun k (s : List Waiter) => ⟨E [(0, .sl .ro 4 (ws.map (rWaiter .ro))), (5, .sl .ro 4 (ws.map (rWaiter .ro))), (6, .i .i64 ws.length), (7, .i .i64 k)], B []⟩) (fun s => ⟨E [], B []⟩) (fun x s => s.any fun y => y.Req == x.Req) (fun x s => s ++ [x]) (fun x s => (.ret, ⟨E [(2, .b true)], B []⟩)) (fun k s => s = ws.take k)
      (fun s hI G => by simp only [go_sem, reduceIte, ↓reduceIte, reduceCtorEq, nA, nS, nM, nB, nE, nL, nT, nN, iL, iT, iE, iA, iM, iS, iG, iB, iN, iZ, h, Int.lt_irrefl, hb0, hx]) (fun k hk s hI => by
        have h1 : ((k : Int) < (ws.length : Int)) := Int.ofNat_lt.2 hk
        have t3 : ws.length ≤ 9223372036854775806 := hx
        have t4 : (ws.map (rWaiter .ro)).take k = (ws.take k).map (rWaiter .ro) := by rw [List.map_take]
        have t5 : (ws.take k).length ≤ 9223372036854775806 := by rw [List.length_take]; omega
        have c1 : (0 : Int) ≤ (k : Int) := by omega
        have c2 : (k : Int) ≤ (ws.length : Int) := by omega
        subst hI
        exact ⟨_, _, _, fun G => by simp only [go_sem, reduceIte, ↓reduceIte, reduceCtorEq, nA, nS, nM, nB, nE, nL, nT, nN, iL, iT, iE, iA, iM, iS, iG, iB, iN, iZ, h, t4, t5, c1, c2, map_gd (rWaiter .ro) ws _ hk, Int.toNat_natCast, List.drop_zero, Nat.sub_zero, h1, idx_nt _ _ hk, wrap_nat1 (show k < 9223372036854775807 by omega), hb0] <;> with_reducible rfl, Iff.rfl, fun hc => ⟨(take_snoc ws k hk).symm, by simp only [go_sem, reduceIte, ↓reduceIte, reduceCtorEq, nA, nS, nM, nB, nE, nL, nT, nN, iL, iT, iE, iA, iM, iS, iG, iB, iN, iZ, h]⟩⟩) [] rfl (ws.length + 1) (Nat.le_refl _)
  rw [hb0] at hr
  rcases hq with ⟨s', e1, _, e3⟩ | ⟨x, s', e1, e3⟩
  · simp only [go_sem, reduceIte, ↓reduceIte, reduceCtorEq, nA, nS, nM, nB, nE, nL, nT, nN, iL, iT, iE, iA, iM, iS, iG, iB, iN, iZ, h, hr, e3, tw_inl e1]
  · simp only [go_sem, reduceIte, ↓reduceIte, reduceCtorEq, nA, nS, nM, nB, nE, nL, nT, nN, iL, iT, iE, iA, iM, iS, iG, iB, iN, iZ, h, hr, e3, tw_inr e1]) (rfl)
noncomputable def s99 : SP Tryz.prog := mkS tyA 99 Tryz.f99 [] { md := [.ro 1], rets := some ([2], []) } Tryz.func99 (by kernel_rfl)
@[go_sem] theorem d99 : s99.g = 99 ∧ s99.fs = ⟨[.ro 1], s99.F, false⟩ := ⟨nr rfl, nr rfl⟩
@[go_sem] theorem e99 (t : ByteArray) : s99.F [.s t] = some (.b (isKey t), [.u]) := mkS_eq (0) rfl rfl (fun cx h => by
  by_cases h1 : 1 ≤ (t.size : Int) <;> by_cases h2 : (t.size : Int) ≤ 500 <;> simp only [go_sem, reduceIte, ↓reduceIte, reduceCtorEq, nA, nS, nM, nB, nE, nL, nT, nN, iL, iT, iE, iA, iM, iS, iG, iB, iN, iZ, h, h1, h2, isKey]) (rfl)
noncomputable def s104 : SP Tryz.prog := mkS tyA 104 Tryz.f104 [] { md := [.ro 1], rets := some ([2], []) } Tryz.func104 (by kernel_rfl)
@[go_sem] theorem d104 : s104.g = 104 ∧ s104.fs = ⟨[.ro 1], s104.F, false⟩ := ⟨nr rfl, nr rfl⟩
@[go_sem] theorem e104 (c : UInt8) : s104.F [.i .u8 c.toNat] = some (.b (letterB c), [.u]) := mkS_eq (0) rfl rfl (fun cx h => by
  by_cases h1 : 97 ≤ (c.toNat : Int) <;> by_cases h2 : (c.toNat : Int) ≤ 122 <;> by_cases h3 : 65 ≤ (c.toNat : Int) <;> by_cases h4 : (c.toNat : Int) ≤ 90 <;> simp only [go_sem, reduceIte, ↓reduceIte, reduceCtorEq, nA, nS, nM, nB, nE, nL, nT, nN, iL, iT, iE, iA, iM, iS, iG, iB, iN, iZ, h, h1, h2, h3, h4, letterB]) (rfl)
noncomputable def s105 : SP Tryz.prog := mkS tyA 105 Tryz.f105 [] { md := [.ro 1], rets := some ([2], []) } Tryz.func105 (by kernel_rfl)
@[go_sem] theorem d105 : s105.g = 105 ∧ s105.fs = ⟨[.ro 1], s105.F, false⟩ := ⟨nr rfl, nr rfl⟩
@[go_sem] theorem e105 (c : UInt8) : s105.F [.i .u8 c.toNat] = some (.b (digitB c), [.u]) := mkS_eq (0) rfl rfl (fun cx h => by
  by_cases h1 : 48 ≤ (c.toNat : Int) <;> by_cases h2 : (c.toNat : Int) ≤ 57 <;> simp only [go_sem, reduceIte, ↓reduceIte, reduceCtorEq, nA, nS, nM, nB, nE, nL, nT, nN, iL, iT, iE, iA, iM, iS, iG, iB, iN, iZ, h, h1, h2, digitB]) (rfl)
noncomputable def s138 : SP Tryz.prog := ⟨138, ⟨[.ro 1, .ro 1], idxF, false⟩, idx_ok Tryz.func138 (by kernel_rfl) (by kernel_rfl) (by kernel_rfl) (by kernel_rfl)⟩
@[go_sem] theorem d138 : s138.g = 138 ∧ s138.fs = ⟨[.ro 1, .ro 1], s138.F, false⟩ := ⟨nr rfl, nr rfl⟩
@[go_sem] theorem e138 (s : ByteArray) (c : UInt8) : s138.F [.s s, .i .u8 c.toNat] = some (.i .i64 (ixB s c), [.u, .u]) := by
  show idxF [.s s, .i .u8 c.toNat] = _
  rw [idxF_eq, int_u8]
  rfl
noncomputable def s121 : SP Tryz.prog := mkS tyA 121 Tryz.f121 [s138] { md := [.ro 1, .ro 1], rets := some ([4], []) } Tryz.func121 (by kernel_rfl)
@[go_sem] theorem d121 : s121.g = 121 ∧ s121.fs = ⟨[.ro 1, .ro 1], s121.F, false⟩ := ⟨nr rfl, nr rfl⟩
@[go_sem] theorem e121 (s : ByteArray) (c : UInt8) : s121.F [.s s, .i .u8 c.toNat] = some (.i .i64 (ixB s c), [.u, .u]) := mkS_eq (0) rfl rfl (fun cx h => by
  simp only [go_sem, reduceIte, ↓reduceIte, reduceCtorEq, nA, nS, nM, nB, nE, nL, nT, nN, iL, iT, iE, iA, iM, iS, iG, iB, iN, iZ, h]) (rfl)
noncomputable def s106 : SP Tryz.prog := mkS tyA 106 Tryz.f106 [s121] { md := [.ro 1, .ro 1], rets := some ([4], []) } Tryz.func106 (by kernel_rfl)
@[go_sem] theorem d106 : s106.g = 106 ∧ s106.fs = ⟨[.ro 1, .ro 1], s106.F, false⟩ := ⟨nr rfl, nr rfl⟩
@[go_sem] theorem e106 (s : ByteArray) (c : UInt8) : s106.F [.s s, .i .u8 c.toNat] = some (.i .i64 (ixB s c), [.u, .u]) := mkS_eq (0) rfl rfl (fun cx h => by
  simp only [go_sem, reduceIte, ↓reduceIte, reduceCtorEq, nA, nS, nM, nB, nE, nL, nT, nN, iL, iT, iE, iA, iM, iS, iG, iB, iN, iZ, h]) (rfl)
noncomputable def s83 : SP Tryz.prog := mkS tyA 83 Tryz.f83 [s104, s105, s106] { md := [.ro 1], rets := some ([2], []) } Tryz.func83 (by kernel_rfl)
@[go_sem] theorem d83 : s83.g = 83 ∧ s83.fs = ⟨[.ro 1], s83.F, false⟩ := ⟨nr rfl, nr rfl⟩
@[go_sem] theorem e83 (c : UInt8) : s83.F [.i .u8 c.toNat] = some (.b (wordB c), [.u]) := mkS_eq (0) rfl rfl (fun cx h => by
  have hix := ixB_sym c
  have hu : wordB c = (letterB c || digitB c || symB.contains c) := rfl
  cases h1 : letterB c <;> cases h2 : digitB c <;> cases h3 : symB.contains c <;> simp only [go_sem, reduceIte, ↓reduceIte, reduceCtorEq, nA, nS, nM, nB, nE, nL, nT, nN, iL, iT, iE, iA, iM, iS, iG, iB, iN, iZ, h, h1, h2, h3, hu, hix]) (rfl)
noncomputable def s146 : SP Tryz.prog := mkS tyA 146 Tryz.f146 [] { md := [.ro 1], rets := some ([2], []) } Tryz.func146 (by kernel_rfl)
@[go_sem] theorem d146 : s146.g = 146 ∧ s146.fs = ⟨[.ro 1], s146.F, false⟩ := ⟨nr rfl, nr rfl⟩
@[go_sem] theorem e146 (c : UInt8) : s146.F [.i .u8 c.toNat] = some (.b (plainB c), [.u]) := mkS_eq (0) rfl rfl (fun cx h => by
  cases h1 : ((c.toNat : Int) == 9) <;> by_cases h2 : 32 ≤ (c.toNat : Int) <;> by_cases h3 : (c.toNat : Int) ≤ 126 <;> simp only [go_sem, reduceIte, ↓reduceIte, reduceCtorEq, nA, nS, nM, nB, nE, nL, nT, nN, iL, iT, iE, iA, iM, iS, iG, iB, iN, iZ, h, h1, h2, h3, plainB]) (rfl)
noncomputable def s141 : SP Tryz.prog := mkS tyA 141 Tryz.f141 [s104, s105] { md := [.ro 1], rets := some ([2], []) } Tryz.func141 (by kernel_rfl)
@[go_sem] theorem d141 : s141.g = 141 ∧ s141.fs = ⟨[.ro 1], s141.F, false⟩ := ⟨nr rfl, nr rfl⟩
@[go_sem] theorem e141 (c : UInt8) : s141.F [.i .u8 c.toNat] = some (.b (hostB c), [.u]) := mkS_eq (0) rfl rfl (fun cx h => by
  cases h1 : letterB c <;> cases h2 : digitB c <;> cases h3 : ((c.toNat : Int) == 46) <;> cases h4 : ((c.toNat : Int) == 45) <;> simp only [go_sem, reduceIte, ↓reduceIte, reduceCtorEq, nA, nS, nM, nB, nE, nL, nT, nN, iL, iT, iE, iA, iM, iS, iG, iB, iN, iZ, h, h1, h2, h3, h4, hostB]) (rfl)
noncomputable def s142 : SP Tryz.prog := mkS tyA 142 Tryz.f142 [s83, s106] { md := [.ro 1], rets := some ([2], []) } Tryz.func142 (by kernel_rfl)
@[go_sem] theorem d142 : s142.g = 142 ∧ s142.fs = ⟨[.ro 1], s142.F, false⟩ := ⟨nr rfl, nr rfl⟩
@[go_sem] theorem e142 (c : UInt8) : s142.F [.i .u8 c.toNat] = some (.b (pathB c), [.u]) := mkS_eq (0) rfl rfl (fun cx h => by
  have hix := ixB_psym c
  have hu : pathB c = (wordB c || pSymB.contains c) := rfl
  cases h1 : wordB c <;> cases h3 : pSymB.contains c <;> simp only [go_sem, reduceIte, ↓reduceIte, reduceCtorEq, nA, nS, nM, nB, nE, nL, nT, nN, iL, iT, iE, iA, iM, iS, iG, iB, iN, iZ, h, h1, h3, hu, hix]) (rfl)
noncomputable def s82 : SP Tryz.prog := mkS tyA 82 Tryz.f82 [s83, s105, s141, s142, s146] { md := [.ro 1, .ro 1, .ro 1, .ro 1], rg := [(0, [0, 1, 2, 3], []), (1, [0, 3, 19], []), (2, [8], []), (3, [0, 3, 21, 22], []), (4, [0, 3, 21, 22, 23], []), (5, [0, 3, 9, 21, 22], []), (6, [0, 3, 21, 22, 30], []), (7, [8], []), (8, [0, 3, 21, 22], []), (9, [8], [])], lv := [(0, [0, 3, 21, 22], [])], out := [(0, [], [])], rets := some ([8], []) } Tryz.func82 (by kernel_rfl)
@[go_sem] theorem d82 : s82.g = 82 ∧ s82.fs = ⟨[.ro 1, .ro 1, .ro 1, .ro 1], s82.F, false⟩ := ⟨nr rfl, nr rfl⟩
@[go_sem] theorem e82_83 (t : ByteArray) (lo hi : Int) (hb : hi ≤ 1000000) : s82.F [.s t, .i .i64 lo, .i .i64 hi, .fn 83 []] = some (.b (areB wordB lo hi t), [.u, .u, .u, .u]) := mkS_eq (t.data.toList.length + 1) rfl rfl (fun cx h => by
  by_cases h1 : (t.size : Int) < lo
  · simp only [go_sem, reduceIte, ↓reduceIte, reduceCtorEq, nA, nS, nM, nB, nE, nL, nT, nN, iL, iT, iE, iA, iM, iS, iG, iB, iN, iZ, h, h1, areB_short h1]
  by_cases h2 : hi < (t.size : Int)
  · simp only [go_sem, reduceIte, ↓reduceIte, reduceCtorEq, nA, nS, nM, nB, nE, nL, nT, nN, iL, iT, iE, iA, iM, iS, iG, iB, iN, iZ, h, h1, h2, areB_long h2]
  have hx : t.data.toList.length ≤ 9223372036854775806 := by rw [← str_size]; omega
  have ha := areB_all (p := wordB) h1 h2
  rw [str_size t] at h1 h2
  · have hb0 := loopN_eq Tryz.f82 0 _ _ rfl rfl
    obtain ⟨r, hr, hq⟩ := loop_srch (cx := cx) (blk := 0) (body := loopN Tryz.f82 0) t.data.toList (fun k (s : Unit) => ⟨E [(0, .s t), (3, .fn 83 []), (21, .i .i64 t.size), (22, .i .i64 k)], B []⟩) (fun s => ⟨E [], B []⟩) (fun x s => !wordB x) (fun x s => ()) (fun x s => (.ret, ⟨E [(8, .b false)], B []⟩)) (fun k s => True)
        (fun s hI G => by simp only [go_sem, reduceIte, ↓reduceIte, reduceCtorEq, nA, nS, nM, nB, nE, nL, nT, nN, iL, iT, iE, iA, iM, iS, iG, iB, iN, iZ, h, Int.lt_irrefl, hb0, str_size t]) (fun k hk s hI => by
          have h1 : ((k : Int) < (t.data.toList.length : Int)) := Int.ofNat_lt.2 hk
          have hz := str_at t k hk
          exact ⟨_, _, _, fun G => by simp only [go_sem, reduceIte, ↓reduceIte, reduceCtorEq, nA, nS, nM, nB, nE, nL, nT, nN, iL, iT, iE, iA, iM, iS, iG, iB, iN, iZ, h, hz, str_size t, h1, idx_nt _ _ hk, wrap_nat1 (show k < 9223372036854775807 by omega), hb0] <;> with_reducible rfl, Iff.rfl, fun hc => ⟨trivial, by simp only [go_sem, reduceIte, ↓reduceIte, reduceCtorEq, nA, nS, nM, nB, nE, nL, nT, nN, iL, iT, iE, iA, iM, iS, iG, iB, iN, iZ, h, str_size t]⟩⟩) () trivial (t.data.toList.length + 1) (Nat.le_refl _)
    rw [hb0] at hr
    rcases hq with ⟨s', e1, _, e3⟩ | ⟨x, s', e1, e3⟩
    · simp only [go_sem, reduceIte, ↓reduceIte, reduceCtorEq, nA, nS, nM, nB, nE, nL, nT, nN, iL, iT, iE, iA, iM, iS, iG, iB, iN, iZ, h, h1, h2, str_size t, hr, e3, ha, runS_all e1]
    · simp only [go_sem, reduceIte, ↓reduceIte, reduceCtorEq, nA, nS, nM, nB, nE, nL, nT, nN, iL, iT, iE, iA, iM, iS, iG, iB, iN, iZ, h, h1, h2, str_size t, hr, e3, ha, runS_all' e1]) (rfl)
@[go_sem] theorem e82_146 (t : ByteArray) (lo hi : Int) (hb : hi ≤ 1000000) : s82.F [.s t, .i .i64 lo, .i .i64 hi, .fn 146 []] = some (.b (areB plainB lo hi t), [.u, .u, .u, .u]) := mkS_eq (t.data.toList.length + 1) rfl rfl (fun cx h => by
  by_cases h1 : (t.size : Int) < lo
  · simp only [go_sem, reduceIte, ↓reduceIte, reduceCtorEq, nA, nS, nM, nB, nE, nL, nT, nN, iL, iT, iE, iA, iM, iS, iG, iB, iN, iZ, h, h1, areB_short h1]
  by_cases h2 : hi < (t.size : Int)
  · simp only [go_sem, reduceIte, ↓reduceIte, reduceCtorEq, nA, nS, nM, nB, nE, nL, nT, nN, iL, iT, iE, iA, iM, iS, iG, iB, iN, iZ, h, h1, h2, areB_long h2]
  have hx : t.data.toList.length ≤ 9223372036854775806 := by rw [← str_size]; omega
  have ha := areB_all (p := plainB) h1 h2
  rw [str_size t] at h1 h2
  · have hb0 := loopN_eq Tryz.f82 0 _ _ rfl rfl
    obtain ⟨r, hr, hq⟩ := loop_srch (cx := cx) (blk := 0) (body := loopN Tryz.f82 0) t.data.toList (fun k (s : Unit) => ⟨E [(0, .s t), (3, .fn 146 []), (21, .i .i64 t.size), (22, .i .i64 k)], B []⟩) (fun s => ⟨E [], B []⟩) (fun x s => !plainB x) (fun x s => ()) (fun x s => (.ret, ⟨E [(8, .b false)], B []⟩)) (fun k s => True)
        (fun s hI G => by simp only [go_sem, reduceIte, ↓reduceIte, reduceCtorEq, nA, nS, nM, nB, nE, nL, nT, nN, iL, iT, iE, iA, iM, iS, iG, iB, iN, iZ, h, Int.lt_irrefl, hb0, str_size t]) (fun k hk s hI => by
          have h1 : ((k : Int) < (t.data.toList.length : Int)) := Int.ofNat_lt.2 hk
          have hz := str_at t k hk
          exact ⟨_, _, _, fun G => by simp only [go_sem, reduceIte, ↓reduceIte, reduceCtorEq, nA, nS, nM, nB, nE, nL, nT, nN, iL, iT, iE, iA, iM, iS, iG, iB, iN, iZ, h, hz, str_size t, h1, idx_nt _ _ hk, wrap_nat1 (show k < 9223372036854775807 by omega), hb0] <;> with_reducible rfl, Iff.rfl, fun hc => ⟨trivial, by simp only [go_sem, reduceIte, ↓reduceIte, reduceCtorEq, nA, nS, nM, nB, nE, nL, nT, nN, iL, iT, iE, iA, iM, iS, iG, iB, iN, iZ, h, str_size t]⟩⟩) () trivial (t.data.toList.length + 1) (Nat.le_refl _)
    rw [hb0] at hr
    rcases hq with ⟨s', e1, _, e3⟩ | ⟨x, s', e1, e3⟩
    · simp only [go_sem, reduceIte, ↓reduceIte, reduceCtorEq, nA, nS, nM, nB, nE, nL, nT, nN, iL, iT, iE, iA, iM, iS, iG, iB, iN, iZ, h, h1, h2, str_size t, hr, e3, ha, runS_all e1]
    · simp only [go_sem, reduceIte, ↓reduceIte, reduceCtorEq, nA, nS, nM, nB, nE, nL, nT, nN, iL, iT, iE, iA, iM, iS, iG, iB, iN, iZ, h, h1, h2, str_size t, hr, e3, ha, runS_all' e1]) (rfl)
@[go_sem] theorem e82_141 (t : ByteArray) (lo hi : Int) (hb : hi ≤ 1000000) : s82.F [.s t, .i .i64 lo, .i .i64 hi, .fn 141 []] = some (.b (areB hostB lo hi t), [.u, .u, .u, .u]) := mkS_eq (t.data.toList.length + 1) rfl rfl (fun cx h => by
  by_cases h1 : (t.size : Int) < lo
  · simp only [go_sem, reduceIte, ↓reduceIte, reduceCtorEq, nA, nS, nM, nB, nE, nL, nT, nN, iL, iT, iE, iA, iM, iS, iG, iB, iN, iZ, h, h1, areB_short h1]
  by_cases h2 : hi < (t.size : Int)
  · simp only [go_sem, reduceIte, ↓reduceIte, reduceCtorEq, nA, nS, nM, nB, nE, nL, nT, nN, iL, iT, iE, iA, iM, iS, iG, iB, iN, iZ, h, h1, h2, areB_long h2]
  have hx : t.data.toList.length ≤ 9223372036854775806 := by rw [← str_size]; omega
  have ha := areB_all (p := hostB) h1 h2
  rw [str_size t] at h1 h2
  · have hb0 := loopN_eq Tryz.f82 0 _ _ rfl rfl
    obtain ⟨r, hr, hq⟩ := loop_srch (cx := cx) (blk := 0) (body := loopN Tryz.f82 0) t.data.toList (fun k (s : Unit) => ⟨E [(0, .s t), (3, .fn 141 []), (21, .i .i64 t.size), (22, .i .i64 k)], B []⟩) (fun s => ⟨E [], B []⟩) (fun x s => !hostB x) (fun x s => ()) (fun x s => (.ret, ⟨E [(8, .b false)], B []⟩)) (fun k s => True)
        (fun s hI G => by simp only [go_sem, reduceIte, ↓reduceIte, reduceCtorEq, nA, nS, nM, nB, nE, nL, nT, nN, iL, iT, iE, iA, iM, iS, iG, iB, iN, iZ, h, Int.lt_irrefl, hb0, str_size t]) (fun k hk s hI => by
          have h1 : ((k : Int) < (t.data.toList.length : Int)) := Int.ofNat_lt.2 hk
          have hz := str_at t k hk
          exact ⟨_, _, _, fun G => by simp only [go_sem, reduceIte, ↓reduceIte, reduceCtorEq, nA, nS, nM, nB, nE, nL, nT, nN, iL, iT, iE, iA, iM, iS, iG, iB, iN, iZ, h, hz, str_size t, h1, idx_nt _ _ hk, wrap_nat1 (show k < 9223372036854775807 by omega), hb0] <;> with_reducible rfl, Iff.rfl, fun hc => ⟨trivial, by simp only [go_sem, reduceIte, ↓reduceIte, reduceCtorEq, nA, nS, nM, nB, nE, nL, nT, nN, iL, iT, iE, iA, iM, iS, iG, iB, iN, iZ, h, str_size t]⟩⟩) () trivial (t.data.toList.length + 1) (Nat.le_refl _)
    rw [hb0] at hr
    rcases hq with ⟨s', e1, _, e3⟩ | ⟨x, s', e1, e3⟩
    · simp only [go_sem, reduceIte, ↓reduceIte, reduceCtorEq, nA, nS, nM, nB, nE, nL, nT, nN, iL, iT, iE, iA, iM, iS, iG, iB, iN, iZ, h, h1, h2, str_size t, hr, e3, ha, runS_all e1]
    · simp only [go_sem, reduceIte, ↓reduceIte, reduceCtorEq, nA, nS, nM, nB, nE, nL, nT, nN, iL, iT, iE, iA, iM, iS, iG, iB, iN, iZ, h, h1, h2, str_size t, hr, e3, ha, runS_all' e1]) (rfl)
@[go_sem] theorem e82_142 (t : ByteArray) (lo hi : Int) (hb : hi ≤ 1000000) : s82.F [.s t, .i .i64 lo, .i .i64 hi, .fn 142 []] = some (.b (areB pathB lo hi t), [.u, .u, .u, .u]) := mkS_eq (t.data.toList.length + 1) rfl rfl (fun cx h => by
  by_cases h1 : (t.size : Int) < lo
  · simp only [go_sem, reduceIte, ↓reduceIte, reduceCtorEq, nA, nS, nM, nB, nE, nL, nT, nN, iL, iT, iE, iA, iM, iS, iG, iB, iN, iZ, h, h1, areB_short h1]
  by_cases h2 : hi < (t.size : Int)
  · simp only [go_sem, reduceIte, ↓reduceIte, reduceCtorEq, nA, nS, nM, nB, nE, nL, nT, nN, iL, iT, iE, iA, iM, iS, iG, iB, iN, iZ, h, h1, h2, areB_long h2]
  have hx : t.data.toList.length ≤ 9223372036854775806 := by rw [← str_size]; omega
  have ha := areB_all (p := pathB) h1 h2
  rw [str_size t] at h1 h2
  · have hb0 := loopN_eq Tryz.f82 0 _ _ rfl rfl
    obtain ⟨r, hr, hq⟩ := loop_srch (cx := cx) (blk := 0) (body := loopN Tryz.f82 0) t.data.toList (fun k (s : Unit) => ⟨E [(0, .s t), (3, .fn 142 []), (21, .i .i64 t.size), (22, .i .i64 k)], B []⟩) (fun s => ⟨E [], B []⟩) (fun x s => !pathB x) (fun x s => ()) (fun x s => (.ret, ⟨E [(8, .b false)], B []⟩)) (fun k s => True)
        (fun s hI G => by simp only [go_sem, reduceIte, ↓reduceIte, reduceCtorEq, nA, nS, nM, nB, nE, nL, nT, nN, iL, iT, iE, iA, iM, iS, iG, iB, iN, iZ, h, Int.lt_irrefl, hb0, str_size t]) (fun k hk s hI => by
          have h1 : ((k : Int) < (t.data.toList.length : Int)) := Int.ofNat_lt.2 hk
          have hz := str_at t k hk
          exact ⟨_, _, _, fun G => by simp only [go_sem, reduceIte, ↓reduceIte, reduceCtorEq, nA, nS, nM, nB, nE, nL, nT, nN, iL, iT, iE, iA, iM, iS, iG, iB, iN, iZ, h, hz, str_size t, h1, idx_nt _ _ hk, wrap_nat1 (show k < 9223372036854775807 by omega), hb0] <;> with_reducible rfl, Iff.rfl, fun hc => ⟨trivial, by simp only [go_sem, reduceIte, ↓reduceIte, reduceCtorEq, nA, nS, nM, nB, nE, nL, nT, nN, iL, iT, iE, iA, iM, iS, iG, iB, iN, iZ, h, str_size t]⟩⟩) () trivial (t.data.toList.length + 1) (Nat.le_refl _)
    rw [hb0] at hr
    rcases hq with ⟨s', e1, _, e3⟩ | ⟨x, s', e1, e3⟩
    · simp only [go_sem, reduceIte, ↓reduceIte, reduceCtorEq, nA, nS, nM, nB, nE, nL, nT, nN, iL, iT, iE, iA, iM, iS, iG, iB, iN, iZ, h, h1, h2, str_size t, hr, e3, ha, runS_all e1]
    · simp only [go_sem, reduceIte, ↓reduceIte, reduceCtorEq, nA, nS, nM, nB, nE, nL, nT, nN, iL, iT, iE, iA, iM, iS, iG, iB, iN, iZ, h, h1, h2, str_size t, hr, e3, ha, runS_all' e1]) (rfl)
@[go_sem] theorem e82_105 (t : ByteArray) (lo hi : Int) (hb : hi ≤ 1000000) : s82.F [.s t, .i .i64 lo, .i .i64 hi, .fn 105 []] = some (.b (areB digitB lo hi t), [.u, .u, .u, .u]) := mkS_eq (t.data.toList.length + 1) rfl rfl (fun cx h => by
  by_cases h1 : (t.size : Int) < lo
  · simp only [go_sem, reduceIte, ↓reduceIte, reduceCtorEq, nA, nS, nM, nB, nE, nL, nT, nN, iL, iT, iE, iA, iM, iS, iG, iB, iN, iZ, h, h1, areB_short h1]
  by_cases h2 : hi < (t.size : Int)
  · simp only [go_sem, reduceIte, ↓reduceIte, reduceCtorEq, nA, nS, nM, nB, nE, nL, nT, nN, iL, iT, iE, iA, iM, iS, iG, iB, iN, iZ, h, h1, h2, areB_long h2]
  have hx : t.data.toList.length ≤ 9223372036854775806 := by rw [← str_size]; omega
  have ha := areB_all (p := digitB) h1 h2
  rw [str_size t] at h1 h2
  · have hb0 := loopN_eq Tryz.f82 0 _ _ rfl rfl
    obtain ⟨r, hr, hq⟩ := loop_srch (cx := cx) (blk := 0) (body := loopN Tryz.f82 0) t.data.toList (fun k (s : Unit) => ⟨E [(0, .s t), (3, .fn 105 []), (21, .i .i64 t.size), (22, .i .i64 k)], B []⟩) (fun s => ⟨E [], B []⟩) (fun x s => !digitB x) (fun x s => ()) (fun x s => (.ret, ⟨E [(8, .b false)], B []⟩)) (fun k s => True)
        (fun s hI G => by simp only [go_sem, reduceIte, ↓reduceIte, reduceCtorEq, nA, nS, nM, nB, nE, nL, nT, nN, iL, iT, iE, iA, iM, iS, iG, iB, iN, iZ, h, Int.lt_irrefl, hb0, str_size t]) (fun k hk s hI => by
          have h1 : ((k : Int) < (t.data.toList.length : Int)) := Int.ofNat_lt.2 hk
          have hz := str_at t k hk
          exact ⟨_, _, _, fun G => by simp only [go_sem, reduceIte, ↓reduceIte, reduceCtorEq, nA, nS, nM, nB, nE, nL, nT, nN, iL, iT, iE, iA, iM, iS, iG, iB, iN, iZ, h, hz, str_size t, h1, idx_nt _ _ hk, wrap_nat1 (show k < 9223372036854775807 by omega), hb0] <;> with_reducible rfl, Iff.rfl, fun hc => ⟨trivial, by simp only [go_sem, reduceIte, ↓reduceIte, reduceCtorEq, nA, nS, nM, nB, nE, nL, nT, nN, iL, iT, iE, iA, iM, iS, iG, iB, iN, iZ, h, str_size t]⟩⟩) () trivial (t.data.toList.length + 1) (Nat.le_refl _)
    rw [hb0] at hr
    rcases hq with ⟨s', e1, _, e3⟩ | ⟨x, s', e1, e3⟩
    · simp only [go_sem, reduceIte, ↓reduceIte, reduceCtorEq, nA, nS, nM, nB, nE, nL, nT, nN, iL, iT, iE, iA, iM, iS, iG, iB, iN, iZ, h, h1, h2, str_size t, hr, e3, ha, runS_all e1]
    · simp only [go_sem, reduceIte, ↓reduceIte, reduceCtorEq, nA, nS, nM, nB, nE, nL, nT, nN, iL, iT, iE, iA, iM, iS, iG, iB, iN, iZ, h, h1, h2, str_size t, hr, e3, ha, runS_all' e1]) (rfl)
noncomputable def s59 : SP Tryz.prog := mkS tyA 59 Tryz.f59 [s82, s83] { md := [.ro 1], rets := some ([2], []) } Tryz.func59 (by kernel_rfl)
@[go_sem] theorem d59 : s59.g = 59 ∧ s59.fs = ⟨[.ro 1], s59.F, false⟩ := ⟨nr rfl, nr rfl⟩
@[go_sem] theorem e59 (t : ByteArray) : s59.F [.s t] = some (.b (isWord t), [.u]) := mkS_eq (0) rfl rfl (fun cx h => by
  simp only [go_sem, reduceIte, ↓reduceIte, reduceCtorEq, nA, nS, nM, nB, nE, nL, nT, nN, iL, iT, iE, iA, iM, iS, iG, iB, iN, iZ, h, isWord]) (rfl)
noncomputable def s133 : SP Tryz.prog := mkS tyA 133 Tryz.f133 [s82, s146] { md := [.ro 1], rets := some ([2], []) } Tryz.func133 (by kernel_rfl)
@[go_sem] theorem d133 : s133.g = 133 ∧ s133.fs = ⟨[.ro 1], s133.F, false⟩ := ⟨nr rfl, nr rfl⟩
@[go_sem] theorem e133 (t : ByteArray) (h0 : (t.size : Int) ≤ 1000000) : s133.F [.s t] = some (.b (areP t), [.u]) := mkS_eq (0) rfl rfl (fun cx h => by
  simp only [go_sem, reduceIte, ↓reduceIte, reduceCtorEq, nA, nS, nM, nB, nE, nL, nT, nN, iL, iT, iE, iA, iM, iS, iG, iB, iN, iZ, h, h0, areP_eq]) (rfl)
noncomputable def s134 : SP Tryz.prog := ⟨134, ⟨[.ro 1, .ro 1], trimF, false⟩, trim_ok Tryz.func134 (by kernel_rfl) rfl Go.Proofs.Tryz.trimSpTab⟩
@[go_sem] theorem d134 : s134.g = 134 ∧ s134.fs = ⟨[.ro 1, .ro 1], s134.F, false⟩ := ⟨nr rfl, nr rfl⟩
@[go_sem] theorem e134 (x : ByteArray) (h0 : x.size ≤ 9223372036854775807) : s134.F [.s x, .s ⟨#[32, 9]⟩] = some (.s (trimB x), [.u, .u]) := by
  show trimF [.s x, .s ⟨#[32, 9]⟩] = _
  have hc : (⟨#[32, 9]⟩ : ByteArray).data.toList = [32, 9] ∧ x.size ≤ 9223372036854775807 := ⟨rfl, h0⟩
  exact if_pos hc
noncomputable def s119 : SP Tryz.prog := mkS tyA 119 Tryz.f119 [s59, s133, s134] { md := [.ro 1], rg := [(0, [1], [1]), (1, [1, 3], [1]), (2, [2], []), (3, [1, 8], [1]), (4, [2], []), (5, [13], []), (6, [2], []), (7, [2], [])], rets := some ([2], []), plan := [(5, (.take 0 (.take 1 (.one 2 (.take 3 (.take 4 (.take 5 (.take 6 (.take 8 (.take 9 (.one 7 (.take 10 (.take 11 (.one 12 .done))))))))))))))] } Tryz.func119 (by kernel_rfl)
@[go_sem] theorem d119 : s119.g = 119 ∧ s119.fs = ⟨[.ro 1], s119.F, false⟩ := ⟨nr rfl, nr rfl⟩
@[go_sem] theorem e119 (xName : ByteArray) (xValue : ByteArray) : s119.F [.agg [.s xName, .s xValue]] = some (.i .i64 (headerCode (Header.mk xName xValue)), [.u]) := mkS_eq (0) rfl rfl (fun cx h => by
  cases h1 : isWord xName
  · simp only [go_sem, reduceIte, ↓reduceIte, reduceCtorEq, nA, nS, nM, nB, nE, nL, nT, nN, iL, iT, iE, iA, iM, iS, iG, iB, iN, iZ, h, h1, headerCode]
  by_cases h2 : 200 < (xValue.size : Int)
  · simp only [go_sem, reduceIte, ↓reduceIte, reduceCtorEq, nA, nS, nM, nB, nE, nL, nT, nN, iL, iT, iE, iA, iM, iS, iG, iB, iN, iZ, h, h1, h2, headerCode]
  have h3 : (xValue.size : Int) ≤ 1000000 := by omega
  have h4 : xValue.size ≤ 9223372036854775806 := by omega
  have h5 : xValue.size ≤ 9223372036854775807 := by omega
  cases h6 : areP xValue
  · simp only [go_sem, reduceIte, ↓reduceIte, reduceCtorEq, nA, nS, nM, nB, nE, nL, nT, nN, iL, iT, iE, iA, iM, iS, iG, iB, iN, iZ, h, h1, h2, h3, h4, h5, h6, headerCode]
  cases h7 : eqv (trimB xValue) xValue <;> simp only [go_sem, reduceIte, ↓reduceIte, reduceCtorEq, nA, nS, nM, nB, nE, nL, nT, nN, iL, iT, iE, iA, iM, iS, iG, iB, iN, iZ, h, h1, h2, h3, h4, h5, h6, h7, eqv_bytes, eqv_boolne, bne, headerCode]) (rfl)
noncomputable def s100 : SP Tryz.prog := mkS tyA 100 Tryz.f100 [s119] { md := [.ro 1], rg := [(0, [0], []), (1, [0, 8], []), (2, [2], []), (3, [0, 9, 10, 11], []), (4, [0, 9, 10, 11, 12], []), (5, [0, 4, 9, 10, 11], [4]), (6, [0, 5, 9, 10, 11], []), (7, [0, 5, 9, 10, 11, 18], []), (8, [2], []), (9, [0, 9, 10, 11], []), (10, [2], [])], lv := [(0, [0, 9, 10, 11], [])], out := [(0, [], [])], rets := some ([2], []) } Tryz.func100 (by kernel_rfl)
@[go_sem] theorem d100 : s100.g = 100 ∧ s100.fs = ⟨[.ro 1], s100.F, false⟩ := ⟨nr rfl, nr rfl⟩
@[go_sem] theorem e100 (hs : List Header) : s100.F [.sl .ro 2 (hs.map (rHeader .ro))] = some (.i .i64 (headersFault hs), [.u]) := mkS_eq (hs.length + 1) rfl rfl (fun cx h => by
  by_cases h1 : 20 < (hs.length : Int)
  · simp only [go_sem, reduceIte, ↓reduceIte, reduceCtorEq, nA, nS, nM, nB, nE, nL, nT, nN, iL, iT, iE, iA, iM, iS, iG, iB, iN, iZ, h, h1, headersFault]
  have hx : hs.length ≤ 9223372036854775806 := by omega
  have hb0 := loopN_eq Tryz.f100 0 _ _ rfl rfl
  obtain ⟨r, hr, hq⟩ := loop_srch (cx := cx) (blk := 0) (body := loopN Tryz.f100 0) hs (fun k (s : Unit) => ⟨E [(0, .sl .ro 2 (hs.map (rHeader .ro))), (9, .sl .ro 2 (hs.map (rHeader .ro))), (10, .i .i64 hs.length), (11, .i .i64 k)], B []⟩) (fun s => ⟨E [], B []⟩) (fun x s => headerCode x != 0) (fun x s => ()) (fun x s => (.ret, ⟨E [(2, .i .i64 (headerCode x))], B []⟩)) (fun k s => True)
      (fun s hI G => by simp only [go_sem, reduceIte, ↓reduceIte, reduceCtorEq, nA, nS, nM, nB, nE, nL, nT, nN, iL, iT, iE, iA, iM, iS, iG, iB, iN, iZ, h, Int.lt_irrefl, hb0, hx]) (fun k hk s hI => by
        have h1 : ((k : Int) < (hs.length : Int)) := Int.ofNat_lt.2 hk
        exact ⟨_, _, _, fun G => by simp only [go_sem, reduceIte, ↓reduceIte, reduceCtorEq, nA, nS, nM, nB, nE, nL, nT, nN, iL, iT, iE, iA, iM, iS, iG, iB, iN, iZ, h, map_gd (rHeader .ro) hs _ hk, rHeader, h1, idx_nt _ _ hk, wrap_nat1 (show k < 9223372036854775807 by omega), hb0] <;> with_reducible rfl, Iff.rfl, fun hc => ⟨trivial, by simp only [go_sem, reduceIte, ↓reduceIte, reduceCtorEq, nA, nS, nM, nB, nE, nL, nT, nN, iL, iT, iE, iA, iM, iS, iG, iB, iN, iZ, h]⟩⟩) () trivial (hs.length + 1) (Nat.le_refl _)
  rw [hb0] at hr
  rcases hq with ⟨s', e1, _, e3⟩ | ⟨x, s', e1, e3⟩
  · simp only [go_sem, reduceIte, ↓reduceIte, reduceCtorEq, nA, nS, nM, nB, nE, nL, nT, nN, iL, iT, iE, iA, iM, iS, iG, iB, iN, iZ, h, h1, hr, e3, headersFault, firstI_inl e1]
  · simp only [go_sem, reduceIte, ↓reduceIte, reduceCtorEq, nA, nS, nM, nB, nE, nL, nT, nN, iL, iT, iE, iA, iM, iS, iG, iB, iN, iZ, h, h1, hr, e3, headersFault, firstI_inr e1]) (rfl)
noncomputable def s125 : SP Tryz.prog := mkS tyA 125 Tryz.f125 [] { md := [.ro 1], rets := some ([2], []) } Tryz.func125 (by kernel_rfl)
@[go_sem] theorem d125 : s125.g = 125 ∧ s125.fs = ⟨[.ro 1], s125.F, false⟩ := ⟨nr rfl, nr rfl⟩
@[go_sem] theorem e125 (t : ByteArray) : s125.F [.s t] = some (.b (isMethod t), [.u]) := mkS_eq (0) rfl rfl (fun cx h => by
  have hu : isMethod t = (eqv t ⟨#[71, 69, 84]⟩ || eqv t ⟨#[72, 69, 65, 68]⟩) := rfl
  cases h1 : eqv t ⟨#[71, 69, 84]⟩ <;> cases h2 : eqv t ⟨#[72, 69, 65, 68]⟩ <;> simp only [go_sem, reduceIte, ↓reduceIte, reduceCtorEq, nA, nS, nM, nB, nE, nL, nT, nN, iL, iT, iE, iA, iM, iS, iG, iB, iN, iZ, h, eqv_bytes, h1, h2, hu]) (rfl)
noncomputable def s126 : SP Tryz.prog := mkS tyA 126 Tryz.f126 [s82, s141] { md := [.ro 1], rets := some ([2], []) } Tryz.func126 (by kernel_rfl)
@[go_sem] theorem d126 : s126.g = 126 ∧ s126.fs = ⟨[.ro 1], s126.F, false⟩ := ⟨nr rfl, nr rfl⟩
@[go_sem] theorem e126 (t : ByteArray) : s126.F [.s t] = some (.b (isHost t), [.u]) := mkS_eq (0) rfl rfl (fun cx h => by
  simp only [go_sem, reduceIte, ↓reduceIte, reduceCtorEq, nA, nS, nM, nB, nE, nL, nT, nN, iL, iT, iE, iA, iM, iS, iG, iB, iN, iZ, h, isHost]) (rfl)
noncomputable def s127 : SP Tryz.prog := mkS tyA 127 Tryz.f127 [s82, s142] { md := [.ro 1], rets := some ([2], []) } Tryz.func127 (by kernel_rfl)
@[go_sem] theorem d127 : s127.g = 127 ∧ s127.fs = ⟨[.ro 1], s127.F, false⟩ := ⟨nr rfl, nr rfl⟩
@[go_sem] theorem e127 (t : ByteArray) : s127.F [.s t] = some (.b (isPath t), [.u]) := mkS_eq (0) rfl rfl (fun cx h => by
  have hu : isPath t = (areB pathB 1 100 t && (((t.data[0]?.getD 0).toNat : Int) == 47)) := rfl
  cases h1 : areB pathB 1 100 t
  · simp only [go_sem, reduceIte, ↓reduceIte, reduceCtorEq, nA, nS, nM, nB, nE, nL, nT, nN, iL, iT, iE, iA, iM, iS, iG, iB, iN, iZ, h, h1, hu]
  have hi : idx? t.size 0 = some 0 := idx_nt t.size 0 (areB_nil h1)
  cases h2 : (((t.data[0]?.getD 0).toNat : Int) == 47) <;> simp only [go_sem, reduceIte, ↓reduceIte, reduceCtorEq, nA, nS, nM, nB, nE, nL, nT, nN, iL, iT, iE, iA, iM, iS, iG, iB, iN, iZ, h, h1, h2, hi, hu]) (rfl)
noncomputable def s156 : SP Tryz.prog := mkS tyA 156 Tryz.f156 [] { md := [.ro 1], rg := [(0, [0], []), (1, [3], []), (2, [3, 8, 9, 10], []), (3, [3, 8, 9, 10, 11], []), (4, [3, 4, 5, 8, 9, 10], []), (5, [3, 4, 5, 8, 9, 10, 20], []), (6, [3, 8, 9, 10], []), (7, [3, 8, 9, 10], []), (8, [2], [])], lv := [(0, [3, 8, 9, 10], [])], out := [(0, [3], [])], rets := some ([2], []) } Tryz.func156 (by kernel_rfl)
@[go_sem] theorem d156 : s156.g = 156 ∧ s156.fs = ⟨[.ro 1], s156.F, false⟩ := ⟨nr rfl, nr rfl⟩
@[go_sem] theorem e156 (t : ByteArray) (h0 : t.size ≤ 9223372036854775806) : s156.F [.s t] = some (.s (lowS t), [.u]) := mkS_eq (t.data.toList.length + 1) rfl rfl (fun cx h => by
  have hz : t.data.toList.length ≤ 9223372036854775807 := by rw [← str_size]; omega
  have hx : t.data.toList.length ≤ 9223372036854775806 := by rw [← str_size]; exact h0
  have hb0 := loopN_eq Tryz.f156 0 _ _ rfl rfl
  obtain ⟨hI, hr⟩ := loop_fold (cx := cx) (blk := 0) (body := loopN Tryz.f156 0) t.data.toList (fun k (s : Unit) => ⟨E [(3, .sl .mut 1 ((lowUp t.data.toList k).map rByte)), (8, .rf ⟨true, 3, [], 0⟩ 1 0 t.data.toList.length), (9, .i .i64 t.data.toList.length), (10, .i .i64 k)], B []⟩) (fun s => ⟨E [(3, .sl .mut 1 ((t.data.toList.map lowB).map rByte))], B []⟩) (fun x s => s) (fun k s => True)
      (fun s hI G => by simp only [go_sem, reduceIte, ↓reduceIte, reduceCtorEq, nA, nS, nM, nB, nE, nL, nT, nN, iL, iT, iE, iA, iM, iS, iG, iB, iN, iZ, h, Int.lt_irrefl, hb0, lowUp_len t.data.toList t.data.toList.length (Nat.le_refl _), lowUp_all t.data.toList, List.length_map]) (fun k hk s hI => by
        have h1 : ((k : Int) < (t.data.toList.length : Int)) := Int.ofNat_lt.2 hk
        have g1 := lowUp_gd t.data.toList k hk
        have g2 := lowUp_g t.data.toList k hk
        have g3 := lowUp_len t.data.toList k (Nat.le_of_lt hk)
        have g4 : (List.take t.data.toList.length ((lowUp t.data.toList k).map rByte)) = (lowUp t.data.toList k).map rByte := List.take_of_length_le (by rw [List.length_map, g3]; exact Nat.le_refl _)
        rcases lowStep t.data.toList k hk with ⟨a1, a2, w1, w2, hs, hv⟩ | ⟨a1, a2, w1, w2, hs, hv⟩ | ⟨a1, a2, w1, w2, hs, hv⟩
        all_goals exact ⟨trivial, _, fun G => by simp only [go_sem, reduceIte, ↓reduceIte, reduceCtorEq, nA, nS, nM, nB, nE, nL, nT, nN, iL, iT, iE, iA, iM, iS, iG, iB, iN, iZ, h, g1, g2, g3, g4, a1, a2, w1, w2, hs, List.length_map, h1, idx_nt _ _ hk, wrap_nat1 (show k < 9223372036854775807 by omega), hb0] <;> with_reducible rfl, by simp only [go_sem, reduceIte, ↓reduceIte, reduceCtorEq, nA, nS, nM, nB, nE, nL, nT, nN, iL, iT, iE, iA, iM, iS, iG, iB, iN, iZ, h, hv]⟩) () trivial (t.data.toList.length + 1) (Nat.le_refl _)
  rw [hb0] at hr
  rw [lowUp_zero] at hr
  simp only [go_sem, reduceIte, ↓reduceIte, reduceCtorEq, nA, nS, nM, nB, nE, nL, nT, nN, iL, iT, iE, iA, iM, iS, iG, iB, iN, iZ, h, hz, hr, str_size t, lowS]) (rfl)
noncomputable def s143 : SP Tryz.prog := mkS tyA 143 Tryz.f143 [s156] { md := [.ro 1, .ro 1], rets := some ([4], []) } Tryz.func143 (by kernel_rfl)
@[go_sem] theorem d143 : s143.g = 143 ∧ s143.fs = ⟨[.ro 1, .ro 1], s143.F, false⟩ := ⟨nr rfl, nr rfl⟩
@[go_sem] theorem e143 (a : ByteArray) (b : ByteArray) (h0 : (a.size ≤ 9223372036854775806 ∧ b.size ≤ 9223372036854775806)) : s143.F [.s a, .s b] = some (.b (eqv (lowS a) (lowS b)), [.u, .u]) := mkS_eq (0) rfl rfl (fun cx h => by
  simp only [go_sem, reduceIte, ↓reduceIte, reduceCtorEq, nA, nS, nM, nB, nE, nL, nT, nN, iL, iT, iE, iA, iM, iS, iG, iB, iN, iZ, h, h0.1, h0.2, eqv_bytes]) (rfl)
theorem ffold {α β : Type} (p : α → Bool) (f : α → β) : ∀ (xs : List α) (acc : List β), xs.foldl (fun s x => if p x = true then s ++ [f x] else s) acc = acc ++ (xs.filter p).map f
  | [], acc => by simp
  | x :: xs, acc => by
    rw [List.foldl_cons, ffold p f xs, List.filter_cons]
    cases p x <;> simp
noncomputable def s128 : SP Tryz.prog := mkS tyA 128 Tryz.f128 [s143] { md := [.ro 1, .ro 1], rg := [(0, [0, 1], []), (1, [0, 1, 5], []), (2, [0, 1, 5, 9, 10, 11], []), (3, [0, 1, 5, 9, 10, 11, 12], []), (4, [0, 1, 5, 7, 9, 10, 11], [7]), (5, [0, 1, 5, 7, 9, 10, 11, 18], [7]), (6, [0, 1, 5, 9, 10, 11], []), (7, [0, 1, 5, 9, 10, 11], []), (8, [4], [])], lv := [(0, [0, 1, 5, 9, 10, 11], [])], out := [(0, [5], [])], rets := some ([4], []) } Tryz.func128 (by kernel_rfl)
@[go_sem] theorem d128 : s128.g = 128 ∧ s128.fs = ⟨[.ro 1, .ro 1], s128.F, false⟩ := ⟨nr rfl, nr rfl⟩
@[go_sem] theorem e128 (hs : List Header) (name : ByteArray) (h0 : (hs.length ≤ 20 ∧ smL smHeader hs ∧ okN name = true)) : s128.F [.sl .ro 2 (hs.map (rHeader .ro)), .s name] = some (.sl .mut 1 ((valsOf hs name).map rStr), [.u, .u]) := mkS_eq (hs.length + 1) rfl rfl (fun cx h => by
  have hl := h0.1
  have hx : hs.length ≤ 9223372036854775806 := by omega
  have hb0 := loopN_eq Tryz.f128 0 _ _ rfl rfl
  obtain ⟨hI, hr⟩ := loop_fold (cx := cx) (blk := 0) (body := loopN Tryz.f128 0) hs (fun k (s : List ByteArray) => ⟨E [(0, .sl .ro 2 (hs.map (rHeader .ro))), (1, .s name), (5, .sl .mut 1 (s.map rStr)), (9, .sl .ro 2 (hs.map (rHeader .ro))), (10, .i .i64 hs.length), (11, .i .i64 k)], B []⟩) (fun s => ⟨E [(5, .sl .mut 1 (s.map rStr))], B []⟩) (fun x s => (if eqv (lowS x.Name) (lowS name) = true then s ++ [x.Value] else s)) (fun k s => s.length ≤ k)
      (fun s hI G => by simp only [go_sem, reduceIte, ↓reduceIte, reduceCtorEq, nA, nS, nM, nB, nE, nL, nT, nN, iL, iT, iE, iA, iM, iS, iG, iB, iN, iZ, h, Int.lt_irrefl, hb0, h0.1]) (fun k hk s hI => by
        have h1 : ((k : Int) < (hs.length : Int)) := Int.ofNat_lt.2 hk
        have t3 : (s.length + 1) * 16 ≤ 140737488355328 := by omega
        have t4 : s.map rStr ++ [[.s hs[k].Value]] = (s ++ [hs[k].Value]).map rStr := by simp [rStr]
        obtain ⟨u1, u2⟩ := h0.2.1.2 _ (List.getElem_mem hk)
        have n1 : hs[k].Name.size ≤ 9223372036854775806 ∧ name.size ≤ 9223372036854775806 := ⟨by have : hs[k].Name.size ≤ 1048576 := u1; omega, of_decide_eq_true h0.2.2⟩
        cases d1 : eqv (lowS hs[k].Name) (lowS name)
        all_goals exact ⟨by split <;> (try simp only [List.length_append, List.length_cons, List.length_nil]) <;> omega, _, fun G => by simp only [go_sem, reduceIte, ↓reduceIte, reduceCtorEq, nA, nS, nM, nB, nE, nL, nT, nN, iL, iT, iE, iA, iM, iS, iG, iB, iN, iZ, h, t3, t4, map_gd (rHeader .ro) hs k hk, n1, d1, h1, idx_nt _ _ hk, wrap_nat1 (show k < 9223372036854775807 by omega), hb0] <;> with_reducible rfl, by simp only [go_sem, reduceIte, ↓reduceIte, reduceCtorEq, nA, nS, nM, nB, nE, nL, nT, nN, iL, iT, iE, iA, iM, iS, iG, iB, iN, iZ, h, d1]⟩) [] (by simp) (hs.length + 1) (Nat.le_refl _)
  rw [hb0] at hr
  have hff := ffold (fun x : Header => eqv (lowS x.Name) (lowS name)) (fun x => x.Value) hs []
  simp only [List.nil_append] at hff
  rw [hff] at hr
  simp only [go_sem, reduceIte, ↓reduceIte, reduceCtorEq, nA, nS, nM, nB, nE, nL, nT, nN, iL, iT, iE, iA, iM, iS, iG, iB, iN, iZ, h, hr, valsOf]) (by simp only [go_sem, reduceIte, ↓reduceIte, reduceCtorEq, nA, nS, nM, nB, nE, nL, nT, nN, iL, iT, iE, iA, iM, iS, iG, iB, iN, iZ, okRes, hasRo])
noncomputable def s110 : SP Tryz.prog := mkS tyA 110 Tryz.f110 [s100, s125, s126, s127, s128] { md := [.ro 1], rg := [(0, [1], [1]), (1, [1, 19], [1]), (2, [2], []), (3, [1, 3], [1]), (4, [1, 3, 24], [1]), (5, [2], []), (6, [1, 26], [1]), (7, [2], []), (8, [32], []), (9, [2], []), (10, [2], [])], rets := some ([2], []) } Tryz.func110 (by kernel_rfl)
@[go_sem] theorem d110 : s110.g = 110 ∧ s110.fs = ⟨[.ro 1], s110.F, false⟩ := ⟨nr rfl, nr rfl⟩
@[go_sem] theorem e110 (rMethod : ByteArray) (rHost : ByteArray) (rPath : ByteArray) (rHeaders : List Header) (h0 : smL smHeader (Request.mk rMethod rHost rPath rHeaders).Headers) : s110.F [.agg [.s rMethod, .s rHost, .s rPath, .sl .ro 2 (rHeaders.map (rHeader .ro))]] = some (.i .i64 (requestFault (Request.mk rMethod rHost rPath rHeaders)), [.u]) := mkS_eq (0) rfl rfl (fun cx h => by
  have key : ∀ m : Bool, isMethod rMethod = m → (isMethod rMethod && isHost rHost && isPath rPath) = (m && isHost rHost && isPath rPath) := fun m h => by rw [h]
  have hn1 : okN ⟨#[72, 111, 115, 116]⟩ = true := by decide
  have hn2 : okN ⟨#[104, 111, 115, 116]⟩ = true := by decide
  cases m0 : isMethod rMethod
  · simp only [go_sem, reduceIte, ↓reduceIte, reduceCtorEq, nA, nS, nM, nB, nE, nL, nT, nN, iL, iT, iE, iA, iM, iS, iG, iB, iN, iZ, h, m0, requestFault]
  cases h2 : isHost rHost
  · simp only [go_sem, reduceIte, ↓reduceIte, reduceCtorEq, nA, nS, nM, nB, nE, nL, nT, nN, iL, iT, iE, iA, iM, iS, iG, iB, iN, iZ, h, h2, m0, requestFault]
  cases h3 : isPath rPath
  · simp only [go_sem, reduceIte, ↓reduceIte, reduceCtorEq, nA, nS, nM, nB, nE, nL, nT, nN, iL, iT, iE, iA, iM, iS, iG, iB, iN, iZ, h, h2, h3, m0, requestFault]
  by_cases z : headersFault rHeaders = 0
  rotate_left
  · have z' : (headersFault rHeaders != 0) = true := by simpa using z
    simp only [go_sem, reduceIte, ↓reduceIte, reduceCtorEq, nA, nS, nM, nB, nE, nL, nT, nN, iL, iT, iE, iA, iM, iS, iG, iB, iN, iZ, h, h2, h3, z', m0, requestFault]
  have z' : (headersFault rHeaders != 0) = false := by simpa using z
  have h4 : rHeaders.length ≤ 20 ∧ smL smHeader rHeaders ∧ okN ⟨#[72, 111, 115, 116]⟩ = true := ⟨headersFault_ok z, h0, hn1⟩
  have h5 : rHeaders.length ≤ 20 ∧ smL smHeader rHeaders ∧ okN ⟨#[104, 111, 115, 116]⟩ = true := ⟨headersFault_ok z, h0, hn2⟩
  have h6 := valsOf_pos rHeaders ⟨#[72, 111, 115, 116]⟩
  have h7 := hasV_host rHeaders
  cases h8 : hasV rHeaders ⟨#[72, 111, 115, 116]⟩
  · by_cases h9 : 20 ≤ (rHeaders.length : Int)
    · have h10 : ((rHeaders.length : Int) == 20) = true := by have := h4.1; simp; omega
      simp only [go_sem, reduceIte, ↓reduceIte, reduceCtorEq, nA, nS, nM, nB, nE, nL, nT, nN, iL, iT, iE, iA, iM, iS, iG, iB, iN, iZ, h, h2, h3, z, h4, h5, h6, h7, h8, h9, h10, m0, requestFault]
    · have h10 : ((rHeaders.length : Int) == 20) = false := by have := h4.1; simp; omega
      simp only [go_sem, reduceIte, ↓reduceIte, reduceCtorEq, nA, nS, nM, nB, nE, nL, nT, nN, iL, iT, iE, iA, iM, iS, iG, iB, iN, iZ, h, h2, h3, z, h4, h5, h6, h7, h8, h9, h10, m0, requestFault]
  · simp only [go_sem, reduceIte, ↓reduceIte, reduceCtorEq, nA, nS, nM, nB, nE, nL, nT, nN, iL, iT, iE, iA, iM, iS, iG, iB, iN, iZ, h, h2, h3, z, h4, h5, h6, h7, h8, m0, requestFault]) (rfl)
noncomputable def s89 : SP Tryz.prog := mkS tyA 89 Tryz.f89 [s34, s90, s99, s110, s111, s112] { md := [.ro 1], rg := [(0, [1], [1]), (1, [1, 4], [1]), (2, [2], []), (3, [1, 15], [1]), (4, [2], []), (5, [1, 3], [1]), (6, [1, 3, 24], [1]), (7, [2], []), (8, [1, 26], [1]), (9, [2], []), (10, [1, 35], [1]), (11, [2], []), (12, [1, 40], [1]), (13, [2], []), (14, [44], []), (15, [2], []), (16, [2], [])], rets := some ([2], []) } Tryz.func89 (by kernel_rfl)
@[go_sem] theorem d89 : s89.g = 89 ∧ s89.fs = ⟨[.ro 1], s89.F, false⟩ := ⟨nr rfl, nr rfl⟩
@[go_sem] theorem e89 (fId : Int) (fKey : ByteArray) (fBack : Bool) (fOut : Bool) (fDue : Int) (fDoomed : Bool) (fGetMethod : ByteArray) (fGetHost : ByteArray) (fGetPath : ByteArray) (fGetHeaders : List Header) (fWaiters : List Waiter) (h0 : smL smHeader (Flight.mk fId fKey fBack fOut fDue fDoomed (Request.mk fGetMethod fGetHost fGetPath fGetHeaders) fWaiters).Get.Headers) : s89.F [.agg [.i .i64 fId, .s fKey, .b fBack, .b fOut, .i .i64 fDue, .b fDoomed, .s fGetMethod, .s fGetHost, .s fGetPath, .sl .ro 2 (fGetHeaders.map (rHeader .ro)), .sl .ro 4 (fWaiters.map (rWaiter .ro))]] = some (.i .i64 (flightFault (Flight.mk fId fKey fBack fOut fDue fDoomed (Request.mk fGetMethod fGetHost fGetPath fGetHeaders) fWaiters)), [.u]) := mkS_eq (0) rfl rfl (fun cx h => by
  have hH : smL smHeader fGetHeaders := h0
  cases t1 : isTime fId
  · simp only [go_sem, reduceIte, ↓reduceIte, reduceCtorEq, nA, nS, nM, nB, nE, nL, nT, nN, iL, iT, iE, iA, iM, iS, iG, iB, iN, iZ, h, t1, flightFault]
  cases t2 : isTime fDue
  · simp only [go_sem, reduceIte, ↓reduceIte, reduceCtorEq, nA, nS, nM, nB, nE, nL, nT, nN, iL, iT, iE, iA, iM, iS, iG, iB, iN, iZ, h, t1, t2, flightFault]
  cases hk : isKey fKey
  · simp only [go_sem, reduceIte, ↓reduceIte, reduceCtorEq, nA, nS, nM, nB, nE, nL, nT, nN, iL, iT, iE, iA, iM, iS, iG, iB, iN, iZ, h, t1, t2, hk, flightFault]
  by_cases z : requestFault (Request.mk fGetMethod fGetHost fGetPath fGetHeaders) = 0
  rotate_left
  · have z' : (requestFault (Request.mk fGetMethod fGetHost fGetPath fGetHeaders) != 0) = true := by simpa using z
    simp only [go_sem, reduceIte, ↓reduceIte, reduceCtorEq, nA, nS, nM, nB, nE, nL, nT, nN, iL, iT, iE, iA, iM, iS, iG, iB, iN, iZ, h, t1, t2, hk, hH, z', flightFault]
  rcases (show (fOut = true ∧ True) ∨ (fOut = false ∧ (fDue != 0) = false) ∨ (fOut = false ∧ (fDue != 0) = true) from by cases fOut <;> cases (fDue != 0) <;> simp) with ⟨o1, o2⟩ | ⟨o1, o2⟩ | ⟨o1, o2⟩
  rotate_left
  rotate_left
  · simp only [go_sem, reduceIte, ↓reduceIte, reduceCtorEq, nA, nS, nM, nB, nE, nL, nT, nN, iL, iT, iE, iA, iM, iS, iG, iB, iN, iZ, h, t1, t2, hk, hH, z, o1, o2, flightFault]
  all_goals
    by_cases w1 : 10 < (fWaiters.length : Int)
    · simp only [go_sem, reduceIte, ↓reduceIte, reduceCtorEq, nA, nS, nM, nB, nE, nL, nT, nN, iL, iT, iE, iA, iM, iS, iG, iB, iN, iZ, h, t1, t2, hk, hH, z, o1, o2, w1, flightFault]
    have hx : fWaiters.length ≤ 9223372036854775806 := by omega
    cases w2 : (fWaiters.any fun x => !isReqW x)
    · cases w3 : tw [] fWaiters <;> simp only [go_sem, reduceIte, ↓reduceIte, reduceCtorEq, nA, nS, nM, nB, nE, nL, nT, nN, iL, iT, iE, iA, iM, iS, iG, iB, iN, iZ, h, t1, t2, hk, hH, z, o1, o2, w1, w2, w3, hx, flightFault]
    · simp only [go_sem, reduceIte, ↓reduceIte, reduceCtorEq, nA, nS, nM, nB, nE, nL, nT, nN, iL, iT, iE, iA, iM, iS, iG, iB, iN, iZ, h, t1, t2, hk, hH, z, o1, o2, w1, w2, hx, flightFault]) (rfl)
noncomputable def s65 : SP Tryz.prog := mkS tyA 65 Tryz.f65 [s49, s89, s90] { md := [.ro 1], rg := [(0, [0], []), (1, [0, 13], []), (2, [2], []), (3, [0, 14, 15, 16], []), (4, [0, 14, 15, 16, 17], []), (5, [0, 4, 14, 15, 16], [4]), (6, [0, 5, 14, 15, 16], []), (7, [0, 5, 14, 15, 16, 23], []), (8, [2], []), (9, [0, 14, 15, 16], []), (10, [0, 6], []), (11, [0, 6, 27, 28, 29], []), (12, [0, 6, 27, 28, 29, 30], []), (13, [0, 6, 7, 8, 27, 28, 29], [8]), (14, [0, 6, 8, 27, 28, 29, 46], [8]), (15, [2], []), (16, [0, 6, 27, 28, 29], []), (17, [0, 6, 27, 28, 29], []), (18, [0, 6, 52, 53, 54], []), (19, [0, 6, 52, 53, 54, 55], []), (20, [0, 6, 9, 10, 52, 53, 54], [10]), (21, [0, 6, 52, 53, 54, 65], []), (22, [2], []), (23, [0, 6, 52, 53, 54], []), (24, [68], []), (25, [2], []), (26, [2], [])], lv := [(0, [0, 14, 15, 16], []), (2, [0, 6, 27, 28, 29], []), (4, [0, 6, 52, 53, 54], [])], out := [(0, [0], []), (2, [0, 6], []), (4, [6], [])], rets := some ([2], []), plan := [(14, (.take 0 (.take 1 (.take 2 (.take 3 (.take 4 (.take 5 (.take 6 (.take 7 (.take 8 (.take 9 (.take 10 (.take 11 (.take 12 .done)))))))))))))), (21, (.take 0 (.take 1 (.take 2 (.take 3 (.take 4 (.one 5 (.take 6 .done))))))))] } Tryz.func65 (by kernel_rfl)
@[go_sem] theorem d65 : s65.g = 65 ∧ s65.fs = ⟨[.ro 1], s65.F, false⟩ := ⟨nr rfl, nr rfl⟩
@[go_sem] theorem e65 (fs : List Flight) (h0 : smL smFlight fs) : s65.F [.sl .ro 11 (fs.map (rFlight .ro))] = some (.i .i64 (flightsFault fs), [.u]) := mkS_eq (fs.length + 1) rfl rfl (fun cx h => by
  by_cases h1 : 24 < (fs.length : Int)
  · simp only [go_sem, reduceIte, ↓reduceIte, reduceCtorEq, nA, nS, nM, nB, nE, nL, nT, nN, iL, iT, iE, iA, iM, iS, iG, iB, iN, iZ, h, flightsFault, h1]
  have hx : fs.length ≤ 9223372036854775806 := by omega
  have hb0 := loopN_eq Tryz.f65 0 _ _ rfl rfl
  obtain ⟨z0, hz0, hqz0⟩ := loop_srch (cx := cx) (blk := 0) (body := loopN Tryz.f65 0) fs (fun k (s : Unit) => ⟨E [(0, .sl .ro 11 (fs.map (rFlight .ro))), (14, .sl .ro 11 (fs.map (rFlight .ro))), (15, .i .i64 fs.length), (16, .i .i64 k)], B []⟩) (fun s => ⟨E [(0, .sl .ro 11 (fs.map (rFlight .ro)))], B []⟩) (fun x s => flightFault x != 0) (fun x s => ()) (fun x s => (.ret, ⟨E [(2, .i .i64 (flightFault x))], B []⟩)) (fun k s => True)
      (fun s hI G => by simp only [go_sem, reduceIte, ↓reduceIte, reduceCtorEq, nA, nS, nM, nB, nE, nL, nT, nN, iL, iT, iE, iA, iM, iS, iG, iB, iN, iZ, h, Int.lt_irrefl, hb0, hx]) (fun k hk s hI => by
        have h1 : ((k : Int) < (fs.length : Int)) := Int.ofNat_lt.2 hk
        have hs := h0.2 _ (List.getElem_mem hk)
        obtain ⟨u0, u1, u2, u3, u4, u5, u6, u7⟩ := hs
        have hH : smL smHeader fs[k].Get.Headers := u6.2.2.2
        all_goals exact ⟨_, _, _, fun G => by simp only [go_sem, reduceIte, ↓reduceIte, reduceCtorEq, nA, nS, nM, nB, nE, nL, nT, nN, iL, iT, iE, iA, iM, iS, iG, iB, iN, iZ, h, map_gd (rFlight .ro) fs _ hk, hH, h1, idx_nt _ _ hk, wrap_nat1 (show k < 9223372036854775807 by omega), hb0] <;> with_reducible rfl, Iff.rfl, fun hc => ⟨trivial, by simp only [go_sem, reduceIte, ↓reduceIte, reduceCtorEq, nA, nS, nM, nB, nE, nL, nT, nN, iL, iT, iE, iA, iM, iS, iG, iB, iN, iZ, h]⟩⟩) () trivial (fs.length + 1) (Nat.le_refl _)
  rw [hb0] at hz0
  rcases hqz0 with ⟨s0, e1, _, e3⟩ | ⟨x, s0, e1, e3⟩
  rotate_left
  · have e2 := firstI_inr e1
    have e4 : (flightFault x != 0) = true := runS_hit e1
    simp only [go_sem, reduceIte, ↓reduceIte, reduceCtorEq, nA, nS, nM, nB, nE, nL, nT, nN, iL, iT, iE, iA, iM, iS, iG, iB, iN, iZ, h, hz0, e3, e2, e4, flightsFault, h1]
  have e2 := firstI_inl e1
  have hall : ∀ x ∈ fs, x.Waiters.length ≤ 10 := fun x hx => flightFault_ok (runS_zero e1 x hx)
  have hb1 := loopN_eq Tryz.f65 1 _ _ rfl rfl
  obtain ⟨z1, hz1, hqz1⟩ := loop_srch (cx := cx) (blk := 2) (body := loopN Tryz.f65 1) fs (fun k (s : Option Int) => ⟨E [(0, .sl .ro 11 (fs.map (rFlight .ro))), (6, .sl .mut 4 ((allW (fs.take k)).map (rWaiter .ro))), (27, .sl .ro 11 (fs.map (rFlight .ro))), (28, .i .i64 fs.length), (29, .i .i64 k)], B []⟩) (fun s => ⟨E [(0, .sl .ro 11 (fs.map (rFlight .ro))), (6, .sl .mut 4 ((allW (fs.take (fs.length))).map (rWaiter .ro)))], B []⟩) (fun x s => leO x s) (fun x s => some x.Id) (fun x s => (.ret, ⟨E [(2, .i .i64 1)], B []⟩)) (fun k s => ((k = 0 ∧ s = none) ∨ ∃ m, ∃ (hm : m < fs.length), k = m + 1 ∧ s = some fs[m].Id))
      (fun s hI G => by simp only [go_sem, reduceIte, ↓reduceIte, reduceCtorEq, nA, nS, nM, nB, nE, nL, nT, nN, iL, iT, iE, iA, iM, iS, iG, iB, iN, iZ, h, Int.lt_irrefl, hb1, hx, List.take_length]) (fun k hk s hI => by
        have h1 : ((k : Int) < (fs.length : Int)) := Int.ofNat_lt.2 hk
        have hJ : (k = 0 ∧ s = none) ∨ ∃ m, ∃ (hm : m < fs.length), k = m + 1 ∧ s = some fs[m].Id := hI
        have hw : fs[k].Waiters.length ≤ 10 := hall _ (List.getElem_mem hk)
        have hl2 : (allW (fs.take k)).length ≤ 10 * k := by
          have := allW_len (fs := fs.take k) (fun x hx => hall x (List.mem_of_mem_take hx))
          rw [List.length_take] at this
          omega
        have p1 := wrow_plain fs[k].Waiters
        have p2 : (allW (fs.take k)).map (rWaiter .ro) ++ fs[k].Waiters.map (rWaiter .ro) = (allW (fs.take (k + 1))).map (rWaiter .ro) := by rw [allW_snoc fs k hk, List.map_append]
        have p3 : ((allW (fs.take k)).length + fs[k].Waiters.length) * 32 ≤ 140737488355328 := by omega
        have p4 : (fs[k].Waiters.map (rWaiter .ro)).take fs[k].Waiters.length = fs[k].Waiters.map (rWaiter .ro) := List.take_of_length_le (by simp)
        rcases hJ with ⟨e0, hs⟩ | ⟨m, hm, e0, hs⟩
        · have c1 : ¬ (0 : Int) < (k : Int) := by omega
          have c2 : leO fs[k] s = false := by rw [hs]; rfl
          have c3 := trivial
          have c4 := trivial
          have c5 := trivial
          exact ⟨False, inferInstance, _, fun G => by rw [if_neg (fun h => h)]; simp only [go_sem, reduceIte, ↓reduceIte, reduceCtorEq, nA, nS, nM, nB, nE, nL, nT, nN, iL, iT, iE, iA, iM, iS, iG, iB, iN, iZ, h, map_gd (rFlight .ro) fs _ hk, p1, p2, p3, p4, c1, c3, c4, c5, List.length_map, List.length_append, h1, idx_nt _ _ hk, wrap_nat1 (show k < 9223372036854775807 by omega), hb1] <;> with_reducible rfl, (show False ↔ _ from by rw [c2]; simp), fun hc => ⟨(.inr ⟨k, hk, rfl, rfl⟩), by simp only [go_sem, reduceIte, ↓reduceIte, reduceCtorEq, nA, nS, nM, nB, nE, nL, nT, nN, iL, iT, iE, iA, iM, iS, iG, iB, iN, iZ, h, p2]⟩⟩
        · subst e0
          have c1 : (0 : Int) < ((m + 1 : Nat) : Int) := by omega
          have c3 : (IntKind.i64).wrap (((m + 1 : Nat) : Int) - 1) = (m : Int) := by rw [wrap_id (by omega) (by omega)]; omega
          have c4 := idx_nt fs.length m hm
          have c5 := map_gd (rFlight .ro) fs m hm
          have c2 : leO fs[m + 1] s = decide (fs[m + 1].Id ≤ fs[m].Id) := by rw [hs]; rfl
          exact ⟨_, _, _, fun G => by simp only [go_sem, reduceIte, ↓reduceIte, reduceCtorEq, nA, nS, nM, nB, nE, nL, nT, nN, iL, iT, iE, iA, iM, iS, iG, iB, iN, iZ, h, map_gd (rFlight .ro) fs _ hk, p1, p2, p3, p4, c1, c3, c4, c5, List.length_map, List.length_append, h1, idx_nt _ _ hk, wrap_nat1 (show m + 1 < 9223372036854775807 by omega), hb1] <;> with_reducible rfl, (by rw [c2, decide_eq_true_eq]), fun hc => ⟨(.inr ⟨m + 1, hk, rfl, rfl⟩), by simp only [go_sem, reduceIte, ↓reduceIte, reduceCtorEq, nA, nS, nM, nB, nE, nL, nT, nN, iL, iT, iE, iA, iM, iS, iG, iB, iN, iZ, h, p2]⟩⟩) none (.inl ⟨rfl, rfl⟩) (fs.length + 1) (Nat.le_refl _)
  rw [hb1] at hz1
  have hT : allW (fs.take 0) = [] := rfl
  simp only [hT, List.map_nil] at hz1
  rcases hqz1 with ⟨s1, g1, _, g3⟩ | ⟨x, s1, g1, g3⟩
  rotate_left
  · have g2 := unsO_inr g1
    rw [unsO_none] at g2
    simp only [go_sem, reduceIte, ↓reduceIte, reduceCtorEq, nA, nS, nM, nB, nE, nL, nT, nN, iL, iT, iE, iA, iM, iS, iG, iB, iN, iZ, h, hz0, e3, e2, hz1, g3, g2, flightsFault, h1]
  have g2 := unsO_inl g1
  rw [unsO_none] at g2
  have hb2 := loopN_eq Tryz.f65 2 _ _ rfl rfl
  obtain ⟨z2, hz2, hqz2⟩ := loop_srch (cx := cx) (blk := 4) (body := loopN Tryz.f65 2) fs (fun k (s : List Flight) => ⟨E [(0, .sl .ro 11 (fs.map (rFlight .ro))), (6, .sl .mut 4 ((allW fs).map (rWaiter .ro))), (52, .sl .ro 11 (fs.map (rFlight .ro))), (53, .i .i64 fs.length), (54, .i .i64 k)], B []⟩) (fun s => ⟨E [(6, .sl .mut 4 ((allW fs).map (rWaiter .ro)))], B []⟩) (fun x s => s.any fun y => sameKey y x) (fun x s => s ++ [x]) (fun x s => (.ret, ⟨E [(2, .i .i64 6)], B []⟩)) (fun k s => s = fs.take k)
      (fun s hI G => by simp only [go_sem, reduceIte, ↓reduceIte, reduceCtorEq, nA, nS, nM, nB, nE, nL, nT, nN, iL, iT, iE, iA, iM, iS, iG, iB, iN, iZ, h, Int.lt_irrefl, hb2, hx]) (fun k hk s hI => by
        have h1 : ((k : Int) < (fs.length : Int)) := Int.ofNat_lt.2 hk
        have t3 : fs.length ≤ 9223372036854775806 := hx
        have t4 : (fs.map (rFlight .ro)).take k = (fs.take k).map (rFlight .ro) := by rw [List.map_take]
        have t5 : (fs.take k).length ≤ 9223372036854775806 := by rw [List.length_take]; omega
        have c1 : (0 : Int) ≤ (k : Int) := by omega
        have c2 : (k : Int) ≤ (fs.length : Int) := by omega
        have c3 : ((fs.take k).any fun y => sameKey y fs[k]) = (fs.take k).any fun x => eqv x.Key fs[k].Key := rfl
        subst hI
        exact ⟨_, _, _, fun G => by simp only [go_sem, reduceIte, ↓reduceIte, reduceCtorEq, nA, nS, nM, nB, nE, nL, nT, nN, iL, iT, iE, iA, iM, iS, iG, iB, iN, iZ, h, t4, t5, c1, c2, map_gd (rFlight .ro) fs _ hk, Int.toNat_natCast, List.drop_zero, Nat.sub_zero, idxP_any, h1, idx_nt _ _ hk, wrap_nat1 (show k < 9223372036854775807 by omega), hb2] <;> with_reducible rfl, by rw [c3], fun hc => ⟨(take_snoc fs k hk).symm, by simp only [go_sem, reduceIte, ↓reduceIte, reduceCtorEq, nA, nS, nM, nB, nE, nL, nT, nN, iL, iT, iE, iA, iM, iS, iG, iB, iN, iZ, h]⟩⟩) [] rfl (fs.length + 1) (Nat.le_refl _)
  rw [hb2] at hz2
  have hal : (allW fs).length ≤ 9223372036854775806 := by have := allW_len hall; omega
  rcases hqz2 with ⟨s2, k1, _, k3⟩ | ⟨x, s2, k1, k3⟩
  · have k2 := dup_inl k1
    cases k4 : tw [] (allW fs) <;> simp only [go_sem, reduceIte, ↓reduceIte, reduceCtorEq, nA, nS, nM, nB, nE, nL, nT, nN, iL, iT, iE, iA, iM, iS, iG, iB, iN, iZ, h, hz0, e3, e2, hz1, g3, g2, hz2, k3, k2, k4, hal, List.take_length, flightsFault, h1]
  · have k2 := dup_inr k1
    simp only [go_sem, reduceIte, ↓reduceIte, reduceCtorEq, nA, nS, nM, nB, nE, nL, nT, nN, iL, iT, iE, iA, iM, iS, iG, iB, iN, iZ, h, hz0, e3, e2, hz1, g3, g2, hz2, k3, k2, List.take_length, flightsFault, h1]) (rfl)
end Go.Vm.A
