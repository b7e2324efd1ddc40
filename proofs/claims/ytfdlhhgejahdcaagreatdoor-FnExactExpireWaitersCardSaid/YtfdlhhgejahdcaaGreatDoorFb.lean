/- Functions of the program, walked by the evaluator. -/
import Derived.Test.YtfdlhhgejahdcaaGreatDoorFa
set_option autoImplicit false
set_option maxRecDepth 100000
set_option maxHeartbeats 4000000
set_option linter.unusedVariables false
set_option linter.unusedSimpArgs false
namespace Go.Vm.A
open Go.Proofs
open Nat renaming reduceAdd → nA, reduceSub → nS, reduceMul → nM, reduceBEq → nB, reduceEqDiff → nE, reduceLeDiff → nL, reduceLT → nT, reduceBneDiff → nN
open Int renaming reduceLE → iL, reduceLT → iT, reduceEq → iE, reduceAdd → iA, reduceMul → iM, reduceSub → iS, reduceNeg → iG, reduceBEq → iB, reduceBNe → iN, reduceToNat → iZ

noncomputable def s145 : SP Tryz.prog := mkS tyA 145 Tryz.f145 [s162] { md := [.ro 1, .ro 1], rets := some ([4], []) } Tryz.func145 (by kernel_rfl)
@[go_sem] theorem d145 : s145.g = 145 ∧ s145.fs = ⟨[.ro 1, .ro 1], s145.F, false⟩ := ⟨nr rfl, nr rfl⟩
@[go_sem] theorem e145 (a : ByteArray) (b : ByteArray) (h0 : (a.size ≤ 9223372036854775806 ∧ b.size ≤ 9223372036854775806)) : s145.F [.s a, .s b] = some (.b (eqv (lowS a) (lowS b)), [.u, .u]) := mkS_eq (0) rfl rfl (fun cx h => by
  simp only [go_sem, reduceIte, ↓reduceIte, reduceCtorEq, nA, nS, nM, nB, nE, nL, nT, nN, iL, iT, iE, iA, iM, iS, iG, iB, iN, iZ, h, h0.1, h0.2, eqv_bytes]) (rfl)
noncomputable def s116 : SP Tryz.prog := mkS tyA 116 Tryz.f116 [s145] { md := [.ro 1, .ro 1], rg := [(0, [0, 1], []), (1, [0, 1, 6], []), (2, [0, 1, 6, 7], []), (3, [0, 1, 6, 7, 8], []), (4, [0, 1, 6, 7, 8, 12], []), (5, [0, 1, 6, 7, 8], []), (6, [0, 1, 6, 7, 8, 22], []), (7, [0, 1, 6, 8, 23], []), (8, [0, 1, 6, 8], []), (9, [0, 1, 6, 8], []), (10, [0, 1, 6, 7, 8], []), (11, [4, 5], [])], lv := [(0, [0, 1, 6, 7, 8], [])], out := [(0, [6, 7], [])], rets := some ([4, 5], []) } Tryz.func116 (by kernel_rfl)
@[go_sem] theorem d116 : s116.g = 116 ∧ s116.fs = ⟨[.ro 1, .ro 1], s116.F, false⟩ := ⟨nr rfl, nr rfl⟩
@[go_sem] theorem e116 (hs : List Header) (name : ByteArray) (h0 : (hs.length ≤ 20 ∧ smL smHeader hs ∧ okN name = true)) : s116.F [.sl .ro 2 (hs.map (rHeader .ro)), .s name] = some (.tup [.s (joinV hs name).1, .b (hasV hs name)], [.u, .u]) := mkS_eq (hs.length + 1) rfl rfl (fun cx h => by
  have hl := h0.1
  have hx : hs.length ≤ 9223372036854775806 := by omega
  have hj := joinV_2 hs name
  have hb0 := loopN_eq Tryz.f116 0 _ _ rfl rfl
  obtain ⟨hI, hr⟩ := loop_fold (cx := cx) (blk := 0) (body := loopN Tryz.f116 0) hs (fun k (s : ByteArray × Bool) => ⟨E [(0, .sl .ro 2 (hs.map (rHeader .ro))), (1, .s name), (6, .s s.1), (7, .b s.2), (8, .i .i64 k)], B []⟩) (fun s => ⟨E [(6, .s s.1), (7, .b s.2)], B []⟩) (fun x s => joinStep name s x) (fun k s => s.1.size ≤ k * 1048578)
      (fun s hI G => by simp only [go_sem, reduceIte, ↓reduceIte, reduceCtorEq, nA, nS, nM, nB, nE, nL, nT, nN, iL, iT, iE, iA, iM, iS, iG, iB, iN, iZ, h, Int.lt_irrefl, hb0, h0.1]) (fun k hk s hI => by
        have h1 : ((k : Int) < (hs.length : Int)) := Int.ofNat_lt.2 hk
        obtain ⟨u1, u2⟩ := h0.2.1.2 _ (List.getElem_mem hk)
        have u2' : hs[k].Value.size ≤ 1048576 := u2
        have hJ := joinStep_size (n := name) hI u2'
        have hl := h0.1
        have e0 : (⟨#[44, 32]⟩ : ByteArray).size = 2 := rfl
        have e1 : s.1.size + 2 ≤ 9223372036854775807 := by omega
        have e1' : s.1.size + (⟨#[44, 32]⟩ : ByteArray).size ≤ 9223372036854775807 := e1
        have e2 : s.1.size + hs[k].Value.size ≤ 9223372036854775807 := by omega
        have e3 : s.1.size + 2 + hs[k].Value.size ≤ 9223372036854775807 := by omega
        have n1 : hs[k].Name.size ≤ 9223372036854775806 ∧ name.size ≤ 9223372036854775806 := ⟨by have : hs[k].Name.size ≤ 1048576 := u1; omega, of_decide_eq_true h0.2.2⟩
        cases d1 : eqv (lowS hs[k].Name) (lowS name) <;> cases d2 : s.2
        all_goals exact ⟨hJ, _, fun G => by simp only [go_sem, reduceIte, ↓reduceIte, reduceCtorEq, nA, nS, nM, nB, nE, nL, nT, nN, iL, iT, iE, iA, iM, iS, iG, iB, iN, iZ, h, e0, e1, e2, e3, map_gd (rHeader .ro) hs k hk, n1, d1, d2, ByteArray.size_append, h1, idx_nt _ _ hk, wrap_nat1 (show k < 9223372036854775807 by omega), hb0] <;> with_reducible rfl, by simp only [go_sem, reduceIte, ↓reduceIte, reduceCtorEq, nA, nS, nM, nB, nE, nL, nT, nN, iL, iT, iE, iA, iM, iS, iG, iB, iN, iZ, h, d1, d2, joinStep]⟩) (⟨#[]⟩, false) (by show 0 ≤ _; omega) (hs.length + 1) (Nat.le_refl _)
  rw [hb0] at hr
  unfold joinV at hj
  simp only [go_sem, reduceIte, ↓reduceIte, reduceCtorEq, nA, nS, nM, nB, nE, nL, nT, nN, iL, iT, iE, iA, iM, iS, iG, iB, iN, iZ, h, hr, joinV, hj]) (rfl)
noncomputable def s66 : SP Tryz.prog := mkS tyA 66 Tryz.f66 [s113, s114, s115, s116] { md := [.ro 1], rg := [(0, [1], [1]), (1, [1, 25], [1]), (2, [2], []), (3, [1, 3], [1]), (4, [1, 3, 30], [1]), (5, [2], []), (6, [1, 5], [1]), (7, [1, 38], [1]), (8, [2], []), (9, [42], []), (10, [2], []), (11, [2], [])], rets := some ([2], []), al := [32] } Tryz.func66 (by kernel_rfl)
@[go_sem] theorem d66 : s66.g = 66 ∧ s66.fs = ⟨[.ro 1], s66.F, false⟩ := ⟨nr rfl, nr rfl⟩
@[go_sem] theorem e66 (rMethod : ByteArray) (rHost : ByteArray) (rPath : ByteArray) (rHeaders : List Header) (h0 : smL smHeader (Request.mk rMethod rHost rPath rHeaders).Headers) : s66.F [.agg [.s rMethod, .s rHost, .s rPath, .sl .ro 2 (rHeaders.map (rHeader .ro))]] = some (.i .i64 (requestFault (Request.mk rMethod rHost rPath rHeaders)), [.u]) := mkS_eq (0) rfl rfl (fun cx h => by
  have hm : isMethod rMethod = (eqv rMethod ⟨#[71, 69, 84]⟩ || eqv rMethod ⟨#[72, 69, 65, 68]⟩) := rfl
  have key : ∀ m : Bool, isMethod rMethod = m → (isMethod rMethod && isHost rHost && isPath rPath) = (m && isHost rHost && isPath rPath) := fun m h => by rw [h]
  have hn1 : okN ⟨#[72, 111, 115, 116]⟩ = true := by decide
  have hn2 : okN ⟨#[104, 111, 115, 116]⟩ = true := by decide
  rcases (show (isMethod rMethod = false ∧ eqv rMethod ⟨#[71, 69, 84]⟩ = false ∧ eqv rMethod ⟨#[72, 69, 65, 68]⟩ = false) ∨ (isMethod rMethod = true ∧ eqv rMethod ⟨#[71, 69, 84]⟩ = true) ∨ (isMethod rMethod = true ∧ eqv rMethod ⟨#[71, 69, 84]⟩ = false ∧ eqv rMethod ⟨#[72, 69, 65, 68]⟩ = true) from by
    rw [hm]; cases eqv rMethod ⟨#[71, 69, 84]⟩ <;> cases eqv rMethod ⟨#[72, 69, 65, 68]⟩ <;> simp) with ⟨m0, m1, m2⟩ | ⟨m0, m1⟩ | ⟨m0, m1, m2⟩
  · simp only [go_sem, reduceIte, ↓reduceIte, reduceCtorEq, nA, nS, nM, nB, nE, nL, nT, nN, iL, iT, iE, iA, iM, iS, iG, iB, iN, iZ, h, m0, m1, m2, eqv_bytesne, eqv_bytes, requestFault]
  · cases h2 : isHost rHost
    · simp only [go_sem, reduceIte, ↓reduceIte, reduceCtorEq, nA, nS, nM, nB, nE, nL, nT, nN, iL, iT, iE, iA, iM, iS, iG, iB, iN, iZ, h, h2, m0, m1, eqv_bytesne, eqv_bytes, requestFault]
    cases h3 : isPath rPath
    · simp only [go_sem, reduceIte, ↓reduceIte, reduceCtorEq, nA, nS, nM, nB, nE, nL, nT, nN, iL, iT, iE, iA, iM, iS, iG, iB, iN, iZ, h, h2, h3, m0, m1, eqv_bytesne, eqv_bytes, requestFault]
    by_cases z : headersFault rHeaders = 0
    rotate_left
    · have z' : (headersFault rHeaders != 0) = true := by simpa using z
      simp only [go_sem, reduceIte, ↓reduceIte, reduceCtorEq, nA, nS, nM, nB, nE, nL, nT, nN, iL, iT, iE, iA, iM, iS, iG, iB, iN, iZ, h, h2, h3, z', m0, m1, eqv_bytesne, eqv_bytes, requestFault]
    have z' : (headersFault rHeaders != 0) = false := by simpa using z
    have h4 : rHeaders.length ≤ 20 ∧ smL smHeader rHeaders ∧ okN ⟨#[72, 111, 115, 116]⟩ = true := ⟨headersFault_ok z, h0, hn1⟩
    have h5 : rHeaders.length ≤ 20 ∧ smL smHeader rHeaders ∧ okN ⟨#[104, 111, 115, 116]⟩ = true := ⟨headersFault_ok z, h0, hn2⟩
    have h6 := valsOf_pos rHeaders ⟨#[72, 111, 115, 116]⟩
    have h7 := hasV_host rHeaders
    cases h8 : hasV rHeaders ⟨#[72, 111, 115, 116]⟩
    · by_cases h9 : 20 ≤ (rHeaders.length : Int)
      · have h10 : ((rHeaders.length : Int) == 20) = true := by have := h4.1; simp; omega
        simp only [go_sem, reduceIte, ↓reduceIte, reduceCtorEq, nA, nS, nM, nB, nE, nL, nT, nN, iL, iT, iE, iA, iM, iS, iG, iB, iN, iZ, h, h2, h3, z, h4, h5, h6, h7, h8, h9, h10, m0, m1, eqv_bytesne, eqv_bytes, requestFault]
      · have h10 : ((rHeaders.length : Int) == 20) = false := by have := h4.1; simp; omega
        simp only [go_sem, reduceIte, ↓reduceIte, reduceCtorEq, nA, nS, nM, nB, nE, nL, nT, nN, iL, iT, iE, iA, iM, iS, iG, iB, iN, iZ, h, h2, h3, z, h4, h5, h6, h7, h8, h9, h10, m0, m1, eqv_bytesne, eqv_bytes, requestFault]
    · simp only [go_sem, reduceIte, ↓reduceIte, reduceCtorEq, nA, nS, nM, nB, nE, nL, nT, nN, iL, iT, iE, iA, iM, iS, iG, iB, iN, iZ, h, h2, h3, z, h4, h5, h6, h7, h8, m0, m1, eqv_bytesne, eqv_bytes, requestFault]
  · cases h2 : isHost rHost
    · simp only [go_sem, reduceIte, ↓reduceIte, reduceCtorEq, nA, nS, nM, nB, nE, nL, nT, nN, iL, iT, iE, iA, iM, iS, iG, iB, iN, iZ, h, h2, m0, m1, m2, eqv_bytesne, eqv_bytes, requestFault]
    cases h3 : isPath rPath
    · simp only [go_sem, reduceIte, ↓reduceIte, reduceCtorEq, nA, nS, nM, nB, nE, nL, nT, nN, iL, iT, iE, iA, iM, iS, iG, iB, iN, iZ, h, h2, h3, m0, m1, m2, eqv_bytesne, eqv_bytes, requestFault]
    by_cases z : headersFault rHeaders = 0
    rotate_left
    · have z' : (headersFault rHeaders != 0) = true := by simpa using z
      simp only [go_sem, reduceIte, ↓reduceIte, reduceCtorEq, nA, nS, nM, nB, nE, nL, nT, nN, iL, iT, iE, iA, iM, iS, iG, iB, iN, iZ, h, h2, h3, z', m0, m1, m2, eqv_bytesne, eqv_bytes, requestFault]
    have z' : (headersFault rHeaders != 0) = false := by simpa using z
    have h4 : rHeaders.length ≤ 20 ∧ smL smHeader rHeaders ∧ okN ⟨#[72, 111, 115, 116]⟩ = true := ⟨headersFault_ok z, h0, hn1⟩
    have h5 : rHeaders.length ≤ 20 ∧ smL smHeader rHeaders ∧ okN ⟨#[104, 111, 115, 116]⟩ = true := ⟨headersFault_ok z, h0, hn2⟩
    have h6 := valsOf_pos rHeaders ⟨#[72, 111, 115, 116]⟩
    have h7 := hasV_host rHeaders
    cases h8 : hasV rHeaders ⟨#[72, 111, 115, 116]⟩
    · by_cases h9 : 20 ≤ (rHeaders.length : Int)
      · have h10 : ((rHeaders.length : Int) == 20) = true := by have := h4.1; simp; omega
        simp only [go_sem, reduceIte, ↓reduceIte, reduceCtorEq, nA, nS, nM, nB, nE, nL, nT, nN, iL, iT, iE, iA, iM, iS, iG, iB, iN, iZ, h, h2, h3, z, h4, h5, h6, h7, h8, h9, h10, m0, m1, m2, eqv_bytesne, eqv_bytes, requestFault]
      · have h10 : ((rHeaders.length : Int) == 20) = false := by have := h4.1; simp; omega
        simp only [go_sem, reduceIte, ↓reduceIte, reduceCtorEq, nA, nS, nM, nB, nE, nL, nT, nN, iL, iT, iE, iA, iM, iS, iG, iB, iN, iZ, h, h2, h3, z, h4, h5, h6, h7, h8, h9, h10, m0, m1, m2, eqv_bytesne, eqv_bytes, requestFault]
    · simp only [go_sem, reduceIte, ↓reduceIte, reduceCtorEq, nA, nS, nM, nB, nE, nL, nT, nN, iL, iT, iE, iA, iM, iS, iG, iB, iN, iZ, h, h2, h3, z, h4, h5, h6, h7, h8, m0, m1, m2, eqv_bytesne, eqv_bytes, requestFault]) (rfl)
def within (a b c : Int) : Bool := decide (b ≤ a) && decide (a ≤ c)
theorem within_t {a b c : Int} : within a b c = true ↔ b ≤ a ∧ a ≤ c := by simp [within]
theorem within_f {a b c : Int} : within a b c = false ↔ ¬ (b ≤ a ∧ a ≤ c) := by rw [← within_t]; simp
noncomputable def s86 : SP Tryz.prog := mkS tyA 86 Tryz.f86 [] { md := [.ro 1, .ro 1, .ro 1], rets := some ([6], []) } Tryz.func86 (by kernel_rfl)
@[go_sem] theorem d86 : s86.g = 86 ∧ s86.fs = ⟨[.ro 1, .ro 1, .ro 1], s86.F, false⟩ := ⟨nr rfl, nr rfl⟩
@[go_sem] theorem e86 (a : Int) (b : Int) (c : Int) : s86.F [.i .i64 a, .i .i64 b, .i .i64 c] = some (.b (within a b c), [.u, .u, .u]) := mkS_eq (0) rfl rfl (fun cx h => by
  simp only [go_sem, reduceIte, ↓reduceIte, reduceCtorEq, nA, nS, nM, nB, nE, nL, nT, nN, iL, iT, iE, iA, iM, iS, iG, iB, iN, iZ, h, within]
  by_cases h : b ≤ a <;> simp [h]) (rfl)
def isTime (a : Int) : Bool := within a 0 1000000000000000
theorem isTime_t {a : Int} : isTime a = true ↔ 0 ≤ a ∧ a ≤ 1000000000000000 := within_t
noncomputable def s85 : SP Tryz.prog := mkS tyA 85 Tryz.f85 [s86] { md := [.ro 1], rets := some ([2], []) } Tryz.func85 (by kernel_rfl)
@[go_sem] theorem d85 : s85.g = 85 ∧ s85.fs = ⟨[.ro 1], s85.F, false⟩ := ⟨nr rfl, nr rfl⟩
@[go_sem] theorem e85 (a : Int) : s85.F [.i .i64 a] = some (.b (isTime a), [.u]) := mkS_eq (0) rfl rfl (fun cx h => by
  simp only [go_sem, reduceIte, ↓reduceIte, reduceCtorEq, nA, nS, nM, nB, nE, nL, nT, nN, iL, iT, iE, iA, iM, iS, iG, iB, iN, iZ, h, isTime]) (rfl)
def isReqW (w : Waiter) : Bool := isTime w.Req && isTime w.Due
def namesCode (xs : List ByteArray) : Int := if 4 < (xs.length : Int) then 2 else if (xs.any fun x => !isWord x) = true then 5 else 0
theorem any_not {α : Type} (p : α → Bool) : ∀ xs : List α, (xs.any fun x => !p x) = !xs.all p
  | [] => rfl
  | x :: xs => by rw [List.any_cons, List.all_cons, any_not p xs]; cases p x <;> rfl
def isKey (t : ByteArray) : Bool := decide (1 ≤ (t.size : Int)) && decide ((t.size : Int) ≤ 500)
noncomputable def flightFault (f : Flight) : Int :=
  if (isTime f.Id && isTime f.Due) = false then 3 else if isKey f.Key = false then 2 else if (requestFault f.Get != 0) = true then requestFault f.Get else if (!f.Out && f.Due != 0) = true then 8
  else if 10 < (f.Waiters.length : Int) then 2 else if (f.Waiters.any fun x => !isReqW x) = true then 3 else if tw [] f.Waiters = true then 6 else 0
theorem flightFault_ok {f : Flight} (h : flightFault f = 0) : f.Waiters.length ≤ 10 := by
  unfold flightFault at h
  split at h
  · cases h
  split at h
  · cases h
  split at h
  · rename_i hc; rw [h] at hc; cases hc
  split at h
  · cases h
  split at h
  · cases h
  omega
noncomputable def s59 : SP Tryz.prog := mkS tyA 59 Tryz.f59 [s60, s66, s85] { md := [.ro 1], rg := [(0, [1], [1]), (1, [1, 14], [1]), (2, [2], []), (3, [1, 24], [1]), (4, [2], []), (5, [1, 3], [1]), (6, [1, 3, 29], [1]), (7, [2], []), (8, [1, 38], [1]), (9, [2], []), (10, [1, 42], [1]), (11, [2], []), (12, [1, 4], [1]), (13, [1, 4, 47], [1]), (14, [1, 4], [1]), (15, [1, 4, 67], [1]), (16, [2], []), (17, [70], []), (18, [2], []), (19, [2], [])], lv := [(0, [1, 4], [1])], out := [(0, [1], [1])], rets := some ([2], []) } Tryz.func59 (by kernel_rfl)
@[go_sem] theorem d59 : s59.g = 59 ∧ s59.fs = ⟨[.ro 1], s59.F, false⟩ := ⟨nr rfl, nr rfl⟩
@[go_sem] theorem e59 (fId : Int) (fKey : ByteArray) (fBack : Bool) (fOut : Bool) (fDue : Int) (fDoomed : Bool) (fGetMethod : ByteArray) (fGetHost : ByteArray) (fGetPath : ByteArray) (fGetHeaders : List Header) (fWaiters : List Waiter) (h0 : smL smHeader (Flight.mk fId fKey fBack fOut fDue fDoomed (Request.mk fGetMethod fGetHost fGetPath fGetHeaders) fWaiters).Get.Headers) : s59.F [.agg [.i .i64 fId, .s fKey, .b fBack, .b fOut, .i .i64 fDue, .b fDoomed, .s fGetMethod, .s fGetHost, .s fGetPath, .sl .ro 2 (fGetHeaders.map (rHeader .ro)), .sl .ro 4 (fWaiters.map (rWaiter .ro))]] = some (.i .i64 (flightFault (Flight.mk fId fKey fBack fOut fDue fDoomed (Request.mk fGetMethod fGetHost fGetPath fGetHeaders) fWaiters)), [.u]) := mkS_eq (fWaiters.length + 1) rfl rfl (fun cx h => by
  have hH : smL smHeader fGetHeaders := h0
  cases t1 : isTime fId
  · simp only [go_sem, reduceIte, ↓reduceIte, reduceCtorEq, nA, nS, nM, nB, nE, nL, nT, nN, iL, iT, iE, iA, iM, iS, iG, iB, iN, iZ, h, t1, flightFault]
  cases t2 : isTime fDue
  · simp only [go_sem, reduceIte, ↓reduceIte, reduceCtorEq, nA, nS, nM, nB, nE, nL, nT, nN, iL, iT, iE, iA, iM, iS, iG, iB, iN, iZ, h, t1, t2, flightFault]
  have hku : isKey fKey = (decide (1 ≤ (fKey.size : Int)) && decide ((fKey.size : Int) ≤ 500)) := rfl
  by_cases k1 : (fKey.size : Int) < 1
  · have hk : isKey fKey = false := by rw [hku]; simp; omega
    simp only [go_sem, reduceIte, ↓reduceIte, reduceCtorEq, nA, nS, nM, nB, nE, nL, nT, nN, iL, iT, iE, iA, iM, iS, iG, iB, iN, iZ, h, t1, t2, k1, hk, flightFault]
  by_cases k2 : 500 < (fKey.size : Int)
  · have hk : isKey fKey = false := by rw [hku]; simp; omega
    simp only [go_sem, reduceIte, ↓reduceIte, reduceCtorEq, nA, nS, nM, nB, nE, nL, nT, nN, iL, iT, iE, iA, iM, iS, iG, iB, iN, iZ, h, t1, t2, k1, k2, hk, flightFault]
  have hk : isKey fKey = true := by rw [hku]; simp; omega
  by_cases z : requestFault (Request.mk fGetMethod fGetHost fGetPath fGetHeaders) = 0
  rotate_left
  · have z' : (requestFault (Request.mk fGetMethod fGetHost fGetPath fGetHeaders) != 0) = true := by simpa using z
    simp only [go_sem, reduceIte, ↓reduceIte, reduceCtorEq, nA, nS, nM, nB, nE, nL, nT, nN, iL, iT, iE, iA, iM, iS, iG, iB, iN, iZ, h, t1, t2, k1, k2, hk, hH, z', flightFault]
  rcases (show (fOut = true ∧ True) ∨ (fOut = false ∧ (fDue != 0) = false) ∨ (fOut = false ∧ (fDue != 0) = true) from by cases fOut <;> cases (fDue != 0) <;> simp) with ⟨o1, o2⟩ | ⟨o1, o2⟩ | ⟨o1, o2⟩
  rotate_left
  rotate_left
  · simp only [go_sem, reduceIte, ↓reduceIte, reduceCtorEq, nA, nS, nM, nB, nE, nL, nT, nN, iL, iT, iE, iA, iM, iS, iG, iB, iN, iZ, h, t1, t2, k1, k2, hk, hH, z, o1, o2, flightFault]
  all_goals
    by_cases w1 : 10 < (fWaiters.length : Int)
    · simp only [go_sem, reduceIte, ↓reduceIte, reduceCtorEq, nA, nS, nM, nB, nE, nL, nT, nN, iL, iT, iE, iA, iM, iS, iG, iB, iN, iZ, h, t1, t2, k1, k2, hk, hH, z, o1, o2, w1, flightFault]
    have hx : fWaiters.length ≤ 9223372036854775806 := by omega
    have hb0 := loopN_eq Tryz.f59 0 _ _ rfl rfl
    obtain ⟨r, hr, hq⟩ := loop_list (cx := cx) (blk := 0) (body := loopN Tryz.f59 0) fWaiters (fun k (s : Unit) => ⟨E [(1, .p ⟨false, 1, [], 0⟩), (4, .i .i64 k)], B [(1, [.i .i64 fId, .s fKey, .b fBack, .b fOut, .i .i64 fDue, .b fDoomed, .s fGetMethod, .s fGetHost, .s fGetPath, .sl .ro 2 (fGetHeaders.map (rHeader .ro)), .sl .ro 4 (fWaiters.map (rWaiter .ro))])]⟩) (fun s => ⟨E [(1, .p ⟨false, 1, [], 0⟩)], B [(1, [.i .i64 fId, .s fKey, .b fBack, .b fOut, .i .i64 fDue, .b fDoomed, .s fGetMethod, .s fGetHost, .s fGetPath, .sl .ro 2 (fGetHeaders.map (rHeader .ro)), .sl .ro 4 (fWaiters.map (rWaiter .ro))])]⟩) (fun x s => !isReqW x) (fun x s => ()) (fun x s => (.ret, ⟨E [(2, .i .i64 3)], B []⟩)) (fun k s => True)
        (fun s hI G => by simp only [go_sem, reduceIte, ↓reduceIte, reduceCtorEq, nA, nS, nM, nB, nE, nL, nT, nN, iL, iT, iE, iA, iM, iS, iG, iB, iN, iZ, h, Int.lt_irrefl, hb0, hx, o1]) (fun k hk s hI => by
          have h1 : ((k : Int) < (fWaiters.length : Int)) := Int.ofNat_lt.2 hk
          have hu : isReqW fWaiters[k] = (isTime fWaiters[k].Req && isTime fWaiters[k].Due) := rfl
          by_cases c0 : isReqW fWaiters[k] = true
          · skip
            have c2 := c0
            rw [hu, Bool.and_eq_true] at c2
            obtain ⟨a1, a2⟩ := c2
            all_goals exact .inr ⟨by rw [c0]; rfl, trivial, _, fun G => by simp only [go_sem, reduceIte, ↓reduceIte, reduceCtorEq, nA, nS, nM, nB, nE, nL, nT, nN, iL, iT, iE, iA, iM, iS, iG, iB, iN, iZ, h, map_gd (rWaiter .ro) fWaiters _ hk, o1, a1, a2, h1, idx_nt _ _ hk, wrap_nat1 (show k < 9223372036854775807 by omega), hb0] <;> with_reducible rfl, by simp only [go_sem, reduceIte, ↓reduceIte, reduceCtorEq, nA, nS, nM, nB, nE, nL, nT, nN, iL, iT, iE, iA, iM, iS, iG, iB, iN, iZ, h, o1]⟩
          · have c1 : isReqW fWaiters[k] = false := by simpa using c0
            have c2 := c1
            rw [hu] at c2
            rcases (show (isTime fWaiters[k].Req = false ∧ True) ∨ (isTime fWaiters[k].Req = true ∧ isTime fWaiters[k].Due = false) from by cases h3 : isTime fWaiters[k].Req <;> simp [h3] at c2 ⊢; exact c2) with ⟨a1, a2⟩ | ⟨a1, a2⟩
            all_goals exact .inl ⟨by rw [c1]; rfl, fun G => by simp only [go_sem, reduceIte, ↓reduceIte, reduceCtorEq, nA, nS, nM, nB, nE, nL, nT, nN, iL, iT, iE, iA, iM, iS, iG, iB, iN, iZ, h, map_gd (rWaiter .ro) fWaiters _ hk, o1, a1, a2, h1, idx_nt _ _ hk, wrap_nat1 (show k < 9223372036854775807 by omega), hb0]⟩) () trivial (fWaiters.length + 1) (Nat.le_refl _)
    rw [hb0] at hr
    simp only [o1] at hr
    have hn := any_not isReqW fWaiters
    rcases hq with ⟨s', e1, _, e3⟩ | ⟨x, s', e1, e3⟩
    · have e2 := runS_all e1
      cases w3 : tw [] fWaiters <;> simp only [go_sem, reduceIte, ↓reduceIte, reduceCtorEq, nA, nS, nM, nB, nE, nL, nT, nN, iL, iT, iE, iA, iM, iS, iG, iB, iN, iZ, h, t1, t2, k1, k2, hk, hH, z, o1, o2, w1, hx, hr, e3, hn, e2, w3, flightFault]
    · have e2 := runS_all' e1
      simp only [go_sem, reduceIte, ↓reduceIte, reduceCtorEq, nA, nS, nM, nB, nE, nL, nT, nN, iL, iT, iE, iA, iM, iS, iG, iB, iN, iZ, h, t1, t2, k1, k2, hk, hH, z, o1, o2, w1, hx, hr, e3, hn, e2, flightFault]) (rfl)
noncomputable def s146 : SP Tryz.prog := mkS tyA 146 Tryz.f146 [] { md := [.ro 1], rets := some ([2], []) } Tryz.func146 (by kernel_rfl)
@[go_sem] theorem d146 : s146.g = 146 ∧ s146.fs = ⟨[.ro 1], s146.F, false⟩ := ⟨nr rfl, nr rfl⟩
@[go_sem] theorem e146 (xs : List Header) (h0 : smL smHeader xs) : s146.F [.sl .ro 2 (xs.map (rHeader .ro))] = some (.sl .mut 2 (xs.map (rHeader .mut)), [.u]) := mkS_eq (0) rfl rfl (fun cx h => by
  have h1 : (xs.map (rHeader .ro)).all (·.all plain) = true := by simp [rHeader, plain]
  have h2 : xs.length * 32 ≤ 140737488355328 := by have := h0.1; omega
  have h3 : xs.map (rHeader .ro) = xs.map (rHeader .mut) := rfl
  simp only [go_sem, reduceIte, ↓reduceIte, reduceCtorEq, nA, nS, nM, nB, nE, nL, nT, nN, iL, iT, iE, iA, iM, iS, iG, iB, iN, iZ, h, h1, h2]
  rw [h3]) (by simp only [go_sem, reduceIte, ↓reduceIte, reduceCtorEq, nA, nS, nM, nB, nE, nL, nT, nN, iL, iT, iE, iA, iM, iS, iG, iB, iN, iZ, okRes, hasRo])
noncomputable def s118 : SP Tryz.prog := mkS tyA 118 Tryz.f118 [s146] { md := [.ro 1], rg := [(0, [0, 2], [2, 3]), (1, [0, 2, 3], [2, 3]), (2, [2, 3], [2, 3]), (3, [2], [2, 3])], rets := some ([2], [2, 3]) } Tryz.func118 (by kernel_rfl)
@[go_sem] theorem d118 : s118.g = 118 ∧ s118.fs = ⟨[.ro 1], s118.F, false⟩ := ⟨nr rfl, nr rfl⟩
@[go_sem] theorem e118 (rMethod : ByteArray) (rHost : ByteArray) (rPath : ByteArray) (rHeaders : List Header) (h0 : smL smHeader (Request.mk rMethod rHost rPath rHeaders).Headers) : s118.F [.pr [.s rMethod, .s rHost, .s rPath, .sl .ro 2 (rHeaders.map (rHeader .ro))]] = some (.agg (rRequest .mut (Request.mk rMethod rHost rPath rHeaders)), [.u]) := mkS_eq (0) rfl rfl (fun cx h => by
  simp only [go_sem, reduceIte, ↓reduceIte, reduceCtorEq, nA, nS, nM, nB, nE, nL, nT, nN, iL, iT, iE, iA, iM, iS, iG, iB, iN, iZ, h, h0]) (by simp only [go_sem, reduceIte, ↓reduceIte, reduceCtorEq, nA, nS, nM, nB, nE, nL, nT, nN, iL, iT, iE, iA, iM, iS, iG, iB, iN, iZ, okRes, hasRo, hasRoL, hasRoLL])
@[go_sem] theorem e118_w (rMethod rHost rPath : ByteArray) (rHeaders : List Header) (ws : List Waiter) (h0 : smL smHeader rHeaders) : s118.F [.pr [.s rMethod, .s rHost, .s rPath, .sl .ro 2 (rHeaders.map (rHeader .ro)), .sl .ro 4 (ws.map (rWaiter .ro))]] = some (.agg (rRequest .mut (Request.mk rMethod rHost rPath rHeaders)), [.u]) := mkS_eq (0) rfl rfl (fun cx h => by
  simp only [go_sem, reduceIte, ↓reduceIte, reduceCtorEq, nA, nS, nM, nB, nE, nL, nT, nN, iL, iT, iE, iA, iM, iS, iG, iB, iN, iZ, h, h0]) (by simp only [go_sem, reduceIte, ↓reduceIte, reduceCtorEq, nA, nS, nM, nB, nE, nL, nT, nN, iL, iT, iE, iA, iM, iS, iG, iB, iN, iZ, okRes, hasRo, hasRoL, hasRoLL])
noncomputable def s88 : SP Tryz.prog := mkS tyA 88 Tryz.f88 [s118] { md := [.ro 1], rg := [(0, [0, 2], [2, 3]), (1, [0, 2, 3], [2, 3]), (2, [0, 2, 3], [2, 3]), (3, [2, 3], [2, 3]), (4, [2], [2, 3])], rets := some ([2], [2, 3]) } Tryz.func88 (by kernel_rfl)
@[go_sem] theorem d88 : s88.g = 88 ∧ s88.fs = ⟨[.ro 1], s88.F, false⟩ := ⟨nr rfl, nr rfl⟩
@[go_sem] theorem e88 (fId : Int) (fKey : ByteArray) (fBack : Bool) (fOut : Bool) (fDue : Int) (fDoomed : Bool) (fGetMethod : ByteArray) (fGetHost : ByteArray) (fGetPath : ByteArray) (fGetHeaders : List Header) (fWaiters : List Waiter) (h0 : (smL smHeader (Flight.mk fId fKey fBack fOut fDue fDoomed (Request.mk fGetMethod fGetHost fGetPath fGetHeaders) fWaiters).Get.Headers ∧ smL smWaiter (Flight.mk fId fKey fBack fOut fDue fDoomed (Request.mk fGetMethod fGetHost fGetPath fGetHeaders) fWaiters).Waiters)) : s88.F [.pr [.i .i64 fId, .s fKey, .b fBack, .b fOut, .i .i64 fDue, .b fDoomed, .s fGetMethod, .s fGetHost, .s fGetPath, .sl .ro 2 (fGetHeaders.map (rHeader .ro)), .sl .ro 4 (fWaiters.map (rWaiter .ro))]] = some (.agg (rFlight .mut (Flight.mk fId fKey fBack fOut fDue fDoomed (Request.mk fGetMethod fGetHost fGetPath fGetHeaders) fWaiters)), [.u]) := mkS_eq (0) rfl rfl (fun cx h => by
  have h1 : (fWaiters.map (rWaiter .ro)).all (·.all plain) = true := by simp [rWaiter, plain]
  have h2 : fWaiters.length * 32 ≤ 140737488355328 := by have := h0.2.1; simp only at this; omega
  have h3 : fWaiters.map (rWaiter .ro) = fWaiters.map (rWaiter .mut) := rfl
  have h4 := h0.1
  simp only [go_sem, reduceIte, ↓reduceIte, reduceCtorEq, nA, nS, nM, nB, nE, nL, nT, nN, iL, iT, iE, iA, iM, iS, iG, iB, iN, iZ, h, h1, h2, h4]
  rw [h3]) (by simp only [go_sem, reduceIte, ↓reduceIte, reduceCtorEq, nA, nS, nM, nB, nE, nL, nT, nN, iL, iT, iE, iA, iM, iS, iG, iB, iN, iZ, okRes, hasRo, hasRoL, hasRoLL])
def noFlight : Flight := ⟨0, ⟨#[]⟩, false, false, 0, false, ⟨⟨#[]⟩, ⟨#[]⟩, ⟨#[]⟩, []⟩, []⟩
def flightWith (f : Flight) (ws : List Waiter) : Flight := ⟨f.Id, f.Key, f.Back, f.Out, f.Due, f.Doomed, f.Get, ws⟩
noncomputable def joinFlight (f : Flight) (w : Waiter) (room : Int) : FlightResult :=
  if (flightFault f != 0) = true then ⟨flightFault f, noFlight⟩ else if (isReqW w && within room 1 10) = false then ⟨3, noFlight⟩
  else if (f.Waiters.any fun x => x.Req == w.Req) = true then ⟨6, noFlight⟩ else if room ≤ (f.Waiters.length : Int) then ⟨7, noFlight⟩ else ⟨0, flightWith f (f.Waiters ++ [w])⟩
theorem smL_waiters {ws : List Waiter} (h : ws.length ≤ 1048576) : smL smWaiter ws := ⟨h, fun x _ => sm_trivWaiter x⟩
theorem noFlight_sm : smFlight noFlight := ⟨trivial, Nat.zero_le _, trivial, trivial, trivial, trivial, ⟨Nat.zero_le _, Nat.zero_le _, Nat.zero_le _, Nat.zero_le _, fun x hx => by cases hx⟩, smL_waiters (Nat.zero_le _)⟩
theorem flightWith_sm {f : Flight} {ws : List Waiter} (h : smFlight f) (hw : ws.length ≤ 1048576) : smFlight (flightWith f ws) := by
  obtain ⟨h0, h1, h2, h3, h4, h5, h6, h7⟩ := h
  exact ⟨h0, h1, h2, h3, h4, h5, h6, smL_waiters hw⟩
theorem joinFlight_sm (f : Flight) (w : Waiter) (room : Int) (h : smFlight f) : smFlightResult (joinFlight f w room) := by
  unfold joinFlight
  by_cases hz : (flightFault f != 0) = true
  · rw [if_pos hz]; exact ⟨trivial, noFlight_sm⟩
  rw [if_neg hz]
  have hl := flightFault_ok (by simpa using hz : flightFault f = 0)
  repeat' split
  all_goals first | exact ⟨trivial, noFlight_sm⟩ | exact ⟨trivial, flightWith_sm h (by simp; omega)⟩
def goneW (now : Int) (ws : List Waiter) : List Waiter := ws.filter fun x => decide (x.Due ≤ now)
def leftW (now : Int) (ws : List Waiter) : List Waiter := ws.filter fun x => !decide (x.Due ≤ now)
def expStep (now : Int) (s : List Waiter × List Waiter) (x : Waiter) : List Waiter × List Waiter := if x.Due ≤ now then (s.1 ++ [x], s.2) else (s.1, s.2 ++ [x])
theorem expFold (now : Int) : ∀ (ws : List Waiter) (s : List Waiter × List Waiter), ws.foldl (fun s x => expStep now s x) s = (s.1 ++ goneW now ws, s.2 ++ leftW now ws)
  | [], s => by simp [goneW, leftW]
  | x :: ws, s => by
    rw [List.foldl_cons, expFold now ws]
    unfold expStep goneW leftW
    by_cases h : x.Due ≤ now <;> simp [h]
theorem goneW_len (now : Int) (ws : List Waiter) : (goneW now ws).length ≤ ws.length := List.length_filter_le _ _
theorem leftW_len (now : Int) (ws : List Waiter) : (leftW now ws).length ≤ ws.length := List.length_filter_le _ _
noncomputable def expireWaiters (f : Flight) (now : Int) : WaitersResult :=
  if (flightFault f != 0) = true then ⟨flightFault f, noFlight, []⟩ else if isTime now = false then ⟨3, noFlight, []⟩ else ⟨0, flightWith f (leftW now f.Waiters), goneW now f.Waiters⟩
theorem expireWaiters_sm (f : Flight) (now : Int) (h : smFlight f) : smWaitersResult (expireWaiters f now) := by
  unfold expireWaiters
  by_cases hz : (flightFault f != 0) = true
  · rw [if_pos hz]; exact ⟨trivial, noFlight_sm, smL_waiters (Nat.zero_le _)⟩
  rw [if_neg hz]
  have hl := flightFault_ok (by simpa using hz : flightFault f = 0)
  have h1 := goneW_len now f.Waiters
  have h2 := leftW_len now f.Waiters
  split
  · exact ⟨trivial, noFlight_sm, smL_waiters (Nat.zero_le _)⟩
  · exact ⟨trivial, flightWith_sm h (by omega), smL_waiters (show (goneW now f.Waiters).length ≤ 1048576 by omega)⟩
noncomputable def s97 : SP Tryz.prog := mkS tyA 97 Tryz.f97 [] { md := [.rw 11, .ro 1], rg := [(0, [0, 1, 5], [0]), (1, [0, 1, 5], [0]), (2, [0, 1, 5, 6], [0]), (3, [0, 1, 5, 6, 7], [0]), (4, [0, 1, 5, 6, 7, 16], [0]), (5, [0, 1, 5, 6, 7], [0]), (6, [0, 1, 5, 6, 7, 28], [0]), (7, [0, 1, 5, 6, 7], [0]), (8, [0, 1, 5, 6, 7], [0]), (9, [0, 5, 6], [0]), (10, [0, 4, 5], [0])], lv := [(0, [0, 1, 5, 6, 7], [0])], out := [(0, [0, 5, 6], [0])], rets := some ([0, 4, 5], [0]) } Tryz.func97 (by kernel_rfl)
@[go_sem] theorem d97 : s97.g = 97 ∧ s97.fs = ⟨[.rw 11, .ro 1], s97.F, false⟩ := ⟨nr rfl, nr rfl⟩
@[go_sem] theorem e97 (fId : Int) (fKey : ByteArray) (fBack : Bool) (fOut : Bool) (fDue : Int) (fDoomed : Bool) (fGetMethod : ByteArray) (fGetHost : ByteArray) (fGetPath : ByteArray) (fGetHeaders : List Header) (fWaiters : List Waiter) (now : Int) (h0 : fWaiters.length ≤ 10) : s97.F [.agg [.i .i64 fId, .s fKey, .b fBack, .b fOut, .i .i64 fDue, .b fDoomed, .s fGetMethod, .s fGetHost, .s fGetPath, .sl .mut 2 (fGetHeaders.map (rHeader .mut)), .sl .mut 4 (fWaiters.map (rWaiter .mut))], .i .i64 now] = some (.sl .mut 4 ((goneW now fWaiters).map (rWaiter .mut)), [.agg (rFlight .mut (flightWith (Flight.mk fId fKey fBack fOut fDue fDoomed (Request.mk fGetMethod fGetHost fGetPath fGetHeaders) fWaiters) (leftW now fWaiters))), .u]) := mkS_eq (fWaiters.length + 1) rfl rfl (fun cx h => by
  have hx : fWaiters.length ≤ 9223372036854775806 := by omega
  have hb0 := loopN_eq Tryz.f97 0 _ _ rfl rfl
  obtain ⟨hI, hr⟩ := loop_fold (cx := cx) (blk := 0) (body := loopN Tryz.f97 0) fWaiters (fun k (s : List Waiter × List Waiter) => ⟨E [(0, .p ⟨false, 0, [], 0⟩), (1, .i .i64 now), (5, .sl .mut 4 (s.2.map (rWaiter .mut))), (6, .sl .mut 4 (s.1.map (rWaiter .mut))), (7, .i .i64 k)], B [(0, [.i .i64 fId, .s fKey, .b fBack, .b fOut, .i .i64 fDue, .b fDoomed, .s fGetMethod, .s fGetHost, .s fGetPath, .sl .mut 2 (fGetHeaders.map (rHeader .mut)), .sl .mut 4 (fWaiters.map (rWaiter .mut))])]⟩) (fun s => ⟨E [(0, .p ⟨false, 0, [], 0⟩), (5, .sl .mut 4 (s.2.map (rWaiter .mut))), (6, .sl .mut 4 (s.1.map (rWaiter .mut)))], B [(0, [.i .i64 fId, .s fKey, .b fBack, .b fOut, .i .i64 fDue, .b fDoomed, .s fGetMethod, .s fGetHost, .s fGetPath, .sl .mut 2 (fGetHeaders.map (rHeader .mut)), .sl .mut 4 (fWaiters.map (rWaiter .mut))])]⟩) (fun x s => expStep now s x) (fun k s => (s.1.length ≤ k ∧ s.2.length ≤ k))
      (fun s hI G => by simp only [go_sem, reduceIte, ↓reduceIte, reduceCtorEq, nA, nS, nM, nB, nE, nL, nT, nN, iL, iT, iE, iA, iM, iS, iG, iB, iN, iZ, h, Int.lt_irrefl, hb0, hx, List.length_map]) (fun k hk s hI => by
        have h1 : ((k : Int) < (fWaiters.length : Int)) := Int.ofNat_lt.2 hk
        obtain ⟨j1, j2⟩ := hI
        have hJ : (expStep now s fWaiters[k]).1.length ≤ k + 1 ∧ (expStep now s fWaiters[k]).2.length ≤ k + 1 := by unfold expStep; split <;> simp <;> omega
        have t1 : (s.1.length + 1) * 32 ≤ 140737488355328 := by omega
        have t2 : (s.2.length + 1) * 32 ≤ 140737488355328 := by omega
        have t3 : s.1.map (rWaiter .mut) ++ [[.i .i64 fWaiters[k].Req, .b fWaiters[k].Head, .i .i64 fWaiters[k].Due, .b fWaiters[k].Late]] = (s.1 ++ [fWaiters[k]]).map (rWaiter .mut) := by simp [rWaiter]
        have t4 : s.2.map (rWaiter .mut) ++ [[.i .i64 fWaiters[k].Req, .b fWaiters[k].Head, .i .i64 fWaiters[k].Due, .b fWaiters[k].Late]] = (s.2 ++ [fWaiters[k]]).map (rWaiter .mut) := by simp [rWaiter]
        have hu : expStep now s fWaiters[k] = if fWaiters[k].Due ≤ now then (s.1 ++ [fWaiters[k]], s.2) else (s.1, s.2 ++ [fWaiters[k]]) := rfl
        by_cases d1 : fWaiters[k].Due ≤ now
        all_goals exact ⟨hJ, _, fun G => by simp only [go_sem, reduceIte, ↓reduceIte, reduceCtorEq, nA, nS, nM, nB, nE, nL, nT, nN, iL, iT, iE, iA, iM, iS, iG, iB, iN, iZ, h, t1, t2, t3, t4, d1, map_gd (rWaiter .mut) fWaiters k hk, gd_map (rWaiter .mut) fWaiters k hk, List.length_map, h1, idx_nt _ _ hk, wrap_nat1 (show k < 9223372036854775807 by omega), hb0] <;> with_reducible rfl, by simp only [go_sem, reduceIte, ↓reduceIte, reduceCtorEq, nA, nS, nM, nB, nE, nL, nT, nN, iL, iT, iE, iA, iM, iS, iG, iB, iN, iZ, h, hu, d1]⟩) ([], []) ⟨Nat.le_refl _, Nat.le_refl _⟩ (fWaiters.length + 1) (Nat.le_refl _)
  rw [hb0] at hr
  rw [expFold] at hr
  simp only [List.nil_append] at hr
  simp only [go_sem, reduceIte, ↓reduceIte, reduceCtorEq, nA, nS, nM, nB, nE, nL, nT, nN, iL, iT, iE, iA, iM, iS, iG, iB, iN, iZ, h, hr, flightWith, hx, List.length_map]) (by simp only [go_sem, reduceIte, ↓reduceIte, reduceCtorEq, nA, nS, nM, nB, nE, nL, nT, nN, iL, iT, iE, iA, iM, iS, iG, iB, iN, iZ, okRes, hasRo, hasRoL, hasRoLL, flightWith])
noncomputable def s40 : SP Tryz.prog := mkS tyA 40 Tryz.f40 [s59, s85, s88, s97] { md := [.ro 1, .ro 1], rg := [(0, [1, 2, 4, 7, 21, 22], [2, 4, 6]), (1, [1, 2, 4, 5, 7, 21, 22], [2, 4, 6]), (2, [1, 2, 4, 5, 7, 11, 21, 22], [2, 4, 6]), (3, [4, 7, 21, 22], [4, 6]), (4, [1, 2, 4, 7, 16, 21, 22], [2, 4, 6]), (5, [4, 7, 21, 22], [4, 6]), (6, [1, 4, 6, 7, 21, 22], [4, 6]), (7, [4, 6, 7, 21, 22], [4, 6]), (8, [4, 7, 21, 22], [4, 6])], rets := some ([4, 7, 21, 22], [4, 6]) } Tryz.func40 (by kernel_rfl)
@[go_sem] theorem d40 : s40.g = 40 ∧ s40.fs = ⟨[.ro 1, .ro 1], s40.F, false⟩ := ⟨nr rfl, nr rfl⟩
@[go_sem] theorem e40 (fId : Int) (fKey : ByteArray) (fBack : Bool) (fOut : Bool) (fDue : Int) (fDoomed : Bool) (fGetMethod : ByteArray) (fGetHost : ByteArray) (fGetPath : ByteArray) (fGetHeaders : List Header) (fWaiters : List Waiter) (now : Int) (h0 : smFlight (Flight.mk fId fKey fBack fOut fDue fDoomed (Request.mk fGetMethod fGetHost fGetPath fGetHeaders) fWaiters)) : s40.F [.agg [.i .i64 fId, .s fKey, .b fBack, .b fOut, .i .i64 fDue, .b fDoomed, .s fGetMethod, .s fGetHost, .s fGetPath, .sl .ro 2 (fGetHeaders.map (rHeader .ro)), .sl .ro 4 (fWaiters.map (rWaiter .ro))], .i .i64 now] = some (.agg (rWaitersResult .mut (expireWaiters (Flight.mk fId fKey fBack fOut fDue fDoomed (Request.mk fGetMethod fGetHost fGetPath fGetHeaders) fWaiters) now)), [.u, .u]) := mkS_eq (0) rfl rfl (fun cx h => by
  obtain ⟨u0, u1, u2, u3, u4, u5, u6, u7⟩ := h0
  have hH : smL smHeader fGetHeaders := u6.2.2.2
  by_cases z : flightFault (Flight.mk fId fKey fBack fOut fDue fDoomed (Request.mk fGetMethod fGetHost fGetPath fGetHeaders) fWaiters) = 0
  rotate_left
  · have z' : (flightFault (Flight.mk fId fKey fBack fOut fDue fDoomed (Request.mk fGetMethod fGetHost fGetPath fGetHeaders) fWaiters) != 0) = true := by simpa using z
    simp only [go_sem, reduceIte, ↓reduceIte, reduceCtorEq, nA, nS, nM, nB, nE, nL, nT, nN, iL, iT, iE, iA, iM, iS, iG, iB, iN, iZ, h, hH, z', expireWaiters, noFlight]
  have hl : fWaiters.length ≤ 10 := flightFault_ok z
  cases t1 : isTime now
  · simp only [go_sem, reduceIte, ↓reduceIte, reduceCtorEq, nA, nS, nM, nB, nE, nL, nT, nN, iL, iT, iE, iA, iM, iS, iG, iB, iN, iZ, h, hH, z, t1, expireWaiters, noFlight]
  simp only [go_sem, reduceIte, ↓reduceIte, reduceCtorEq, nA, nS, nM, nB, nE, nL, nT, nN, iL, iT, iE, iA, iM, iS, iG, iB, iN, iZ, h, hH, z, t1, u7, hl, expireWaiters, flightWith]) (by simp only [go_sem, reduceIte, ↓reduceIte, reduceCtorEq, nA, nS, nM, nB, nE, nL, nT, nN, iL, iT, iE, iA, iM, iS, iG, iB, iN, iZ, okRes, hasRo, hasRoL, hasRoLL])
noncomputable def s133 : SP Tryz.prog := mkS tyA 133 Tryz.f133 [] { md := [.ro 1, .ro 1], rets := some ([3], []) } Tryz.func133 (by kernel_rfl)
@[go_sem] theorem d133 : s133.g = 133 ∧ s133.fs = ⟨[.ro 1, .ro 1], s133.F, false⟩ := ⟨nr rfl, nr rfl⟩
@[go_sem] theorem e133 (wReq : Int) (wHead : Bool) (wDue : Int) (wLate : Bool) (req : Int) : s133.F [.agg [.i .i64 wReq, .b wHead, .i .i64 wDue, .b wLate], .pr [.i .i64 req]] = some (.b ((Waiter.mk wReq wHead wDue wLate).Req == req), [.u, .u]) := mkS_eq (0) rfl rfl (fun cx h => by
  simp only [go_sem, reduceIte, ↓reduceIte, reduceCtorEq, nA, nS, nM, nB, nE, nL, nT, nN, iL, iT, iE, iA, iM, iS, iG, iB, iN, iZ, h]) (rfl)
noncomputable def s91 : SP Tryz.prog := mkS tyA 91 Tryz.f91 [] { md := [.ro 1, .ro 1, .ro 1], rets := some ([6], []) } Tryz.func91 (by kernel_rfl)
@[go_sem] theorem d91 : s91.g = 91 ∧ s91.fs = ⟨[.ro 1, .ro 1, .ro 1], s91.F, false⟩ := ⟨nr rfl, nr rfl⟩
@[go_sem] theorem e91 (a : Int) (b : Int) (c : Int) : s91.F [.i .i64 a, .i .i64 b, .i .i64 c] = some (.b (within a b c), [.u, .u, .u]) := mkS_eq (0) rfl rfl (fun cx h => by
  simp only [go_sem, reduceIte, ↓reduceIte, reduceCtorEq, nA, nS, nM, nB, nE, nL, nT, nN, iL, iT, iE, iA, iM, iS, iG, iB, iN, iZ, h, within]
  by_cases h : b ≤ a <;> simp [h]) (rfl)
noncomputable def s98 : SP Tryz.prog := mkS tyA 98 Tryz.f98 [s91] { md := [.ro 1], rets := some ([2], []) } Tryz.func98 (by kernel_rfl)
@[go_sem] theorem d98 : s98.g = 98 ∧ s98.fs = ⟨[.ro 1], s98.F, false⟩ := ⟨nr rfl, nr rfl⟩
@[go_sem] theorem e98 (a : Int) : s98.F [.i .i64 a] = some (.b (isTime a), [.u]) := mkS_eq (0) rfl rfl (fun cx h => by
  simp only [go_sem, reduceIte, ↓reduceIte, reduceCtorEq, nA, nS, nM, nB, nE, nL, nT, nN, iL, iT, iE, iA, iM, iS, iG, iB, iN, iZ, h, isTime]) (rfl)
noncomputable def s90 : SP Tryz.prog := mkS tyA 90 Tryz.f90 [s98] { md := [.ro 1], rets := some ([2], []) } Tryz.func90 (by kernel_rfl)
@[go_sem] theorem d90 : s90.g = 90 ∧ s90.fs = ⟨[.ro 1], s90.F, false⟩ := ⟨nr rfl, nr rfl⟩
@[go_sem] theorem e90 (wReq : Int) (wHead : Bool) (wDue : Int) (wLate : Bool) : s90.F [.agg [.i .i64 wReq, .b wHead, .i .i64 wDue, .b wLate]] = some (.b (isReqW (Waiter.mk wReq wHead wDue wLate)), [.u]) := mkS_eq (0) rfl rfl (fun cx h => by
  simp only [go_sem, reduceIte, ↓reduceIte, reduceCtorEq, nA, nS, nM, nB, nE, nL, nT, nN, iL, iT, iE, iA, iM, iS, iG, iB, iN, iZ, h]
  simp only [isReqW]
  cases isTime wReq <;> cases isTime wDue <;> rfl) (rfl)
noncomputable def s109 : SP Tryz.prog := mkS tyA 109 Tryz.f109 [s90] { md := [.ro 1], rets := some ([2], []) } Tryz.func109 (by kernel_rfl)
@[go_sem] theorem d109 : s109.g = 109 ∧ s109.fs = ⟨[.ro 1], s109.F, false⟩ := ⟨nr rfl, nr rfl⟩
@[go_sem] theorem e109 (wReq : Int) (wHead : Bool) (wDue : Int) (wLate : Bool) : s109.F [.agg [.i .i64 wReq, .b wHead, .i .i64 wDue, .b wLate]] = some (.b (!isReqW (Waiter.mk wReq wHead wDue wLate)), [.u]) := mkS_eq (0) rfl rfl (fun cx h => by
  simp only [go_sem, reduceIte, ↓reduceIte, reduceCtorEq, nA, nS, nM, nB, nE, nL, nT, nN, iL, iT, iE, iA, iM, iS, iG, iB, iN, iZ, h]) (rfl)
noncomputable def s139 : SP Tryz.prog := mkS tyA 139 Tryz.f139 [s109, s133] { md := [.ro 1, .ro 1], rg := [(0, [0, 1], []), (1, [0, 1, 7, 8], []), (2, [0, 1, 7, 8, 9], []), (3, [0, 1, 5, 7, 8], []), (4, [0, 1, 5, 7, 8, 16], []), (5, [4], []), (6, [0, 1, 7, 8], []), (7, [4], [])], lv := [(0, [0, 1, 7, 8], [])], out := [(0, [], [])], rets := some ([4], []) } Tryz.func139 (by kernel_rfl)
@[go_sem] theorem d139 : s139.g = 139 ∧ s139.fs = ⟨[.ro 1, .ro 1], s139.F, false⟩ := ⟨nr rfl, nr rfl⟩
@[go_sem] theorem e139_133 (xs : List Waiter) (req : Int) (hb : xs.length ≤ 9223372036854775806) : s139.F [.sl .ro 4 (xs.map (rWaiter .ro)), .fn 133 [.pr [.i .i64 req]]] = some (.i .i64 (idxP (fun x => x.Req == req) xs 0), [.u, .u]) := mkS_eq (xs.length + 1) rfl rfl (fun cx h => by
  have hx := hb
  have hb0 := loopN_eq Tryz.f139 0 _ _ rfl rfl
  obtain ⟨r, hr, hq⟩ := loop_srch (cx := cx) (blk := 0) (body := loopN Tryz.f139 0) xs (fun k (s : Nat) => ⟨E [(0, .sl .ro 4 (xs.map (rWaiter .ro))), (1, .fn 133 [.pr [.i .i64 req]]), (7, .i .i64 xs.length), (8, .i .i64 k)], B []⟩) (fun s => ⟨E [], B []⟩) (fun x s => x.Req == req) (fun x s => s + 1) (fun x s => (.ret, ⟨E [(4, .i .i64 s)], B []⟩)) (fun k s => k = s)
      (fun s hI G => by simp only [go_sem, reduceIte, ↓reduceIte, reduceCtorEq, nA, nS, nM, nB, nE, nL, nT, nN, iL, iT, iE, iA, iM, iS, iG, iB, iN, iZ, h, Int.lt_irrefl, hb0, hI]) (fun k hk s hI => by
        have h1 : ((k : Int) < (xs.length : Int)) := Int.ofNat_lt.2 hk
        obtain rfl := hI
        exact ⟨_, _, _, fun G => by simp only [go_sem, reduceIte, ↓reduceIte, reduceCtorEq, nA, nS, nM, nB, nE, nL, nT, nN, iL, iT, iE, iA, iM, iS, iG, iB, iN, iZ, h, map_gd (rWaiter .ro) xs _ hk, decide_eq_true_eq, h1, idx_nt _ _ hk, wrap_nat1 (show k < 9223372036854775807 by omega), hb0] <;> with_reducible rfl, by first | exact Iff.rfl | simp, fun hc => ⟨rfl, by simp only [go_sem, reduceIte, ↓reduceIte, reduceCtorEq, nA, nS, nM, nB, nE, nL, nT, nN, iL, iT, iE, iA, iM, iS, iG, iB, iN, iZ, h]⟩⟩) 0 rfl (xs.length + 1) (Nat.le_refl _)
  rw [hb0] at hr
  rcases hq with ⟨s', e1, _, e3⟩ | ⟨x, s', e1, e3⟩
  · simp only [go_sem, reduceIte, ↓reduceIte, reduceCtorEq, nA, nS, nM, nB, nE, nL, nT, nN, iL, iT, iE, iA, iM, iS, iG, iB, iN, iZ, h, hr, e3, runS_idx e1]
  · simp only [go_sem, reduceIte, ↓reduceIte, reduceCtorEq, nA, nS, nM, nB, nE, nL, nT, nN, iL, iT, iE, iA, iM, iS, iG, iB, iN, iZ, h, hr, e3, runS_idx' e1]) (rfl)
@[go_sem] theorem e139_109 (xs : List Waiter)  (hb : xs.length ≤ 9223372036854775806) : s139.F [.sl .ro 4 (xs.map (rWaiter .ro)), .fn 109 []] = some (.i .i64 (idxP (fun x => !isReqW x) xs 0), [.u, .u]) := mkS_eq (xs.length + 1) rfl rfl (fun cx h => by
  have hx := hb
  have hb0 := loopN_eq Tryz.f139 0 _ _ rfl rfl
  obtain ⟨r, hr, hq⟩ := loop_srch (cx := cx) (blk := 0) (body := loopN Tryz.f139 0) xs (fun k (s : Nat) => ⟨E [(0, .sl .ro 4 (xs.map (rWaiter .ro))), (1, .fn 109 []), (7, .i .i64 xs.length), (8, .i .i64 k)], B []⟩) (fun s => ⟨E [], B []⟩) (fun x s => !isReqW x) (fun x s => s + 1) (fun x s => (.ret, ⟨E [(4, .i .i64 s)], B []⟩)) (fun k s => k = s)
      (fun s hI G => by simp only [go_sem, reduceIte, ↓reduceIte, reduceCtorEq, nA, nS, nM, nB, nE, nL, nT, nN, iL, iT, iE, iA, iM, iS, iG, iB, iN, iZ, h, Int.lt_irrefl, hb0, hI]) (fun k hk s hI => by
        have h1 : ((k : Int) < (xs.length : Int)) := Int.ofNat_lt.2 hk
        obtain rfl := hI
        exact ⟨_, _, _, fun G => by simp only [go_sem, reduceIte, ↓reduceIte, reduceCtorEq, nA, nS, nM, nB, nE, nL, nT, nN, iL, iT, iE, iA, iM, iS, iG, iB, iN, iZ, h, map_gd (rWaiter .ro) xs _ hk, decide_eq_true_eq, h1, idx_nt _ _ hk, wrap_nat1 (show k < 9223372036854775807 by omega), hb0] <;> with_reducible rfl, by first | exact Iff.rfl | simp, fun hc => ⟨rfl, by simp only [go_sem, reduceIte, ↓reduceIte, reduceCtorEq, nA, nS, nM, nB, nE, nL, nT, nN, iL, iT, iE, iA, iM, iS, iG, iB, iN, iZ, h]⟩⟩) 0 rfl (xs.length + 1) (Nat.le_refl _)
  rw [hb0] at hr
  rcases hq with ⟨s', e1, _, e3⟩ | ⟨x, s', e1, e3⟩
  · simp only [go_sem, reduceIte, ↓reduceIte, reduceCtorEq, nA, nS, nM, nB, nE, nL, nT, nN, iL, iT, iE, iA, iM, iS, iG, iB, iN, iZ, h, hr, e3, runS_idx e1]
  · simp only [go_sem, reduceIte, ↓reduceIte, reduceCtorEq, nA, nS, nM, nB, nE, nL, nT, nN, iL, iT, iE, iA, iM, iS, iG, iB, iN, iZ, h, hr, e3, runS_idx' e1]) (rfl)
noncomputable def s108 : SP Tryz.prog := mkS tyA 108 Tryz.f108 [s139] { md := [.ro 1, .ro 1], rets := some ([4], []) } Tryz.func108 (by kernel_rfl)
@[go_sem] theorem d108 : s108.g = 108 ∧ s108.fs = ⟨[.ro 1, .ro 1], s108.F, false⟩ := ⟨nr rfl, nr rfl⟩
@[go_sem] theorem e108_133 (xs : List Waiter) (req : Int) (hb : xs.length ≤ 9223372036854775806) : s108.F [.sl .ro 4 (xs.map (rWaiter .ro)), .fn 133 [.pr [.i .i64 req]]] = some (.b (xs.any (fun x => x.Req == req)), [.u, .u]) := mkS_eq (0) rfl rfl (fun cx h => by
  simp only [go_sem, reduceIte, ↓reduceIte, reduceCtorEq, nA, nS, nM, nB, nE, nL, nT, nN, iL, iT, iE, iA, iM, iS, iG, iB, iN, iZ, h, hb, idxP_any]) (rfl)
@[go_sem] theorem e108_109 (xs : List Waiter)  (hb : xs.length ≤ 9223372036854775806) : s108.F [.sl .ro 4 (xs.map (rWaiter .ro)), .fn 109 []] = some (.b (xs.any (fun x => !isReqW x)), [.u, .u]) := mkS_eq (0) rfl rfl (fun cx h => by
  simp only [go_sem, reduceIte, ↓reduceIte, reduceCtorEq, nA, nS, nM, nB, nE, nL, nT, nN, iL, iT, iE, iA, iM, iS, iG, iB, iN, iZ, h, hb, idxP_any]) (rfl)
noncomputable def s92 : SP Tryz.prog := mkS tyA 92 Tryz.f92 [s108] { md := [.ro 1, .ro 1], rets := some ([4], []), fz := [3] } Tryz.func92 (by kernel_rfl)
@[go_sem] theorem d92 : s92.g = 92 ∧ s92.fs = ⟨[.ro 1, .ro 1], s92.F, false⟩ := ⟨nr rfl, nr rfl⟩
@[go_sem] theorem e92 (fId : Int) (fKey : ByteArray) (fBack : Bool) (fOut : Bool) (fDue : Int) (fDoomed : Bool) (fGetMethod : ByteArray) (fGetHost : ByteArray) (fGetPath : ByteArray) (fGetHeaders : List Header) (fWaiters : List Waiter) (req : Int) (h0 : (Flight.mk fId fKey fBack fOut fDue fDoomed (Request.mk fGetMethod fGetHost fGetPath fGetHeaders) fWaiters).Waiters.length ≤ 9223372036854775806) : s92.F [.agg [.i .i64 fId, .s fKey, .b fBack, .b fOut, .i .i64 fDue, .b fDoomed, .s fGetMethod, .s fGetHost, .s fGetPath, .sl .ro 2 (fGetHeaders.map (rHeader .ro)), .sl .ro 4 (fWaiters.map (rWaiter .ro))], .i .i64 req] = some (.b ((Flight.mk fId fKey fBack fOut fDue fDoomed (Request.mk fGetMethod fGetHost fGetPath fGetHeaders) fWaiters).Waiters.any fun x => x.Req == req), [.u, .u]) := mkS_eq (0) rfl rfl (fun cx h => by
  simp only [go_sem, reduceIte, ↓reduceIte, reduceCtorEq, nA, nS, nM, nB, nE, nL, nT, nN, iL, iT, iE, iA, iM, iS, iG, iB, iN, iZ, h, h0]) (rfl)
@[go_sem] theorem e92_0 (fId : Int) (fKey : ByteArray) (fBack : Bool) (fOut : Bool) (fDue : Int) (fDoomed : Bool) (fGetMethod : ByteArray) (fGetHost : ByteArray) (fGetPath : ByteArray) (fWaiters : List Waiter) (req : Int) (h0 : fWaiters.length ≤ 9223372036854775806) : s92.F [.agg [.i .i64 fId, .s fKey, .b fBack, .b fOut, .i .i64 fDue, .b fDoomed, .s fGetMethod, .s fGetHost, .s fGetPath, .sl .ro 2 [], .sl .ro 4 (fWaiters.map (rWaiter .ro))], .i .i64 req] = some (.b (fWaiters.any fun x => x.Req == req), [.u, .u]) := e92 fId fKey fBack fOut fDue fDoomed fGetMethod fGetHost fGetPath [] fWaiters req h0
noncomputable def s58 : SP Tryz.prog := mkS tyA 58 Tryz.f58 [s92] { md := [.ro 1], rg := [(0, [0], []), (1, [0, 5, 6, 7], []), (2, [0, 5, 6, 7, 8], []), (3, [0, 3, 4, 5, 6, 7], [4]), (4, [0, 5, 6, 7, 18], []), (5, [2], []), (6, [0, 5, 6, 7], []), (7, [2], [])], lv := [(0, [0, 5, 6, 7], [])], out := [(0, [], [])], rets := some ([2], []), plan := [(4, (.take 0 (.take 1 (.take 2 (.take 3 (.take 4 (.take 5 (.one 6 .done))))))))] } Tryz.func58 (by kernel_rfl)
@[go_sem] theorem d58 : s58.g = 58 ∧ s58.fs = ⟨[.ro 1], s58.F, false⟩ := ⟨nr rfl, nr rfl⟩
@[go_sem] theorem e58 (ws : List Waiter) (h0 : ws.length ≤ 9223372036854775806) : s58.F [.sl .ro 4 (ws.map (rWaiter .ro))] = some (.b (tw [] ws), [.u]) := mkS_eq (ws.length + 1) rfl rfl (fun cx h => by
  have hx := h0
  have hb0 := loopN_eq Tryz.f58 0 _ _ rfl rfl
  obtain ⟨r, hr, hq⟩ := loop_srch (cx := cx) (blk := 0) (body := loopN Tryz.f58 0) ws (fun k (s : List Waiter) => ⟨E [(0, .sl .ro 4 (ws.map (rWaiter .ro))), (5, .sl .ro 4 (ws.map (rWaiter .ro))), (6, .i .i64 ws.length), (7, .i .i64 k)], B []⟩) (fun s => ⟨E [], B []⟩) (fun x s => s.any fun y => y.Req == x.Req) (fun x s => s ++ [x]) (fun x s => (.ret, ⟨E [(2, .b true)], B []⟩)) (fun k s => s = ws.take k)
      (fun s hI G => by simp only [go_sem, reduceIte, ↓reduceIte, reduceCtorEq, nA, nS, nM, nB, nE, nL, nT, nN, iL, iT, iE, iA, iM, iS, iG, iB, iN, iZ, h, Int.lt_irrefl, hb0, hx]) (fun k hk s hI => by
        have h1 : ((k : Int) < (ws.length : Int)) := Int.ofNat_lt.2 hk
        have t3 : ws.length ≤ 9223372036854775806 := hx
        have t4 : (ws.map (rWaiter .ro)).take k = (ws.take k).map (rWaiter .ro) := by rw [List.map_take]
        have t5 : (ws.take k).length ≤ 9223372036854775806 := by rw [List.length_take]; omega
        have c1 : (0 : Int) ≤ (k : Int) := by omega
        have c2 : (k : Int) ≤ (ws.length : Int) := by omega
        subst hI
        exact ⟨_, _, _, fun G => by simp only [go_sem, reduceIte, ↓reduceIte, reduceCtorEq, nA, nS, nM, nB, nE, nL, nT, nN, iL, iT, iE, iA, iM, iS, iG, iB, iN, iZ, h, t4, t5, c1, c2, map_gd (rWaiter .ro) ws _ hk, Int.toNat_natCast, List.drop_zero, Nat.sub_zero, h1, idx_nt _ _ hk, wrap_nat1 (show k < 9223372036854775807 by omega), hb0] <;> with_reducible rfl, Iff.rfl, fun hc => ⟨(take_snoc ws k hk).symm, by simp only [go_sem, reduceIte, ↓reduceIte, reduceCtorEq, nA, nS, nM, nB, nE, nL, nT, nN, iL, iT, iE, iA, iM, iS, iG, iB, iN, iZ, h]⟩⟩) [] rfl (ws.length + 1) (Nat.le_refl _)
  rw [hb0] at hr
  rcases hq with ⟨s', e1, _, e3⟩ | ⟨x, s', e1, e3⟩
  · simp only [go_sem, reduceIte, ↓reduceIte, reduceCtorEq, nA, nS, nM, nB, nE, nL, nT, nN, iL, iT, iE, iA, iM, iS, iG, iB, iN, iZ, h, hr, e3, tw_inl e1]
  · simp only [go_sem, reduceIte, ↓reduceIte, reduceCtorEq, nA, nS, nM, nB, nE, nL, nT, nN, iL, iT, iE, iA, iM, iS, iG, iB, iN, iZ, h, hr, e3, tw_inr e1]) (rfl)
noncomputable def s122 : SP Tryz.prog := mkS tyA 122 Tryz.f122 [] { md := [.ro 1], rets := some ([2], []) } Tryz.func122 (by kernel_rfl)
@[go_sem] theorem d122 : s122.g = 122 ∧ s122.fs = ⟨[.ro 1], s122.F, false⟩ := ⟨nr rfl, nr rfl⟩
@[go_sem] theorem e122 (t : ByteArray) : s122.F [.s t] = some (.b (isMethod t), [.u]) := mkS_eq (0) rfl rfl (fun cx h => by
  have hu : isMethod t = (eqv t ⟨#[71, 69, 84]⟩ || eqv t ⟨#[72, 69, 65, 68]⟩) := rfl
  cases h1 : eqv t ⟨#[71, 69, 84]⟩ <;> cases h2 : eqv t ⟨#[72, 69, 65, 68]⟩ <;> simp only [go_sem, reduceIte, ↓reduceIte, reduceCtorEq, nA, nS, nM, nB, nE, nL, nT, nN, iL, iT, iE, iA, iM, iS, iG, iB, iN, iZ, h, eqv_bytes, h1, h2, hu]) (rfl)
noncomputable def s163 : SP Tryz.prog := mkS tyA 163 Tryz.f163 [] { md := [.ro 1], rets := some ([2], []) } Tryz.func163 (by kernel_rfl)
@[go_sem] theorem d163 : s163.g = 163 ∧ s163.fs = ⟨[.ro 1], s163.F, false⟩ := ⟨nr rfl, nr rfl⟩
@[go_sem] theorem e163 (c : UInt8) : s163.F [.i .u8 c.toNat] = some (.b (letterB c), [.u]) := mkS_eq (0) rfl rfl (fun cx h => by
  by_cases h1 : 97 ≤ (c.toNat : Int) <;> by_cases h2 : (c.toNat : Int) ≤ 122 <;> by_cases h3 : 65 ≤ (c.toNat : Int) <;> by_cases h4 : (c.toNat : Int) ≤ 90 <;> simp only [go_sem, reduceIte, ↓reduceIte, reduceCtorEq, nA, nS, nM, nB, nE, nL, nT, nN, iL, iT, iE, iA, iM, iS, iG, iB, iN, iZ, h, h1, h2, h3, h4, letterB]) (rfl)
noncomputable def s164 : SP Tryz.prog := mkS tyA 164 Tryz.f164 [] { md := [.ro 1], rets := some ([2], []) } Tryz.func164 (by kernel_rfl)
@[go_sem] theorem d164 : s164.g = 164 ∧ s164.fs = ⟨[.ro 1], s164.F, false⟩ := ⟨nr rfl, nr rfl⟩
@[go_sem] theorem e164 (c : UInt8) : s164.F [.i .u8 c.toNat] = some (.b (digitB c), [.u]) := mkS_eq (0) rfl rfl (fun cx h => by
  by_cases h1 : 48 ≤ (c.toNat : Int) <;> by_cases h2 : (c.toNat : Int) ≤ 57 <;> simp only [go_sem, reduceIte, ↓reduceIte, reduceCtorEq, nA, nS, nM, nB, nE, nL, nT, nN, iL, iT, iE, iA, iM, iS, iG, iB, iN, iZ, h, h1, h2, digitB]) (rfl)
noncomputable def s185 : SP Tryz.prog := ⟨185, ⟨[.ro 1, .ro 1], idxF, false⟩, idx_ok Tryz.func185 (by kernel_rfl) (by kernel_rfl) (by kernel_rfl) (by kernel_rfl)⟩
@[go_sem] theorem d185 : s185.g = 185 ∧ s185.fs = ⟨[.ro 1, .ro 1], s185.F, false⟩ := ⟨nr rfl, nr rfl⟩
@[go_sem] theorem e185 (s : ByteArray) (c : UInt8) : s185.F [.s s, .i .u8 c.toNat] = some (.i .i64 (ixB s c), [.u, .u]) := by
  show idxF [.s s, .i .u8 c.toNat] = _
  rw [idxF_eq, int_u8]
  rfl
noncomputable def s176 : SP Tryz.prog := mkS tyA 176 Tryz.f176 [s185] { md := [.ro 1, .ro 1], rets := some ([4], []) } Tryz.func176 (by kernel_rfl)
@[go_sem] theorem d176 : s176.g = 176 ∧ s176.fs = ⟨[.ro 1, .ro 1], s176.F, false⟩ := ⟨nr rfl, nr rfl⟩
@[go_sem] theorem e176 (s : ByteArray) (c : UInt8) : s176.F [.s s, .i .u8 c.toNat] = some (.i .i64 (ixB s c), [.u, .u]) := mkS_eq (0) rfl rfl (fun cx h => by
  simp only [go_sem, reduceIte, ↓reduceIte, reduceCtorEq, nA, nS, nM, nB, nE, nL, nT, nN, iL, iT, iE, iA, iM, iS, iG, iB, iN, iZ, h]) (rfl)
noncomputable def s166 : SP Tryz.prog := mkS tyA 166 Tryz.f166 [s176] { md := [.ro 1, .ro 1], rets := some ([4], []) } Tryz.func166 (by kernel_rfl)
@[go_sem] theorem d166 : s166.g = 166 ∧ s166.fs = ⟨[.ro 1, .ro 1], s166.F, false⟩ := ⟨nr rfl, nr rfl⟩
@[go_sem] theorem e166 (s : ByteArray) (c : UInt8) : s166.F [.s s, .i .u8 c.toNat] = some (.i .i64 (ixB s c), [.u, .u]) := mkS_eq (0) rfl rfl (fun cx h => by
  simp only [go_sem, reduceIte, ↓reduceIte, reduceCtorEq, nA, nS, nM, nB, nE, nL, nT, nN, iL, iT, iE, iA, iM, iS, iG, iB, iN, iZ, h]) (rfl)
noncomputable def s165 : SP Tryz.prog := mkS tyA 165 Tryz.f165 [s163, s164, s166] { md := [.ro 1], rets := some ([2], []) } Tryz.func165 (by kernel_rfl)
@[go_sem] theorem d165 : s165.g = 165 ∧ s165.fs = ⟨[.ro 1], s165.F, false⟩ := ⟨nr rfl, nr rfl⟩
@[go_sem] theorem e165 (c : UInt8) : s165.F [.i .u8 c.toNat] = some (.b (wordB c), [.u]) := mkS_eq (0) rfl rfl (fun cx h => by
  have hix := ixB_sym c
  have hu : wordB c = (letterB c || digitB c || symB.contains c) := rfl
  cases h1 : letterB c <;> cases h2 : digitB c <;> cases h3 : symB.contains c <;> simp only [go_sem, reduceIte, ↓reduceIte, reduceCtorEq, nA, nS, nM, nB, nE, nL, nT, nN, iL, iT, iE, iA, iM, iS, iG, iB, iN, iZ, h, h1, h2, h3, hu, hix]) (rfl)
noncomputable def s177 : SP Tryz.prog := mkS tyA 177 Tryz.f177 [] { md := [.ro 1], rets := some ([2], []) } Tryz.func177 (by kernel_rfl)
@[go_sem] theorem d177 : s177.g = 177 ∧ s177.fs = ⟨[.ro 1], s177.F, false⟩ := ⟨nr rfl, nr rfl⟩
@[go_sem] theorem e177 (c : UInt8) : s177.F [.i .u8 c.toNat] = some (.b (plainB c), [.u]) := mkS_eq (0) rfl rfl (fun cx h => by
  cases h1 : ((c.toNat : Int) == 9) <;> by_cases h2 : 32 ≤ (c.toNat : Int) <;> by_cases h3 : (c.toNat : Int) ≤ 126 <;> simp only [go_sem, reduceIte, ↓reduceIte, reduceCtorEq, nA, nS, nM, nB, nE, nL, nT, nN, iL, iT, iE, iA, iM, iS, iG, iB, iN, iZ, h, h1, h2, h3, plainB]) (rfl)
noncomputable def s149 : SP Tryz.prog := mkS tyA 149 Tryz.f149 [s163, s164] { md := [.ro 1], rets := some ([2], []) } Tryz.func149 (by kernel_rfl)
@[go_sem] theorem d149 : s149.g = 149 ∧ s149.fs = ⟨[.ro 1], s149.F, false⟩ := ⟨nr rfl, nr rfl⟩
@[go_sem] theorem e149 (c : UInt8) : s149.F [.i .u8 c.toNat] = some (.b (hostB c), [.u]) := mkS_eq (0) rfl rfl (fun cx h => by
  cases h1 : letterB c <;> cases h2 : digitB c <;> cases h3 : ((c.toNat : Int) == 46) <;> cases h4 : ((c.toNat : Int) == 45) <;> simp only [go_sem, reduceIte, ↓reduceIte, reduceCtorEq, nA, nS, nM, nB, nE, nL, nT, nN, iL, iT, iE, iA, iM, iS, iG, iB, iN, iZ, h, h1, h2, h3, h4, hostB]) (rfl)
noncomputable def s150 : SP Tryz.prog := mkS tyA 150 Tryz.f150 [s165, s166] { md := [.ro 1], rets := some ([2], []) } Tryz.func150 (by kernel_rfl)
@[go_sem] theorem d150 : s150.g = 150 ∧ s150.fs = ⟨[.ro 1], s150.F, false⟩ := ⟨nr rfl, nr rfl⟩
@[go_sem] theorem e150 (c : UInt8) : s150.F [.i .u8 c.toNat] = some (.b (pathB c), [.u]) := mkS_eq (0) rfl rfl (fun cx h => by
  have hix := ixB_psym c
  have hu : pathB c = (wordB c || pSymB.contains c) := rfl
  cases h1 : wordB c <;> cases h3 : pSymB.contains c <;> simp only [go_sem, reduceIte, ↓reduceIte, reduceCtorEq, nA, nS, nM, nB, nE, nL, nT, nN, iL, iT, iE, iA, iM, iS, iG, iB, iN, iZ, h, h1, h3, hu, hix]) (rfl)
noncomputable def s148 : SP Tryz.prog := mkS tyA 148 Tryz.f148 [s149, s150, s164, s165, s177] { md := [.ro 1, .ro 1, .ro 1, .ro 1], rg := [(0, [0, 1, 2, 3], []), (1, [0, 3, 19], []), (2, [8], []), (3, [0, 3, 21, 22], []), (4, [0, 3, 21, 22, 23], []), (5, [0, 3, 9, 21, 22], []), (6, [0, 3, 21, 22, 30], []), (7, [8], []), (8, [0, 3, 21, 22], []), (9, [8], [])], lv := [(0, [0, 3, 21, 22], [])], out := [(0, [], [])], rets := some ([8], []) } Tryz.func148 (by kernel_rfl)
@[go_sem] theorem d148 : s148.g = 148 ∧ s148.fs = ⟨[.ro 1, .ro 1, .ro 1, .ro 1], s148.F, false⟩ := ⟨nr rfl, nr rfl⟩
@[go_sem] theorem e148_165 (t : ByteArray) (lo hi : Int) (hb : hi ≤ 1000000) : s148.F [.s t, .i .i64 lo, .i .i64 hi, .fn 165 []] = some (.b (areB wordB lo hi t), [.u, .u, .u, .u]) := mkS_eq (t.data.toList.length + 1) rfl rfl (fun cx h => by
  by_cases h1 : (t.size : Int) < lo
  · simp only [go_sem, reduceIte, ↓reduceIte, reduceCtorEq, nA, nS, nM, nB, nE, nL, nT, nN, iL, iT, iE, iA, iM, iS, iG, iB, iN, iZ, h, h1, areB_short h1]
  by_cases h2 : hi < (t.size : Int)
  · simp only [go_sem, reduceIte, ↓reduceIte, reduceCtorEq, nA, nS, nM, nB, nE, nL, nT, nN, iL, iT, iE, iA, iM, iS, iG, iB, iN, iZ, h, h1, h2, areB_long h2]
  have hx : t.data.toList.length ≤ 9223372036854775806 := by rw [← str_size]; omega
  have ha := areB_all (p := wordB) h1 h2
  rw [str_size t] at h1 h2
  · have hb0 := loopN_eq Tryz.f148 0 _ _ rfl rfl
    obtain ⟨r, hr, hq⟩ := loop_srch (cx := cx) (blk := 0) (body := loopN Tryz.f148 0) t.data.toList (fun k (s : Unit) => ⟨E [(0, .s t), (3, .fn 165 []), (21, .i .i64 t.size), (22, .i .i64 k)], B []⟩) (fun s => ⟨E [], B []⟩) (fun x s => !wordB x) (fun x s => ()) (fun x s => (.ret, ⟨E [(8, .b false)], B []⟩)) (fun k s => True)
        (fun s hI G => by simp only [go_sem, reduceIte, ↓reduceIte, reduceCtorEq, nA, nS, nM, nB, nE, nL, nT, nN, iL, iT, iE, iA, iM, iS, iG, iB, iN, iZ, h, Int.lt_irrefl, hb0, str_size t]) (fun k hk s hI => by
          have h1 : ((k : Int) < (t.data.toList.length : Int)) := Int.ofNat_lt.2 hk
          have hz := str_at t k hk
          exact ⟨_, _, _, fun G => by simp only [go_sem, reduceIte, ↓reduceIte, reduceCtorEq, nA, nS, nM, nB, nE, nL, nT, nN, iL, iT, iE, iA, iM, iS, iG, iB, iN, iZ, h, hz, str_size t, h1, idx_nt _ _ hk, wrap_nat1 (show k < 9223372036854775807 by omega), hb0] <;> with_reducible rfl, Iff.rfl, fun hc => ⟨trivial, by simp only [go_sem, reduceIte, ↓reduceIte, reduceCtorEq, nA, nS, nM, nB, nE, nL, nT, nN, iL, iT, iE, iA, iM, iS, iG, iB, iN, iZ, h, str_size t]⟩⟩) () trivial (t.data.toList.length + 1) (Nat.le_refl _)
    rw [hb0] at hr
    rcases hq with ⟨s', e1, _, e3⟩ | ⟨x, s', e1, e3⟩
    · simp only [go_sem, reduceIte, ↓reduceIte, reduceCtorEq, nA, nS, nM, nB, nE, nL, nT, nN, iL, iT, iE, iA, iM, iS, iG, iB, iN, iZ, h, h1, h2, str_size t, hr, e3, ha, runS_all e1]
    · simp only [go_sem, reduceIte, ↓reduceIte, reduceCtorEq, nA, nS, nM, nB, nE, nL, nT, nN, iL, iT, iE, iA, iM, iS, iG, iB, iN, iZ, h, h1, h2, str_size t, hr, e3, ha, runS_all' e1]) (rfl)
@[go_sem] theorem e148_177 (t : ByteArray) (lo hi : Int) (hb : hi ≤ 1000000) : s148.F [.s t, .i .i64 lo, .i .i64 hi, .fn 177 []] = some (.b (areB plainB lo hi t), [.u, .u, .u, .u]) := mkS_eq (t.data.toList.length + 1) rfl rfl (fun cx h => by
  by_cases h1 : (t.size : Int) < lo
  · simp only [go_sem, reduceIte, ↓reduceIte, reduceCtorEq, nA, nS, nM, nB, nE, nL, nT, nN, iL, iT, iE, iA, iM, iS, iG, iB, iN, iZ, h, h1, areB_short h1]
  by_cases h2 : hi < (t.size : Int)
  · simp only [go_sem, reduceIte, ↓reduceIte, reduceCtorEq, nA, nS, nM, nB, nE, nL, nT, nN, iL, iT, iE, iA, iM, iS, iG, iB, iN, iZ, h, h1, h2, areB_long h2]
  have hx : t.data.toList.length ≤ 9223372036854775806 := by rw [← str_size]; omega
  have ha := areB_all (p := plainB) h1 h2
  rw [str_size t] at h1 h2
  · have hb0 := loopN_eq Tryz.f148 0 _ _ rfl rfl
    obtain ⟨r, hr, hq⟩ := loop_srch (cx := cx) (blk := 0) (body := loopN Tryz.f148 0) t.data.toList (fun k (s : Unit) => ⟨E [(0, .s t), (3, .fn 177 []), (21, .i .i64 t.size), (22, .i .i64 k)], B []⟩) (fun s => ⟨E [], B []⟩) (fun x s => !plainB x) (fun x s => ()) (fun x s => (.ret, ⟨E [(8, .b false)], B []⟩)) (fun k s => True)
        (fun s hI G => by simp only [go_sem, reduceIte, ↓reduceIte, reduceCtorEq, nA, nS, nM, nB, nE, nL, nT, nN, iL, iT, iE, iA, iM, iS, iG, iB, iN, iZ, h, Int.lt_irrefl, hb0, str_size t]) (fun k hk s hI => by
          have h1 : ((k : Int) < (t.data.toList.length : Int)) := Int.ofNat_lt.2 hk
          have hz := str_at t k hk
          exact ⟨_, _, _, fun G => by simp only [go_sem, reduceIte, ↓reduceIte, reduceCtorEq, nA, nS, nM, nB, nE, nL, nT, nN, iL, iT, iE, iA, iM, iS, iG, iB, iN, iZ, h, hz, str_size t, h1, idx_nt _ _ hk, wrap_nat1 (show k < 9223372036854775807 by omega), hb0] <;> with_reducible rfl, Iff.rfl, fun hc => ⟨trivial, by simp only [go_sem, reduceIte, ↓reduceIte, reduceCtorEq, nA, nS, nM, nB, nE, nL, nT, nN, iL, iT, iE, iA, iM, iS, iG, iB, iN, iZ, h, str_size t]⟩⟩) () trivial (t.data.toList.length + 1) (Nat.le_refl _)
    rw [hb0] at hr
    rcases hq with ⟨s', e1, _, e3⟩ | ⟨x, s', e1, e3⟩
    · simp only [go_sem, reduceIte, ↓reduceIte, reduceCtorEq, nA, nS, nM, nB, nE, nL, nT, nN, iL, iT, iE, iA, iM, iS, iG, iB, iN, iZ, h, h1, h2, str_size t, hr, e3, ha, runS_all e1]
    · simp only [go_sem, reduceIte, ↓reduceIte, reduceCtorEq, nA, nS, nM, nB, nE, nL, nT, nN, iL, iT, iE, iA, iM, iS, iG, iB, iN, iZ, h, h1, h2, str_size t, hr, e3, ha, runS_all' e1]) (rfl)
@[go_sem] theorem e148_149 (t : ByteArray) (lo hi : Int) (hb : hi ≤ 1000000) : s148.F [.s t, .i .i64 lo, .i .i64 hi, .fn 149 []] = some (.b (areB hostB lo hi t), [.u, .u, .u, .u]) := mkS_eq (t.data.toList.length + 1) rfl rfl (fun cx h => by
  by_cases h1 : (t.size : Int) < lo
  · simp only [go_sem, reduceIte, ↓reduceIte, reduceCtorEq, nA, nS, nM, nB, nE, nL, nT, nN, iL, iT, iE, iA, iM, iS, iG, iB, iN, iZ, h, h1, areB_short h1]
  by_cases h2 : hi < (t.size : Int)
  · simp only [go_sem, reduceIte, ↓reduceIte, reduceCtorEq, nA, nS, nM, nB, nE, nL, nT, nN, iL, iT, iE, iA, iM, iS, iG, iB, iN, iZ, h, h1, h2, areB_long h2]
  have hx : t.data.toList.length ≤ 9223372036854775806 := by rw [← str_size]; omega
  have ha := areB_all (p := hostB) h1 h2
  rw [str_size t] at h1 h2
  · have hb0 := loopN_eq Tryz.f148 0 _ _ rfl rfl
    obtain ⟨r, hr, hq⟩ := loop_srch (cx := cx) (blk := 0) (body := loopN Tryz.f148 0) t.data.toList (fun k (s : Unit) => ⟨E [(0, .s t), (3, .fn 149 []), (21, .i .i64 t.size), (22, .i .i64 k)], B []⟩) (fun s => ⟨E [], B []⟩) (fun x s => !hostB x) (fun x s => ()) (fun x s => (.ret, ⟨E [(8, .b false)], B []⟩)) (fun k s => True)
        (fun s hI G => by simp only [go_sem, reduceIte, ↓reduceIte, reduceCtorEq, nA, nS, nM, nB, nE, nL, nT, nN, iL, iT, iE, iA, iM, iS, iG, iB, iN, iZ, h, Int.lt_irrefl, hb0, str_size t]) (fun k hk s hI => by
          have h1 : ((k : Int) < (t.data.toList.length : Int)) := Int.ofNat_lt.2 hk
          have hz := str_at t k hk
          exact ⟨_, _, _, fun G => by simp only [go_sem, reduceIte, ↓reduceIte, reduceCtorEq, nA, nS, nM, nB, nE, nL, nT, nN, iL, iT, iE, iA, iM, iS, iG, iB, iN, iZ, h, hz, str_size t, h1, idx_nt _ _ hk, wrap_nat1 (show k < 9223372036854775807 by omega), hb0] <;> with_reducible rfl, Iff.rfl, fun hc => ⟨trivial, by simp only [go_sem, reduceIte, ↓reduceIte, reduceCtorEq, nA, nS, nM, nB, nE, nL, nT, nN, iL, iT, iE, iA, iM, iS, iG, iB, iN, iZ, h, str_size t]⟩⟩) () trivial (t.data.toList.length + 1) (Nat.le_refl _)
    rw [hb0] at hr
    rcases hq with ⟨s', e1, _, e3⟩ | ⟨x, s', e1, e3⟩
    · simp only [go_sem, reduceIte, ↓reduceIte, reduceCtorEq, nA, nS, nM, nB, nE, nL, nT, nN, iL, iT, iE, iA, iM, iS, iG, iB, iN, iZ, h, h1, h2, str_size t, hr, e3, ha, runS_all e1]
    · simp only [go_sem, reduceIte, ↓reduceIte, reduceCtorEq, nA, nS, nM, nB, nE, nL, nT, nN, iL, iT, iE, iA, iM, iS, iG, iB, iN, iZ, h, h1, h2, str_size t, hr, e3, ha, runS_all' e1]) (rfl)
@[go_sem] theorem e148_150 (t : ByteArray) (lo hi : Int) (hb : hi ≤ 1000000) : s148.F [.s t, .i .i64 lo, .i .i64 hi, .fn 150 []] = some (.b (areB pathB lo hi t), [.u, .u, .u, .u]) := mkS_eq (t.data.toList.length + 1) rfl rfl (fun cx h => by
  by_cases h1 : (t.size : Int) < lo
  · simp only [go_sem, reduceIte, ↓reduceIte, reduceCtorEq, nA, nS, nM, nB, nE, nL, nT, nN, iL, iT, iE, iA, iM, iS, iG, iB, iN, iZ, h, h1, areB_short h1]
  by_cases h2 : hi < (t.size : Int)
  · simp only [go_sem, reduceIte, ↓reduceIte, reduceCtorEq, nA, nS, nM, nB, nE, nL, nT, nN, iL, iT, iE, iA, iM, iS, iG, iB, iN, iZ, h, h1, h2, areB_long h2]
  have hx : t.data.toList.length ≤ 9223372036854775806 := by rw [← str_size]; omega
  have ha := areB_all (p := pathB) h1 h2
  rw [str_size t] at h1 h2
  · have hb0 := loopN_eq Tryz.f148 0 _ _ rfl rfl
    obtain ⟨r, hr, hq⟩ := loop_srch (cx := cx) (blk := 0) (body := loopN Tryz.f148 0) t.data.toList (fun k (s : Unit) => ⟨E [(0, .s t), (3, .fn 150 []), (21, .i .i64 t.size), (22, .i .i64 k)], B []⟩) (fun s => ⟨E [], B []⟩) (fun x s => !pathB x) (fun x s => ()) (fun x s => (.ret, ⟨E [(8, .b false)], B []⟩)) (fun k s => True)
        (fun s hI G => by simp only [go_sem, reduceIte, ↓reduceIte, reduceCtorEq, nA, nS, nM, nB, nE, nL, nT, nN, iL, iT, iE, iA, iM, iS, iG, iB, iN, iZ, h, Int.lt_irrefl, hb0, str_size t]) (fun k hk s hI => by
          have h1 : ((k : Int) < (t.data.toList.length : Int)) := Int.ofNat_lt.2 hk
          have hz := str_at t k hk
          exact ⟨_, _, _, fun G => by simp only [go_sem, reduceIte, ↓reduceIte, reduceCtorEq, nA, nS, nM, nB, nE, nL, nT, nN, iL, iT, iE, iA, iM, iS, iG, iB, iN, iZ, h, hz, str_size t, h1, idx_nt _ _ hk, wrap_nat1 (show k < 9223372036854775807 by omega), hb0] <;> with_reducible rfl, Iff.rfl, fun hc => ⟨trivial, by simp only [go_sem, reduceIte, ↓reduceIte, reduceCtorEq, nA, nS, nM, nB, nE, nL, nT, nN, iL, iT, iE, iA, iM, iS, iG, iB, iN, iZ, h, str_size t]⟩⟩) () trivial (t.data.toList.length + 1) (Nat.le_refl _)
    rw [hb0] at hr
    rcases hq with ⟨s', e1, _, e3⟩ | ⟨x, s', e1, e3⟩
    · simp only [go_sem, reduceIte, ↓reduceIte, reduceCtorEq, nA, nS, nM, nB, nE, nL, nT, nN, iL, iT, iE, iA, iM, iS, iG, iB, iN, iZ, h, h1, h2, str_size t, hr, e3, ha, runS_all e1]
    · simp only [go_sem, reduceIte, ↓reduceIte, reduceCtorEq, nA, nS, nM, nB, nE, nL, nT, nN, iL, iT, iE, iA, iM, iS, iG, iB, iN, iZ, h, h1, h2, str_size t, hr, e3, ha, runS_all' e1]) (rfl)
@[go_sem] theorem e148_164 (t : ByteArray) (lo hi : Int) (hb : hi ≤ 1000000) : s148.F [.s t, .i .i64 lo, .i .i64 hi, .fn 164 []] = some (.b (areB digitB lo hi t), [.u, .u, .u, .u]) := mkS_eq (t.data.toList.length + 1) rfl rfl (fun cx h => by
  by_cases h1 : (t.size : Int) < lo
  · simp only [go_sem, reduceIte, ↓reduceIte, reduceCtorEq, nA, nS, nM, nB, nE, nL, nT, nN, iL, iT, iE, iA, iM, iS, iG, iB, iN, iZ, h, h1, areB_short h1]
  by_cases h2 : hi < (t.size : Int)
  · simp only [go_sem, reduceIte, ↓reduceIte, reduceCtorEq, nA, nS, nM, nB, nE, nL, nT, nN, iL, iT, iE, iA, iM, iS, iG, iB, iN, iZ, h, h1, h2, areB_long h2]
  have hx : t.data.toList.length ≤ 9223372036854775806 := by rw [← str_size]; omega
  have ha := areB_all (p := digitB) h1 h2
  rw [str_size t] at h1 h2
  · have hb0 := loopN_eq Tryz.f148 0 _ _ rfl rfl
    obtain ⟨r, hr, hq⟩ := loop_srch (cx := cx) (blk := 0) (body := loopN Tryz.f148 0) t.data.toList (fun k (s : Unit) => ⟨E [(0, .s t), (3, .fn 164 []), (21, .i .i64 t.size), (22, .i .i64 k)], B []⟩) (fun s => ⟨E [], B []⟩) (fun x s => !digitB x) (fun x s => ()) (fun x s => (.ret, ⟨E [(8, .b false)], B []⟩)) (fun k s => True)
        (fun s hI G => by simp only [go_sem, reduceIte, ↓reduceIte, reduceCtorEq, nA, nS, nM, nB, nE, nL, nT, nN, iL, iT, iE, iA, iM, iS, iG, iB, iN, iZ, h, Int.lt_irrefl, hb0, str_size t]) (fun k hk s hI => by
          have h1 : ((k : Int) < (t.data.toList.length : Int)) := Int.ofNat_lt.2 hk
          have hz := str_at t k hk
          exact ⟨_, _, _, fun G => by simp only [go_sem, reduceIte, ↓reduceIte, reduceCtorEq, nA, nS, nM, nB, nE, nL, nT, nN, iL, iT, iE, iA, iM, iS, iG, iB, iN, iZ, h, hz, str_size t, h1, idx_nt _ _ hk, wrap_nat1 (show k < 9223372036854775807 by omega), hb0] <;> with_reducible rfl, Iff.rfl, fun hc => ⟨trivial, by simp only [go_sem, reduceIte, ↓reduceIte, reduceCtorEq, nA, nS, nM, nB, nE, nL, nT, nN, iL, iT, iE, iA, iM, iS, iG, iB, iN, iZ, h, str_size t]⟩⟩) () trivial (t.data.toList.length + 1) (Nat.le_refl _)
    rw [hb0] at hr
    rcases hq with ⟨s', e1, _, e3⟩ | ⟨x, s', e1, e3⟩
    · simp only [go_sem, reduceIte, ↓reduceIte, reduceCtorEq, nA, nS, nM, nB, nE, nL, nT, nN, iL, iT, iE, iA, iM, iS, iG, iB, iN, iZ, h, h1, h2, str_size t, hr, e3, ha, runS_all e1]
    · simp only [go_sem, reduceIte, ↓reduceIte, reduceCtorEq, nA, nS, nM, nB, nE, nL, nT, nN, iL, iT, iE, iA, iM, iS, iG, iB, iN, iZ, h, h1, h2, str_size t, hr, e3, ha, runS_all' e1]) (rfl)
noncomputable def s123 : SP Tryz.prog := mkS tyA 123 Tryz.f123 [s148, s149] { md := [.ro 1], rets := some ([2], []) } Tryz.func123 (by kernel_rfl)
@[go_sem] theorem d123 : s123.g = 123 ∧ s123.fs = ⟨[.ro 1], s123.F, false⟩ := ⟨nr rfl, nr rfl⟩
@[go_sem] theorem e123 (t : ByteArray) : s123.F [.s t] = some (.b (isHost t), [.u]) := mkS_eq (0) rfl rfl (fun cx h => by
  simp only [go_sem, reduceIte, ↓reduceIte, reduceCtorEq, nA, nS, nM, nB, nE, nL, nT, nN, iL, iT, iE, iA, iM, iS, iG, iB, iN, iZ, h, isHost]) (rfl)
noncomputable def s124 : SP Tryz.prog := mkS tyA 124 Tryz.f124 [s148, s150] { md := [.ro 1], rets := some ([2], []) } Tryz.func124 (by kernel_rfl)
@[go_sem] theorem d124 : s124.g = 124 ∧ s124.fs = ⟨[.ro 1], s124.F, false⟩ := ⟨nr rfl, nr rfl⟩
@[go_sem] theorem e124 (t : ByteArray) : s124.F [.s t] = some (.b (isPath t), [.u]) := mkS_eq (0) rfl rfl (fun cx h => by
  have hu : isPath t = (areB pathB 1 100 t && (((t.data[0]?.getD 0).toNat : Int) == 47)) := rfl
  cases h1 : areB pathB 1 100 t
  · simp only [go_sem, reduceIte, ↓reduceIte, reduceCtorEq, nA, nS, nM, nB, nE, nL, nT, nN, iL, iT, iE, iA, iM, iS, iG, iB, iN, iZ, h, h1, hu]
  have hi : idx? t.size 0 = some 0 := idx_nt t.size 0 (areB_nil h1)
  cases h2 : (((t.data[0]?.getD 0).toNat : Int) == 47) <;> simp only [go_sem, reduceIte, ↓reduceIte, reduceCtorEq, nA, nS, nM, nB, nE, nL, nT, nN, iL, iT, iE, iA, iM, iS, iG, iB, iN, iZ, h, h1, h2, hi, hu]) (rfl)
noncomputable def s167 : SP Tryz.prog := mkS tyA 167 Tryz.f167 [s148, s165] { md := [.ro 1], rets := some ([2], []) } Tryz.func167 (by kernel_rfl)
@[go_sem] theorem d167 : s167.g = 167 ∧ s167.fs = ⟨[.ro 1], s167.F, false⟩ := ⟨nr rfl, nr rfl⟩
@[go_sem] theorem e167 (t : ByteArray) : s167.F [.s t] = some (.b (isWord t), [.u]) := mkS_eq (0) rfl rfl (fun cx h => by
  simp only [go_sem, reduceIte, ↓reduceIte, reduceCtorEq, nA, nS, nM, nB, nE, nL, nT, nN, iL, iT, iE, iA, iM, iS, iG, iB, iN, iZ, h, isWord]) (rfl)
noncomputable def s168 : SP Tryz.prog := mkS tyA 168 Tryz.f168 [s148, s177] { md := [.ro 1], rets := some ([2], []) } Tryz.func168 (by kernel_rfl)
@[go_sem] theorem d168 : s168.g = 168 ∧ s168.fs = ⟨[.ro 1], s168.F, false⟩ := ⟨nr rfl, nr rfl⟩
@[go_sem] theorem e168 (t : ByteArray) (h0 : (t.size : Int) ≤ 1000000) : s168.F [.s t] = some (.b (areP t), [.u]) := mkS_eq (0) rfl rfl (fun cx h => by
  simp only [go_sem, reduceIte, ↓reduceIte, reduceCtorEq, nA, nS, nM, nB, nE, nL, nT, nN, iL, iT, iE, iA, iM, iS, iG, iB, iN, iZ, h, h0, areP_eq]) (rfl)
noncomputable def s169 : SP Tryz.prog := ⟨169, ⟨[.ro 1, .ro 1], trimF, false⟩, trim_ok Tryz.func169 (by kernel_rfl) rfl Go.Proofs.Tryz.trimSpTab⟩
@[go_sem] theorem d169 : s169.g = 169 ∧ s169.fs = ⟨[.ro 1, .ro 1], s169.F, false⟩ := ⟨nr rfl, nr rfl⟩
@[go_sem] theorem e169 (x : ByteArray) (h0 : x.size ≤ 9223372036854775807) : s169.F [.s x, .s ⟨#[32, 9]⟩] = some (.s (trimB x), [.u, .u]) := by
  show trimF [.s x, .s ⟨#[32, 9]⟩] = _
  have hc : (⟨#[32, 9]⟩ : ByteArray).data.toList = [32, 9] ∧ x.size ≤ 9223372036854775807 := ⟨rfl, h0⟩
  exact if_pos hc
noncomputable def s151 : SP Tryz.prog := mkS tyA 151 Tryz.f151 [s167, s168, s169] { md := [.ro 1], rg := [(0, [1], [1]), (1, [1, 3], [1]), (2, [2], []), (3, [1, 8], [1]), (4, [2], []), (5, [13], []), (6, [2], []), (7, [2], [])], rets := some ([2], []), plan := [(5, (.take 0 (.take 1 (.one 2 (.take 3 (.take 4 (.take 5 (.take 6 (.take 8 (.take 9 (.one 7 (.take 10 (.take 11 (.one 12 .done))))))))))))))] } Tryz.func151 (by kernel_rfl)
@[go_sem] theorem d151 : s151.g = 151 ∧ s151.fs = ⟨[.ro 1], s151.F, false⟩ := ⟨nr rfl, nr rfl⟩
@[go_sem] theorem e151 (xName : ByteArray) (xValue : ByteArray) : s151.F [.agg [.s xName, .s xValue]] = some (.i .i64 (headerCode (Header.mk xName xValue)), [.u]) := mkS_eq (0) rfl rfl (fun cx h => by
  cases h1 : isWord xName
  · simp only [go_sem, reduceIte, ↓reduceIte, reduceCtorEq, nA, nS, nM, nB, nE, nL, nT, nN, iL, iT, iE, iA, iM, iS, iG, iB, iN, iZ, h, h1, headerCode]
  by_cases h2 : 200 < (xValue.size : Int)
  · simp only [go_sem, reduceIte, ↓reduceIte, reduceCtorEq, nA, nS, nM, nB, nE, nL, nT, nN, iL, iT, iE, iA, iM, iS, iG, iB, iN, iZ, h, h1, h2, headerCode]
  have h3 : (xValue.size : Int) ≤ 1000000 := by omega
  have h4 : xValue.size ≤ 9223372036854775806 := by omega
  have h5 : xValue.size ≤ 9223372036854775807 := by omega
  cases h6 : areP xValue
  · simp only [go_sem, reduceIte, ↓reduceIte, reduceCtorEq, nA, nS, nM, nB, nE, nL, nT, nN, iL, iT, iE, iA, iM, iS, iG, iB, iN, iZ, h, h1, h2, h3, h4, h5, h6, headerCode]
  cases h7 : eqv (trimB xValue) xValue <;> simp only [go_sem, reduceIte, ↓reduceIte, reduceCtorEq, nA, nS, nM, nB, nE, nL, nT, nN, iL, iT, iE, iA, iM, iS, iG, iB, iN, iZ, h, h1, h2, h3, h4, h5, h6, h7, eqv_bytes, eqv_boolne, bne, headerCode]) (rfl)
noncomputable def s125 : SP Tryz.prog := mkS tyA 125 Tryz.f125 [s151] { md := [.ro 1], rg := [(0, [0], []), (1, [0, 8], []), (2, [2], []), (3, [0, 9, 10, 11], []), (4, [0, 9, 10, 11, 12], []), (5, [0, 4, 9, 10, 11], [4]), (6, [0, 5, 9, 10, 11], []), (7, [0, 5, 9, 10, 11, 18], []), (8, [2], []), (9, [0, 9, 10, 11], []), (10, [2], [])], lv := [(0, [0, 9, 10, 11], [])], out := [(0, [], [])], rets := some ([2], []) } Tryz.func125 (by kernel_rfl)
@[go_sem] theorem d125 : s125.g = 125 ∧ s125.fs = ⟨[.ro 1], s125.F, false⟩ := ⟨nr rfl, nr rfl⟩
@[go_sem] theorem e125 (hs : List Header) : s125.F [.sl .ro 2 (hs.map (rHeader .ro))] = some (.i .i64 (headersFault hs), [.u]) := mkS_eq (hs.length + 1) rfl rfl (fun cx h => by
  by_cases h1 : 20 < (hs.length : Int)
  · simp only [go_sem, reduceIte, ↓reduceIte, reduceCtorEq, nA, nS, nM, nB, nE, nL, nT, nN, iL, iT, iE, iA, iM, iS, iG, iB, iN, iZ, h, h1, headersFault]
  have hx : hs.length ≤ 9223372036854775806 := by omega
  have hb0 := loopN_eq Tryz.f125 0 _ _ rfl rfl
  obtain ⟨r, hr, hq⟩ := loop_srch (cx := cx) (blk := 0) (body := loopN Tryz.f125 0) hs (fun k (s : Unit) => ⟨E [(0, .sl .ro 2 (hs.map (rHeader .ro))), (9, .sl .ro 2 (hs.map (rHeader .ro))), (10, .i .i64 hs.length), (11, .i .i64 k)], B []⟩) (fun s => ⟨E [], B []⟩) (fun x s => headerCode x != 0) (fun x s => ()) (fun x s => (.ret, ⟨E [(2, .i .i64 (headerCode x))], B []⟩)) (fun k s => True)
      (fun s hI G => by simp only [go_sem, reduceIte, ↓reduceIte, reduceCtorEq, nA, nS, nM, nB, nE, nL, nT, nN, iL, iT, iE, iA, iM, iS, iG, iB, iN, iZ, h, Int.lt_irrefl, hb0, hx]) (fun k hk s hI => by
        have h1 : ((k : Int) < (hs.length : Int)) := Int.ofNat_lt.2 hk
        exact ⟨_, _, _, fun G => by simp only [go_sem, reduceIte, ↓reduceIte, reduceCtorEq, nA, nS, nM, nB, nE, nL, nT, nN, iL, iT, iE, iA, iM, iS, iG, iB, iN, iZ, h, map_gd (rHeader .ro) hs _ hk, rHeader, h1, idx_nt _ _ hk, wrap_nat1 (show k < 9223372036854775807 by omega), hb0] <;> with_reducible rfl, Iff.rfl, fun hc => ⟨trivial, by simp only [go_sem, reduceIte, ↓reduceIte, reduceCtorEq, nA, nS, nM, nB, nE, nL, nT, nN, iL, iT, iE, iA, iM, iS, iG, iB, iN, iZ, h]⟩⟩) () trivial (hs.length + 1) (Nat.le_refl _)
  rw [hb0] at hr
  rcases hq with ⟨s', e1, _, e3⟩ | ⟨x, s', e1, e3⟩
  · simp only [go_sem, reduceIte, ↓reduceIte, reduceCtorEq, nA, nS, nM, nB, nE, nL, nT, nN, iL, iT, iE, iA, iM, iS, iG, iB, iN, iZ, h, h1, hr, e3, headersFault, firstI_inl e1]
  · simp only [go_sem, reduceIte, ↓reduceIte, reduceCtorEq, nA, nS, nM, nB, nE, nL, nT, nN, iL, iT, iE, iA, iM, iS, iG, iB, iN, iZ, h, h1, hr, e3, headersFault, firstI_inr e1]) (rfl)
noncomputable def s170 : SP Tryz.prog := mkS tyA 170 Tryz.f170 [] { md := [.ro 1], rg := [(0, [0], []), (1, [3], []), (2, [3, 8, 9, 10], []), (3, [3, 8, 9, 10, 11], []), (4, [3, 4, 5, 8, 9, 10], []), (5, [3, 4, 5, 8, 9, 10, 20], []), (6, [3, 8, 9, 10], []), (7, [3, 8, 9, 10], []), (8, [2], [])], lv := [(0, [3, 8, 9, 10], [])], out := [(0, [3], [])], rets := some ([2], []) } Tryz.func170 (by kernel_rfl)
@[go_sem] theorem d170 : s170.g = 170 ∧ s170.fs = ⟨[.ro 1], s170.F, false⟩ := ⟨nr rfl, nr rfl⟩
@[go_sem] theorem e170 (t : ByteArray) (h0 : t.size ≤ 9223372036854775806) : s170.F [.s t] = some (.s (lowS t), [.u]) := mkS_eq (t.data.toList.length + 1) rfl rfl (fun cx h => by
  have hz : t.data.toList.length ≤ 9223372036854775807 := by rw [← str_size]; omega
  have hx : t.data.toList.length ≤ 9223372036854775806 := by rw [← str_size]; exact h0
  have hb0 := loopN_eq Tryz.f170 0 _ _ rfl rfl
  obtain ⟨hI, hr⟩ := loop_fold (cx := cx) (blk := 0) (body := loopN Tryz.f170 0) t.data.toList (fun k (s : Unit) => ⟨E [(3, .sl .mut 1 ((lowUp t.data.toList k).map rByte)), (8, .rf ⟨true, 3, [], 0⟩ 1 0 t.data.toList.length), (9, .i .i64 t.data.toList.length), (10, .i .i64 k)], B []⟩) (fun s => ⟨E [(3, .sl .mut 1 ((t.data.toList.map lowB).map rByte))], B []⟩) (fun x s => s) (fun k s => True)
      (fun s hI G => by simp only [go_sem, reduceIte, ↓reduceIte, reduceCtorEq, nA, nS, nM, nB, nE, nL, nT, nN, iL, iT, iE, iA, iM, iS, iG, iB, iN, iZ, h, Int.lt_irrefl, hb0, lowUp_len t.data.toList t.data.toList.length (Nat.le_refl _), lowUp_all t.data.toList, List.length_map]) (fun k hk s hI => by
        have h1 : ((k : Int) < (t.data.toList.length : Int)) := Int.ofNat_lt.2 hk
        have g1 := lowUp_gd t.data.toList k hk
        have g2 := lowUp_g t.data.toList k hk
        have g3 := lowUp_len t.data.toList k (Nat.le_of_lt hk)
        have g4 : (List.take t.data.toList.length ((lowUp t.data.toList k).map rByte)) = (lowUp t.data.toList k).map rByte := List.take_of_length_le (by rw [List.length_map, g3]; exact Nat.le_refl _)
        rcases lowStep t.data.toList k hk with ⟨a1, a2, w1, w2, hs, hv⟩ | ⟨a1, a2, w1, w2, hs, hv⟩ | ⟨a1, a2, w1, w2, hs, hv⟩
        all_goals exact ⟨trivial, _, fun G => by simp only [go_sem, reduceIte, ↓reduceIte, reduceCtorEq, nA, nS, nM, nB, nE, nL, nT, nN, iL, iT, iE, iA, iM, iS, iG, iB, iN, iZ, h, g1, g2, g3, g4, a1, a2, w1, w2, hs, List.length_map, h1, idx_nt _ _ hk, wrap_nat1 (show k < 9223372036854775807 by omega), hb0] <;> with_reducible rfl, by simp only [go_sem, reduceIte, ↓reduceIte, reduceCtorEq, nA, nS, nM, nB, nE, nL, nT, nN, iL, iT, iE, iA, iM, iS, iG, iB, iN, iZ, h, hv]⟩) () trivial (t.data.toList.length + 1) (Nat.le_refl _)
  rw [hb0] at hr
  rw [lowUp_zero] at hr
  simp only [go_sem, reduceIte, ↓reduceIte, reduceCtorEq, nA, nS, nM, nB, nE, nL, nT, nN, iL, iT, iE, iA, iM, iS, iG, iB, iN, iZ, h, hz, hr, str_size t, lowS]) (rfl)
noncomputable def s152 : SP Tryz.prog := mkS tyA 152 Tryz.f152 [s170] { md := [.ro 1, .ro 1], rets := some ([4], []) } Tryz.func152 (by kernel_rfl)
@[go_sem] theorem d152 : s152.g = 152 ∧ s152.fs = ⟨[.ro 1, .ro 1], s152.F, false⟩ := ⟨nr rfl, nr rfl⟩
@[go_sem] theorem e152 (a : ByteArray) (b : ByteArray) (h0 : (a.size ≤ 9223372036854775806 ∧ b.size ≤ 9223372036854775806)) : s152.F [.s a, .s b] = some (.b (eqv (lowS a) (lowS b)), [.u, .u]) := mkS_eq (0) rfl rfl (fun cx h => by
  simp only [go_sem, reduceIte, ↓reduceIte, reduceCtorEq, nA, nS, nM, nB, nE, nL, nT, nN, iL, iT, iE, iA, iM, iS, iG, iB, iN, iZ, h, h0.1, h0.2, eqv_bytes]) (rfl)
theorem ffold {α β : Type} (p : α → Bool) (f : α → β) : ∀ (xs : List α) (acc : List β), xs.foldl (fun s x => if p x = true then s ++ [f x] else s) acc = acc ++ (xs.filter p).map f
  | [], acc => by simp
  | x :: xs, acc => by
    rw [List.foldl_cons, ffold p f xs, List.filter_cons]
    cases p x <;> simp
noncomputable def s126 : SP Tryz.prog := mkS tyA 126 Tryz.f126 [s152] { md := [.ro 1, .ro 1], rg := [(0, [0, 1], []), (1, [0, 1, 5], []), (2, [0, 1, 5, 9, 10, 11], []), (3, [0, 1, 5, 9, 10, 11, 12], []), (4, [0, 1, 5, 7, 9, 10, 11], [7]), (5, [0, 1, 5, 7, 9, 10, 11, 18], [7]), (6, [0, 1, 5, 9, 10, 11], []), (7, [0, 1, 5, 9, 10, 11], []), (8, [4], [])], lv := [(0, [0, 1, 5, 9, 10, 11], [])], out := [(0, [5], [])], rets := some ([4], []) } Tryz.func126 (by kernel_rfl)
@[go_sem] theorem d126 : s126.g = 126 ∧ s126.fs = ⟨[.ro 1, .ro 1], s126.F, false⟩ := ⟨nr rfl, nr rfl⟩
@[go_sem] theorem e126 (hs : List Header) (name : ByteArray) (h0 : (hs.length ≤ 20 ∧ smL smHeader hs ∧ okN name = true)) : s126.F [.sl .ro 2 (hs.map (rHeader .ro)), .s name] = some (.sl .mut 1 ((valsOf hs name).map rStr), [.u, .u]) := mkS_eq (hs.length + 1) rfl rfl (fun cx h => by
  have hl := h0.1
  have hx : hs.length ≤ 9223372036854775806 := by omega
  have hb0 := loopN_eq Tryz.f126 0 _ _ rfl rfl
  obtain ⟨hI, hr⟩ := loop_fold (cx := cx) (blk := 0) (body := loopN Tryz.f126 0) hs (fun k (s : List ByteArray) => ⟨E [(0, .sl .ro 2 (hs.map (rHeader .ro))), (1, .s name), (5, .sl .mut 1 (s.map rStr)), (9, .sl .ro 2 (hs.map (rHeader .ro))), (10, .i .i64 hs.length), (11, .i .i64 k)], B []⟩) (fun s => ⟨E [(5, .sl .mut 1 (s.map rStr))], B []⟩) (fun x s => (if eqv (lowS x.Name) (lowS name) = true then s ++ [x.Value] else s)) (fun k s => s.length ≤ k)
      (fun s hI G => by simp only [go_sem, reduceIte, ↓reduceIte, reduceCtorEq, nA, nS, nM, nB, nE, nL, nT, nN, iL, iT, iE, iA, iM, iS, iG, iB, iN, iZ, h, Int.lt_irrefl, hb0, h0.1]) (fun k hk s hI => by
        have h1 : ((k : Int) < (hs.length : Int)) := Int.ofNat_lt.2 hk
        have t3 : (s.length + 1) * 16 ≤ 140737488355328 := by omega
        have t4 : s.map rStr ++ [[.s hs[k].Value]] = (s ++ [hs[k].Value]).map rStr := by simp [rStr]
        obtain ⟨u1, u2⟩ := h0.2.1.2 _ (List.getElem_mem hk)
        have n1 : hs[k].Name.size ≤ 9223372036854775806 ∧ name.size ≤ 9223372036854775806 := ⟨by have : hs[k].Name.size ≤ 1048576 := u1; omega, of_decide_eq_true h0.2.2⟩
        cases d1 : eqv (lowS hs[k].Name) (lowS name)
        all_goals exact ⟨by split <;> (try simp only [List.length_append, List.length_cons, List.length_nil]) <;> omega, _, fun G => by simp only [go_sem, reduceIte, ↓reduceIte, reduceCtorEq, nA, nS, nM, nB, nE, nL, nT, nN, iL, iT, iE, iA, iM, iS, iG, iB, iN, iZ, h, t3, t4, map_gd (rHeader .ro) hs k hk, n1, d1, h1, idx_nt _ _ hk, wrap_nat1 (show k < 9223372036854775807 by omega), hb0] <;> with_reducible rfl, by simp only [go_sem, reduceIte, ↓reduceIte, reduceCtorEq, nA, nS, nM, nB, nE, nL, nT, nN, iL, iT, iE, iA, iM, iS, iG, iB, iN, iZ, h, d1]⟩) [] (by simp) (hs.length + 1) (Nat.le_refl _)
  rw [hb0] at hr
  have hff := ffold (fun x : Header => eqv (lowS x.Name) (lowS name)) (fun x => x.Value) hs []
  simp only [List.nil_append] at hff
  rw [hff] at hr
  simp only [go_sem, reduceIte, ↓reduceIte, reduceCtorEq, nA, nS, nM, nB, nE, nL, nT, nN, iL, iT, iE, iA, iM, iS, iG, iB, iN, iZ, h, hr, valsOf]) (by simp only [go_sem, reduceIte, ↓reduceIte, reduceCtorEq, nA, nS, nM, nB, nE, nL, nT, nN, iL, iT, iE, iA, iM, iS, iG, iB, iN, iZ, okRes, hasRo])
noncomputable def s73 : SP Tryz.prog := mkS tyA 73 Tryz.f73 [s122, s123, s124, s125, s126] { md := [.ro 1], rg := [(0, [1], [1]), (1, [1, 19], [1]), (2, [2], []), (3, [1, 3], [1]), (4, [1, 3, 24], [1]), (5, [2], []), (6, [1, 26], [1]), (7, [2], []), (8, [32], []), (9, [2], []), (10, [2], [])], rets := some ([2], []) } Tryz.func73 (by kernel_rfl)
@[go_sem] theorem d73 : s73.g = 73 ∧ s73.fs = ⟨[.ro 1], s73.F, false⟩ := ⟨nr rfl, nr rfl⟩
@[go_sem] theorem e73 (rMethod : ByteArray) (rHost : ByteArray) (rPath : ByteArray) (rHeaders : List Header) (h0 : smL smHeader (Request.mk rMethod rHost rPath rHeaders).Headers) : s73.F [.agg [.s rMethod, .s rHost, .s rPath, .sl .ro 2 (rHeaders.map (rHeader .ro))]] = some (.i .i64 (requestFault (Request.mk rMethod rHost rPath rHeaders)), [.u]) := mkS_eq (0) rfl rfl (fun cx h => by
  have key : ∀ m : Bool, isMethod rMethod = m → (isMethod rMethod && isHost rHost && isPath rPath) = (m && isHost rHost && isPath rPath) := fun m h => by rw [h]
  have hn1 : okN ⟨#[72, 111, 115, 116]⟩ = true := by decide
  have hn2 : okN ⟨#[104, 111, 115, 116]⟩ = true := by decide
  cases m0 : isMethod rMethod
  · simp only [go_sem, reduceIte, ↓reduceIte, reduceCtorEq, nA, nS, nM, nB, nE, nL, nT, nN, iL, iT, iE, iA, iM, iS, iG, iB, iN, iZ, h, m0, requestFault]
  cases h2 : isHost rHost
  · simp only [go_sem, reduceIte, ↓reduceIte, reduceCtorEq, nA, nS, nM, nB, nE, nL, nT, nN, iL, iT, iE, iA, iM, iS, iG, iB, iN, iZ, h, h2, m0, requestFault]
  cases h3 : isPath rPath
  · simp only [go_sem, reduceIte, ↓reduceIte, reduceCtorEq, nA, nS, nM, nB, nE, nL, nT, nN, iL, iT, iE, iA, iM, iS, iG, iB, iN, iZ, h, h2, h3, m0, requestFault]
  by_cases z : headersFault rHeaders = 0
  rotate_left
  · have z' : (headersFault rHeaders != 0) = true := by simpa using z
    simp only [go_sem, reduceIte, ↓reduceIte, reduceCtorEq, nA, nS, nM, nB, nE, nL, nT, nN, iL, iT, iE, iA, iM, iS, iG, iB, iN, iZ, h, h2, h3, z', m0, requestFault]
  have z' : (headersFault rHeaders != 0) = false := by simpa using z
  have h4 : rHeaders.length ≤ 20 ∧ smL smHeader rHeaders ∧ okN ⟨#[72, 111, 115, 116]⟩ = true := ⟨headersFault_ok z, h0, hn1⟩
  have h5 : rHeaders.length ≤ 20 ∧ smL smHeader rHeaders ∧ okN ⟨#[104, 111, 115, 116]⟩ = true := ⟨headersFault_ok z, h0, hn2⟩
  have h6 := valsOf_pos rHeaders ⟨#[72, 111, 115, 116]⟩
  have h7 := hasV_host rHeaders
  cases h8 : hasV rHeaders ⟨#[72, 111, 115, 116]⟩
  · by_cases h9 : 20 ≤ (rHeaders.length : Int)
    · have h10 : ((rHeaders.length : Int) == 20) = true := by have := h4.1; simp; omega
      simp only [go_sem, reduceIte, ↓reduceIte, reduceCtorEq, nA, nS, nM, nB, nE, nL, nT, nN, iL, iT, iE, iA, iM, iS, iG, iB, iN, iZ, h, h2, h3, z, h4, h5, h6, h7, h8, h9, h10, m0, requestFault]
    · have h10 : ((rHeaders.length : Int) == 20) = false := by have := h4.1; simp; omega
      simp only [go_sem, reduceIte, ↓reduceIte, reduceCtorEq, nA, nS, nM, nB, nE, nL, nT, nN, iL, iT, iE, iA, iM, iS, iG, iB, iN, iZ, h, h2, h3, z, h4, h5, h6, h7, h8, h9, h10, m0, requestFault]
  · simp only [go_sem, reduceIte, ↓reduceIte, reduceCtorEq, nA, nS, nM, nB, nE, nL, nT, nN, iL, iT, iE, iA, iM, iS, iG, iB, iN, iZ, h, h2, h3, z, h4, h5, h6, h7, h8, m0, requestFault]) (rfl)
noncomputable def s107 : SP Tryz.prog := mkS tyA 107 Tryz.f107 [] { md := [.ro 1], rets := some ([2], []) } Tryz.func107 (by kernel_rfl)
@[go_sem] theorem d107 : s107.g = 107 ∧ s107.fs = ⟨[.ro 1], s107.F, false⟩ := ⟨nr rfl, nr rfl⟩
@[go_sem] theorem e107 (t : ByteArray) : s107.F [.s t] = some (.b (isKey t), [.u]) := mkS_eq (0) rfl rfl (fun cx h => by
  by_cases h1 : 1 ≤ (t.size : Int) <;> by_cases h2 : (t.size : Int) ≤ 500 <;> simp only [go_sem, reduceIte, ↓reduceIte, reduceCtorEq, nA, nS, nM, nB, nE, nL, nT, nN, iL, iT, iE, iA, iM, iS, iG, iB, iN, iZ, h, h1, h2, isKey]) (rfl)
noncomputable def s57 : SP Tryz.prog := mkS tyA 57 Tryz.f57 [s58, s73, s98, s107, s108, s109] { md := [.ro 1], rg := [(0, [1], [1]), (1, [1, 4], [1]), (2, [2], []), (3, [1, 15], [1]), (4, [2], []), (5, [1, 3], [1]), (6, [1, 3, 24], [1]), (7, [2], []), (8, [1, 26], [1]), (9, [2], []), (10, [1, 35], [1]), (11, [2], []), (12, [1, 40], [1]), (13, [2], []), (14, [44], []), (15, [2], []), (16, [2], [])], rets := some ([2], []) } Tryz.func57 (by kernel_rfl)
@[go_sem] theorem d57 : s57.g = 57 ∧ s57.fs = ⟨[.ro 1], s57.F, false⟩ := ⟨nr rfl, nr rfl⟩
@[go_sem] theorem e57 (fId : Int) (fKey : ByteArray) (fBack : Bool) (fOut : Bool) (fDue : Int) (fDoomed : Bool) (fGetMethod : ByteArray) (fGetHost : ByteArray) (fGetPath : ByteArray) (fGetHeaders : List Header) (fWaiters : List Waiter) (h0 : smL smHeader (Flight.mk fId fKey fBack fOut fDue fDoomed (Request.mk fGetMethod fGetHost fGetPath fGetHeaders) fWaiters).Get.Headers) : s57.F [.agg [.i .i64 fId, .s fKey, .b fBack, .b fOut, .i .i64 fDue, .b fDoomed, .s fGetMethod, .s fGetHost, .s fGetPath, .sl .ro 2 (fGetHeaders.map (rHeader .ro)), .sl .ro 4 (fWaiters.map (rWaiter .ro))]] = some (.i .i64 (flightFault (Flight.mk fId fKey fBack fOut fDue fDoomed (Request.mk fGetMethod fGetHost fGetPath fGetHeaders) fWaiters)), [.u]) := mkS_eq (0) rfl rfl (fun cx h => by
  have hH : smL smHeader fGetHeaders := h0
  cases t1 : isTime fId
  · simp only [go_sem, reduceIte, ↓reduceIte, reduceCtorEq, nA, nS, nM, nB, nE, nL, nT, nN, iL, iT, iE, iA, iM, iS, iG, iB, iN, iZ, h, t1, flightFault]
  cases t2 : isTime fDue
  · simp only [go_sem, reduceIte, ↓reduceIte, reduceCtorEq, nA, nS, nM, nB, nE, nL, nT, nN, iL, iT, iE, iA, iM, iS, iG, iB, iN, iZ, h, t1, t2, flightFault]
  cases hk : isKey fKey
  · simp only [go_sem, reduceIte, ↓reduceIte, reduceCtorEq, nA, nS, nM, nB, nE, nL, nT, nN, iL, iT, iE, iA, iM, iS, iG, iB, iN, iZ, h, t1, t2, hk, flightFault]
  by_cases z : requestFault (Request.mk fGetMethod fGetHost fGetPath fGetHeaders) = 0
  rotate_left
  · have z' : (requestFault (Request.mk fGetMethod fGetHost fGetPath fGetHeaders) != 0) = true := by simpa using z
    simp only [go_sem, reduceIte, ↓reduceIte, reduceCtorEq, nA, nS, nM, nB, nE, nL, nT, nN, iL, iT, iE, iA, iM, iS, iG, iB, iN, iZ, h, t1, t2, hk, hH, z', flightFault]
  rcases (show (fOut = true ∧ True) ∨ (fOut = false ∧ (fDue != 0) = false) ∨ (fOut = false ∧ (fDue != 0) = true) from by cases fOut <;> cases (fDue != 0) <;> simp) with ⟨o1, o2⟩ | ⟨o1, o2⟩ | ⟨o1, o2⟩
  rotate_left
  rotate_left
  · simp only [go_sem, reduceIte, ↓reduceIte, reduceCtorEq, nA, nS, nM, nB, nE, nL, nT, nN, iL, iT, iE, iA, iM, iS, iG, iB, iN, iZ, h, t1, t2, hk, hH, z, o1, o2, flightFault]
  all_goals
    by_cases w1 : 10 < (fWaiters.length : Int)
    · simp only [go_sem, reduceIte, ↓reduceIte, reduceCtorEq, nA, nS, nM, nB, nE, nL, nT, nN, iL, iT, iE, iA, iM, iS, iG, iB, iN, iZ, h, t1, t2, hk, hH, z, o1, o2, w1, flightFault]
    have hx : fWaiters.length ≤ 9223372036854775806 := by omega
    cases w2 : (fWaiters.any fun x => !isReqW x)
    · cases w3 : tw [] fWaiters <;> simp only [go_sem, reduceIte, ↓reduceIte, reduceCtorEq, nA, nS, nM, nB, nE, nL, nT, nN, iL, iT, iE, iA, iM, iS, iG, iB, iN, iZ, h, t1, t2, hk, hH, z, o1, o2, w1, w2, w3, hx, flightFault]
    · simp only [go_sem, reduceIte, ↓reduceIte, reduceCtorEq, nA, nS, nM, nB, nE, nL, nT, nN, iL, iT, iE, iA, iM, iS, iG, iB, iN, iZ, h, t1, t2, hk, hH, z, o1, o2, w1, w2, hx, flightFault]) (rfl)
noncomputable def s154 : SP Tryz.prog := mkS tyA 154 Tryz.f154 [] { md := [.ro 1], rg := [(0, [0], []), (1, [0, 4], []), (2, [2], []), (3, [2], [])], rets := some ([2], []), nz := true } Tryz.func154 (by kernel_rfl)
@[go_sem] theorem d154 : s154.g = 154 ∧ s154.fs = ⟨[.ro 1], s154.F, false⟩ := ⟨nr rfl, nr rfl⟩
@[go_sem] theorem e154 (xs : List Header) (h0 : smL smHeader xs) : s154.F [.sl .ro 2 (xs.map (rHeader .ro))] = some (.sl .mut 2 (xs.map (rHeader .mut)), [.u]) := mkS_eqN (0) rfl rfl (fun cx h => by
  have h0 := h0.1
  have h1 : (xs.map (rHeader .ro)).all (·.all plain) = true := by simp [rHeader, plain]
  have h2 : xs.length * 32 ≤ 140737488355328 := by omega
  have h3 : xs.map (rHeader .ro) = xs.map (rHeader .mut) := rfl
  rcases Nat.eq_zero_or_pos xs.length with hp | hp
  · obtain rfl := List.length_eq_zero_iff.1 hp
    simp only [go_sem, reduceIte, ↓reduceIte, reduceCtorEq, nA, nS, nM, nB, nE, nL, nT, nN, iL, iT, iE, iA, iM, iS, iG, iB, iN, iZ, h]
  · simp only [go_sem, reduceIte, ↓reduceIte, reduceCtorEq, nA, nS, nM, nB, nE, nL, nT, nN, iL, iT, iE, iA, iM, iS, iG, iB, iN, iZ, h, h1, h2, hp]
    rw [h3]) (by simp only [go_sem, reduceIte, ↓reduceIte, reduceCtorEq, nA, nS, nM, nB, nE, nL, nT, nN, iL, iT, iE, iA, iM, iS, iG, iB, iN, iZ, okRes, hasRo])
noncomputable def s134 : SP Tryz.prog := mkS tyA 134 Tryz.f134 [s154] { md := [.ro 1], rg := [(0, [1, 2], [1, 2]), (1, [1, 2], [1, 2]), (2, [2], [1, 2])], rets := some ([2], [1, 2]) } Tryz.func134 (by kernel_rfl)
@[go_sem] theorem d134 : s134.g = 134 ∧ s134.fs = ⟨[.ro 1], s134.F, false⟩ := ⟨nr rfl, nr rfl⟩
@[go_sem] theorem e134 (rMethod : ByteArray) (rHost : ByteArray) (rPath : ByteArray) (rHeaders : List Header) (h0 : smL smHeader (Request.mk rMethod rHost rPath rHeaders).Headers) : s134.F [.agg [.s rMethod, .s rHost, .s rPath, .sl .ro 2 (rHeaders.map (rHeader .ro))]] = some (.agg (rRequest .mut (Request.mk rMethod rHost rPath rHeaders)), [.u]) := mkS_eq (0) rfl rfl (fun cx h => by
  simp only [go_sem, reduceIte, ↓reduceIte, reduceCtorEq, nA, nS, nM, nB, nE, nL, nT, nN, iL, iT, iE, iA, iM, iS, iG, iB, iN, iZ, h, h0]) (by simp only [go_sem, reduceIte, ↓reduceIte, reduceCtorEq, nA, nS, nM, nB, nE, nL, nT, nN, iL, iT, iE, iA, iM, iS, iG, iB, iN, iZ, okRes, hasRo, hasRoL, hasRoLL])
noncomputable def s135 : SP Tryz.prog := mkS tyA 135 Tryz.f135 [] { md := [.ro 1], rg := [(0, [0], []), (1, [0, 4], []), (2, [2], []), (3, [2], [])], rets := some ([2], []), nz := true } Tryz.func135 (by kernel_rfl)
@[go_sem] theorem d135 : s135.g = 135 ∧ s135.fs = ⟨[.ro 1], s135.F, false⟩ := ⟨nr rfl, nr rfl⟩
@[go_sem] theorem e135 (xs : List Waiter) (h0 : smL smWaiter xs) : s135.F [.sl .ro 4 (xs.map (rWaiter .ro))] = some (.sl .mut 4 (xs.map (rWaiter .mut)), [.u]) := mkS_eqN (0) rfl rfl (fun cx h => by
  have h0 := h0.1
  have h1 : (xs.map (rWaiter .ro)).all (·.all plain) = true := by simp [rWaiter, plain]
  have h2 : xs.length * 32 ≤ 140737488355328 := by omega
  have h3 : xs.map (rWaiter .ro) = xs.map (rWaiter .mut) := rfl
  rcases Nat.eq_zero_or_pos xs.length with hp | hp
  · obtain rfl := List.length_eq_zero_iff.1 hp
    simp only [go_sem, reduceIte, ↓reduceIte, reduceCtorEq, nA, nS, nM, nB, nE, nL, nT, nN, iL, iT, iE, iA, iM, iS, iG, iB, iN, iZ, h]
  · simp only [go_sem, reduceIte, ↓reduceIte, reduceCtorEq, nA, nS, nM, nB, nE, nL, nT, nN, iL, iT, iE, iA, iM, iS, iG, iB, iN, iZ, h, h1, h2, hp]
    rw [h3]) (by simp only [go_sem, reduceIte, ↓reduceIte, reduceCtorEq, nA, nS, nM, nB, nE, nL, nT, nN, iL, iT, iE, iA, iM, iS, iG, iB, iN, iZ, okRes, hasRo])
noncomputable def s93 : SP Tryz.prog := mkS tyA 93 Tryz.f93 [s134, s135] { md := [.ro 1], rg := [(0, [1, 2], [1, 2]), (1, [1, 2], [1, 2]), (2, [2], [1, 2])], rets := some ([2], [1, 2]), plan := [(1, (.take 0 (.take 1 (.take 3 (.take 4 (.one 2 (.take 6 (.one 5 (.one 7 (.take 8 (.one 9 .done)))))))))))] } Tryz.func93 (by kernel_rfl)
@[go_sem] theorem d93 : s93.g = 93 ∧ s93.fs = ⟨[.ro 1], s93.F, false⟩ := ⟨nr rfl, nr rfl⟩
@[go_sem] theorem e93 (fId : Int) (fKey : ByteArray) (fBack : Bool) (fOut : Bool) (fDue : Int) (fDoomed : Bool) (fGetMethod : ByteArray) (fGetHost : ByteArray) (fGetPath : ByteArray) (fGetHeaders : List Header) (fWaiters : List Waiter) (h0 : (smL smHeader (Flight.mk fId fKey fBack fOut fDue fDoomed (Request.mk fGetMethod fGetHost fGetPath fGetHeaders) fWaiters).Get.Headers ∧ smL smWaiter (Flight.mk fId fKey fBack fOut fDue fDoomed (Request.mk fGetMethod fGetHost fGetPath fGetHeaders) fWaiters).Waiters)) : s93.F [.agg [.i .i64 fId, .s fKey, .b fBack, .b fOut, .i .i64 fDue, .b fDoomed, .s fGetMethod, .s fGetHost, .s fGetPath, .sl .ro 2 (fGetHeaders.map (rHeader .ro)), .sl .ro 4 (fWaiters.map (rWaiter .ro))]] = some (.agg (rFlight .mut (Flight.mk fId fKey fBack fOut fDue fDoomed (Request.mk fGetMethod fGetHost fGetPath fGetHeaders) fWaiters)), [.u]) := mkS_eq (0) rfl rfl (fun cx h => by
  simp only [go_sem, reduceIte, ↓reduceIte, reduceCtorEq, nA, nS, nM, nB, nE, nL, nT, nN, iL, iT, iE, iA, iM, iS, iG, iB, iN, iZ, h, h0.1, h0.2]) (by simp only [go_sem, reduceIte, ↓reduceIte, reduceCtorEq, nA, nS, nM, nB, nE, nL, nT, nN, iL, iT, iE, iA, iM, iS, iG, iB, iN, iZ, okRes, hasRo, hasRoL, hasRoLL])
noncomputable def s99 : SP Tryz.prog := mkS tyA 99 Tryz.f99 [] { md := [.rw 11, .ro 1], rg := [(0, [0, 1, 6], [0]), (1, [0, 1, 5, 6], [0]), (2, [0, 1, 5, 6, 14, 15, 16], [0]), (3, [0, 1, 5, 6, 14, 15, 16, 17], [0]), (4, [0, 1, 5, 6, 8, 14, 15, 16], [0, 8]), (5, [0, 1, 5, 6, 8, 14, 15, 16, 23], [0, 8]), (6, [0, 1, 5, 6, 14, 15, 16], [0]), (7, [0, 1, 5, 6, 14, 15, 16], [0]), (8, [0, 1, 5, 6, 14, 15, 16], [0]), (9, [0, 5, 6], [0]), (10, [0, 4, 6], [0])], lv := [(0, [0, 1, 5, 6, 14, 15, 16], [0])], out := [(0, [0, 5, 6], [0])], rets := some ([0, 4, 6], [0]) } Tryz.func99 (by kernel_rfl)
@[go_sem] theorem d99 : s99.g = 99 ∧ s99.fs = ⟨[.rw 11, .ro 1], s99.F, false⟩ := ⟨nr rfl, nr rfl⟩
@[go_sem] theorem e99 (fId : Int) (fKey : ByteArray) (fBack : Bool) (fOut : Bool) (fDue : Int) (fDoomed : Bool) (fGetMethod : ByteArray) (fGetHost : ByteArray) (fGetPath : ByteArray) (fGetHeaders : List Header) (fWaiters : List Waiter) (now : Int) (h0 : fWaiters.length ≤ 10) : s99.F [.agg [.i .i64 fId, .s fKey, .b fBack, .b fOut, .i .i64 fDue, .b fDoomed, .s fGetMethod, .s fGetHost, .s fGetPath, .sl .mut 2 (fGetHeaders.map (rHeader .mut)), .sl .mut 4 (fWaiters.map (rWaiter .mut))], .i .i64 now] = some (.sl .mut 4 ((goneW now fWaiters).map (rWaiter .mut)), [.agg (rFlight .mut (flightWith (Flight.mk fId fKey fBack fOut fDue fDoomed (Request.mk fGetMethod fGetHost fGetPath fGetHeaders) fWaiters) (leftW now fWaiters))), .u]) := mkS_eq (fWaiters.length + 1) rfl rfl (fun cx h => by
  have hx : fWaiters.length ≤ 9223372036854775806 := by omega
  have hb0 := loopN_eq Tryz.f99 0 _ _ rfl rfl
  obtain ⟨hI, hr⟩ := loop_fold (cx := cx) (blk := 0) (body := loopN Tryz.f99 0) fWaiters (fun k (s : List Waiter × List Waiter) => ⟨E [(0, .p ⟨false, 0, [], 0⟩), (1, .i .i64 now), (5, .sl .mut 4 (s.1.map (rWaiter .mut))), (6, .sl .mut 4 (s.2.map (rWaiter .mut))), (14, .rf ⟨false, 0, [], 10⟩ 4 0 fWaiters.length), (15, .i .i64 fWaiters.length), (16, .i .i64 k)], B [(0, [.i .i64 fId, .s fKey, .b fBack, .b fOut, .i .i64 fDue, .b fDoomed, .s fGetMethod, .s fGetHost, .s fGetPath, .sl .mut 2 (fGetHeaders.map (rHeader .mut)), .sl .mut 4 (fWaiters.map (rWaiter .mut))])]⟩) (fun s => ⟨E [(0, .p ⟨false, 0, [], 0⟩), (5, .sl .mut 4 (s.1.map (rWaiter .mut))), (6, .sl .mut 4 (s.2.map (rWaiter .mut)))], B [(0, [.i .i64 fId, .s fKey, .b fBack, .b fOut, .i .i64 fDue, .b fDoomed, .s fGetMethod, .s fGetHost, .s fGetPath, .sl .mut 2 (fGetHeaders.map (rHeader .mut)), .sl .mut 4 (fWaiters.map (rWaiter .mut))])]⟩) (fun x s => expStep now s x) (fun k s => (s.1.length ≤ k ∧ s.2.length ≤ k))
      (fun s hI G => by simp only [go_sem, reduceIte, ↓reduceIte, reduceCtorEq, nA, nS, nM, nB, nE, nL, nT, nN, iL, iT, iE, iA, iM, iS, iG, iB, iN, iZ, h, Int.lt_irrefl, hb0, hx, List.length_map]) (fun k hk s hI => by
        have h1 : ((k : Int) < (fWaiters.length : Int)) := Int.ofNat_lt.2 hk
        obtain ⟨j1, j2⟩ := hI
        have hJ : (expStep now s fWaiters[k]).1.length ≤ k + 1 ∧ (expStep now s fWaiters[k]).2.length ≤ k + 1 := by unfold expStep; split <;> simp <;> omega
        have t1 : (s.1.length + 1) * 32 ≤ 140737488355328 := by omega
        have t2 : (s.2.length + 1) * 32 ≤ 140737488355328 := by omega
        have t3 : s.1.map (rWaiter .mut) ++ [[.i .i64 fWaiters[k].Req, .b fWaiters[k].Head, .i .i64 fWaiters[k].Due, .b fWaiters[k].Late]] = (s.1 ++ [fWaiters[k]]).map (rWaiter .mut) := by simp [rWaiter]
        have t4 : s.2.map (rWaiter .mut) ++ [[.i .i64 fWaiters[k].Req, .b fWaiters[k].Head, .i .i64 fWaiters[k].Due, .b fWaiters[k].Late]] = (s.2 ++ [fWaiters[k]]).map (rWaiter .mut) := by simp [rWaiter]
        have hu : expStep now s fWaiters[k] = if fWaiters[k].Due ≤ now then (s.1 ++ [fWaiters[k]], s.2) else (s.1, s.2 ++ [fWaiters[k]]) := rfl
        by_cases d1 : fWaiters[k].Due ≤ now
        all_goals exact ⟨hJ, _, fun G => by simp only [go_sem, reduceIte, ↓reduceIte, reduceCtorEq, nA, nS, nM, nB, nE, nL, nT, nN, iL, iT, iE, iA, iM, iS, iG, iB, iN, iZ, h, t1, t2, t3, t4, d1, map_gd (rWaiter .mut) fWaiters k hk, gd_map (rWaiter .mut) fWaiters k hk, List.length_map, h1, idx_nt _ _ hk, wrap_nat1 (show k < 9223372036854775807 by omega), hb0] <;> with_reducible rfl, by simp only [go_sem, reduceIte, ↓reduceIte, reduceCtorEq, nA, nS, nM, nB, nE, nL, nT, nN, iL, iT, iE, iA, iM, iS, iG, iB, iN, iZ, h, hu, d1]⟩) ([], []) ⟨Nat.le_refl _, Nat.le_refl _⟩ (fWaiters.length + 1) (Nat.le_refl _)
  rw [hb0] at hr
  rw [expFold] at hr
  simp only [List.nil_append] at hr
  simp only [go_sem, reduceIte, ↓reduceIte, reduceCtorEq, nA, nS, nM, nB, nE, nL, nT, nN, iL, iT, iE, iA, iM, iS, iG, iB, iN, iZ, h, hr, flightWith, hx, List.length_map]) (by simp only [go_sem, reduceIte, ↓reduceIte, reduceCtorEq, nA, nS, nM, nB, nE, nL, nT, nN, iL, iT, iE, iA, iM, iS, iG, iB, iN, iZ, okRes, hasRo, hasRoL, hasRoLL, flightWith])
noncomputable def s41 : SP Tryz.prog := mkS tyA 41 Tryz.f41 [s57, s93, s98, s99] { md := [.ro 1, .ro 1], rg := [(0, [1, 2, 4, 7, 22, 23], [2, 4, 6]), (1, [1, 2, 4, 5, 7, 22, 23], [2, 4, 6]), (2, [1, 2, 4, 5, 7, 11, 22, 23], [2, 4, 6]), (3, [4, 7, 22, 23], [4, 6]), (4, [1, 2, 4, 7, 16, 22, 23], [2, 4, 6]), (5, [4, 7, 22, 23], [4, 6]), (6, [1, 4, 6, 7, 22, 23], [4, 6]), (7, [4, 6, 7, 22, 23], [4, 6]), (8, [4, 7, 22, 23], [4, 6])], rets := some ([4, 7, 22, 23], [4, 6]) } Tryz.func41 (by kernel_rfl)
@[go_sem] theorem d41 : s41.g = 41 ∧ s41.fs = ⟨[.ro 1, .ro 1], s41.F, false⟩ := ⟨nr rfl, nr rfl⟩
@[go_sem] theorem e41 (fId : Int) (fKey : ByteArray) (fBack : Bool) (fOut : Bool) (fDue : Int) (fDoomed : Bool) (fGetMethod : ByteArray) (fGetHost : ByteArray) (fGetPath : ByteArray) (fGetHeaders : List Header) (fWaiters : List Waiter) (now : Int) (h0 : smFlight (Flight.mk fId fKey fBack fOut fDue fDoomed (Request.mk fGetMethod fGetHost fGetPath fGetHeaders) fWaiters)) : s41.F [.agg [.i .i64 fId, .s fKey, .b fBack, .b fOut, .i .i64 fDue, .b fDoomed, .s fGetMethod, .s fGetHost, .s fGetPath, .sl .ro 2 (fGetHeaders.map (rHeader .ro)), .sl .ro 4 (fWaiters.map (rWaiter .ro))], .i .i64 now] = some (.agg (rWaitersResult .mut (expireWaiters (Flight.mk fId fKey fBack fOut fDue fDoomed (Request.mk fGetMethod fGetHost fGetPath fGetHeaders) fWaiters) now)), [.u, .u]) := mkS_eq (0) rfl rfl (fun cx h => by
  obtain ⟨u0, u1, u2, u3, u4, u5, u6, u7⟩ := h0
  have hH : smL smHeader fGetHeaders := u6.2.2.2
  by_cases z : flightFault (Flight.mk fId fKey fBack fOut fDue fDoomed (Request.mk fGetMethod fGetHost fGetPath fGetHeaders) fWaiters) = 0
  rotate_left
  · have z' : (flightFault (Flight.mk fId fKey fBack fOut fDue fDoomed (Request.mk fGetMethod fGetHost fGetPath fGetHeaders) fWaiters) != 0) = true := by simpa using z
    simp only [go_sem, reduceIte, ↓reduceIte, reduceCtorEq, nA, nS, nM, nB, nE, nL, nT, nN, iL, iT, iE, iA, iM, iS, iG, iB, iN, iZ, h, hH, z', expireWaiters, noFlight]
  have hl : fWaiters.length ≤ 10 := flightFault_ok z
  cases t1 : isTime now
  · simp only [go_sem, reduceIte, ↓reduceIte, reduceCtorEq, nA, nS, nM, nB, nE, nL, nT, nN, iL, iT, iE, iA, iM, iS, iG, iB, iN, iZ, h, hH, z, t1, expireWaiters, noFlight]
  simp only [go_sem, reduceIte, ↓reduceIte, reduceCtorEq, nA, nS, nM, nB, nE, nL, nT, nN, iL, iT, iE, iA, iM, iS, iG, iB, iN, iZ, h, hH, z, t1, u7, hl, expireWaiters, flightWith]) (by simp only [go_sem, reduceIte, ↓reduceIte, reduceCtorEq, nA, nS, nM, nB, nE, nL, nT, nN, iL, iT, iE, iA, iM, iS, iG, iB, iN, iZ, okRes, hasRo, hasRoL, hasRoLL])
end Go.Vm.A
