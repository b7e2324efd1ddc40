/- Functions of the program, walked by the evaluator. -/
import Derived.Test.YtnbhkifknleipaaGreatDoorWb
import Derived.Test.YtnbhkifknleipaaGreatDoorWa
import Derived.Test.YtnbhkifknleipaaGreatDoorFa
import Derived.Test.YtnbhkifknleipaaGreatDoorFb
import Derived.Test.YtnbhkifknleipaaGreatDoorFc
set_option autoImplicit false
set_option maxRecDepth 100000
set_option maxHeartbeats 4000000
set_option linter.unusedVariables false
set_option linter.unusedSimpArgs false
namespace Go.Vm.A
open Go.Proofs
open Nat renaming reduceAdd → nA, reduceSub → nS, reduceMul → nM, reduceBEq → nB, reduceEqDiff → nE, reduceLeDiff → nL, reduceLT → nT, reduceBneDiff → nN
open Int renaming reduceLE → iL, reduceLT → iT, reduceEq → iE, reduceAdd → iA, reduceMul → iM, reduceSub → iS, reduceNeg → iG, reduceBEq → iB, reduceBNe → iN, reduceToNat → iZ

def namesCode (xs : List ByteArray) : Int := if 4 < (xs.length : Int) then 2 else if (xs.any fun x => !isWord x) = true then 5 else 0
theorem any_not {α : Type} (p : α → Bool) : ∀ xs : List α, (xs.any fun x => !p x) = !xs.all p
  | [] => rfl
  | x :: xs => by rw [List.any_cons, List.all_cons, any_not p xs]; cases p x <;> rfl
def isKey (t : ByteArray) : Bool := decide (1 ≤ (t.size : Int)) && decide ((t.size : Int) ≤ 500)
noncomputable def flightFault (f : Flight) : Int :=
  if (isTime f.Id && isTime f.Due) = false then 3 else if isKey f.Key = false then 2 else if (requestFault f.Get != 0) = true then requestFault f.Get else if (!f.Out && f.Due != 0) = true then 8
  else if 10 < (f.Waiters.length : Int) then 2 else if (f.Waiters.any fun x => !isReqW x) = true then 3 else if tw [] f.Waiters = true then 6 else 0
theorem flightFault_ok {f : Flight} (h : flightFault f = 0) : f.Waiters.length ≤ 10 := by
  unfold flightFault at h
  split at h
  · cases h
  split at h
  · cases h
  split at h
  · rename_i hc; rw [h] at hc; cases hc
  split at h
  · cases h
  split at h
  · cases h
  omega
def noKept (s : Int) : Bool := s != 200 && s != 404 && s != 410
noncomputable def entryFault (e : Entry) : Int :=
  if isKey e.Key = false then 2 else if (noKept e.Status || !within e.Pins 0 20) = true then 3 else if (headersFault e.Headers != 0) = true then headersFault e.Headers
  else if (decide (2000 < (e.Body.length : Int)) || decide (10 < (e.Tags.length : Int))) = true then 2 else metaFault e.Meta
theorem noKept_f {s : Int} (h : noKept s = false) : s = 200 ∨ (s ≠ 200 ∧ s = 404) ∨ (s ≠ 200 ∧ s ≠ 404 ∧ s = 410) := by
  unfold noKept at h
  simp only [Bool.and_eq_false_iff, bne_eq_false_iff_eq] at h
  omega
theorem entryFault_ok {e : Entry} (h : entryFault e = 0) : headersFault e.Headers = 0 := by
  unfold entryFault at h
  split at h
  · cases h
  split at h
  · cases h
  split at h
  · rename_i hc; rw [h] at hc; exact absurd hc (by decide)
  · rename_i hc; simpa using hc
noncomputable def s89 : SP Tryz.prog := mkS tyA 89 Tryz.f89 [s113, s114, s195] { md := [.ro 1], rg := [(0, [1], [1]), (1, [1, 13], [1]), (2, [2], []), (3, [1, 32], [1]), (4, [2], []), (5, [1, 3], [1]), (6, [1, 3, 37], [1]), (7, [2], []), (8, [1, 48], [1]), (9, [2], []), (10, [2], [])], rets := some ([2], []) } Tryz.func89 (by kernel_rfl)
@[go_sem] theorem d89 : s89.g = 89 ∧ s89.fs = ⟨[.ro 1], s89.F, false⟩ := ⟨nr rfl, nr rfl⟩
@[go_sem] theorem e89 (eKey : ByteArray) (eStatus : Int) (eHeaders : List Header) (eBody : List UInt8) (eMetaAt : Int) (eMetaAge : Int) (eMetaLife : Int) (eMetaSwr : Int) (eMetaSie : Int) (eMetaSoft : Bool) (eMetaNoCache : Bool) (eTags : List ByteArray) (ePins : Int) (h0 : smL smHeader (Entry.mk eKey eStatus eHeaders eBody (Meta.mk eMetaAt eMetaAge eMetaLife eMetaSwr eMetaSie eMetaSoft eMetaNoCache) eTags ePins).Headers) : s89.F [.agg [.s eKey, .i .i64 eStatus, .sl .ro 2 (eHeaders.map (rHeader .ro)), .sl .ro 1 (eBody.map rByte), .i .i64 eMetaAt, .i .i64 eMetaAge, .i .i64 eMetaLife, .i .i64 eMetaSwr, .i .i64 eMetaSie, .b eMetaSoft, .b eMetaNoCache, .sl .ro 1 (eTags.map rStr), .i .i64 ePins]] = some (.i .i64 (entryFault (Entry.mk eKey eStatus eHeaders eBody (Meta.mk eMetaAt eMetaAge eMetaLife eMetaSwr eMetaSie eMetaSoft eMetaNoCache) eTags ePins)), [.u]) := mkS_eq (0) rfl rfl (fun cx h => by
  have hku : isKey eKey = (decide (1 ≤ (eKey.size : Int)) && decide ((eKey.size : Int) ≤ 500)) := rfl
  by_cases k1 : (eKey.size : Int) < 1
  · have hk : isKey eKey = false := by rw [hku]; simp; omega
    simp only [go_sem, reduceIte, ↓reduceIte, reduceCtorEq, nA, nS, nM, nB, nE, nL, nT, nN, iL, iT, iE, iA, iM, iS, iG, iB, iN, iZ, h, k1, hk, entryFault]
  by_cases k2 : 500 < (eKey.size : Int)
  · have hk : isKey eKey = false := by rw [hku]; simp; omega
    simp only [go_sem, reduceIte, ↓reduceIte, reduceCtorEq, nA, nS, nM, nB, nE, nL, nT, nN, iL, iT, iE, iA, iM, iS, iG, iB, iN, iZ, h, k1, k2, hk, entryFault]
  have hk : isKey eKey = true := by rw [hku]; simp; omega
  cases hp : noKept eStatus
  rotate_left
  · have hp' := hp
    unfold noKept at hp'
    simp only [Bool.and_eq_true] at hp'
    obtain ⟨⟨s1, s2⟩, s3⟩ := hp'
    simp only [go_sem, reduceIte, ↓reduceIte, reduceCtorEq, nA, nS, nM, nB, nE, nL, nT, nN, iL, iT, iE, iA, iM, iS, iG, iB, iN, iZ, h, k1, k2, hk, entryFault, hp, s1, s2, s3]
  rcases noKept_f hp with rfl | ⟨s1, rfl⟩ | ⟨s1, s2, rfl⟩
  · cases w1 : within ePins 0 20
    · simp only [go_sem, reduceIte, ↓reduceIte, reduceCtorEq, nA, nS, nM, nB, nE, nL, nT, nN, iL, iT, iE, iA, iM, iS, iG, iB, iN, iZ, h, k1, k2, hk, entryFault, hp, w1]
    by_cases z : headersFault eHeaders = 0
    rotate_left
    · have z' : (headersFault eHeaders != 0) = true := by simpa using z
      simp only [go_sem, reduceIte, ↓reduceIte, reduceCtorEq, nA, nS, nM, nB, nE, nL, nT, nN, iL, iT, iE, iA, iM, iS, iG, iB, iN, iZ, h, k1, k2, hk, entryFault, hp, w1, z']
    have z' : (headersFault eHeaders != 0) = false := by simpa using z
    by_cases b1 : 2000 < (eBody.length : Int)
    · simp only [go_sem, reduceIte, ↓reduceIte, reduceCtorEq, nA, nS, nM, nB, nE, nL, nT, nN, iL, iT, iE, iA, iM, iS, iG, iB, iN, iZ, h, k1, k2, hk, entryFault, hp, w1, z, b1]
    by_cases b2 : 10 < (eTags.length : Int)
    · simp only [go_sem, reduceIte, ↓reduceIte, reduceCtorEq, nA, nS, nM, nB, nE, nL, nT, nN, iL, iT, iE, iA, iM, iS, iG, iB, iN, iZ, h, k1, k2, hk, entryFault, hp, w1, z, b1, b2]
    simp only [go_sem, reduceIte, ↓reduceIte, reduceCtorEq, nA, nS, nM, nB, nE, nL, nT, nN, iL, iT, iE, iA, iM, iS, iG, iB, iN, iZ, h, k1, k2, hk, entryFault, hp, w1, z, b1, b2]
  · cases w1 : within ePins 0 20
    · simp only [go_sem, reduceIte, ↓reduceIte, reduceCtorEq, nA, nS, nM, nB, nE, nL, nT, nN, iL, iT, iE, iA, iM, iS, iG, iB, iN, iZ, h, k1, k2, hk, entryFault, hp, w1]
    by_cases z : headersFault eHeaders = 0
    rotate_left
    · have z' : (headersFault eHeaders != 0) = true := by simpa using z
      simp only [go_sem, reduceIte, ↓reduceIte, reduceCtorEq, nA, nS, nM, nB, nE, nL, nT, nN, iL, iT, iE, iA, iM, iS, iG, iB, iN, iZ, h, k1, k2, hk, entryFault, hp, w1, z']
    have z' : (headersFault eHeaders != 0) = false := by simpa using z
    by_cases b1 : 2000 < (eBody.length : Int)
    · simp only [go_sem, reduceIte, ↓reduceIte, reduceCtorEq, nA, nS, nM, nB, nE, nL, nT, nN, iL, iT, iE, iA, iM, iS, iG, iB, iN, iZ, h, k1, k2, hk, entryFault, hp, w1, z, b1]
    by_cases b2 : 10 < (eTags.length : Int)
    · simp only [go_sem, reduceIte, ↓reduceIte, reduceCtorEq, nA, nS, nM, nB, nE, nL, nT, nN, iL, iT, iE, iA, iM, iS, iG, iB, iN, iZ, h, k1, k2, hk, entryFault, hp, w1, z, b1, b2]
    simp only [go_sem, reduceIte, ↓reduceIte, reduceCtorEq, nA, nS, nM, nB, nE, nL, nT, nN, iL, iT, iE, iA, iM, iS, iG, iB, iN, iZ, h, k1, k2, hk, entryFault, hp, w1, z, b1, b2]
  · cases w1 : within ePins 0 20
    · simp only [go_sem, reduceIte, ↓reduceIte, reduceCtorEq, nA, nS, nM, nB, nE, nL, nT, nN, iL, iT, iE, iA, iM, iS, iG, iB, iN, iZ, h, k1, k2, hk, entryFault, hp, w1]
    by_cases z : headersFault eHeaders = 0
    rotate_left
    · have z' : (headersFault eHeaders != 0) = true := by simpa using z
      simp only [go_sem, reduceIte, ↓reduceIte, reduceCtorEq, nA, nS, nM, nB, nE, nL, nT, nN, iL, iT, iE, iA, iM, iS, iG, iB, iN, iZ, h, k1, k2, hk, entryFault, hp, w1, z']
    have z' : (headersFault eHeaders != 0) = false := by simpa using z
    by_cases b1 : 2000 < (eBody.length : Int)
    · simp only [go_sem, reduceIte, ↓reduceIte, reduceCtorEq, nA, nS, nM, nB, nE, nL, nT, nN, iL, iT, iE, iA, iM, iS, iG, iB, iN, iZ, h, k1, k2, hk, entryFault, hp, w1, z, b1]
    by_cases b2 : 10 < (eTags.length : Int)
    · simp only [go_sem, reduceIte, ↓reduceIte, reduceCtorEq, nA, nS, nM, nB, nE, nL, nT, nN, iL, iT, iE, iA, iM, iS, iG, iB, iN, iZ, h, k1, k2, hk, entryFault, hp, w1, z, b1, b2]
    simp only [go_sem, reduceIte, ↓reduceIte, reduceCtorEq, nA, nS, nM, nB, nE, nL, nT, nN, iL, iT, iE, iA, iM, iS, iG, iB, iN, iZ, h, k1, k2, hk, entryFault, hp, w1, z, b1, b2]) (rfl)
noncomputable def s286 : SP Tryz.prog := mkS tyA 286 Tryz.f286 [] { md := [.ro 1], rets := some ([2], []) } Tryz.func286 (by kernel_rfl)
@[go_sem] theorem d286 : s286.g = 286 ∧ s286.fs = ⟨[.ro 1], s286.F, false⟩ := ⟨nr rfl, nr rfl⟩
@[go_sem] theorem e286 (xs : List Header) (h0 : smL smHeader xs) : s286.F [.sl .ro 2 (xs.map (rHeader .ro))] = some (.sl .mut 2 (xs.map (rHeader .mut)), [.u]) := mkS_eq (0) rfl rfl (fun cx h => by
  have h1 : (xs.map (rHeader .ro)).all (·.all plain) = true := by simp [rHeader, plain]
  have h2 : xs.length * 32 ≤ 140737488355328 := by have := h0.1; omega
  have h3 : xs.map (rHeader .ro) = xs.map (rHeader .mut) := rfl
  simp only [go_sem, reduceIte, ↓reduceIte, reduceCtorEq, nA, nS, nM, nB, nE, nL, nT, nN, iL, iT, iE, iA, iM, iS, iG, iB, iN, iZ, h, h1, h2]
  rw [h3]) (by simp only [go_sem, reduceIte, ↓reduceIte, reduceCtorEq, nA, nS, nM, nB, nE, nL, nT, nN, iL, iT, iE, iA, iM, iS, iG, iB, iN, iZ, okRes, hasRo])
noncomputable def s196 : SP Tryz.prog := mkS tyA 196 Tryz.f196 [s286] { md := [.ro 1], rg := [(0, [0, 2], [2, 3]), (1, [0, 2, 3], [2, 3]), (2, [2, 3], [2, 3]), (3, [2], [2, 3])], rets := some ([2], [2, 3]) } Tryz.func196 (by kernel_rfl)
@[go_sem] theorem d196 : s196.g = 196 ∧ s196.fs = ⟨[.ro 1], s196.F, false⟩ := ⟨nr rfl, nr rfl⟩
@[go_sem] theorem e196 (rMethod : ByteArray) (rHost : ByteArray) (rPath : ByteArray) (rHeaders : List Header) (h0 : smL smHeader (Request.mk rMethod rHost rPath rHeaders).Headers) : s196.F [.pr [.s rMethod, .s rHost, .s rPath, .sl .ro 2 (rHeaders.map (rHeader .ro))]] = some (.agg (rRequest .mut (Request.mk rMethod rHost rPath rHeaders)), [.u]) := mkS_eq (0) rfl rfl (fun cx h => by
  simp only [go_sem, reduceIte, ↓reduceIte, reduceCtorEq, nA, nS, nM, nB, nE, nL, nT, nN, iL, iT, iE, iA, iM, iS, iG, iB, iN, iZ, h, h0]) (by simp only [go_sem, reduceIte, ↓reduceIte, reduceCtorEq, nA, nS, nM, nB, nE, nL, nT, nN, iL, iT, iE, iA, iM, iS, iG, iB, iN, iZ, okRes, hasRo, hasRoL, hasRoLL])
@[go_sem] theorem e196_w (rMethod rHost rPath : ByteArray) (rHeaders : List Header) (ws : List Waiter) (h0 : smL smHeader rHeaders) : s196.F [.pr [.s rMethod, .s rHost, .s rPath, .sl .ro 2 (rHeaders.map (rHeader .ro)), .sl .ro 4 (ws.map (rWaiter .ro))]] = some (.agg (rRequest .mut (Request.mk rMethod rHost rPath rHeaders)), [.u]) := mkS_eq (0) rfl rfl (fun cx h => by
  simp only [go_sem, reduceIte, ↓reduceIte, reduceCtorEq, nA, nS, nM, nB, nE, nL, nT, nN, iL, iT, iE, iA, iM, iS, iG, iB, iN, iZ, h, h0]) (by simp only [go_sem, reduceIte, ↓reduceIte, reduceCtorEq, nA, nS, nM, nB, nE, nL, nT, nN, iL, iT, iE, iA, iM, iS, iG, iB, iN, iZ, okRes, hasRo, hasRoL, hasRoLL])
theorem ffold {α β : Type} (p : α → Bool) (f : α → β) : ∀ (xs : List α) (acc : List β), xs.foldl (fun s x => if p x = true then s ++ [f x] else s) acc = acc ++ (xs.filter p).map f
  | [], acc => by simp
  | x :: xs, acc => by
    rw [List.foldl_cons, ffold p f xs, List.filter_cons]
    cases p x <;> simp
noncomputable def dropV (hs : List Header) (n : ByteArray) : List Header := hs.filter fun x => !eqv (lowS x.Name) (lowS n)
noncomputable def firstV (hs : List Header) (n : ByteArray) : ByteArray := ((valsOf hs n).head?).getD ⟨#[]⟩
theorem dropV_len (hs : List Header) (n : ByteArray) : (dropV hs n).length ≤ hs.length := List.length_filter_le _ _
theorem dropV_sm {hs : List Header} {n : ByteArray} (h : smL smHeader hs) : smL smHeader (dropV hs n) := ⟨Nat.le_trans (dropV_len hs n) h.1, fun x hx => h.2 x ((List.mem_filter.1 hx).1)⟩
theorem dropV_ok {hs : List Header} {n m : ByteArray} (h : hs.length ≤ 20 ∧ smL smHeader hs ∧ okN n = true) (hm : okN m = true) : (dropV hs n).length ≤ 20 ∧ smL smHeader (dropV hs n) ∧ okN m = true := ⟨Nat.le_trans (dropV_len hs n) h.1, dropV_sm h.2.1, hm⟩
theorem filt_fold {α : Type} (p : α → Bool) : ∀ (xs s : List α), xs.foldl (fun s x => if p x = true then s else s ++ [x]) s = s ++ xs.filter fun x => !p x
  | [], s => by simp
  | x :: xs, s => by
    rw [List.foldl_cons, filt_fold p xs]
    cases hp : p x <;> simp [hp]
theorem valsOf_cons (x : Header) (hs : List Header) (n : ByteArray) : valsOf (x :: hs) n = if eqv (lowS x.Name) (lowS n) = true then x.Value :: valsOf hs n else valsOf hs n := by
  unfold valsOf
  rw [List.filter_cons]
  split <;> rfl
theorem firstV_inl {n : ByteArray} : ∀ {hs : List Header} {u u' : Unit}, runS (fun x _ => eqv (lowS x.Name) (lowS n)) (fun _ _ => ()) hs u = .inl u' → valsOf hs n = []
  | [], _, _, _ => rfl
  | x :: hs, u, u', h => by
    rw [runS_cons] at h
    split at h
    · cases h
    · rename_i hc; rw [valsOf_cons, if_neg hc]; exact firstV_inl h
theorem firstV_inr {n : ByteArray} : ∀ {hs : List Header} {u : Unit} {q : Header × Unit}, runS (fun x _ => eqv (lowS x.Name) (lowS n)) (fun _ _ => ()) hs u = .inr q → ∃ r, valsOf hs n = q.1.Value :: r
  | [], _, _, h => by cases h
  | x :: hs, u, q, h => by
    rw [runS_cons] at h
    split at h
    · rename_i hc; injection h with h; subst h; exact ⟨_, by rw [valsOf_cons, if_pos hc]⟩
    · rename_i hc; rw [valsOf_cons, if_neg hc]; exact firstV_inr h
theorem hasV_vals (hs : List Header) (n : ByteArray) : hasV hs n = decide (0 < ((valsOf hs n).length : Int)) := (valsOf_pos hs n).symm
theorem firstV_nil {hs : List Header} {n : ByteArray} (h : valsOf hs n = []) : firstV hs n = ⟨#[]⟩ ∧ hasV hs n = false := by
  rw [hasV_vals]; unfold firstV; rw [h]; exact ⟨rfl, rfl⟩
theorem firstV_cons {hs : List Header} {n v : ByteArray} {r : List ByteArray} (h : valsOf hs n = v :: r) : firstV hs n = v ∧ hasV hs n = true := by
  rw [hasV_vals]; unfold firstV; rw [h]; exact ⟨rfl, by simp⟩
theorem valsOf_low {n m : ByteArray} (h : lowS n = lowS m) (hs : List Header) : valsOf hs n = valsOf hs m := by unfold valsOf; rw [h]
theorem firstV_low {n m : ByteArray} (h : lowS n = lowS m) (hs : List Header) : firstV hs n = firstV hs m := by unfold firstV; rw [valsOf_low h]
theorem dropV_low {n m : ByteArray} (h : lowS n = lowS m) (hs : List Header) : dropV hs n = dropV hs m := by unfold dropV; rw [h]
theorem firstV_sm {hs : List Header} {n : ByteArray} (h : smL smHeader hs) : (firstV hs n).size ≤ 1048576 := by
  unfold firstV
  cases hv : valsOf hs n with
  | nil => show 0 ≤ _; omega
  | cons v r =>
    have : v ∈ valsOf hs n := by rw [hv]; exact List.mem_cons_self ..
    unfold valsOf at this
    obtain ⟨x, hx, rfl⟩ := List.mem_map.1 this
    exact (h.2 x ((List.mem_filter.1 hx).1)).2
noncomputable def s197 : SP Tryz.prog := mkS tyA 197 Tryz.f197 [s285] { md := [.ro 1, .ro 1], rg := [(0, [0, 1], []), (1, [0, 1, 5], []), (2, [0, 1, 5, 6], []), (3, [0, 1, 5, 6, 11], []), (4, [0, 1, 5, 6], []), (5, [0, 1, 5, 6, 21], []), (6, [0, 1, 5, 6], []), (7, [4], [])], lv := [(0, [0, 1, 5, 6], [])], out := [(0, [5], [])], rets := some ([4], []) } Tryz.func197 (by kernel_rfl)
@[go_sem] theorem d197 : s197.g = 197 ∧ s197.fs = ⟨[.ro 1, .ro 1], s197.F, false⟩ := ⟨nr rfl, nr rfl⟩
@[go_sem] theorem e197 (hs : List Header) (name : ByteArray) (h0 : (hs.length ≤ 20 ∧ smL smHeader hs ∧ okN name = true)) : s197.F [.sl .ro 2 (hs.map (rHeader .ro)), .s name] = some (.sl .mut 2 ((dropV hs name).map (rHeader .mut)), [.u, .u]) := mkS_eq (hs.length + 1) rfl rfl (fun cx h => by
  have hl := h0.1
  have hx : hs.length ≤ 9223372036854775806 := by omega
  have hb0 := loopN_eq Tryz.f197 0 _ _ rfl rfl
  obtain ⟨hI, hr⟩ := loop_fold (cx := cx) (blk := 0) (body := loopN Tryz.f197 0) hs (fun k (s : List Header) => ⟨E [(0, .sl .ro 2 (hs.map (rHeader .ro))), (1, .s name), (5, .sl .mut 2 (s.map (rHeader .mut))), (6, .i .i64 k)], B []⟩) (fun s => ⟨E [(5, .sl .mut 2 (s.map (rHeader .mut)))], B []⟩) (fun x s => (if eqv (lowS x.Name) (lowS name) = true then s else s ++ [x])) (fun k s => s.length ≤ k)
      (fun s hI G => by simp only [go_sem, reduceIte, ↓reduceIte, reduceCtorEq, nA, nS, nM, nB, nE, nL, nT, nN, iL, iT, iE, iA, iM, iS, iG, iB, iN, iZ, h, Int.lt_irrefl, hb0, h0.1]) (fun k hk s hI => by
        have h1 : ((k : Int) < (hs.length : Int)) := Int.ofNat_lt.2 hk
        have t3 : (s.length + 1) * 32 ≤ 140737488355328 := by omega
        have t4 : s.map (rHeader .mut) ++ [[.s hs[k].Name, .s hs[k].Value]] = (s ++ [hs[k]]).map (rHeader .mut) := by simp [rHeader]
        obtain ⟨u1, u2⟩ := h0.2.1.2 _ (List.getElem_mem hk)
        have n1 : hs[k].Name.size ≤ 9223372036854775806 ∧ name.size ≤ 9223372036854775806 := ⟨by have : hs[k].Name.size ≤ 1048576 := u1; omega, of_decide_eq_true h0.2.2⟩
        cases d1 : eqv (lowS hs[k].Name) (lowS name)
        all_goals exact ⟨by split <;> (try simp only [List.length_append, List.length_cons, List.length_nil]) <;> omega, _, fun G => by simp only [go_sem, reduceIte, ↓reduceIte, reduceCtorEq, nA, nS, nM, nB, nE, nL, nT, nN, iL, iT, iE, iA, iM, iS, iG, iB, iN, iZ, h, t3, t4, map_gd (rHeader .ro) hs k hk, n1, d1, rHeader, h1, idx_nt _ _ hk, wrap_nat1 (show k < 9223372036854775807 by omega), hb0] <;> with_reducible rfl, by simp only [go_sem, reduceIte, ↓reduceIte, reduceCtorEq, nA, nS, nM, nB, nE, nL, nT, nN, iL, iT, iE, iA, iM, iS, iG, iB, iN, iZ, h, d1]⟩) [] (by simp) (hs.length + 1) (Nat.le_refl _)
  rw [hb0] at hr
  have hff := filt_fold (fun x : Header => eqv (lowS x.Name) (lowS name)) hs []
  simp only [List.nil_append] at hff
  rw [hff] at hr
  simp only [go_sem, reduceIte, ↓reduceIte, reduceCtorEq, nA, nS, nM, nB, nE, nL, nT, nN, iL, iT, iE, iA, iM, iS, iG, iB, iN, iZ, h, hr, dropV]) (by simp only [go_sem, reduceIte, ↓reduceIte, reduceCtorEq, nA, nS, nM, nB, nE, nL, nT, nN, iL, iT, iE, iA, iM, iS, iG, iB, iN, iZ, okRes, hasRo])
noncomputable def s287 : SP Tryz.prog := mkS tyA 287 Tryz.f287 [s285] { md := [.ro 1, .ro 1], rg := [(0, [0, 1], []), (1, [0, 1, 6], []), (2, [0, 1, 6, 10], []), (3, [0, 1, 6], []), (4, [0, 1, 6, 19], []), (5, [4, 5], []), (6, [4, 5], [])], lv := [(0, [0, 1, 6], [])], out := [(0, [], [])], rets := some ([4, 5], []) } Tryz.func287 (by kernel_rfl)
@[go_sem] theorem d287 : s287.g = 287 ∧ s287.fs = ⟨[.ro 1, .ro 1], s287.F, false⟩ := ⟨nr rfl, nr rfl⟩
@[go_sem] theorem e287 (hs : List Header) (name : ByteArray) (h0 : (hs.length ≤ 20 ∧ smL smHeader hs ∧ okN name = true)) : s287.F [.sl .ro 2 (hs.map (rHeader .ro)), .s name] = some (.tup [.s (firstV hs name), .b (hasV hs name)], [.u, .u]) := mkS_eq (hs.length + 1) rfl rfl (fun cx h => by
  have hl := h0.1
  have hx : hs.length ≤ 9223372036854775806 := by omega
  have hb0 := loopN_eq Tryz.f287 0 _ _ rfl rfl
  obtain ⟨r, hr, hq⟩ := loop_srch (cx := cx) (blk := 0) (body := loopN Tryz.f287 0) hs (fun k (s : Unit) => ⟨E [(0, .sl .ro 2 (hs.map (rHeader .ro))), (1, .s name), (6, .i .i64 k)], B []⟩) (fun s => ⟨E [], B []⟩) (fun x s => eqv (lowS x.Name) (lowS name)) (fun x s => ()) (fun x s => (.ret, ⟨E [(4, .s x.Value), (5, .b true)], B []⟩)) (fun k s => True)
      (fun s hI G => by simp only [go_sem, reduceIte, ↓reduceIte, reduceCtorEq, nA, nS, nM, nB, nE, nL, nT, nN, iL, iT, iE, iA, iM, iS, iG, iB, iN, iZ, h, Int.lt_irrefl, hb0, h0.1]) (fun k hk s hI => by
        have h1 : ((k : Int) < (hs.length : Int)) := Int.ofNat_lt.2 hk
        obtain ⟨u1, u2⟩ := h0.2.1.2 _ (List.getElem_mem hk)
        have n1 : hs[k].Name.size ≤ 9223372036854775806 ∧ name.size ≤ 9223372036854775806 := ⟨by have : hs[k].Name.size ≤ 1048576 := u1; omega, of_decide_eq_true h0.2.2⟩
        exact ⟨_, _, _, fun G => by simp only [go_sem, reduceIte, ↓reduceIte, reduceCtorEq, nA, nS, nM, nB, nE, nL, nT, nN, iL, iT, iE, iA, iM, iS, iG, iB, iN, iZ, h, map_gd (rHeader .ro) hs k hk, n1, h1, idx_nt _ _ hk, wrap_nat1 (show k < 9223372036854775807 by omega), hb0] <;> with_reducible rfl, Iff.rfl, fun hc => ⟨trivial, by simp only [go_sem, reduceIte, ↓reduceIte, reduceCtorEq, nA, nS, nM, nB, nE, nL, nT, nN, iL, iT, iE, iA, iM, iS, iG, iB, iN, iZ, h]⟩⟩) () trivial (hs.length + 1) (Nat.le_refl _)
  rw [hb0] at hr
  rcases hq with ⟨s', e1, _, e3⟩ | ⟨x, s', e1, e3⟩
  · obtain ⟨a1, a2⟩ := firstV_nil (firstV_inl e1)
    simp only [go_sem, reduceIte, ↓reduceIte, reduceCtorEq, nA, nS, nM, nB, nE, nL, nT, nN, iL, iT, iE, iA, iM, iS, iG, iB, iN, iZ, h, hr, e3, a1, a2]
  · obtain ⟨r, hv⟩ := firstV_inr e1
    obtain ⟨a1, a2⟩ := firstV_cons hv
    simp only [go_sem, reduceIte, ↓reduceIte, reduceCtorEq, nA, nS, nM, nB, nE, nL, nT, nN, iL, iT, iE, iA, iM, iS, iG, iB, iN, iZ, h, hr, e3, a1, a2]) (rfl)
noncomputable def etagV (hs : List Header) : ByteArray := firstV hs ⟨#[69, 84, 97, 103]⟩
theorem etag_low (hs : List Header) : firstV hs ⟨#[101, 116, 97, 103]⟩ = etagV hs := firstV_low (by rfl) hs
noncomputable def s198 : SP Tryz.prog := mkS tyA 198 Tryz.f198 [s287] { md := [.ro 1], rg := [(0, [0], []), (1, [3], []), (2, [2], [])], rets := some ([2], []), al := [5] } Tryz.func198 (by kernel_rfl)
@[go_sem] theorem d198 : s198.g = 198 ∧ s198.fs = ⟨[.ro 1], s198.F, false⟩ := ⟨nr rfl, nr rfl⟩
@[go_sem] theorem e198 (hs : List Header) (h0 : (hs.length ≤ 20 ∧ smL smHeader hs)) : s198.F [.sl .ro 2 (hs.map (rHeader .ro))] = some (.s (etagV hs), [.u]) := mkS_eq (0) rfl rfl (fun cx h => by
  have h1 : hs.length ≤ 20 ∧ smL smHeader hs ∧ okN ⟨#[101, 116, 97, 103]⟩ = true := ⟨h0.1, h0.2, by decide⟩
  have h2 := etag_low hs
  simp only [go_sem, reduceIte, ↓reduceIte, reduceCtorEq, nA, nS, nM, nB, nE, nL, nT, nN, iL, iT, iE, iA, iM, iS, iG, iB, iN, iZ, h, h1, h2]) (rfl)
noncomputable def etagOf (hs : List Header) : TextResult := if (headersFault hs != 0) = true then ⟨headersFault hs, ⟨#[]⟩⟩ else if eqv (etagV hs) ⟨#[]⟩ = true then ⟨4, ⟨#[]⟩⟩ else ⟨0, etagV hs⟩
noncomputable def fetchHs (r : Request) : List Header := dropV (dropV r.Headers ⟨#[73, 102, 45, 78, 111, 110, 101, 45, 77, 97, 116, 99, 104]⟩) ⟨#[73, 102, 45, 77, 111, 100, 105, 102, 105, 101, 100, 45, 83, 105, 110, 99, 101]⟩
theorem fetchHs_low (r : Request) : dropV (dropV r.Headers ⟨#[105, 102, 45, 110, 111, 110, 101, 45, 109, 97, 116, 99, 104]⟩) ⟨#[105, 102, 45, 109, 111, 100, 105, 102, 105, 101, 100, 45, 115, 105, 110, 99, 101]⟩ = fetchHs r := by
  unfold fetchHs
  rw [dropV_low (show lowS ⟨#[105, 102, 45, 110, 111, 110, 101, 45, 109, 97, 116, 99, 104]⟩ = lowS ⟨#[73, 102, 45, 78, 111, 110, 101, 45, 77, 97, 116, 99, 104]⟩ by rfl), dropV_low (show lowS ⟨#[105, 102, 45, 109, 111, 100, 105, 102, 105, 101, 100, 45, 115, 105, 110, 99, 101]⟩ = lowS ⟨#[73, 102, 45, 77, 111, 100, 105, 102, 105, 101, 100, 45, 83, 105, 110, 99, 101]⟩ by rfl)]
noncomputable def fetchReq (r : Request) (e : Entry) (has : Bool) : Request :=
  ⟨⟨#[71, 69, 84]⟩, r.Host, r.Path, if (has && !eqv (etagV e.Headers) ⟨#[]⟩ && decide (((fetchHs r).length : Int) < 19)) = true then fetchHs r ++ [⟨⟨#[73, 102, 45, 78, 111, 110, 101, 45, 77, 97, 116, 99, 104]⟩, etagV e.Headers⟩] else fetchHs r⟩
def noReq : Request := ⟨⟨#[]⟩, ⟨#[]⟩, ⟨#[]⟩, []⟩
noncomputable def fetchFor (r : Request) (e : Entry) (has : Bool) : RequestResult := if (requestFault r != 0) = true then ⟨requestFault r, noReq⟩ else if (has && entryFault e != 0) = true then ⟨entryFault e, noReq⟩ else ⟨0, fetchReq r e has⟩
theorem noReq_sm : smRequest noReq := ⟨Nat.zero_le _, Nat.zero_le _, Nat.zero_le _, Nat.zero_le _, fun x hx => by cases hx⟩
theorem fetchHs_sm {r : Request} (h : smL smHeader r.Headers) : smL smHeader (fetchHs r) := dropV_sm (dropV_sm h)
theorem fetchHs_len (r : Request) : (fetchHs r).length ≤ r.Headers.length := Nat.le_trans (dropV_len _ _) (dropV_len _ _)
theorem requestFault_ok {r : Request} (h : requestFault r = 0) : headersFault r.Headers = 0 := by
  unfold requestFault at h
  split at h
  · cases h
  split at h
  · rename_i hc; rw [h] at hc; exact absurd hc (by decide)
  · rename_i hc; simpa using hc
theorem fetchFor_sm (r : Request) (e : Entry) (has : Bool) (h : smRequest r) (he : smL smHeader e.Headers) : smRequestResult (fetchFor r e has) := by
  unfold fetchFor
  obtain ⟨h0, h1, h2, h3⟩ := h
  split
  · exact ⟨trivial, noReq_sm⟩
  split
  · exact ⟨trivial, noReq_sm⟩
  · rename_i hz _
    have hl := headersFault_ok (requestFault_ok (by simpa using hz : requestFault r = 0))
    refine ⟨trivial, by show (3 : Nat) ≤ _; omega, h1, h2, ?_⟩
    show smL smHeader (if _ then _ else _)
    split
    · have hs := fetchHs_sm h3
      have hl2 := fetchHs_len r
      refine ⟨by simp; omega, fun x hx => ?_⟩
      rcases List.mem_append.1 hx with hx | hx
      · exact hs.2 x hx
      · obtain rfl := List.mem_singleton.1 hx
        exact ⟨by show (13 : Nat) ≤ _; omega, firstV_sm he⟩
    · exact fetchHs_sm h3
theorem headersFault_ok2 {hs : List Header} (h : headersFault hs = 0) : (headersFault hs != 0) = false := by simpa using h
noncomputable def s90 : SP Tryz.prog := mkS tyA 90 Tryz.f90 [s196, s197, s198] { md := [.ro 1, .ro 1, .ro 1], rg := [(0, [0, 1, 2, 6], [6, 7]), (1, [1, 2, 6, 7], [6, 7]), (2, [1, 2, 6, 7], [6, 7]), (3, [1, 2, 6, 7], [6, 7]), (4, [1, 6, 7, 30], [6, 7]), (5, [6, 7], [6, 7]), (6, [6], [6, 7])], rets := some ([6], [6, 7]), plan := [(5, (.take 0 (.take 1 (.take 2 (.take 3 (.take 4 (.take 5 (.one 6 (.take 7 (.one 8 (.one 9 (.take 10 (.one 11 .done)))))))))))))] } Tryz.func90 (by kernel_rfl)
@[go_sem] theorem d90 : s90.g = 90 ∧ s90.fs = ⟨[.ro 1, .ro 1, .ro 1], s90.F, false⟩ := ⟨nr rfl, nr rfl⟩
@[go_sem] theorem e90 (rMethod : ByteArray) (rHost : ByteArray) (rPath : ByteArray) (rHeaders : List Header) (eKey : ByteArray) (eStatus : Int) (eHeaders : List Header) (eBody : List UInt8) (eMetaAt : Int) (eMetaAge : Int) (eMetaLife : Int) (eMetaSwr : Int) (eMetaSie : Int) (eMetaSoft : Bool) (eMetaNoCache : Bool) (eTags : List ByteArray) (ePins : Int) (has : Bool) (h0 : ((Request.mk rMethod rHost rPath rHeaders).Headers.length ≤ 20 ∧ smL smHeader (Request.mk rMethod rHost rPath rHeaders).Headers ∧ smL smHeader (Entry.mk eKey eStatus eHeaders eBody (Meta.mk eMetaAt eMetaAge eMetaLife eMetaSwr eMetaSie eMetaSoft eMetaNoCache) eTags ePins).Headers ∧ (!has || decide ((Entry.mk eKey eStatus eHeaders eBody (Meta.mk eMetaAt eMetaAge eMetaLife eMetaSwr eMetaSie eMetaSoft eMetaNoCache) eTags ePins).Headers.length ≤ 20)) = true)) : s90.F [.pr [.s rMethod, .s rHost, .s rPath, .sl .ro 2 (rHeaders.map (rHeader .ro))], .pr [.s eKey, .i .i64 eStatus, .sl .ro 2 (eHeaders.map (rHeader .ro)), .sl .ro 1 (eBody.map rByte), .i .i64 eMetaAt, .i .i64 eMetaAge, .i .i64 eMetaLife, .i .i64 eMetaSwr, .i .i64 eMetaSie, .b eMetaSoft, .b eMetaNoCache, .sl .ro 1 (eTags.map rStr), .i .i64 ePins], .b has] = some (.agg (rRequest .mut (fetchReq (Request.mk rMethod rHost rPath rHeaders) (Entry.mk eKey eStatus eHeaders eBody (Meta.mk eMetaAt eMetaAge eMetaLife eMetaSwr eMetaSie eMetaSoft eMetaNoCache) eTags ePins) has)), [.u, .u, .u]) := mkS_eq (0) rfl rfl (fun cx h => by
  obtain ⟨hl, hH, hE, hEb⟩ := h0
  have hEl : has = true → eHeaders.length ≤ 20 := fun x => by subst x; simpa using hEb
  have g1 : rHeaders.length ≤ 20 ∧ smL smHeader rHeaders ∧ okN ⟨#[105, 102, 45, 110, 111, 110, 101, 45, 109, 97, 116, 99, 104]⟩ = true := ⟨hl, hH, by decide⟩
  have g2 : (dropV rHeaders ⟨#[105, 102, 45, 110, 111, 110, 101, 45, 109, 97, 116, 99, 104]⟩).length ≤ 20 ∧ smL smHeader (dropV rHeaders ⟨#[105, 102, 45, 110, 111, 110, 101, 45, 109, 97, 116, 99, 104]⟩) ∧ okN ⟨#[105, 102, 45, 109, 111, 100, 105, 102, 105, 101, 100, 45, 115, 105, 110, 99, 101]⟩ = true := dropV_ok g1 (by decide)
  have g3 : dropV (dropV rHeaders ⟨#[105, 102, 45, 110, 111, 110, 101, 45, 109, 97, 116, 99, 104]⟩) ⟨#[105, 102, 45, 109, 111, 100, 105, 102, 105, 101, 100, 45, 115, 105, 110, 99, 101]⟩ = fetchHs (Request.mk rMethod rHost rPath rHeaders) := fetchHs_low (Request.mk rMethod rHost rPath rHeaders)
  have g4 := fetchHs_len (Request.mk rMethod rHost rPath rHeaders)
  obtain ⟨L, hL⟩ : ∃ L, fetchHs (Request.mk rMethod rHost rPath rHeaders) = L := ⟨_, rfl⟩
  rw [hL] at g3 g4
  simp only at g4
  have g5 : (L.length + 1) * 32 ≤ 140737488355328 := by omega
  have g6 : L.map (rHeader .mut) ++ [[.s ⟨#[73, 102, 45, 78, 111, 110, 101, 45, 77, 97, 116, 99, 104]⟩, .s (etagV eHeaders)]] = (L ++ [Header.mk ⟨#[73, 102, 45, 78, 111, 110, 101, 45, 77, 97, 116, 99, 104]⟩ (etagV eHeaders)]).map (rHeader .mut) := by simp [rHeader]
  cases has
  · simp only [go_sem, reduceIte, ↓reduceIte, reduceCtorEq, nA, nS, nM, nB, nE, nL, nT, nN, iL, iT, iE, iA, iM, iS, iG, iB, iN, iZ, h, hH, hL, g1, g2, g3, fetchReq]
  have hEE : eHeaders.length ≤ 20 ∧ smL smHeader eHeaders := ⟨hEl rfl, hE⟩
  cases c1 : eqv (etagV eHeaders) ⟨#[]⟩
  rotate_left
  · simp only [go_sem, reduceIte, ↓reduceIte, reduceCtorEq, nA, nS, nM, nB, nE, nL, nT, nN, iL, iT, iE, iA, iM, iS, iG, iB, iN, iZ, h, hH, hL, g1, g2, g3, hEE, c1, eqv_bytesne, eqv_bytes, fetchReq]
  by_cases c2 : (L.length : Int) < 19 <;> simp only [go_sem, reduceIte, ↓reduceIte, reduceCtorEq, nA, nS, nM, nB, nE, nL, nT, nN, iL, iT, iE, iA, iM, iS, iG, iB, iN, iZ, h, hH, hL, g1, g2, g3, g5, g6, hEE, c1, c2, eqv_bytesne, eqv_bytes, fetchReq]) (by simp only [go_sem, reduceIte, ↓reduceIte, reduceCtorEq, nA, nS, nM, nB, nE, nL, nT, nN, iL, iT, iE, iA, iM, iS, iG, iB, iN, iZ, okRes, hasRo, hasRoL, hasRoLL])
end Go.Vm.A
