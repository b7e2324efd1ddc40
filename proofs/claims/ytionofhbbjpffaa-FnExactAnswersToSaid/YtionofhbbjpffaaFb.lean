/- Functions of the program, walked by the evaluator. -/
import Derived.Test.YtionofhbbjpffaaFa
set_option autoImplicit false
set_option maxRecDepth 100000
set_option maxHeartbeats 4000000
set_option linter.unusedVariables false
set_option linter.unusedSimpArgs false
namespace Go.Vm.A
open Go.Proofs
attribute [local go_sem] Nat.add_zero Nat.zero_add List.contains_cons List.contains_nil List.elem_cons List.elem_nil List.length_cons List.length_nil List.map_cons List.map_nil List.all_cons List.all_nil List.any_cons List.any_nil List.getElem?_cons_zero List.getElem?_cons_succ List.getElem?_nil List.getD_cons_zero List.getD_cons_succ List.append_nil List.nil_append List.cons_append List.isEmpty_cons List.isEmpty_nil List.headD_cons List.headD_nil List.tail_cons List.tail_nil List.take_nil List.drop_nil Bool.and_true Bool.true_and Bool.or_false Bool.or_true Bool.false_or Bool.true_or Bool.not_true Bool.not_false Bool.and_false Bool.false_and Bool.false_eq_true Bool.true_eq_false Bool.and_self Bool.not_not decide_true decide_false decide_eq_true_eq beq_self_eq_true Nat.le_refl Nat.zero_le and_self true_and and_true false_and and_false or_true true_or if_true if_false Option.map_some Option.map_none Option.isSome_none Option.isSome_some eq_self_iff_true not_true_eq_false not_false_eq_true ne_eq Nat.not_lt_zero Nat.succ_ne_zero List.length_map List.set_cons_zero List.set_cons_succ gt_iff_lt ge_iff_le List.take_succ_cons List.take_zero List.drop_zero List.drop_succ_cons bne_self_eq_false

def answersTo (xs : List Out) (id : Int) : IntResult := if 2000 < (xs.length : Int) then ⟨2, 0⟩ else if isTime id = true then ⟨0, (answersOf id xs).length⟩ else ⟨3, 0⟩
theorem sources_len (id : Int) (xs : List Out) : (sourcesOf id xs).length = (answersOf id xs).length := (answers_len id xs [] [] rfl).symm
noncomputable def fns19 : Nat → Option FS
  | 43 => some ⟨[.ro 1], F43, false⟩
  | 44 => some ⟨[.ro 1, .ro 1], F44, true⟩
  | _ => none
@[go_sem] theorem fns19_43 : fns19 43 = some ⟨[.ro 1], F43, false⟩ := nr rfl
@[go_sem] theorem fns19_44 : fns19 44 = some ⟨[.ro 1, .ro 1], F44, true⟩ := nr rfl
theorem fns19_ok : ∀ g fs, fns19 g = some fs → VSpec Try.prog g fs := by
  intro g fs h
  unfold fns19 at h
  split at h
  · injection h with h; subst h; exact spec43
  · injection h with h; subst h; exact spec44
  · cases h
noncomputable def cx19 (n : Nat) : Cx := { T := T, fns := fns19, cuts := (fun _ => []), vars := some ([0, 1, 4, 7, 11], [4]), live := fun _ => none, al := [], rounds := n, plan := fun _ => none, fz := [] }
@[go_sem] theorem cx19_z (n : Nat) : (cx19 n).fz = [] := nr rfl
@[go_sem] theorem cx19_T (n : Nat) : (cx19 n).T = T := nr rfl
@[go_sem] theorem cx19_f (n : Nat) : (cx19 n).fns = fns19 := nr rfl
@[go_sem] theorem cx19_c (n k : Nat) : (cx19 n).cuts k = ((fun _ => [])) k := nr rfl
@[go_sem] theorem cx19_v (n : Nat) : (cx19 n).vars = some ([0, 1, 4, 7, 11], [4]) := nr rfl
@[go_sem] theorem cx19_l (n k : Nat) : (cx19 n).live k = (fun _ => none) k := nr rfl
@[go_sem] theorem cx19_a (n : Nat) : (cx19 n).al = [] := nr rfl
@[go_sem] theorem cx19_p (n k : Nat) : (cx19 n).plan k = (fun _ => none) k := nr rfl
@[go_sem] theorem cx19_r (n : Nat) : (cx19 n).rounds = n := nr rfl
noncomputable def F19 : List AV → Option (AV × List AV) := FSof (σ := (List Out) × (Int)) (fun (s : (List Out) × (Int)) => match s with | (outs, id) => True) (fun (s : (List Out) × (Int)) => match s with | (outs, id) => [.sl .ro 10 (outs.map (rOut .ro)), .i .i64 id]) (fun (s : (List Out) × (Int)) => match s with | (outs, id) => (.agg (rIntResult .mut (answersTo outs id)), [.u, .u]))
@[go_sem] theorem F19_eq (outs : List Out) (id : Int) : F19 [.sl .ro 10 (outs.map (rOut .ro)), .i .i64 id] = some (.agg (rIntResult .mut (answersTo outs id)), [.u, .u]) :=
  FSof_eq (by
    rintro ⟨outs, id⟩ ⟨outs', id'⟩ h
    simp only [List.cons.injEq, AV.i.injEq, AV.b.injEq, AV.s.injEq, AV.sl.injEq, AV.agg.injEq, AV.pr.injEq, AV.fs.injEq, AV.fn.injEq, true_and, and_true, rOut_mi] at h
    simp [h]) (outs, id) trivial
theorem ev19 (n : Nat) (outs : List Out) (id : Int) : evalFn (cx19 n) [.ro 1, .ro 1] Try.f19 [.sl .ro 10 (outs.map (rOut .ro)), .i .i64 id] = some (.agg (rIntResult .mut (answersTo outs id)), [.u, .u]) := by
  rw [evalFn_eq _ _ Try.f19 _ _ _ rfl rfl]
  unfold answersTo
  by_cases hc : 2000 < (outs.length : Int)
  · simp only [go_sem, reduceIte, ↓reduceIte, Nat.reduceAdd, Nat.reduceSub, Nat.reduceMul, Nat.reduceBEq, Nat.reduceEqDiff, Nat.reduceLeDiff, Nat.reduceLT, Nat.reduceBneDiff, reduceCtorEq, Int.reduceLE, Int.reduceLT, Int.reduceEq, Int.reduceAdd, Int.reduceMul, Int.reduceSub, Int.reduceNeg, Int.reduceBEq, Int.reduceBNe, Int.reduceToNat, hc]
  · have h4 : outs.length ≤ 2000 := by omega
    cases h5 : isTime id
    · simp only [go_sem, reduceIte, ↓reduceIte, Nat.reduceAdd, Nat.reduceSub, Nat.reduceMul, Nat.reduceBEq, Nat.reduceEqDiff, Nat.reduceLeDiff, Nat.reduceLT, Nat.reduceBneDiff, reduceCtorEq, Int.reduceLE, Int.reduceLT, Int.reduceEq, Int.reduceAdd, Int.reduceMul, Int.reduceSub, Int.reduceNeg, Int.reduceBEq, Int.reduceBNe, Int.reduceToNat, hc, h5, h4]
    · simp only [go_sem, reduceIte, ↓reduceIte, Nat.reduceAdd, Nat.reduceSub, Nat.reduceMul, Nat.reduceBEq, Nat.reduceEqDiff, Nat.reduceLeDiff, Nat.reduceLT, Nat.reduceBneDiff, reduceCtorEq, Int.reduceLE, Int.reduceLT, Int.reduceEq, Int.reduceAdd, Int.reduceMul, Int.reduceSub, Int.reduceNeg, Int.reduceBEq, Int.reduceBNe, Int.reduceToNat, hc, h5, h4]
theorem spec19 : VSpec Try.prog 19 ⟨[.ro 1, .ro 1], F19, false⟩ :=
  spec_ro' (cx := cx19 0) (f := Try.f19) _ _ _ wide (cxOk _ rfl) fns19_ok Try.func19 (by decide) rfl (by kernel_rfl) (by decide) (by decide)
    (fun s h hl => ⟨0, ev19 0 s.1 s.2⟩)
    (fun _ _ => rfl) (fun _ => rfl)
noncomputable def cx102 (n : Nat) : Cx := { T := T, fns := (fun _ => none), cuts := (fun _ => []), vars := some ([0, 1, 2, 3], []), live := fun _ => none, al := [], rounds := n, plan := fun _ => none, fz := [] }
@[go_sem] theorem cx102_z (n : Nat) : (cx102 n).fz = [] := nr rfl
@[go_sem] theorem cx102_T (n : Nat) : (cx102 n).T = T := nr rfl
@[go_sem] theorem cx102_f (n : Nat) : (cx102 n).fns = (fun _ => none) := nr rfl
@[go_sem] theorem cx102_c (n k : Nat) : (cx102 n).cuts k = ((fun _ => [])) k := nr rfl
@[go_sem] theorem cx102_v (n : Nat) : (cx102 n).vars = some ([0, 1, 2, 3], []) := nr rfl
@[go_sem] theorem cx102_l (n k : Nat) : (cx102 n).live k = (fun _ => none) k := nr rfl
@[go_sem] theorem cx102_a (n : Nat) : (cx102 n).al = [] := nr rfl
@[go_sem] theorem cx102_p (n k : Nat) : (cx102 n).plan k = (fun _ => none) k := nr rfl
@[go_sem] theorem cx102_r (n : Nat) : (cx102 n).rounds = n := nr rfl
noncomputable def F102 : List AV → Option (AV × List AV) := FSof (σ := (Bool) × (Int)) (fun (s : (Bool) × (Int)) => match s with | (x, c) => True) (fun (s : (Bool) × (Int)) => match s with | (x, c) => [.pr [.b x], .pr [.i .i64 c]]) (fun (s : (Bool) × (Int)) => match s with | (x, c) => (.i .i64 (if x = true then c else 0), [.u, .u]))
@[go_sem] theorem F102_eq (x : Bool) (c : Int) : F102 [.pr [.b x], .pr [.i .i64 c]] = some (.i .i64 (if x = true then c else 0), [.u, .u]) :=
  FSof_eq (by
    rintro ⟨x, c⟩ ⟨x', c'⟩ h
    simp only [List.cons.injEq, AV.i.injEq, AV.b.injEq, AV.s.injEq, AV.sl.injEq, AV.agg.injEq, AV.pr.injEq, AV.fs.injEq, AV.fn.injEq, true_and, and_true] at h
    simp [h]) (x, c) trivial
theorem ev102 (n : Nat) (x : Bool) (c : Int) : evalFn (cx102 n) [.ro 1, .ro 1] Try.f102 [.pr [.b x], .pr [.i .i64 c]] = some (.i .i64 (if x = true then c else 0), [.u, .u]) := by
  rw [evalFn_eq _ _ Try.f102 _ _ _ rfl rfl]
  simp only [go_sem, reduceIte, ↓reduceIte, Nat.reduceAdd, Nat.reduceSub, Nat.reduceMul, Nat.reduceBEq, Nat.reduceEqDiff, Nat.reduceLeDiff, Nat.reduceLT, Nat.reduceBneDiff, reduceCtorEq, Int.reduceLE, Int.reduceLT, Int.reduceEq, Int.reduceAdd, Int.reduceMul, Int.reduceSub, Int.reduceNeg, Int.reduceBEq, Int.reduceBNe, Int.reduceToNat, if_i]
theorem spec102 : VSpec Try.prog 102 ⟨[.ro 1, .ro 1], F102, false⟩ :=
  spec_ro' (cx := cx102 0) (f := Try.f102) _ _ _ wide (cxOk _ rfl) (fun g fs h => by cases h) Try.func102 (by decide) rfl (by kernel_rfl) (by decide) (by decide)
    (fun s h hl => ⟨0, ev102 0 s.1 s.2⟩)
    (fun _ _ => rfl) (fun _ => rfl)
/-! functions that tell a code if something is so -/
def cl (p : Bool × Int) : AV := .fn 102 [.pr [.b p.1], .pr [.i .i64 p.2]]
@[go_sem] theorem cl_def (p : Bool × Int) : cl p = .fn 102 [.pr [.b p.1], .pr [.i .i64 p.2]] := nr rfl
theorem cl_mi (xs ys : List (Bool × Int)) : xs.map cl = ys.map cl ↔ xs = ys := map_inj_of (fun {a b} h => by
  obtain ⟨a1, a2⟩ := a; obtain ⟨b1, b2⟩ := b
  simp only [cl, AV.fn.injEq, List.cons.injEq, AV.pr.injEq, AV.b.injEq, AV.i.injEq, true_and, and_true] at h
  simp [h]) xs ys
@[go_sem] theorem cl_filt (kp kr : Pl → Bool) : ∀ xs : List (Bool × Int), filtL kp kr (xs.map cl) = xs.map cl
  | [] => rfl
  | x :: xs => by simp only [List.map_cons, filtL, cl_filt kp kr xs, cl, filt]
def clv (p : Bool × Int) : Int := if p.1 = true then p.2 else 0
def firstC : List (Bool × Int) → Int
  | [] => 0
  | p :: r => if (clv p != 0) = true then clv p else firstC r
theorem firstC_runS : ∀ xs : List (Bool × Int), (∃ a : Unit, runS (fun (x : Bool × Int) (s : Unit) => clv x != 0) (fun (x : Bool × Int) (s : Unit) => ()) xs () = .inl a ∧ firstC xs = 0) ∨ ∃ x t, runS (fun (x : Bool × Int) (s : Unit) => clv x != 0) (fun (x : Bool × Int) (s : Unit) => ()) xs () = .inr (x, t) ∧ firstC xs = clv x
  | [] => .inl ⟨(), rfl, rfl⟩
  | p :: r => by
    simp only [runS, firstC]
    by_cases h : (clv p != 0) = true
    · exact .inr ⟨p, (), by rw [if_pos h], by rw [if_pos h]⟩
    · rw [if_neg h, if_neg h]; exact firstC_runS r
noncomputable def fns73 : Nat → Option FS
  | 102 => some ⟨[.ro 1, .ro 1], F102, false⟩
  | _ => none
@[go_sem] theorem fns73_102 : fns73 102 = some ⟨[.ro 1, .ro 1], F102, false⟩ := nr rfl
theorem fns73_ok : ∀ g fs, fns73 g = some fs → VSpec Try.prog g fs := by
  intro g fs h
  unfold fns73 at h
  split at h
  · injection h with h; subst h; exact spec102
  · cases h
noncomputable def cx73 (n : Nat) : Cx := { T := T, fns := fns73, cuts := (fun _ => []), vars := some ([0, 2, 4, 5, 6, 7, 8, 9, 15], []), live := fun _ => some ([2, 6, 7, 8], []), al := [], rounds := n, plan := fun _ => none, fz := [] }
@[go_sem] theorem cx73_z (n : Nat) : (cx73 n).fz = [] := nr rfl
@[go_sem] theorem cx73_T (n : Nat) : (cx73 n).T = T := nr rfl
@[go_sem] theorem cx73_f (n : Nat) : (cx73 n).fns = fns73 := nr rfl
@[go_sem] theorem cx73_c (n k : Nat) : (cx73 n).cuts k = ((fun _ => [])) k := nr rfl
@[go_sem] theorem cx73_v (n : Nat) : (cx73 n).vars = some ([0, 2, 4, 5, 6, 7, 8, 9, 15], []) := nr rfl
@[go_sem] theorem cx73_l (n k : Nat) : (cx73 n).live k = (fun _ => some ([2, 6, 7, 8], [])) k := nr rfl
@[go_sem] theorem cx73_a (n : Nat) : (cx73 n).al = [] := nr rfl
@[go_sem] theorem cx73_p (n k : Nat) : (cx73 n).plan k = (fun _ => none) k := nr rfl
@[go_sem] theorem cx73_r (n : Nat) : (cx73 n).rounds = n := nr rfl
noncomputable def F73 : List AV → Option (AV × List AV) := FSof (σ := (List (Bool × Int))) (fun (xs : (List (Bool × Int))) => xs.length ≤ 1000) (fun (xs : (List (Bool × Int))) => [.fs (xs.map cl)]) (fun (xs : (List (Bool × Int))) => (.i .i64 (firstC xs), [.u]))
@[go_sem] theorem F73_eq (xs : List (Bool × Int)) (h : xs.length ≤ 1000) : F73 [.fs (xs.map cl)] = some (.i .i64 (firstC xs), [.u]) :=
  FSof_eq (by
    intro xs xs' h
    simp only [List.cons.injEq, AV.i.injEq, AV.b.injEq, AV.s.injEq, AV.sl.injEq, AV.agg.injEq, AV.pr.injEq, AV.fs.injEq, AV.fn.injEq, true_and, and_true, cl_mi] at h
    simp [h]) xs h
theorem rd73 (N : Nat) (xs : List (Bool × Int)) (k : Nat) (hk : k < xs.length) (hb : xs.length ≤ 9223372036854775807)   : ∃ (jv0 : AV) (jv4 : AV) (jv5 : AV) (jv9 : AV) (jv15 : AV), ∃ (iv0 : AV) (iv4 : AV) (iv5 : AV) (iv9 : AV) (iv15 : AV), ∀ G, seqE (evCode (cx73 N) 0 (loopN Try.f73 0) ⟨E [(2, .i .i64 0), (6, .fs (xs.map cl)), (7, .i .i64 xs.length), (8, .i .i64 k)], B []⟩) G = if (clv xs[k] != 0) = true then some (.ret, ⟨E [(0, jv0), (2, .i .i64 (clv xs[k])), (4, jv4), (5, jv5), (6, .fs (xs.map cl)), (7, .i .i64 xs.length), (8, .i .i64 k), (9, jv9), (15, jv15)], B []⟩) else G ⟨E [(0, iv0), (2, .i .i64 0), (4, iv4), (5, iv5), (6, .fs (xs.map cl)), (7, .i .i64 xs.length), (8, .i .i64 (k + 1 : Nat)), (9, iv9), (15, iv15)], B []⟩ := by
  have h1 : ((k : Int) < (xs.length : Int)) := Int.ofNat_lt.2 hk
  have h3 : (clv xs[k] != 0) = ((if xs[k].1 = true then xs[k].2 else 0) != 0) := rfl
  rw [loopN_eq Try.f73 0 _ _ rfl rfl]
  simp only [go_sem, reduceIte, ↓reduceIte, Nat.reduceAdd, Nat.reduceSub, Nat.reduceMul, Nat.reduceBEq, Nat.reduceEqDiff, Nat.reduceLeDiff, Nat.reduceLT, Nat.reduceBneDiff, reduceCtorEq, Int.reduceLE, Int.reduceLT, Int.reduceEq, Int.reduceAdd, Int.reduceMul, Int.reduceSub, Int.reduceNeg, Int.reduceBEq, Int.reduceBNe, Int.reduceToNat, h1, idx_nt _ _ hk, wrap_nat1 (show k < 9223372036854775807 by omega), map_gdA cl xs k hk, h3]
  exact ⟨_, _, _, _, _, _, _, _, _, _, fun G => rfl⟩
theorem en73 (N : Nat) (xs : List (Bool × Int))   : ∃ (jv0 : AV) (jv4 : AV) (jv5 : AV) (jv9 : AV) (jv15 : AV), ∀ G, seqE (evCode (cx73 N) 0 (loopN Try.f73 0) ⟨E [(2, .i .i64 0), (6, .fs (xs.map cl)), (7, .i .i64 xs.length), (8, .i .i64 xs.length)], B []⟩) G = some (.ex 0, ⟨E [(0, jv0), (2, .i .i64 0), (4, jv4), (5, jv5), (6, .fs (xs.map cl)), (7, .i .i64 xs.length), (8, .i .i64 xs.length), (9, jv9), (15, jv15)], B []⟩) := by
  rw [loopN_eq Try.f73 0 _ _ rfl rfl]
  simp only [go_sem, reduceIte, ↓reduceIte, Nat.reduceAdd, Nat.reduceSub, Nat.reduceMul, Nat.reduceBEq, Nat.reduceEqDiff, Nat.reduceLeDiff, Nat.reduceLT, Nat.reduceBneDiff, reduceCtorEq, Int.reduceLE, Int.reduceLT, Int.reduceEq, Int.reduceAdd, Int.reduceMul, Int.reduceSub, Int.reduceNeg, Int.reduceBEq, Int.reduceBNe, Int.reduceToNat, Int.lt_irrefl]
  exact ⟨_, _, _, _, _, fun G => rfl⟩
theorem lp73 (N : Nat) (xs : List (Bool × Int)) (hb : xs.length ≤ 9223372036854775807)   (hN : xs.length + 1 ≤ N) : ∃ r, (∀ st, keep ((cx73 N).live 0) st = ⟨E [(2, .i .i64 0), (6, .fs (xs.map cl)), (7, .i .i64 xs.length), (8, .i .i64 (0 : Nat))], B []⟩ → loopE (cx73 N) 0 (loopN Try.f73 0) N st = r) ∧ ((∃ (a : Unit) (jv0 : AV) (jv4 : AV) (jv5 : AV) (jv9 : AV) (jv15 : AV), runS (fun (x : Bool × Int) (s : Unit) => (clv x != 0)) (fun (x : Bool × Int) (s : Unit) => ()) xs () = .inl a ∧ r = some (.ex 0, ⟨E [(0, jv0), (2, .i .i64 0), (4, jv4), (5, jv5), (6, .fs (xs.map cl)), (7, .i .i64 xs.length), (8, .i .i64 xs.length), (9, jv9), (15, jv15)], B []⟩)) ∨ (∃ (x : Bool × Int) (t : Unit) (q : Nat) (jv0 : AV) (jv4 : AV) (jv5 : AV) (jv9 : AV) (jv15 : AV), runS (fun (x : Bool × Int) (s : Unit) => (clv x != 0)) (fun (x : Bool × Int) (s : Unit) => ()) xs () = .inr (x, t) ∧ r = some (.ret, ⟨E [(0, jv0), (2, .i .i64 (clv x)), (4, jv4), (5, jv5), (6, .fs (xs.map cl)), (7, .i .i64 xs.length), (8, .i .i64 q), (9, jv9), (15, jv15)], B []⟩))) := by
  obtain ⟨r, h1, h2⟩ := loop_ix (cx := (cx73 N)) (blk := 0) (body := (loopN Try.f73 0)) xs.length (fun k (s : Unit) => ⟨E [(2, .i .i64 0), (6, .fs (xs.map cl)), (7, .i .i64 xs.length), (8, .i .i64 k)], B []⟩)
    (fun k s r => (∃ (a : Unit) (jv0 : AV) (jv4 : AV) (jv5 : AV) (jv9 : AV) (jv15 : AV), runS (fun (x : Bool × Int) (s : Unit) => (clv x != 0)) (fun (x : Bool × Int) (s : Unit) => ()) (xs.drop k) s = .inl a ∧ r = some (.ex 0, ⟨E [(0, jv0), (2, .i .i64 0), (4, jv4), (5, jv5), (6, .fs (xs.map cl)), (7, .i .i64 xs.length), (8, .i .i64 xs.length), (9, jv9), (15, jv15)], B []⟩)) ∨ (∃ (x : Bool × Int) (t : Unit) (q : Nat) (jv0 : AV) (jv4 : AV) (jv5 : AV) (jv9 : AV) (jv15 : AV), runS (fun (x : Bool × Int) (s : Unit) => (clv x != 0)) (fun (x : Bool × Int) (s : Unit) => ()) (xs.drop k) s = .inr (x, t) ∧ r = some (.ret, ⟨E [(0, jv0), (2, .i .i64 (clv x)), (4, jv4), (5, jv5), (6, .fs (xs.map cl)), (7, .i .i64 xs.length), (8, .i .i64 q), (9, jv9), (15, jv15)], B []⟩)))
    (fun s G => by
      obtain ⟨jv0, jv4, jv5, jv9, jv15, he⟩ := en73 N xs  
      exact .inl ⟨s, jv0, jv4, jv5, jv9, jv15, by rw [List.drop_length]; rfl, he G⟩)
    (fun k hk s => by
      obtain ⟨jv0, jv4, jv5, jv9, jv15, iv0, iv4, iv5, iv9, iv15, he⟩ := rd73 N xs k hk hb  
      by_cases hc : (fun (x : Bool × Int) (s : Unit) => (clv x != 0)) xs[k] s = true
      · exact .inl fun G => .inr ⟨xs[k], s, k, jv0, jv4, jv5, jv9, jv15, by rw [List.drop_eq_getElem_cons hk]; exact if_pos hc, (he G).trans (if_pos hc)⟩
      · refine .inr ⟨_, (fun (x : Bool × Int) (s : Unit) => ()) xs[k] s, ?_, fun r hr => ?_, fun G => (he G).trans (if_neg hc)⟩
        · simp only [go_sem, reduceIte, ↓reduceIte, Nat.reduceAdd, Nat.reduceSub, Nat.reduceMul, Nat.reduceBEq, Nat.reduceEqDiff, Nat.reduceLeDiff, Nat.reduceLT, Nat.reduceBneDiff, reduceCtorEq, Int.reduceLE, Int.reduceLT, Int.reduceEq, Int.reduceAdd, Int.reduceMul, Int.reduceSub, Int.reduceNeg, Int.reduceBEq, Int.reduceBNe, Int.reduceToNat]
        · rw [List.drop_eq_getElem_cons hk, show runS (fun (x : Bool × Int) (s : Unit) => (clv x != 0)) (fun (x : Bool × Int) (s : Unit) => ()) (xs[k] :: xs.drop (k + 1)) s = runS (fun (x : Bool × Int) (s : Unit) => (clv x != 0)) (fun (x : Bool × Int) (s : Unit) => ()) (xs.drop (k + 1)) ((fun (x : Bool × Int) (s : Unit) => ()) xs[k] s) from if_neg hc]; exact hr) N hN ()
  exact ⟨r, h1, h2⟩
theorem ev73 (n : Nat) (xs : List (Bool × Int)) (h : xs.length ≤ 1000) (hb : lenOkL [.fs (xs.map cl)]) (hN : xs.length + 1 ≤ n) : evalFn (cx73 n) [.ro 1] Try.f73 [.fs (xs.map cl)] = some (.i .i64 (firstC xs), [.u]) := by
  rw [evalFn_eq _ _ Try.f73 _ _ _ rfl rfl]
  simp only [go_sem, reduceIte, ↓reduceIte, Nat.reduceAdd, Nat.reduceSub, Nat.reduceMul, Nat.reduceBEq, Nat.reduceEqDiff, Nat.reduceLeDiff, Nat.reduceLT, Nat.reduceBneDiff, reduceCtorEq, Int.reduceLE, Int.reduceLT, Int.reduceEq, Int.reduceAdd, Int.reduceMul, Int.reduceSub, Int.reduceNeg, Int.reduceBEq, Int.reduceBNe, Int.reduceToNat]
  have hb1 : xs.length ≤ 9223372036854775807 := by omega
  obtain ⟨r, h1, h2⟩ := lp73 n xs hb1 hN
  rw [loopN_eq Try.f73 0 _ _ rfl rfl] at h1
  rw [h1]
  · rcases h2 with ⟨a, jv0, jv4, jv5, jv9, jv15, e1, rfl⟩ | ⟨x, t, q, jv0, jv4, jv5, jv9, jv15, e1, rfl⟩
    · have e2 : firstC xs = 0 := (firstC_runS xs).elim (fun ⟨a, h, h'⟩ => h') (fun ⟨x, t, h, h'⟩ => by rw [e1] at h; cases h)
      simp only [go_sem, reduceIte, ↓reduceIte, Nat.reduceAdd, Nat.reduceSub, Nat.reduceMul, Nat.reduceBEq, Nat.reduceEqDiff, Nat.reduceLeDiff, Nat.reduceLT, Nat.reduceBneDiff, reduceCtorEq, Int.reduceLE, Int.reduceLT, Int.reduceEq, Int.reduceAdd, Int.reduceMul, Int.reduceSub, Int.reduceNeg, Int.reduceBEq, Int.reduceBNe, Int.reduceToNat, e2]
    · have e2 : firstC xs = clv x := (firstC_runS xs).elim (fun ⟨a, h, h'⟩ => by rw [e1] at h; cases h) (fun ⟨y, t, h, h'⟩ => by rw [e1] at h; cases h; exact h')
      simp only [go_sem, reduceIte, ↓reduceIte, Nat.reduceAdd, Nat.reduceSub, Nat.reduceMul, Nat.reduceBEq, Nat.reduceEqDiff, Nat.reduceLeDiff, Nat.reduceLT, Nat.reduceBneDiff, reduceCtorEq, Int.reduceLE, Int.reduceLT, Int.reduceEq, Int.reduceAdd, Int.reduceMul, Int.reduceSub, Int.reduceNeg, Int.reduceBEq, Int.reduceBNe, Int.reduceToNat, e2]
  · simp only [go_sem, reduceIte, ↓reduceIte, Nat.reduceAdd, Nat.reduceSub, Nat.reduceMul, Nat.reduceBEq, Nat.reduceEqDiff, Nat.reduceLeDiff, Nat.reduceLT, Nat.reduceBneDiff, reduceCtorEq, Int.reduceLE, Int.reduceLT, Int.reduceEq, Int.reduceAdd, Int.reduceMul, Int.reduceSub, Int.reduceNeg, Int.reduceBEq, Int.reduceBNe, Int.reduceToNat]
    rfl
theorem spec73 : VSpec Try.prog 73 ⟨[.ro 1], F73, false⟩ :=
  spec_ro' (cx := cx73 0) (f := Try.f73) _ _ _ wide (cxOk _ rfl) fns73_ok Try.func73 (by decide) rfl (by kernel_rfl) (by decide) (by decide)
    (fun s h hl => ⟨s.length + 1, ev73 _ s h hl (Nat.le_refl _)⟩)
    (fun _ _ => rfl) (fun _ => rfl)
@[go_sem] theorem F73_1 (a0 : Bool) (x0 : Int) : F73 [.fs [.fn 102 [.pr [.b a0], .pr [.i .i64 x0]]]] = some (.i .i64 (firstC [(a0, x0)]), [.u]) := F73_eq [(a0, x0)] (by simp)
@[go_sem] theorem F73_2 (a0 : Bool) (x0 : Int) (a1 : Bool) (x1 : Int) : F73 [.fs [.fn 102 [.pr [.b a0], .pr [.i .i64 x0]], .fn 102 [.pr [.b a1], .pr [.i .i64 x1]]]] = some (.i .i64 (firstC [(a0, x0), (a1, x1)]), [.u]) := F73_eq [(a0, x0), (a1, x1)] (by simp)
@[go_sem] theorem F73_3 (a0 : Bool) (x0 : Int) (a1 : Bool) (x1 : Int) (a2 : Bool) (x2 : Int) : F73 [.fs [.fn 102 [.pr [.b a0], .pr [.i .i64 x0]], .fn 102 [.pr [.b a1], .pr [.i .i64 x1]], .fn 102 [.pr [.b a2], .pr [.i .i64 x2]]]] = some (.i .i64 (firstC [(a0, x0), (a1, x1), (a2, x2)]), [.u]) := F73_eq [(a0, x0), (a1, x1), (a2, x2)] (by simp)
@[go_sem] theorem F73_4 (a0 : Bool) (x0 : Int) (a1 : Bool) (x1 : Int) (a2 : Bool) (x2 : Int) (a3 : Bool) (x3 : Int) : F73 [.fs [.fn 102 [.pr [.b a0], .pr [.i .i64 x0]], .fn 102 [.pr [.b a1], .pr [.i .i64 x1]], .fn 102 [.pr [.b a2], .pr [.i .i64 x2]], .fn 102 [.pr [.b a3], .pr [.i .i64 x3]]]] = some (.i .i64 (firstC [(a0, x0), (a1, x1), (a2, x2), (a3, x3)]), [.u]) := F73_eq [(a0, x0), (a1, x1), (a2, x2), (a3, x3)] (by simp)
@[go_sem] theorem F73_5 (a0 : Bool) (x0 : Int) (a1 : Bool) (x1 : Int) (a2 : Bool) (x2 : Int) (a3 : Bool) (x3 : Int) (a4 : Bool) (x4 : Int) : F73 [.fs [.fn 102 [.pr [.b a0], .pr [.i .i64 x0]], .fn 102 [.pr [.b a1], .pr [.i .i64 x1]], .fn 102 [.pr [.b a2], .pr [.i .i64 x2]], .fn 102 [.pr [.b a3], .pr [.i .i64 x3]], .fn 102 [.pr [.b a4], .pr [.i .i64 x4]]]] = some (.i .i64 (firstC [(a0, x0), (a1, x1), (a2, x2), (a3, x3), (a4, x4)]), [.u]) := F73_eq [(a0, x0), (a1, x1), (a2, x2), (a3, x3), (a4, x4)] (by simp)
@[go_sem] theorem F73_6 (a0 : Bool) (x0 : Int) (a1 : Bool) (x1 : Int) (a2 : Bool) (x2 : Int) (a3 : Bool) (x3 : Int) (a4 : Bool) (x4 : Int) (a5 : Bool) (x5 : Int) : F73 [.fs [.fn 102 [.pr [.b a0], .pr [.i .i64 x0]], .fn 102 [.pr [.b a1], .pr [.i .i64 x1]], .fn 102 [.pr [.b a2], .pr [.i .i64 x2]], .fn 102 [.pr [.b a3], .pr [.i .i64 x3]], .fn 102 [.pr [.b a4], .pr [.i .i64 x4]], .fn 102 [.pr [.b a5], .pr [.i .i64 x5]]]] = some (.i .i64 (firstC [(a0, x0), (a1, x1), (a2, x2), (a3, x3), (a4, x4), (a5, x5)]), [.u]) := F73_eq [(a0, x0), (a1, x1), (a2, x2), (a3, x3), (a4, x4), (a5, x5)] (by simp)
@[go_sem] theorem F73_7 (a0 : Bool) (x0 : Int) (a1 : Bool) (x1 : Int) (a2 : Bool) (x2 : Int) (a3 : Bool) (x3 : Int) (a4 : Bool) (x4 : Int) (a5 : Bool) (x5 : Int) (a6 : Bool) (x6 : Int) : F73 [.fs [.fn 102 [.pr [.b a0], .pr [.i .i64 x0]], .fn 102 [.pr [.b a1], .pr [.i .i64 x1]], .fn 102 [.pr [.b a2], .pr [.i .i64 x2]], .fn 102 [.pr [.b a3], .pr [.i .i64 x3]], .fn 102 [.pr [.b a4], .pr [.i .i64 x4]], .fn 102 [.pr [.b a5], .pr [.i .i64 x5]], .fn 102 [.pr [.b a6], .pr [.i .i64 x6]]]] = some (.i .i64 (firstC [(a0, x0), (a1, x1), (a2, x2), (a3, x3), (a4, x4), (a5, x5), (a6, x6)]), [.u]) := F73_eq [(a0, x0), (a1, x1), (a2, x2), (a3, x3), (a4, x4), (a5, x5), (a6, x6)] (by simp)
noncomputable def cx74 (n : Nat) : Cx := { T := T, fns := (fun _ => none), cuts := (fun _ => []), vars := some ([0, 1, 2, 3, 4], [2, 3]), live := fun _ => none, al := [], rounds := n, plan := fun _ => none, fz := [2, 3] }
@[go_sem] theorem cx74_z (n : Nat) : (cx74 n).fz = [2, 3] := nr rfl
@[go_sem] theorem cx74_T (n : Nat) : (cx74 n).T = T := nr rfl
@[go_sem] theorem cx74_f (n : Nat) : (cx74 n).fns = (fun _ => none) := nr rfl
@[go_sem] theorem cx74_c (n k : Nat) : (cx74 n).cuts k = ((fun _ => [])) k := nr rfl
@[go_sem] theorem cx74_v (n : Nat) : (cx74 n).vars = some ([0, 1, 2, 3, 4], [2, 3]) := nr rfl
@[go_sem] theorem cx74_l (n k : Nat) : (cx74 n).live k = (fun _ => none) k := nr rfl
@[go_sem] theorem cx74_a (n : Nat) : (cx74 n).al = [] := nr rfl
@[go_sem] theorem cx74_p (n k : Nat) : (cx74 n).plan k = (fun _ => none) k := nr rfl
@[go_sem] theorem cx74_r (n : Nat) : (cx74 n).rounds = n := nr rfl
noncomputable def F74 : List AV → Option (AV × List AV) := FSof (σ := (Bool) × (Int)) (fun (s : (Bool) × (Int)) => match s with | (x, c) => True) (fun (s : (Bool) × (Int)) => match s with | (x, c) => [.b x, .i .i64 c]) (fun (s : (Bool) × (Int)) => match s with | (x, c) => (.fn 102 [.pr [.b x], .pr [.i .i64 c]], [.u, .u]))
@[go_sem] theorem F74_eq (x : Bool) (c : Int) : F74 [.b x, .i .i64 c] = some (.fn 102 [.pr [.b x], .pr [.i .i64 c]], [.u, .u]) :=
  FSof_eq (by
    rintro ⟨x, c⟩ ⟨x', c'⟩ h
    simp only [List.cons.injEq, AV.i.injEq, AV.b.injEq, AV.s.injEq, AV.sl.injEq, AV.agg.injEq, AV.pr.injEq, AV.fs.injEq, AV.fn.injEq, true_and, and_true] at h
    simp [h]) (x, c) trivial
theorem ev74 (n : Nat) (x : Bool) (c : Int) : evalFn (cx74 n) [.ro 1, .ro 1] Try.f74 [.b x, .i .i64 c] = some (.fn 102 [.pr [.b x], .pr [.i .i64 c]], [.u, .u]) := by
  rw [evalFn_eq _ _ Try.f74 _ _ _ rfl rfl]
  simp only [go_sem, reduceIte, ↓reduceIte, Nat.reduceAdd, Nat.reduceSub, Nat.reduceMul, Nat.reduceBEq, Nat.reduceEqDiff, Nat.reduceLeDiff, Nat.reduceLT, Nat.reduceBneDiff, reduceCtorEq, Int.reduceLE, Int.reduceLT, Int.reduceEq, Int.reduceAdd, Int.reduceMul, Int.reduceSub, Int.reduceNeg, Int.reduceBEq, Int.reduceBNe, Int.reduceToNat]
theorem spec74 : VSpec Try.prog 74 ⟨[.ro 1, .ro 1], F74, true⟩ :=
  spec_wk (cx := cx74 0) (f := Try.f74) _ _ _ wide (cxOk _ rfl) (fun g fs h => by cases h) Try.func74 (by decide) rfl (by kernel_rfl) (by decide) (by decide)
    (fun s h hl => ⟨0, ev74 0 s.1 s.2⟩)
noncomputable def cx35 (n : Nat) : Cx := { T := T, fns := (fun _ => none), cuts := (fun | 1 => [none, none, none, none, none, none, some [0, 1, 2, 6, 10, 11, 12]] | _ => []), vars := some ([0, 1, 2, 6], []), live := fun _ => none, al := [], rounds := n, plan := fun _ => none, fz := [] }
@[go_sem] theorem cx35_z (n : Nat) : (cx35 n).fz = [] := nr rfl
@[go_sem] theorem cx35_T (n : Nat) : (cx35 n).T = T := nr rfl
@[go_sem] theorem cx35_f (n : Nat) : (cx35 n).fns = (fun _ => none) := nr rfl
@[go_sem] theorem cx35_c (n k : Nat) : (cx35 n).cuts k = ((fun | 1 => [none, none, none, none, none, none, some [0, 1, 2, 6, 10, 11, 12]] | _ => [])) k := nr rfl
@[go_sem] theorem cx35_v (n : Nat) : (cx35 n).vars = some ([0, 1, 2, 6], []) := nr rfl
@[go_sem] theorem cx35_l (n k : Nat) : (cx35 n).live k = (fun _ => none) k := nr rfl
@[go_sem] theorem cx35_a (n : Nat) : (cx35 n).al = [] := nr rfl
@[go_sem] theorem cx35_p (n k : Nat) : (cx35 n).plan k = (fun _ => none) k := nr rfl
@[go_sem] theorem cx35_r (n : Nat) : (cx35 n).rounds = n := nr rfl
noncomputable def F35 : List AV → Option (AV × List AV) := FSof (σ := (Int) × (Int) × (Int)) (fun (s : (Int) × (Int) × (Int)) => match s with | (a, b, c) => True) (fun (s : (Int) × (Int) × (Int)) => match s with | (a, b, c) => [.i .i64 a, .i .i64 b, .i .i64 c]) (fun (s : (Int) × (Int) × (Int)) => match s with | (a, b, c) => (.b (decide (b ≤ a) && decide (a ≤ c)), [.u, .u, .u]))
@[go_sem] theorem F35_eq (a : Int) (b : Int) (c : Int) : F35 [.i .i64 a, .i .i64 b, .i .i64 c] = some (.b (decide (b ≤ a) && decide (a ≤ c)), [.u, .u, .u]) :=
  FSof_eq (by
    rintro ⟨a, b, c⟩ ⟨a', b', c'⟩ h
    simp only [List.cons.injEq, AV.i.injEq, AV.b.injEq, AV.s.injEq, AV.sl.injEq, AV.agg.injEq, AV.pr.injEq, AV.fs.injEq, AV.fn.injEq, true_and, and_true] at h
    simp [h]) (a, b, c) trivial
theorem ev35 (n : Nat) (a : Int) (b : Int) (c : Int) : evalFn (cx35 n) [.ro 1, .ro 1, .ro 1] Try.f35 [.i .i64 a, .i .i64 b, .i .i64 c] = some (.b (decide (b ≤ a) && decide (a ≤ c)), [.u, .u, .u]) := by
  rw [evalFn_eq _ _ Try.f35 _ _ _ rfl rfl]
  simp only [go_sem, reduceIte, ↓reduceIte, Nat.reduceAdd, Nat.reduceSub, Nat.reduceMul, Nat.reduceBEq, Nat.reduceEqDiff, Nat.reduceLeDiff, Nat.reduceLT, Nat.reduceBneDiff, reduceCtorEq, Int.reduceLE, Int.reduceLT, Int.reduceEq, Int.reduceAdd, Int.reduceMul, Int.reduceSub, Int.reduceNeg, Int.reduceBEq, Int.reduceBNe, Int.reduceToNat]
  by_cases h : b ≤ a <;> simp [h]
theorem spec35 : VSpec Try.prog 35 ⟨[.ro 1, .ro 1, .ro 1], F35, false⟩ :=
  spec_ro' (cx := cx35 0) (f := Try.f35) _ _ _ wide (cxOk _ rfl) (fun g fs h => by cases h) Try.func35 (by decide) rfl (by kernel_rfl) (by decide) (by decide)
    (fun s h hl => ⟨0, ev35 0 s.1 s.2.1 s.2.2⟩)
    (fun _ _ => rfl) (fun _ => rfl)
noncomputable def fns75 : Nat → Option FS
  | 35 => some ⟨[.ro 1, .ro 1, .ro 1], F35, false⟩
  | _ => none
@[go_sem] theorem fns75_35 : fns75 35 = some ⟨[.ro 1, .ro 1, .ro 1], F35, false⟩ := nr rfl
theorem fns75_ok : ∀ g fs, fns75 g = some fs → VSpec Try.prog g fs := by
  intro g fs h
  unfold fns75 at h
  split at h
  · injection h with h; subst h; exact spec35
  · cases h
noncomputable def cx75 (n : Nat) : Cx := { T := T, fns := fns75, cuts := (fun _ => []), vars := some ([0, 2], []), live := fun _ => none, al := [], rounds := n, plan := fun _ => none, fz := [] }
@[go_sem] theorem cx75_z (n : Nat) : (cx75 n).fz = [] := nr rfl
@[go_sem] theorem cx75_T (n : Nat) : (cx75 n).T = T := nr rfl
@[go_sem] theorem cx75_f (n : Nat) : (cx75 n).fns = fns75 := nr rfl
@[go_sem] theorem cx75_c (n k : Nat) : (cx75 n).cuts k = ((fun _ => [])) k := nr rfl
@[go_sem] theorem cx75_v (n : Nat) : (cx75 n).vars = some ([0, 2], []) := nr rfl
@[go_sem] theorem cx75_l (n k : Nat) : (cx75 n).live k = (fun _ => none) k := nr rfl
@[go_sem] theorem cx75_a (n : Nat) : (cx75 n).al = [] := nr rfl
@[go_sem] theorem cx75_p (n k : Nat) : (cx75 n).plan k = (fun _ => none) k := nr rfl
@[go_sem] theorem cx75_r (n : Nat) : (cx75 n).rounds = n := nr rfl
noncomputable def F75 : List AV → Option (AV × List AV) := FSof (σ := (Int)) (fun (a : (Int)) => True) (fun (a : (Int)) => [.i .i64 a]) (fun (a : (Int)) => (.b (isTime a), [.u]))
@[go_sem] theorem F75_eq (a : Int) : F75 [.i .i64 a] = some (.b (isTime a), [.u]) :=
  FSof_eq (by
    intro a a' h
    simp only [List.cons.injEq, AV.i.injEq, AV.b.injEq, AV.s.injEq, AV.sl.injEq, AV.agg.injEq, AV.pr.injEq, AV.fs.injEq, AV.fn.injEq, true_and, and_true] at h
    simp [h]) a trivial
theorem ev75 (n : Nat) (a : Int) : evalFn (cx75 n) [.ro 1] Try.f75 [.i .i64 a] = some (.b (isTime a), [.u]) := by
  rw [evalFn_eq _ _ Try.f75 _ _ _ rfl rfl]
  simp only [go_sem, reduceIte, ↓reduceIte, Nat.reduceAdd, Nat.reduceSub, Nat.reduceMul, Nat.reduceBEq, Nat.reduceEqDiff, Nat.reduceLeDiff, Nat.reduceLT, Nat.reduceBneDiff, reduceCtorEq, Int.reduceLE, Int.reduceLT, Int.reduceEq, Int.reduceAdd, Int.reduceMul, Int.reduceSub, Int.reduceNeg, Int.reduceBEq, Int.reduceBNe, Int.reduceToNat, isTime]
theorem spec75 : VSpec Try.prog 75 ⟨[.ro 1], F75, false⟩ :=
  spec_ro' (cx := cx75 0) (f := Try.f75) _ _ _ wide (cxOk _ rfl) fns75_ok Try.func75 (by decide) rfl (by kernel_rfl) (by decide) (by decide)
    (fun s h hl => ⟨0, ev75 0 s⟩)
    (fun _ _ => rfl) (fun _ => rfl)
def outsCode (n : Nat) (id : Int) : Int := firstC [(decide (2000 < (n : Int)), 2), (!isTime id, 3)]
theorem outsCode_def (n : Nat) (id : Int) : outsCode n id = if 2000 < (n : Int) then 2 else if isTime id = true then 0 else 3 := by
  unfold outsCode firstC firstC firstC clv
  by_cases h : 2000 < (n : Int) <;> cases h2 : isTime id <;> simp [h, h2]
noncomputable def fns41 : Nat → Option FS
  | 73 => some ⟨[.ro 1], F73, false⟩
  | 74 => some ⟨[.ro 1, .ro 1], F74, true⟩
  | 75 => some ⟨[.ro 1], F75, false⟩
  | _ => none
@[go_sem] theorem fns41_73 : fns41 73 = some ⟨[.ro 1], F73, false⟩ := nr rfl
@[go_sem] theorem fns41_74 : fns41 74 = some ⟨[.ro 1, .ro 1], F74, true⟩ := nr rfl
@[go_sem] theorem fns41_75 : fns41 75 = some ⟨[.ro 1], F75, false⟩ := nr rfl
theorem fns41_ok : ∀ g fs, fns41 g = some fs → VSpec Try.prog g fs := by
  intro g fs h
  unfold fns41 at h
  split at h
  · injection h with h; subst h; exact spec73
  · injection h with h; subst h; exact spec74
  · injection h with h; subst h; exact spec75
  · cases h
noncomputable def cx41 (n : Nat) : Cx := { T := T, fns := fns41, cuts := (fun | 1 => [none, none, none, none, none, none, some [0, 1, 4, 8, 10]] | _ => []), vars := some ([0, 1, 4], []), live := fun _ => none, al := [], rounds := n, plan := fun _ => none, fz := [] }
@[go_sem] theorem cx41_z (n : Nat) : (cx41 n).fz = [] := nr rfl
@[go_sem] theorem cx41_T (n : Nat) : (cx41 n).T = T := nr rfl
@[go_sem] theorem cx41_f (n : Nat) : (cx41 n).fns = fns41 := nr rfl
@[go_sem] theorem cx41_c (n k : Nat) : (cx41 n).cuts k = ((fun | 1 => [none, none, none, none, none, none, some [0, 1, 4, 8, 10]] | _ => [])) k := nr rfl
@[go_sem] theorem cx41_v (n : Nat) : (cx41 n).vars = some ([0, 1, 4], []) := nr rfl
@[go_sem] theorem cx41_l (n k : Nat) : (cx41 n).live k = (fun _ => none) k := nr rfl
@[go_sem] theorem cx41_a (n : Nat) : (cx41 n).al = [] := nr rfl
@[go_sem] theorem cx41_p (n k : Nat) : (cx41 n).plan k = (fun _ => none) k := nr rfl
@[go_sem] theorem cx41_r (n : Nat) : (cx41 n).rounds = n := nr rfl
noncomputable def F41 : List AV → Option (AV × List AV) := FSof (σ := (List Out) × (Int)) (fun (s : (List Out) × (Int)) => match s with | (outs, id) => True) (fun (s : (List Out) × (Int)) => match s with | (outs, id) => [.sl .ro 10 (outs.map (rOut .ro)), .i .i64 id]) (fun (s : (List Out) × (Int)) => match s with | (outs, id) => (.i .i64 (outsCode outs.length id), [.u, .u]))
@[go_sem] theorem F41_eq (outs : List Out) (id : Int) : F41 [.sl .ro 10 (outs.map (rOut .ro)), .i .i64 id] = some (.i .i64 (outsCode outs.length id), [.u, .u]) :=
  FSof_eq (by
    rintro ⟨outs, id⟩ ⟨outs', id'⟩ h
    simp only [List.cons.injEq, AV.i.injEq, AV.b.injEq, AV.s.injEq, AV.sl.injEq, AV.agg.injEq, AV.pr.injEq, AV.fs.injEq, AV.fn.injEq, true_and, and_true, rOut_mi] at h
    simp [h]) (outs, id) trivial
theorem ev41 (n : Nat) (outs : List Out) (id : Int) : evalFn (cx41 n) [.ro 1, .ro 1] Try.f41 [.sl .ro 10 (outs.map (rOut .ro)), .i .i64 id] = some (.i .i64 (outsCode outs.length id), [.u, .u]) := by
  rw [evalFn_eq _ _ Try.f41 _ _ _ rfl rfl]
  simp only [go_sem, reduceIte, ↓reduceIte, Nat.reduceAdd, Nat.reduceSub, Nat.reduceMul, Nat.reduceBEq, Nat.reduceEqDiff, Nat.reduceLeDiff, Nat.reduceLT, Nat.reduceBneDiff, reduceCtorEq, Int.reduceLE, Int.reduceLT, Int.reduceEq, Int.reduceAdd, Int.reduceMul, Int.reduceSub, Int.reduceNeg, Int.reduceBEq, Int.reduceBNe, Int.reduceToNat, outsCode]
theorem spec41 : VSpec Try.prog 41 ⟨[.ro 1, .ro 1], F41, false⟩ :=
  spec_ro' (cx := cx41 0) (f := Try.f41) _ _ _ wide (cxOk _ rfl) fns41_ok Try.func41 (by decide) rfl (by kernel_rfl) (by decide) (by decide)
    (fun s h hl => ⟨0, ev41 0 s.1 s.2⟩)
    (fun _ _ => rfl) (fun _ => rfl)
noncomputable def cx45 (n : Nat) : Cx := { T := T, fns := (fun _ => none), cuts := (fun | 5 => [none, none, none, none, none, none, some [0, 1, 4, 5, 7, 9, 10, 11, 12, 18, 20, 23]] | _ => []), vars := some ([0, 1, 4, 5, 7, 9, 10, 11, 12, 23], [7]), live := fun _ => some ([1, 4, 5, 9, 10, 11], []), al := [], rounds := n, plan := fun _ => none, fz := [] }
@[go_sem] theorem cx45_z (n : Nat) : (cx45 n).fz = [] := nr rfl
@[go_sem] theorem cx45_T (n : Nat) : (cx45 n).T = T := nr rfl
@[go_sem] theorem cx45_f (n : Nat) : (cx45 n).fns = (fun _ => none) := nr rfl
@[go_sem] theorem cx45_c (n k : Nat) : (cx45 n).cuts k = ((fun | 5 => [none, none, none, none, none, none, some [0, 1, 4, 5, 7, 9, 10, 11, 12, 18, 20, 23]] | _ => [])) k := nr rfl
@[go_sem] theorem cx45_v (n : Nat) : (cx45 n).vars = some ([0, 1, 4, 5, 7, 9, 10, 11, 12, 23], [7]) := nr rfl
@[go_sem] theorem cx45_l (n k : Nat) : (cx45 n).live k = (fun _ => some ([1, 4, 5, 9, 10, 11], [])) k := nr rfl
@[go_sem] theorem cx45_a (n : Nat) : (cx45 n).al = [] := nr rfl
@[go_sem] theorem cx45_p (n k : Nat) : (cx45 n).plan k = (fun _ => none) k := nr rfl
@[go_sem] theorem cx45_r (n : Nat) : (cx45 n).rounds = n := nr rfl
noncomputable def F45 : List AV → Option (AV × List AV) := FSof (σ := (List Out) × (Int)) (fun (s : (List Out) × (Int)) => match s with | (outs, id) => outs.length ≤ 2000) (fun (s : (List Out) × (Int)) => match s with | (outs, id) => [.sl .ro 10 (outs.map (rOut .ro)), .i .i64 id]) (fun (s : (List Out) × (Int)) => match s with | (outs, id) => (.sl .mut 1 ((sourcesOf id outs).map rStr), [.u, .u]))
@[go_sem] theorem F45_eq (outs : List Out) (id : Int) (h : outs.length ≤ 2000) : F45 [.sl .ro 10 (outs.map (rOut .ro)), .i .i64 id] = some (.sl .mut 1 ((sourcesOf id outs).map rStr), [.u, .u]) :=
  FSof_eq (by
    rintro ⟨outs, id⟩ ⟨outs', id'⟩ h
    simp only [List.cons.injEq, AV.i.injEq, AV.b.injEq, AV.s.injEq, AV.sl.injEq, AV.agg.injEq, AV.pr.injEq, AV.fs.injEq, AV.fn.injEq, true_and, and_true, rOut_mi] at h
    simp [h]) (outs, id) h
theorem rd45 (N : Nat) (xs : List Out) (id : Int) (k : Nat) (hk : k < xs.length) (hb : xs.length ≤ 9223372036854775807) (acc : List ByteArray) (hx : xs.length ≤ 2000) (hI : acc.length ≤ k) : ∃ (jv0 : AV) (jv7 : AV) (jv12 : AV) (jv23 : AV) (jb7 : List AV), ∀ G, seqE (evCode (cx45 N) 0 (loopN Try.f45 0) ⟨E [(1, .i .i64 id), (4, .sl .mut 1 []), (5, .sl .mut 1 (acc.map rStr)), (9, .sl .ro 10 (xs.map (rOut .ro))), (10, .i .i64 xs.length), (11, .i .i64 k)], B []⟩) G = G ⟨E [(0, jv0), (1, .i .i64 id), (4, .sl .mut 1 []), (5, .sl .mut 1 (((fun (s : (List ByteArray)) (x : Out) => if (x.Kind == 1 && x.Id == id) = true then s ++ [x.Source] else s) acc xs[k]).map rStr)), (7, jv7), (9, .sl .ro 10 (xs.map (rOut .ro))), (10, .i .i64 xs.length), (11, .i .i64 (k + 1 : Nat)), (12, jv12), (23, jv23)], B [(7, jb7)]⟩ := by
  have h1 : ((k : Int) < (xs.length : Int)) := Int.ofNat_lt.2 hk
  have h4 : (acc.length + 1) * 16 ≤ 140737488355328 := by omega
  cases hc0 : (xs[k].Kind == 1) <;> cases hc1 : (xs[k].Id == id)
  all_goals
    rw [loopN_eq Try.f45 0 _ _ rfl rfl]
    simp only [go_sem, reduceIte, ↓reduceIte, Nat.reduceAdd, Nat.reduceSub, Nat.reduceMul, Nat.reduceBEq, Nat.reduceEqDiff, Nat.reduceLeDiff, Nat.reduceLT, Nat.reduceBneDiff, reduceCtorEq, Int.reduceLE, Int.reduceLT, Int.reduceEq, Int.reduceAdd, Int.reduceMul, Int.reduceSub, Int.reduceNeg, Int.reduceBEq, Int.reduceBNe, Int.reduceToNat, h1, idx_nt _ _ hk, wrap_nat1 (show k < 9223372036854775807 by omega), hc0, hc1, map_gd (rOut .ro) xs k hk, h4, List.map_append]
    exact ⟨_, _, _, _, _, fun G => rfl⟩
theorem en45 (N : Nat) (xs : List Out) (id : Int) (acc : List ByteArray) (hx : xs.length ≤ 2000) : ∃ (jv0 : AV) (jv7 : AV) (jv12 : AV) (jv23 : AV) (jb7 : List AV), ∀ G, seqE (evCode (cx45 N) 0 (loopN Try.f45 0) ⟨E [(1, .i .i64 id), (4, .sl .mut 1 []), (5, .sl .mut 1 (acc.map rStr)), (9, .sl .ro 10 (xs.map (rOut .ro))), (10, .i .i64 xs.length), (11, .i .i64 xs.length)], B []⟩) G = some (.ex 0, ⟨E [(0, jv0), (1, .i .i64 id), (4, .sl .mut 1 []), (5, .sl .mut 1 (acc.map rStr)), (7, jv7), (9, .sl .ro 10 (xs.map (rOut .ro))), (10, .i .i64 xs.length), (11, .i .i64 xs.length), (12, jv12), (23, jv23)], B [(7, jb7)]⟩) := by
  rw [loopN_eq Try.f45 0 _ _ rfl rfl]
  simp only [go_sem, reduceIte, ↓reduceIte, Nat.reduceAdd, Nat.reduceSub, Nat.reduceMul, Nat.reduceBEq, Nat.reduceEqDiff, Nat.reduceLeDiff, Nat.reduceLT, Nat.reduceBneDiff, reduceCtorEq, Int.reduceLE, Int.reduceLT, Int.reduceEq, Int.reduceAdd, Int.reduceMul, Int.reduceSub, Int.reduceNeg, Int.reduceBEq, Int.reduceBNe, Int.reduceToNat, Int.lt_irrefl]
  exact ⟨_, _, _, _, _, fun G => rfl⟩
theorem lp45 (N : Nat) (xs : List Out) (id : Int) (hb : xs.length ≤ 9223372036854775807) (acc : List ByteArray) (hx : xs.length ≤ 2000) (hI0 : acc.length ≤ (0 : Nat)) (hN : xs.length + 1 ≤ N) : ∃ r, (∀ st, keep ((cx45 N).live 0) st = ⟨E [(1, .i .i64 id), (4, .sl .mut 1 []), (5, .sl .mut 1 (acc.map rStr)), (9, .sl .ro 10 (xs.map (rOut .ro))), (10, .i .i64 xs.length), (11, .i .i64 (0 : Nat))], B []⟩ → loopE (cx45 N) 0 (loopN Try.f45 0) N st = r) ∧ ∃ (jv0 : AV) (jv7 : AV) (jv12 : AV) (jv23 : AV) (jb7 : List AV), r = some (.ex 0, ⟨E [(0, jv0), (1, .i .i64 id), (4, .sl .mut 1 []), (5, .sl .mut 1 ((xs.foldl (fun (s : (List ByteArray)) (x : Out) => if (x.Kind == 1 && x.Id == id) = true then s ++ [x.Source] else s) acc).map rStr)), (7, jv7), (9, .sl .ro 10 (xs.map (rOut .ro))), (10, .i .i64 xs.length), (11, .i .i64 xs.length), (12, jv12), (23, jv23)], B [(7, jb7)]⟩) := by
  obtain ⟨r, h1, h2⟩ := loop_ixI (cx := (cx45 N)) (blk := 0) (body := (loopN Try.f45 0)) xs.length (fun k (s : (List ByteArray)) => s.length ≤ k) (fun k (s : (List ByteArray)) => ⟨E [(1, .i .i64 id), (4, .sl .mut 1 []), (5, .sl .mut 1 (s.map rStr)), (9, .sl .ro 10 (xs.map (rOut .ro))), (10, .i .i64 xs.length), (11, .i .i64 k)], B []⟩)
    (fun k s r => ∃ (jv0 : AV) (jv7 : AV) (jv12 : AV) (jv23 : AV) (jb7 : List AV), r = some (.ex 0, ⟨E [(0, jv0), (1, .i .i64 id), (4, .sl .mut 1 []), (5, .sl .mut 1 (((xs.drop k).foldl (fun (s : (List ByteArray)) (x : Out) => if (x.Kind == 1 && x.Id == id) = true then s ++ [x.Source] else s) s).map rStr)), (7, jv7), (9, .sl .ro 10 (xs.map (rOut .ro))), (10, .i .i64 xs.length), (11, .i .i64 xs.length), (12, jv12), (23, jv23)], B [(7, jb7)]⟩))
    (fun s hI G => by
      obtain ⟨jv0, jv7, jv12, jv23, jb7, he⟩ := en45 N xs id s hx
      simp only [List.drop_length, List.foldl_nil]
      exact ⟨jv0, jv7, jv12, jv23, jb7, he G⟩)
    (fun k hk s hI => by
      obtain ⟨jv0, jv7, jv12, jv23, jb7, he⟩ := rd45 N xs id k hk hb s hx hI
      refine .inr ⟨_, (fun (s : (List ByteArray)) (x : Out) => if (x.Kind == 1 && x.Id == id) = true then s ++ [x.Source] else s) s xs[k], ?_, ?_, fun r hr => ?_, fun G => he G⟩
      · simp only [go_sem, reduceIte, ↓reduceIte, Nat.reduceAdd, Nat.reduceSub, Nat.reduceMul, Nat.reduceBEq, Nat.reduceEqDiff, Nat.reduceLeDiff, Nat.reduceLT, Nat.reduceBneDiff, reduceCtorEq, Int.reduceLE, Int.reduceLT, Int.reduceEq, Int.reduceAdd, Int.reduceMul, Int.reduceSub, Int.reduceNeg, Int.reduceBEq, Int.reduceBNe, Int.reduceToNat]
      · rw [show ((fun (s : (List ByteArray)) (x : Out) => if (x.Kind == 1 && x.Id == id) = true then s ++ [x.Source] else s) s xs[k]) = _ from rfl]
        dsimp only; split <;> (try simp only [List.length_append, List.length_cons, List.length_nil]) <;> omega
      · rw [List.drop_eq_getElem_cons hk, List.foldl_cons]; exact hr) N hN acc hI0
  exact ⟨r, h1, h2⟩
theorem ev45 (n : Nat) (outs : List Out) (id : Int) (h : outs.length ≤ 2000) (hb : lenOkL [.sl .ro 10 (outs.map (rOut .ro)), .i .i64 id]) (hN : outs.length + 1 ≤ n) : evalFn (cx45 n) [.ro 1, .ro 1] Try.f45 [.sl .ro 10 (outs.map (rOut .ro)), .i .i64 id] = some (.sl .mut 1 ((sourcesOf id outs).map rStr), [.u, .u]) := by
  rw [evalFn_eq _ _ Try.f45 _ _ _ rfl rfl]
  have hb1 : outs.length ≤ 9223372036854775807 := by omega
  simp only [go_sem, reduceIte, ↓reduceIte, Nat.reduceAdd, Nat.reduceSub, Nat.reduceMul, Nat.reduceBEq, Nat.reduceEqDiff, Nat.reduceLeDiff, Nat.reduceLT, Nat.reduceBneDiff, reduceCtorEq, Int.reduceLE, Int.reduceLT, Int.reduceEq, Int.reduceAdd, Int.reduceMul, Int.reduceSub, Int.reduceNeg, Int.reduceBEq, Int.reduceBNe, Int.reduceToNat]
  obtain ⟨r, h1, jv0, jv7, jv12, jv23, jb7, rfl⟩ := lp45 n outs id hb1 [] h (by simp) hN
  rw [loopN_eq Try.f45 0 _ _ rfl rfl] at h1
  rw [h1]
  · simp only [go_sem, reduceIte, ↓reduceIte, Nat.reduceAdd, Nat.reduceSub, Nat.reduceMul, Nat.reduceBEq, Nat.reduceEqDiff, Nat.reduceLeDiff, Nat.reduceLT, Nat.reduceBneDiff, reduceCtorEq, Int.reduceLE, Int.reduceLT, Int.reduceEq, Int.reduceAdd, Int.reduceMul, Int.reduceSub, Int.reduceNeg, Int.reduceBEq, Int.reduceBNe, Int.reduceToNat, sourcesOf]
  · simp only [go_sem, reduceIte, ↓reduceIte, Nat.reduceAdd, Nat.reduceSub, Nat.reduceMul, Nat.reduceBEq, Nat.reduceEqDiff, Nat.reduceLeDiff, Nat.reduceLT, Nat.reduceBneDiff, reduceCtorEq, Int.reduceLE, Int.reduceLT, Int.reduceEq, Int.reduceAdd, Int.reduceMul, Int.reduceSub, Int.reduceNeg, Int.reduceBEq, Int.reduceBNe, Int.reduceToNat]
    rfl
theorem spec45 : VSpec Try.prog 45 ⟨[.ro 1, .ro 1], F45, false⟩ :=
  spec_ro' (cx := cx45 0) (f := Try.f45) _ _ _ wide (cxOk _ rfl) (fun g fs h => by cases h) Try.func45 (by decide) rfl (by kernel_rfl) (by decide) (by decide)
    (fun s h hl => ⟨s.1.length + 1, ev45 _ s.1 s.2 h hl (Nat.le_refl _)⟩)
    (fun s _ => by simp only [hasRo, rStr_noRo]) (fun _ => rfl)
noncomputable def fns20 : Nat → Option FS
  | 41 => some ⟨[.ro 1, .ro 1], F41, false⟩
  | 45 => some ⟨[.ro 1, .ro 1], F45, false⟩
  | _ => none
@[go_sem] theorem fns20_41 : fns20 41 = some ⟨[.ro 1, .ro 1], F41, false⟩ := nr rfl
@[go_sem] theorem fns20_45 : fns20 45 = some ⟨[.ro 1, .ro 1], F45, false⟩ := nr rfl
theorem fns20_ok : ∀ g fs, fns20 g = some fs → VSpec Try.prog g fs := by
  intro g fs h
  unfold fns20 at h
  split at h
  · injection h with h; subst h; exact spec41
  · injection h with h; subst h; exact spec45
  · cases h
noncomputable def cx20 (n : Nat) : Cx := { T := T, fns := fns20, cuts := (fun _ => []), vars := some ([0, 1, 4, 5, 10], [4]), live := fun _ => none, al := [], rounds := n, plan := fun _ => none, fz := [] }
@[go_sem] theorem cx20_z (n : Nat) : (cx20 n).fz = [] := nr rfl
@[go_sem] theorem cx20_T (n : Nat) : (cx20 n).T = T := nr rfl
@[go_sem] theorem cx20_f (n : Nat) : (cx20 n).fns = fns20 := nr rfl
@[go_sem] theorem cx20_c (n k : Nat) : (cx20 n).cuts k = ((fun _ => [])) k := nr rfl
@[go_sem] theorem cx20_v (n : Nat) : (cx20 n).vars = some ([0, 1, 4, 5, 10], [4]) := nr rfl
@[go_sem] theorem cx20_l (n k : Nat) : (cx20 n).live k = (fun _ => none) k := nr rfl
@[go_sem] theorem cx20_a (n : Nat) : (cx20 n).al = [] := nr rfl
@[go_sem] theorem cx20_p (n k : Nat) : (cx20 n).plan k = (fun _ => none) k := nr rfl
@[go_sem] theorem cx20_r (n : Nat) : (cx20 n).rounds = n := nr rfl
noncomputable def F20 : List AV → Option (AV × List AV) := FSof (σ := (List Out) × (Int)) (fun (s : (List Out) × (Int)) => match s with | (outs, id) => True) (fun (s : (List Out) × (Int)) => match s with | (outs, id) => [.sl .ro 10 (outs.map (rOut .ro)), .i .i64 id]) (fun (s : (List Out) × (Int)) => match s with | (outs, id) => (.agg (rIntResult .mut (answersTo outs id)), [.u, .u]))
@[go_sem] theorem F20_eq (outs : List Out) (id : Int) : F20 [.sl .ro 10 (outs.map (rOut .ro)), .i .i64 id] = some (.agg (rIntResult .mut (answersTo outs id)), [.u, .u]) :=
  FSof_eq (by
    rintro ⟨outs, id⟩ ⟨outs', id'⟩ h
    simp only [List.cons.injEq, AV.i.injEq, AV.b.injEq, AV.s.injEq, AV.sl.injEq, AV.agg.injEq, AV.pr.injEq, AV.fs.injEq, AV.fn.injEq, true_and, and_true, rOut_mi] at h
    simp [h]) (outs, id) trivial
theorem ev20 (n : Nat) (outs : List Out) (id : Int) : evalFn (cx20 n) [.ro 1, .ro 1] Try.f20 [.sl .ro 10 (outs.map (rOut .ro)), .i .i64 id] = some (.agg (rIntResult .mut (answersTo outs id)), [.u, .u]) := by
  rw [evalFn_eq _ _ Try.f20 _ _ _ rfl rfl]
  unfold answersTo
  by_cases hc : 2000 < (outs.length : Int)
  · simp only [go_sem, reduceIte, ↓reduceIte, Nat.reduceAdd, Nat.reduceSub, Nat.reduceMul, Nat.reduceBEq, Nat.reduceEqDiff, Nat.reduceLeDiff, Nat.reduceLT, Nat.reduceBneDiff, reduceCtorEq, Int.reduceLE, Int.reduceLT, Int.reduceEq, Int.reduceAdd, Int.reduceMul, Int.reduceSub, Int.reduceNeg, Int.reduceBEq, Int.reduceBNe, Int.reduceToNat, hc, outsCode_def]
  · have h4 : outs.length ≤ 2000 := by omega
    cases h5 : isTime id
    · simp only [go_sem, reduceIte, ↓reduceIte, Nat.reduceAdd, Nat.reduceSub, Nat.reduceMul, Nat.reduceBEq, Nat.reduceEqDiff, Nat.reduceLeDiff, Nat.reduceLT, Nat.reduceBneDiff, reduceCtorEq, Int.reduceLE, Int.reduceLT, Int.reduceEq, Int.reduceAdd, Int.reduceMul, Int.reduceSub, Int.reduceNeg, Int.reduceBEq, Int.reduceBNe, Int.reduceToNat, hc, h5, h4, outsCode_def]
    · simp only [go_sem, reduceIte, ↓reduceIte, Nat.reduceAdd, Nat.reduceSub, Nat.reduceMul, Nat.reduceBEq, Nat.reduceEqDiff, Nat.reduceLeDiff, Nat.reduceLT, Nat.reduceBneDiff, reduceCtorEq, Int.reduceLE, Int.reduceLT, Int.reduceEq, Int.reduceAdd, Int.reduceMul, Int.reduceSub, Int.reduceNeg, Int.reduceBEq, Int.reduceBNe, Int.reduceToNat, hc, h5, h4, outsCode_def]
      rw [sources_len]
theorem spec20 : VSpec Try.prog 20 ⟨[.ro 1, .ro 1], F20, false⟩ :=
  spec_ro' (cx := cx20 0) (f := Try.f20) _ _ _ wide (cxOk _ rfl) fns20_ok Try.func20 (by decide) rfl (by kernel_rfl) (by decide) (by decide)
    (fun s h hl => ⟨0, ev20 0 s.1 s.2⟩)
    (fun _ _ => rfl) (fun _ => rfl)
noncomputable def fns5 : Nat → Option FS
  | 13 => some ⟨[.ro 1, .ro 1], F13, false⟩
  | 15 => some ⟨[.ro 1], F15, false⟩
  | 17 => some ⟨[.ro 1, .ro 1], F17, false⟩
  | 18 => some ⟨[.ro 1, .ro 1], F18, false⟩
  | 19 => some ⟨[.ro 1, .ro 1], F19, false⟩
  | 20 => some ⟨[.ro 1, .ro 1], F20, false⟩
  | _ => none
@[go_sem] theorem fns5_13 : fns5 13 = some ⟨[.ro 1, .ro 1], F13, false⟩ := nr rfl
@[go_sem] theorem fns5_15 : fns5 15 = some ⟨[.ro 1], F15, false⟩ := nr rfl
@[go_sem] theorem fns5_17 : fns5 17 = some ⟨[.ro 1, .ro 1], F17, false⟩ := nr rfl
@[go_sem] theorem fns5_18 : fns5 18 = some ⟨[.ro 1, .ro 1], F18, false⟩ := nr rfl
@[go_sem] theorem fns5_19 : fns5 19 = some ⟨[.ro 1, .ro 1], F19, false⟩ := nr rfl
@[go_sem] theorem fns5_20 : fns5 20 = some ⟨[.ro 1, .ro 1], F20, false⟩ := nr rfl
theorem fns5_ok : ∀ g fs, fns5 g = some fs → VSpec Try.prog g fs := by
  intro g fs h
  unfold fns5 at h
  split at h
  · injection h with h; subst h; exact spec13
  · injection h with h; subst h; exact spec15
  · injection h with h; subst h; exact spec17
  · injection h with h; subst h; exact spec18
  · injection h with h; subst h; exact spec19
  · injection h with h; subst h; exact spec20
  · cases h
noncomputable def cx5 (n : Nat) : Cx := { T := T, fns := fns5, cuts := (fun _ => []), vars := some ([0, 1, 4, 5, 6, 7, 8, 13, 26, 31], [6, 8]), live := fun _ => none, al := [], rounds := n, plan := fun _ => none, fz := [] }
@[go_sem] theorem cx5_z (n : Nat) : (cx5 n).fz = [] := nr rfl
@[go_sem] theorem cx5_T (n : Nat) : (cx5 n).T = T := nr rfl
@[go_sem] theorem cx5_f (n : Nat) : (cx5 n).fns = fns5 := nr rfl
@[go_sem] theorem cx5_c (n k : Nat) : (cx5 n).cuts k = ((fun _ => [])) k := nr rfl
@[go_sem] theorem cx5_v (n : Nat) : (cx5 n).vars = some ([0, 1, 4, 5, 6, 7, 8, 13, 26, 31], [6, 8]) := nr rfl
@[go_sem] theorem cx5_l (n k : Nat) : (cx5 n).live k = (fun _ => none) k := nr rfl
@[go_sem] theorem cx5_a (n : Nat) : (cx5 n).al = [] := nr rfl
@[go_sem] theorem cx5_p (n k : Nat) : (cx5 n).plan k = (fun _ => none) k := nr rfl
@[go_sem] theorem cx5_r (n : Nat) : (cx5 n).rounds = n := nr rfl
noncomputable def F5 : List AV → Option (AV × List AV) := FSof (σ := (List Out) × (Int)) (fun (s : (List Out) × (Int)) => match s with | (xs, id) => (okL okOut) xs ∧ okInt id) (fun (s : (List Out) × (Int)) => match s with | (xs, id) => [.sl .ro 10 (xs.map (rOut .ro)), .i .i64 id]) (fun (s : (List Out) × (Int)) => match s with | (xs, id) => (.b true, [.u, .u]))
@[go_sem] theorem F5_eq (xs : List Out) (id : Int) (h : (okL okOut) xs ∧ okInt id) : F5 [.sl .ro 10 (xs.map (rOut .ro)), .i .i64 id] = some (.b true, [.u, .u]) :=
  FSof_eq (by
    rintro ⟨xs, id⟩ ⟨xs', id'⟩ h
    simp only [List.cons.injEq, AV.i.injEq, AV.b.injEq, AV.s.injEq, AV.sl.injEq, AV.agg.injEq, AV.pr.injEq, AV.fs.injEq, AV.fn.injEq, true_and, and_true, rOut_mi] at h
    simp [h]) (xs, id) h
theorem ev5 (n : Nat) (xs : List Out) (id : Int) (h : (okL okOut) xs ∧ okInt id) : evalFn (cx5 n) [.ro 1, .ro 1] Try.f5 [.sl .ro 10 (xs.map (rOut .ro)), .i .i64 id] = some (.b true, [.u, .u]) := by
  rw [evalFn_eq _ _ Try.f5 _ _ _ rfl rfl]
  by_cases hc0 : szL szOut xs 1048576 < 0
  · simp only [go_sem, reduceIte, ↓reduceIte, Nat.reduceAdd, Nat.reduceSub, Nat.reduceMul, Nat.reduceBEq, Nat.reduceEqDiff, Nat.reduceLeDiff, Nat.reduceLT, Nat.reduceBneDiff, reduceCtorEq, Int.reduceLE, Int.reduceLT, Int.reduceEq, Int.reduceAdd, Int.reduceMul, Int.reduceSub, Int.reduceNeg, Int.reduceBEq, Int.reduceBNe, Int.reduceToNat, hc0]
  have hs0 := (szL_fact szOut_fact) _ _ h.1 (by decide) (by decide) (show 0 ≤ szL szOut xs 1048576 by omega)
  simp only [go_sem, reduceIte, ↓reduceIte, Nat.reduceAdd, Nat.reduceSub, Nat.reduceMul, Nat.reduceBEq, Nat.reduceEqDiff, Nat.reduceLeDiff, Nat.reduceLT, Nat.reduceBneDiff, reduceCtorEq, Int.reduceLE, Int.reduceLT, Int.reduceEq, Int.reduceAdd, Int.reduceMul, Int.reduceSub, Int.reduceNeg, Int.reduceBEq, Int.reduceBNe, Int.reduceToNat, hc0, hs0.1, eqv_self]
theorem spec5 : VSpec Try.prog 5 ⟨[.ro 1, .ro 1], F5, false⟩ :=
  spec_ro' (cx := cx5 0) (f := Try.f5) _ _ _ wide (cxOk _ rfl) fns5_ok Try.func5 (by decide) rfl (by kernel_rfl) (by decide) (by decide)
    (fun s h hl => ⟨0, ev5 0 s.1 s.2 h⟩)
    (fun _ _ => rfl) (fun _ => rfl)
end Go.Vm.A
