/- Functions of the program, walked by the evaluator. -/
import Derived.Test.YtionofhbbjpffaaFa
set_option autoImplicit false
set_option maxRecDepth 100000
set_option maxHeartbeats 4000000
set_option linter.unusedVariables false
set_option linter.unusedSimpArgs false
namespace Go.Vm.A
open Go.Proofs
attribute [local go_sem] Nat.add_zero Nat.zero_add List.contains_cons List.contains_nil List.elem_cons List.elem_nil List.length_cons List.length_nil List.map_cons List.map_nil List.all_cons List.all_nil List.any_cons List.any_nil List.getElem?_cons_zero List.getElem?_cons_succ List.getElem?_nil List.getD_cons_zero List.getD_cons_succ List.append_nil List.nil_append List.cons_append List.isEmpty_cons List.isEmpty_nil List.headD_cons List.headD_nil List.tail_cons List.tail_nil List.take_nil List.drop_nil Bool.and_true Bool.true_and Bool.or_false Bool.or_true Bool.false_or Bool.true_or Bool.not_true Bool.not_false Bool.and_false Bool.false_and Bool.false_eq_true Bool.true_eq_false Bool.and_self Bool.not_not decide_true decide_false decide_eq_true_eq beq_self_eq_true Nat.le_refl Nat.zero_le and_self true_and and_true false_and and_false or_true true_or if_true if_false Option.map_some Option.map_none Option.isSome_none Option.isSome_some eq_self_iff_true not_true_eq_false not_false_eq_true ne_eq Nat.not_lt_zero Nat.succ_ne_zero List.length_map List.set_cons_zero List.set_cons_succ gt_iff_lt ge_iff_le List.take_succ_cons List.take_zero List.drop_zero List.drop_succ_cons bne_self_eq_false

noncomputable def cx35 (n : Nat) : Cx := { T := T, fns := (fun _ => none), cuts := (fun | 1 => [none, none, none, none, none, none, some [0, 1, 2, 6, 10, 11, 12]] | _ => []), vars := some ([0, 1, 2, 6], []), live := fun _ => none, al := [], rounds := n, plan := fun _ => none, fz := [] }
@[go_sem] theorem cx35_z (n : Nat) : (cx35 n).fz = [] := nr rfl
@[go_sem] theorem cx35_T (n : Nat) : (cx35 n).T = T := nr rfl
@[go_sem] theorem cx35_f (n : Nat) : (cx35 n).fns = (fun _ => none) := nr rfl
@[go_sem] theorem cx35_c (n k : Nat) : (cx35 n).cuts k = ((fun | 1 => [none, none, none, none, none, none, some [0, 1, 2, 6, 10, 11, 12]] | _ => [])) k := nr rfl
@[go_sem] theorem cx35_v (n : Nat) : (cx35 n).vars = some ([0, 1, 2, 6], []) := nr rfl
@[go_sem] theorem cx35_l (n k : Nat) : (cx35 n).live k = (fun _ => none) k := nr rfl
@[go_sem] theorem cx35_a (n : Nat) : (cx35 n).al = [] := nr rfl
@[go_sem] theorem cx35_p (n k : Nat) : (cx35 n).plan k = (fun _ => none) k := nr rfl
@[go_sem] theorem cx35_r (n : Nat) : (cx35 n).rounds = n := nr rfl
noncomputable def F35 : List AV → Option (AV × List AV) := FSof (σ := (Int) × (Int) × (Int)) (fun (s : (Int) × (Int) × (Int)) => match s with | (a, b, c) => True) (fun (s : (Int) × (Int) × (Int)) => match s with | (a, b, c) => [.i .i64 a, .i .i64 b, .i .i64 c]) (fun (s : (Int) × (Int) × (Int)) => match s with | (a, b, c) => (.b (decide (b ≤ a) && decide (a ≤ c)), [.u, .u, .u]))
@[go_sem] theorem F35_eq (a : Int) (b : Int) (c : Int) : F35 [.i .i64 a, .i .i64 b, .i .i64 c] = some (.b (decide (b ≤ a) && decide (a ≤ c)), [.u, .u, .u]) :=
  FSof_eq (by
    rintro ⟨a, b, c⟩ ⟨a', b', c'⟩ h
    simp only [List.cons.injEq, AV.i.injEq, AV.b.injEq, AV.s.injEq, AV.sl.injEq, AV.agg.injEq, AV.pr.injEq, AV.fs.injEq, AV.fn.injEq, true_and, and_true] at h
    simp [h]) (a, b, c) trivial
theorem ev35 (n : Nat) (a : Int) (b : Int) (c : Int) : evalFn (cx35 n) [.ro 1, .ro 1, .ro 1] Try.f35 [.i .i64 a, .i .i64 b, .i .i64 c] = some (.b (decide (b ≤ a) && decide (a ≤ c)), [.u, .u, .u]) := by
  rw [evalFn_eq _ _ Try.f35 _ _ _ rfl rfl]
  simp only [go_sem, reduceIte, ↓reduceIte, Nat.reduceAdd, Nat.reduceSub, Nat.reduceMul, Nat.reduceBEq, Nat.reduceEqDiff, Nat.reduceLeDiff, Nat.reduceLT, Nat.reduceBneDiff, reduceCtorEq, Int.reduceLE, Int.reduceLT, Int.reduceEq, Int.reduceAdd, Int.reduceMul, Int.reduceSub, Int.reduceNeg, Int.reduceBEq, Int.reduceBNe, Int.reduceToNat]
  by_cases h : b ≤ a <;> simp [h]
theorem spec35 : VSpec Try.prog 35 ⟨[.ro 1, .ro 1, .ro 1], F35, false⟩ :=
  spec_ro' (cx := cx35 0) (f := Try.f35) _ _ _ wide (cxOk _ rfl) (fun g fs h => by cases h) Try.func35 (by decide) rfl (by kernel_rfl) (by decide) (by decide)
    (fun s h hl => ⟨0, ev35 0 s.1 s.2.1 s.2.2⟩)
    (fun _ _ => rfl) (fun _ => rfl)
noncomputable def cx33 (n : Nat) : Cx := { T := T, fns := (fun _ => none), cuts := (fun | 1 => [none, none, none, none, none, none, some [0, 1, 2, 6, 10, 11, 12]] | _ => []), vars := some ([0, 1, 2, 6], []), live := fun _ => none, al := [], rounds := n, plan := fun _ => none, fz := [] }
@[go_sem] theorem cx33_z (n : Nat) : (cx33 n).fz = [] := nr rfl
@[go_sem] theorem cx33_T (n : Nat) : (cx33 n).T = T := nr rfl
@[go_sem] theorem cx33_f (n : Nat) : (cx33 n).fns = (fun _ => none) := nr rfl
@[go_sem] theorem cx33_c (n k : Nat) : (cx33 n).cuts k = ((fun | 1 => [none, none, none, none, none, none, some [0, 1, 2, 6, 10, 11, 12]] | _ => [])) k := nr rfl
@[go_sem] theorem cx33_v (n : Nat) : (cx33 n).vars = some ([0, 1, 2, 6], []) := nr rfl
@[go_sem] theorem cx33_l (n k : Nat) : (cx33 n).live k = (fun _ => none) k := nr rfl
@[go_sem] theorem cx33_a (n : Nat) : (cx33 n).al = [] := nr rfl
@[go_sem] theorem cx33_p (n k : Nat) : (cx33 n).plan k = (fun _ => none) k := nr rfl
@[go_sem] theorem cx33_r (n : Nat) : (cx33 n).rounds = n := nr rfl
noncomputable def F33 : List AV → Option (AV × List AV) := FSof (σ := (Int) × (Int) × (Int)) (fun (s : (Int) × (Int) × (Int)) => match s with | (a, b, c) => True) (fun (s : (Int) × (Int) × (Int)) => match s with | (a, b, c) => [.i .i64 a, .i .i64 b, .i .i64 c]) (fun (s : (Int) × (Int) × (Int)) => match s with | (a, b, c) => (.b (decide (b ≤ a) && decide (a ≤ c)), [.u, .u, .u]))
@[go_sem] theorem F33_eq (a : Int) (b : Int) (c : Int) : F33 [.i .i64 a, .i .i64 b, .i .i64 c] = some (.b (decide (b ≤ a) && decide (a ≤ c)), [.u, .u, .u]) :=
  FSof_eq (by
    rintro ⟨a, b, c⟩ ⟨a', b', c'⟩ h
    simp only [List.cons.injEq, AV.i.injEq, AV.b.injEq, AV.s.injEq, AV.sl.injEq, AV.agg.injEq, AV.pr.injEq, AV.fs.injEq, AV.fn.injEq, true_and, and_true] at h
    simp [h]) (a, b, c) trivial
theorem ev33 (n : Nat) (a : Int) (b : Int) (c : Int) : evalFn (cx33 n) [.ro 1, .ro 1, .ro 1] Try.f33 [.i .i64 a, .i .i64 b, .i .i64 c] = some (.b (decide (b ≤ a) && decide (a ≤ c)), [.u, .u, .u]) := by
  rw [evalFn_eq _ _ Try.f33 _ _ _ rfl rfl]
  simp only [go_sem, reduceIte, ↓reduceIte, Nat.reduceAdd, Nat.reduceSub, Nat.reduceMul, Nat.reduceBEq, Nat.reduceEqDiff, Nat.reduceLeDiff, Nat.reduceLT, Nat.reduceBneDiff, reduceCtorEq, Int.reduceLE, Int.reduceLT, Int.reduceEq, Int.reduceAdd, Int.reduceMul, Int.reduceSub, Int.reduceNeg, Int.reduceBEq, Int.reduceBNe, Int.reduceToNat]
  by_cases h : b ≤ a <;> simp [h]
theorem spec33 : VSpec Try.prog 33 ⟨[.ro 1, .ro 1, .ro 1], F33, false⟩ :=
  spec_ro' (cx := cx33 0) (f := Try.f33) _ _ _ wide (cxOk _ rfl) (fun g fs h => by cases h) Try.func33 (by decide) rfl (by kernel_rfl) (by decide) (by decide)
    (fun s h hl => ⟨0, ev33 0 s.1 s.2.1 s.2.2⟩)
    (fun _ _ => rfl) (fun _ => rfl)
def isTime (a : Int) : Bool := decide (0 ≤ a) && decide (a ≤ 1000000000000000)
noncomputable def fns75 : Nat → Option FS
  | 35 => some ⟨[.ro 1, .ro 1, .ro 1], F35, false⟩
  | _ => none
@[go_sem] theorem fns75_35 : fns75 35 = some ⟨[.ro 1, .ro 1, .ro 1], F35, false⟩ := nr rfl
theorem fns75_ok : ∀ g fs, fns75 g = some fs → VSpec Try.prog g fs := by
  intro g fs h
  unfold fns75 at h
  split at h
  · injection h with h; subst h; exact spec35
  · cases h
noncomputable def cx75 (n : Nat) : Cx := { T := T, fns := fns75, cuts := (fun _ => []), vars := some ([0, 2], []), live := fun _ => none, al := [], rounds := n, plan := fun _ => none, fz := [] }
@[go_sem] theorem cx75_z (n : Nat) : (cx75 n).fz = [] := nr rfl
@[go_sem] theorem cx75_T (n : Nat) : (cx75 n).T = T := nr rfl
@[go_sem] theorem cx75_f (n : Nat) : (cx75 n).fns = fns75 := nr rfl
@[go_sem] theorem cx75_c (n k : Nat) : (cx75 n).cuts k = ((fun _ => [])) k := nr rfl
@[go_sem] theorem cx75_v (n : Nat) : (cx75 n).vars = some ([0, 2], []) := nr rfl
@[go_sem] theorem cx75_l (n k : Nat) : (cx75 n).live k = (fun _ => none) k := nr rfl
@[go_sem] theorem cx75_a (n : Nat) : (cx75 n).al = [] := nr rfl
@[go_sem] theorem cx75_p (n k : Nat) : (cx75 n).plan k = (fun _ => none) k := nr rfl
@[go_sem] theorem cx75_r (n : Nat) : (cx75 n).rounds = n := nr rfl
noncomputable def F75 : List AV → Option (AV × List AV) := FSof (σ := (Int)) (fun (a : (Int)) => True) (fun (a : (Int)) => [.i .i64 a]) (fun (a : (Int)) => (.b (isTime a), [.u]))
@[go_sem] theorem F75_eq (a : Int) : F75 [.i .i64 a] = some (.b (isTime a), [.u]) :=
  FSof_eq (by
    intro a a' h
    simp only [List.cons.injEq, AV.i.injEq, AV.b.injEq, AV.s.injEq, AV.sl.injEq, AV.agg.injEq, AV.pr.injEq, AV.fs.injEq, AV.fn.injEq, true_and, and_true] at h
    simp [h]) a trivial
theorem ev75 (n : Nat) (a : Int) : evalFn (cx75 n) [.ro 1] Try.f75 [.i .i64 a] = some (.b (isTime a), [.u]) := by
  rw [evalFn_eq _ _ Try.f75 _ _ _ rfl rfl]
  simp only [go_sem, reduceIte, ↓reduceIte, Nat.reduceAdd, Nat.reduceSub, Nat.reduceMul, Nat.reduceBEq, Nat.reduceEqDiff, Nat.reduceLeDiff, Nat.reduceLT, Nat.reduceBneDiff, reduceCtorEq, Int.reduceLE, Int.reduceLT, Int.reduceEq, Int.reduceAdd, Int.reduceMul, Int.reduceSub, Int.reduceNeg, Int.reduceBEq, Int.reduceBNe, Int.reduceToNat, isTime]
theorem spec75 : VSpec Try.prog 75 ⟨[.ro 1], F75, false⟩ :=
  spec_ro' (cx := cx75 0) (f := Try.f75) _ _ _ wide (cxOk _ rfl) fns75_ok Try.func75 (by decide) rfl (by kernel_rfl) (by decide) (by decide)
    (fun s h hl => ⟨0, ev75 0 s⟩)
    (fun _ _ => rfl) (fun _ => rfl)
noncomputable def fns43 : Nat → Option FS
  | 33 => some ⟨[.ro 1, .ro 1, .ro 1], F33, false⟩
  | _ => none
@[go_sem] theorem fns43_33 : fns43 33 = some ⟨[.ro 1, .ro 1, .ro 1], F33, false⟩ := nr rfl
theorem fns43_ok : ∀ g fs, fns43 g = some fs → VSpec Try.prog g fs := by
  intro g fs h
  unfold fns43 at h
  split at h
  · injection h with h; subst h; exact spec33
  · cases h
noncomputable def cx43 (n : Nat) : Cx := { T := T, fns := fns43, cuts := (fun _ => []), vars := some ([0, 2], []), live := fun _ => none, al := [], rounds := n, plan := fun _ => none, fz := [] }
@[go_sem] theorem cx43_z (n : Nat) : (cx43 n).fz = [] := nr rfl
@[go_sem] theorem cx43_T (n : Nat) : (cx43 n).T = T := nr rfl
@[go_sem] theorem cx43_f (n : Nat) : (cx43 n).fns = fns43 := nr rfl
@[go_sem] theorem cx43_c (n k : Nat) : (cx43 n).cuts k = ((fun _ => [])) k := nr rfl
@[go_sem] theorem cx43_v (n : Nat) : (cx43 n).vars = some ([0, 2], []) := nr rfl
@[go_sem] theorem cx43_l (n k : Nat) : (cx43 n).live k = (fun _ => none) k := nr rfl
@[go_sem] theorem cx43_a (n : Nat) : (cx43 n).al = [] := nr rfl
@[go_sem] theorem cx43_p (n k : Nat) : (cx43 n).plan k = (fun _ => none) k := nr rfl
@[go_sem] theorem cx43_r (n : Nat) : (cx43 n).rounds = n := nr rfl
noncomputable def F43 : List AV → Option (AV × List AV) := FSof (σ := (Int)) (fun (a : (Int)) => True) (fun (a : (Int)) => [.i .i64 a]) (fun (a : (Int)) => (.b (isTime a), [.u]))
@[go_sem] theorem F43_eq (a : Int) : F43 [.i .i64 a] = some (.b (isTime a), [.u]) :=
  FSof_eq (by
    intro a a' h
    simp only [List.cons.injEq, AV.i.injEq, AV.b.injEq, AV.s.injEq, AV.sl.injEq, AV.agg.injEq, AV.pr.injEq, AV.fs.injEq, AV.fn.injEq, true_and, and_true] at h
    simp [h]) a trivial
theorem ev43 (n : Nat) (a : Int) : evalFn (cx43 n) [.ro 1] Try.f43 [.i .i64 a] = some (.b (isTime a), [.u]) := by
  rw [evalFn_eq _ _ Try.f43 _ _ _ rfl rfl]
  simp only [go_sem, reduceIte, ↓reduceIte, Nat.reduceAdd, Nat.reduceSub, Nat.reduceMul, Nat.reduceBEq, Nat.reduceEqDiff, Nat.reduceLeDiff, Nat.reduceLT, Nat.reduceBneDiff, reduceCtorEq, Int.reduceLE, Int.reduceLT, Int.reduceEq, Int.reduceAdd, Int.reduceMul, Int.reduceSub, Int.reduceNeg, Int.reduceBEq, Int.reduceBNe, Int.reduceToNat, isTime]
theorem spec43 : VSpec Try.prog 43 ⟨[.ro 1], F43, false⟩ :=
  spec_ro' (cx := cx43 0) (f := Try.f43) _ _ _ wide (cxOk _ rfl) fns43_ok Try.func43 (by decide) rfl (by kernel_rfl) (by decide) (by decide)
    (fun s h hl => ⟨0, ev43 0 s⟩)
    (fun _ _ => rfl) (fun _ => rfl)
noncomputable def cx102 (n : Nat) : Cx := { T := T, fns := (fun _ => none), cuts := (fun _ => []), vars := some ([0, 1, 2, 3], []), live := fun _ => none, al := [], rounds := n, plan := fun _ => none, fz := [] }
@[go_sem] theorem cx102_z (n : Nat) : (cx102 n).fz = [] := nr rfl
@[go_sem] theorem cx102_T (n : Nat) : (cx102 n).T = T := nr rfl
@[go_sem] theorem cx102_f (n : Nat) : (cx102 n).fns = (fun _ => none) := nr rfl
@[go_sem] theorem cx102_c (n k : Nat) : (cx102 n).cuts k = ((fun _ => [])) k := nr rfl
@[go_sem] theorem cx102_v (n : Nat) : (cx102 n).vars = some ([0, 1, 2, 3], []) := nr rfl
@[go_sem] theorem cx102_l (n k : Nat) : (cx102 n).live k = (fun _ => none) k := nr rfl
@[go_sem] theorem cx102_a (n : Nat) : (cx102 n).al = [] := nr rfl
@[go_sem] theorem cx102_p (n k : Nat) : (cx102 n).plan k = (fun _ => none) k := nr rfl
@[go_sem] theorem cx102_r (n : Nat) : (cx102 n).rounds = n := nr rfl
noncomputable def F102 : List AV → Option (AV × List AV) := FSof (σ := (Bool) × (Int)) (fun (s : (Bool) × (Int)) => match s with | (x, c) => True) (fun (s : (Bool) × (Int)) => match s with | (x, c) => [.pr [.b x], .pr [.i .i64 c]]) (fun (s : (Bool) × (Int)) => match s with | (x, c) => (.i .i64 (if x = true then c else 0), [.u, .u]))
@[go_sem] theorem F102_eq (x : Bool) (c : Int) : F102 [.pr [.b x], .pr [.i .i64 c]] = some (.i .i64 (if x = true then c else 0), [.u, .u]) :=
  FSof_eq (by
    rintro ⟨x, c⟩ ⟨x', c'⟩ h
    simp only [List.cons.injEq, AV.i.injEq, AV.b.injEq, AV.s.injEq, AV.sl.injEq, AV.agg.injEq, AV.pr.injEq, AV.fs.injEq, AV.fn.injEq, true_and, and_true] at h
    simp [h]) (x, c) trivial
theorem ev102 (n : Nat) (x : Bool) (c : Int) : evalFn (cx102 n) [.ro 1, .ro 1] Try.f102 [.pr [.b x], .pr [.i .i64 c]] = some (.i .i64 (if x = true then c else 0), [.u, .u]) := by
  rw [evalFn_eq _ _ Try.f102 _ _ _ rfl rfl]
  simp only [go_sem, reduceIte, ↓reduceIte, Nat.reduceAdd, Nat.reduceSub, Nat.reduceMul, Nat.reduceBEq, Nat.reduceEqDiff, Nat.reduceLeDiff, Nat.reduceLT, Nat.reduceBneDiff, reduceCtorEq, Int.reduceLE, Int.reduceLT, Int.reduceEq, Int.reduceAdd, Int.reduceMul, Int.reduceSub, Int.reduceNeg, Int.reduceBEq, Int.reduceBNe, Int.reduceToNat, if_i]
theorem spec102 : VSpec Try.prog 102 ⟨[.ro 1, .ro 1], F102, false⟩ :=
  spec_ro' (cx := cx102 0) (f := Try.f102) _ _ _ wide (cxOk _ rfl) (fun g fs h => by cases h) Try.func102 (by decide) rfl (by kernel_rfl) (by decide) (by decide)
    (fun s h hl => ⟨0, ev102 0 s.1 s.2⟩)
    (fun _ _ => rfl) (fun _ => rfl)
noncomputable def cx74 (n : Nat) : Cx := { T := T, fns := (fun _ => none), cuts := (fun _ => []), vars := some ([0, 1, 2, 3, 4], [2, 3]), live := fun _ => none, al := [], rounds := n, plan := fun _ => none, fz := [2, 3] }
@[go_sem] theorem cx74_z (n : Nat) : (cx74 n).fz = [2, 3] := nr rfl
@[go_sem] theorem cx74_T (n : Nat) : (cx74 n).T = T := nr rfl
@[go_sem] theorem cx74_f (n : Nat) : (cx74 n).fns = (fun _ => none) := nr rfl
@[go_sem] theorem cx74_c (n k : Nat) : (cx74 n).cuts k = ((fun _ => [])) k := nr rfl
@[go_sem] theorem cx74_v (n : Nat) : (cx74 n).vars = some ([0, 1, 2, 3, 4], [2, 3]) := nr rfl
@[go_sem] theorem cx74_l (n k : Nat) : (cx74 n).live k = (fun _ => none) k := nr rfl
@[go_sem] theorem cx74_a (n : Nat) : (cx74 n).al = [] := nr rfl
@[go_sem] theorem cx74_p (n k : Nat) : (cx74 n).plan k = (fun _ => none) k := nr rfl
@[go_sem] theorem cx74_r (n : Nat) : (cx74 n).rounds = n := nr rfl
noncomputable def F74 : List AV → Option (AV × List AV) := FSof (σ := (Bool) × (Int)) (fun (s : (Bool) × (Int)) => match s with | (x, c) => True) (fun (s : (Bool) × (Int)) => match s with | (x, c) => [.b x, .i .i64 c]) (fun (s : (Bool) × (Int)) => match s with | (x, c) => (.fn 102 [.pr [.b x], .pr [.i .i64 c]], [.u, .u]))
@[go_sem] theorem F74_eq (x : Bool) (c : Int) : F74 [.b x, .i .i64 c] = some (.fn 102 [.pr [.b x], .pr [.i .i64 c]], [.u, .u]) :=
  FSof_eq (by
    rintro ⟨x, c⟩ ⟨x', c'⟩ h
    simp only [List.cons.injEq, AV.i.injEq, AV.b.injEq, AV.s.injEq, AV.sl.injEq, AV.agg.injEq, AV.pr.injEq, AV.fs.injEq, AV.fn.injEq, true_and, and_true] at h
    simp [h]) (x, c) trivial
theorem ev74 (n : Nat) (x : Bool) (c : Int) : evalFn (cx74 n) [.ro 1, .ro 1] Try.f74 [.b x, .i .i64 c] = some (.fn 102 [.pr [.b x], .pr [.i .i64 c]], [.u, .u]) := by
  rw [evalFn_eq _ _ Try.f74 _ _ _ rfl rfl]
  simp only [go_sem, reduceIte, ↓reduceIte, Nat.reduceAdd, Nat.reduceSub, Nat.reduceMul, Nat.reduceBEq, Nat.reduceEqDiff, Nat.reduceLeDiff, Nat.reduceLT, Nat.reduceBneDiff, reduceCtorEq, Int.reduceLE, Int.reduceLT, Int.reduceEq, Int.reduceAdd, Int.reduceMul, Int.reduceSub, Int.reduceNeg, Int.reduceBEq, Int.reduceBNe, Int.reduceToNat]
theorem spec74 : VSpec Try.prog 74 ⟨[.ro 1, .ro 1], F74, true⟩ :=
  spec_wk (cx := cx74 0) (f := Try.f74) _ _ _ wide (cxOk _ rfl) (fun g fs h => by cases h) Try.func74 (by decide) rfl (by kernel_rfl) (by decide) (by decide)
    (fun s h hl => ⟨0, ev74 0 s.1 s.2⟩)
/-! functions that tell a code if something is so -/
def cl (p : Bool × Int) : AV := .fn 102 [.pr [.b p.1], .pr [.i .i64 p.2]]
@[go_sem] theorem cl_def (p : Bool × Int) : cl p = .fn 102 [.pr [.b p.1], .pr [.i .i64 p.2]] := nr rfl
theorem cl_mi (xs ys : List (Bool × Int)) : xs.map cl = ys.map cl ↔ xs = ys := map_inj_of (fun {a b} h => by
  obtain ⟨a1, a2⟩ := a; obtain ⟨b1, b2⟩ := b
  simp only [cl, AV.fn.injEq, List.cons.injEq, AV.pr.injEq, AV.b.injEq, AV.i.injEq, true_and, and_true] at h
  simp [h]) xs ys
@[go_sem] theorem cl_filt (kp kr : Pl → Bool) : ∀ xs : List (Bool × Int), filtL kp kr (xs.map cl) = xs.map cl
  | [] => rfl
  | x :: xs => by simp only [List.map_cons, filtL, cl_filt kp kr xs, cl, filt]
def clv (p : Bool × Int) : Int := if p.1 = true then p.2 else 0
def firstC : List (Bool × Int) → Int
  | [] => 0
  | p :: r => if (clv p != 0) = true then clv p else firstC r
theorem firstC_runS : ∀ xs : List (Bool × Int), (∃ a : Unit, runS (fun (x : Bool × Int) (s : Unit) => let _u := s; clv x != 0) (fun (x : Bool × Int) (s : Unit) => ()) xs () = .inl a ∧ firstC xs = 0) ∨ ∃ x t, runS (fun (x : Bool × Int) (s : Unit) => clv x != 0) (fun (x : Bool × Int) (s : Unit) => ()) xs () = .inr (x, t) ∧ firstC xs = clv x
  | [] => .inl ⟨(), rfl, rfl⟩
  | p :: r => by
    simp only [runS, firstC]
    by_cases h : (clv p != 0) = true
    · exact .inr ⟨p, (), by rw [if_pos h], by rw [if_pos h]⟩
    · rw [if_neg h, if_neg h]; exact firstC_runS r
noncomputable def fns73 : Nat → Option FS
  | 102 => some ⟨[.ro 1, .ro 1], F102, false⟩
  | _ => none
@[go_sem] theorem fns73_102 : fns73 102 = some ⟨[.ro 1, .ro 1], F102, false⟩ := nr rfl
theorem fns73_ok : ∀ g fs, fns73 g = some fs → VSpec Try.prog g fs := by
  intro g fs h
  unfold fns73 at h
  split at h
  · injection h with h; subst h; exact spec102
  · cases h
noncomputable def cx73 (n : Nat) : Cx := { T := T, fns := fns73, cuts := (fun _ => []), vars := some ([0, 2, 4, 5, 6, 7, 8, 9, 15], []), live := fun _ => some ([2, 6, 7, 8], []), al := [], rounds := n, plan := fun _ => none, fz := [] }
@[go_sem] theorem cx73_z (n : Nat) : (cx73 n).fz = [] := nr rfl
@[go_sem] theorem cx73_T (n : Nat) : (cx73 n).T = T := nr rfl
@[go_sem] theorem cx73_f (n : Nat) : (cx73 n).fns = fns73 := nr rfl
@[go_sem] theorem cx73_c (n k : Nat) : (cx73 n).cuts k = ((fun _ => [])) k := nr rfl
@[go_sem] theorem cx73_v (n : Nat) : (cx73 n).vars = some ([0, 2, 4, 5, 6, 7, 8, 9, 15], []) := nr rfl
@[go_sem] theorem cx73_l (n k : Nat) : (cx73 n).live k = (fun _ => some ([2, 6, 7, 8], [])) k := nr rfl
@[go_sem] theorem cx73_a (n : Nat) : (cx73 n).al = [] := nr rfl
@[go_sem] theorem cx73_p (n k : Nat) : (cx73 n).plan k = (fun _ => none) k := nr rfl
@[go_sem] theorem cx73_r (n : Nat) : (cx73 n).rounds = n := nr rfl
noncomputable def F73 : List AV → Option (AV × List AV) := FSof (σ := (List (Bool × Int))) (fun (xs : (List (Bool × Int))) => xs.length ≤ 1000) (fun (xs : (List (Bool × Int))) => [.fs (xs.map cl)]) (fun (xs : (List (Bool × Int))) => (.i .i64 (firstC xs), [.u]))
@[go_sem] theorem F73_eq (xs : List (Bool × Int)) (h : xs.length ≤ 1000) : F73 [.fs (xs.map cl)] = some (.i .i64 (firstC xs), [.u]) :=
  FSof_eq (by
    intro xs xs' h
    simp only [List.cons.injEq, AV.i.injEq, AV.b.injEq, AV.s.injEq, AV.sl.injEq, AV.agg.injEq, AV.pr.injEq, AV.fs.injEq, AV.fn.injEq, true_and, and_true, cl_mi] at h
    simp [h]) xs h
theorem rd73 (N : Nat) (xs : List (Bool × Int)) (k : Nat) (hk : k < xs.length) (hb : xs.length ≤ 9223372036854775807)   : ∃ (jv0 : AV) (jv4 : AV) (jv5 : AV) (jv9 : AV) (jv15 : AV), ∃ (iv0 : AV) (iv4 : AV) (iv5 : AV) (iv9 : AV) (iv15 : AV), ∀ G, seqE (evCode (cx73 N) 0 (loopN Try.f73 0) ⟨E [(2, .i .i64 0), (6, .fs (xs.map cl)), (7, .i .i64 xs.length), (8, .i .i64 k)], B []⟩) G = if (clv xs[k] != 0) = true then some (.ret, ⟨E [(0, jv0), (2, .i .i64 (clv xs[k])), (4, jv4), (5, jv5), (6, .fs (xs.map cl)), (7, .i .i64 xs.length), (8, .i .i64 k), (9, jv9), (15, jv15)], B []⟩) else G ⟨E [(0, iv0), (2, .i .i64 0), (4, iv4), (5, iv5), (6, .fs (xs.map cl)), (7, .i .i64 xs.length), (8, .i .i64 (k + 1 : Nat)), (9, iv9), (15, iv15)], B []⟩ := by
  have h1 : ((k : Int) < (xs.length : Int)) := Int.ofNat_lt.2 hk
  have h3 : (clv xs[k] != 0) = ((if xs[k].1 = true then xs[k].2 else 0) != 0) := rfl
  rw [loopN_eq Try.f73 0 _ _ rfl rfl]
  simp only [go_sem, reduceIte, ↓reduceIte, Nat.reduceAdd, Nat.reduceSub, Nat.reduceMul, Nat.reduceBEq, Nat.reduceEqDiff, Nat.reduceLeDiff, Nat.reduceLT, Nat.reduceBneDiff, reduceCtorEq, Int.reduceLE, Int.reduceLT, Int.reduceEq, Int.reduceAdd, Int.reduceMul, Int.reduceSub, Int.reduceNeg, Int.reduceBEq, Int.reduceBNe, Int.reduceToNat, h1, idx_nt _ _ hk, wrap_nat1 (show k < 9223372036854775807 by omega), map_gdA cl xs k hk, h3]
  exact ⟨_, _, _, _, _, _, _, _, _, _, fun G => rfl⟩
theorem en73 (N : Nat) (xs : List (Bool × Int))   : ∃ (jv0 : AV) (jv4 : AV) (jv5 : AV) (jv9 : AV) (jv15 : AV), ∀ G, seqE (evCode (cx73 N) 0 (loopN Try.f73 0) ⟨E [(2, .i .i64 0), (6, .fs (xs.map cl)), (7, .i .i64 xs.length), (8, .i .i64 xs.length)], B []⟩) G = some (.ex 0, ⟨E [(0, jv0), (2, .i .i64 0), (4, jv4), (5, jv5), (6, .fs (xs.map cl)), (7, .i .i64 xs.length), (8, .i .i64 xs.length), (9, jv9), (15, jv15)], B []⟩) := by
  rw [loopN_eq Try.f73 0 _ _ rfl rfl]
  simp only [go_sem, reduceIte, ↓reduceIte, Nat.reduceAdd, Nat.reduceSub, Nat.reduceMul, Nat.reduceBEq, Nat.reduceEqDiff, Nat.reduceLeDiff, Nat.reduceLT, Nat.reduceBneDiff, reduceCtorEq, Int.reduceLE, Int.reduceLT, Int.reduceEq, Int.reduceAdd, Int.reduceMul, Int.reduceSub, Int.reduceNeg, Int.reduceBEq, Int.reduceBNe, Int.reduceToNat, Int.lt_irrefl]
  exact ⟨_, _, _, _, _, fun G => rfl⟩
theorem lp73 (N : Nat) (xs : List (Bool × Int)) (hb : xs.length ≤ 9223372036854775807)   (hN : xs.length + 1 ≤ N) : ∃ r, (∀ st, keep ((cx73 N).live 0) st = ⟨E [(2, .i .i64 0), (6, .fs (xs.map cl)), (7, .i .i64 xs.length), (8, .i .i64 (0 : Nat))], B []⟩ → loopE (cx73 N) 0 (loopN Try.f73 0) N st = r) ∧ ((∃ (a : Unit) (jv0 : AV) (jv4 : AV) (jv5 : AV) (jv9 : AV) (jv15 : AV), runS (fun (x : Bool × Int) (s : Unit) => (clv x != 0)) (fun (x : Bool × Int) (s : Unit) => ()) xs () = .inl a ∧ r = some (.ex 0, ⟨E [(0, jv0), (2, .i .i64 0), (4, jv4), (5, jv5), (6, .fs (xs.map cl)), (7, .i .i64 xs.length), (8, .i .i64 xs.length), (9, jv9), (15, jv15)], B []⟩)) ∨ (∃ (x : Bool × Int) (t : Unit) (q : Nat) (jv0 : AV) (jv4 : AV) (jv5 : AV) (jv9 : AV) (jv15 : AV), runS (fun (x : Bool × Int) (s : Unit) => (clv x != 0)) (fun (x : Bool × Int) (s : Unit) => ()) xs () = .inr (x, t) ∧ r = some (.ret, ⟨E [(0, jv0), (2, .i .i64 (clv x)), (4, jv4), (5, jv5), (6, .fs (xs.map cl)), (7, .i .i64 xs.length), (8, .i .i64 q), (9, jv9), (15, jv15)], B []⟩))) := by
  obtain ⟨r, h1, h2⟩ := loop_ix (cx := (cx73 N)) (blk := 0) (body := (loopN Try.f73 0)) xs.length (fun k (s : Unit) => ⟨E [(2, .i .i64 0), (6, .fs (xs.map cl)), (7, .i .i64 xs.length), (8, .i .i64 k)], B []⟩)
    (fun k s r => (∃ (a : Unit) (jv0 : AV) (jv4 : AV) (jv5 : AV) (jv9 : AV) (jv15 : AV), runS (fun (x : Bool × Int) (s : Unit) => (clv x != 0)) (fun (x : Bool × Int) (s : Unit) => ()) (xs.drop k) s = .inl a ∧ r = some (.ex 0, ⟨E [(0, jv0), (2, .i .i64 0), (4, jv4), (5, jv5), (6, .fs (xs.map cl)), (7, .i .i64 xs.length), (8, .i .i64 xs.length), (9, jv9), (15, jv15)], B []⟩)) ∨ (∃ (x : Bool × Int) (t : Unit) (q : Nat) (jv0 : AV) (jv4 : AV) (jv5 : AV) (jv9 : AV) (jv15 : AV), runS (fun (x : Bool × Int) (s : Unit) => (clv x != 0)) (fun (x : Bool × Int) (s : Unit) => ()) (xs.drop k) s = .inr (x, t) ∧ r = some (.ret, ⟨E [(0, jv0), (2, .i .i64 (clv x)), (4, jv4), (5, jv5), (6, .fs (xs.map cl)), (7, .i .i64 xs.length), (8, .i .i64 q), (9, jv9), (15, jv15)], B []⟩)))
    (fun s G => by
      obtain ⟨jv0, jv4, jv5, jv9, jv15, he⟩ := en73 N xs  
      exact .inl ⟨s, jv0, jv4, jv5, jv9, jv15, by rw [List.drop_length]; rfl, he G⟩)
    (fun k hk s => by
      obtain ⟨jv0, jv4, jv5, jv9, jv15, iv0, iv4, iv5, iv9, iv15, he⟩ := rd73 N xs k hk hb  
      by_cases hc : (fun (x : Bool × Int) (s : Unit) => (clv x != 0)) xs[k] s = true
      · exact .inl fun G => .inr ⟨xs[k], s, k, jv0, jv4, jv5, jv9, jv15, by rw [List.drop_eq_getElem_cons hk]; exact if_pos hc, (he G).trans (if_pos hc)⟩
      · refine .inr ⟨_, (fun (x : Bool × Int) (s : Unit) => ()) xs[k] s, ?_, fun r hr => ?_, fun G => (he G).trans (if_neg hc)⟩
        · simp only [go_sem, reduceIte, ↓reduceIte, Nat.reduceAdd, Nat.reduceSub, Nat.reduceMul, Nat.reduceBEq, Nat.reduceEqDiff, Nat.reduceLeDiff, Nat.reduceLT, Nat.reduceBneDiff, reduceCtorEq, Int.reduceLE, Int.reduceLT, Int.reduceEq, Int.reduceAdd, Int.reduceMul, Int.reduceSub, Int.reduceNeg, Int.reduceBEq, Int.reduceBNe, Int.reduceToNat]
        · rw [List.drop_eq_getElem_cons hk, show runS (fun (x : Bool × Int) (s : Unit) => (clv x != 0)) (fun (x : Bool × Int) (s : Unit) => ()) (xs[k] :: xs.drop (k + 1)) s = runS (fun (x : Bool × Int) (s : Unit) => (clv x != 0)) (fun (x : Bool × Int) (s : Unit) => ()) (xs.drop (k + 1)) ((fun (x : Bool × Int) (s : Unit) => ()) xs[k] s) from if_neg hc]; exact hr) N hN ()
  exact ⟨r, h1, h2⟩
theorem ev73 (n : Nat) (xs : List (Bool × Int)) (h : xs.length ≤ 1000) (hb : lenOkL [.fs (xs.map cl)]) (hN : xs.length + 1 ≤ n) : evalFn (cx73 n) [.ro 1] Try.f73 [.fs (xs.map cl)] = some (.i .i64 (firstC xs), [.u]) := by
  rw [evalFn_eq _ _ Try.f73 _ _ _ rfl rfl]
  simp only [go_sem, reduceIte, ↓reduceIte, Nat.reduceAdd, Nat.reduceSub, Nat.reduceMul, Nat.reduceBEq, Nat.reduceEqDiff, Nat.reduceLeDiff, Nat.reduceLT, Nat.reduceBneDiff, reduceCtorEq, Int.reduceLE, Int.reduceLT, Int.reduceEq, Int.reduceAdd, Int.reduceMul, Int.reduceSub, Int.reduceNeg, Int.reduceBEq, Int.reduceBNe, Int.reduceToNat]
  have hb1 : xs.length ≤ 9223372036854775807 := by omega
  obtain ⟨r, h1, h2⟩ := lp73 n xs hb1 hN
  rw [loopN_eq Try.f73 0 _ _ rfl rfl] at h1
  rw [h1]
  · rcases h2 with ⟨a, jv0, jv4, jv5, jv9, jv15, e1, rfl⟩ | ⟨x, t, q, jv0, jv4, jv5, jv9, jv15, e1, rfl⟩
    · have e2 : firstC xs = 0 := (firstC_runS xs).elim (fun ⟨a, h, h'⟩ => h') (fun ⟨x, t, h, h'⟩ => by rw [e1] at h; cases h)
      simp only [go_sem, reduceIte, ↓reduceIte, Nat.reduceAdd, Nat.reduceSub, Nat.reduceMul, Nat.reduceBEq, Nat.reduceEqDiff, Nat.reduceLeDiff, Nat.reduceLT, Nat.reduceBneDiff, reduceCtorEq, Int.reduceLE, Int.reduceLT, Int.reduceEq, Int.reduceAdd, Int.reduceMul, Int.reduceSub, Int.reduceNeg, Int.reduceBEq, Int.reduceBNe, Int.reduceToNat, e2]
    · have e2 : firstC xs = clv x := (firstC_runS xs).elim (fun ⟨a, h, h'⟩ => by rw [e1] at h; cases h) (fun ⟨y, t, h, h'⟩ => by rw [e1] at h; cases h; exact h')
      simp only [go_sem, reduceIte, ↓reduceIte, Nat.reduceAdd, Nat.reduceSub, Nat.reduceMul, Nat.reduceBEq, Nat.reduceEqDiff, Nat.reduceLeDiff, Nat.reduceLT, Nat.reduceBneDiff, reduceCtorEq, Int.reduceLE, Int.reduceLT, Int.reduceEq, Int.reduceAdd, Int.reduceMul, Int.reduceSub, Int.reduceNeg, Int.reduceBEq, Int.reduceBNe, Int.reduceToNat, e2]
  · simp only [go_sem, reduceIte, ↓reduceIte, Nat.reduceAdd, Nat.reduceSub, Nat.reduceMul, Nat.reduceBEq, Nat.reduceEqDiff, Nat.reduceLeDiff, Nat.reduceLT, Nat.reduceBneDiff, reduceCtorEq, Int.reduceLE, Int.reduceLT, Int.reduceEq, Int.reduceAdd, Int.reduceMul, Int.reduceSub, Int.reduceNeg, Int.reduceBEq, Int.reduceBNe, Int.reduceToNat]
    rfl
theorem spec73 : VSpec Try.prog 73 ⟨[.ro 1], F73, false⟩ :=
  spec_ro' (cx := cx73 0) (f := Try.f73) _ _ _ wide (cxOk _ rfl) fns73_ok Try.func73 (by decide) rfl (by kernel_rfl) (by decide) (by decide)
    (fun s h hl => ⟨s.length + 1, ev73 _ s h hl (Nat.le_refl _)⟩)
    (fun _ _ => rfl) (fun _ => rfl)
@[go_sem] theorem F73_2 (a b : Bool) (x y : Int) : F73 [.fs [.fn 102 [.pr [.b a], .pr [.i .i64 x]], .fn 102 [.pr [.b b], .pr [.i .i64 y]]]] = some (.i .i64 (firstC [(a, x), (b, y)]), [.u]) := F73_eq [(a, x), (b, y)] (by simp)
def outsCode (n : Nat) (id : Int) : Int := firstC [(decide (2000 < (n : Int)), 2), (!isTime id, 3)]
noncomputable def fns41 : Nat → Option FS
  | 73 => some ⟨[.ro 1], F73, false⟩
  | 74 => some ⟨[.ro 1, .ro 1], F74, true⟩
  | 75 => some ⟨[.ro 1], F75, false⟩
  | _ => none
@[go_sem] theorem fns41_73 : fns41 73 = some ⟨[.ro 1], F73, false⟩ := nr rfl
@[go_sem] theorem fns41_74 : fns41 74 = some ⟨[.ro 1, .ro 1], F74, true⟩ := nr rfl
@[go_sem] theorem fns41_75 : fns41 75 = some ⟨[.ro 1], F75, false⟩ := nr rfl
theorem fns41_ok : ∀ g fs, fns41 g = some fs → VSpec Try.prog g fs := by
  intro g fs h
  unfold fns41 at h
  split at h
  · injection h with h; subst h; exact spec73
  · injection h with h; subst h; exact spec74
  · injection h with h; subst h; exact spec75
  · cases h
noncomputable def cx41 (n : Nat) : Cx := { T := T, fns := fns41, cuts := (fun | 1 => [none, none, none, none, none, none, some [0, 1, 4, 8, 10]] | _ => []), vars := some ([0, 1, 4], []), live := fun _ => none, al := [], rounds := n, plan := fun _ => none, fz := [] }
@[go_sem] theorem cx41_z (n : Nat) : (cx41 n).fz = [] := nr rfl
@[go_sem] theorem cx41_T (n : Nat) : (cx41 n).T = T := nr rfl
@[go_sem] theorem cx41_f (n : Nat) : (cx41 n).fns = fns41 := nr rfl
@[go_sem] theorem cx41_c (n k : Nat) : (cx41 n).cuts k = ((fun | 1 => [none, none, none, none, none, none, some [0, 1, 4, 8, 10]] | _ => [])) k := nr rfl
@[go_sem] theorem cx41_v (n : Nat) : (cx41 n).vars = some ([0, 1, 4], []) := nr rfl
@[go_sem] theorem cx41_l (n k : Nat) : (cx41 n).live k = (fun _ => none) k := nr rfl
@[go_sem] theorem cx41_a (n : Nat) : (cx41 n).al = [] := nr rfl
@[go_sem] theorem cx41_p (n k : Nat) : (cx41 n).plan k = (fun _ => none) k := nr rfl
@[go_sem] theorem cx41_r (n : Nat) : (cx41 n).rounds = n := nr rfl
noncomputable def F41 : List AV → Option (AV × List AV) := FSof (σ := (List Out) × (Int)) (fun (s : (List Out) × (Int)) => match s with | (outs, id) => True) (fun (s : (List Out) × (Int)) => match s with | (outs, id) => [.sl .ro 10 (outs.map (rOut .ro)), .i .i64 id]) (fun (s : (List Out) × (Int)) => match s with | (outs, id) => (.i .i64 (outsCode outs.length id), [.u, .u]))
@[go_sem] theorem F41_eq (outs : List Out) (id : Int) : F41 [.sl .ro 10 (outs.map (rOut .ro)), .i .i64 id] = some (.i .i64 (outsCode outs.length id), [.u, .u]) :=
  FSof_eq (by
    rintro ⟨outs, id⟩ ⟨outs', id'⟩ h
    simp only [List.cons.injEq, AV.i.injEq, AV.b.injEq, AV.s.injEq, AV.sl.injEq, AV.agg.injEq, AV.pr.injEq, AV.fs.injEq, AV.fn.injEq, true_and, and_true, rOut_mi] at h
    simp [h]) (outs, id) trivial
theorem ev41 (n : Nat) (outs : List Out) (id : Int) : evalFn (cx41 n) [.ro 1, .ro 1] Try.f41 [.sl .ro 10 (outs.map (rOut .ro)), .i .i64 id] = some (.i .i64 (outsCode outs.length id), [.u, .u]) := by
  rw [evalFn_eq _ _ Try.f41 _ _ _ rfl rfl]
  simp only [go_sem, reduceIte, ↓reduceIte, Nat.reduceAdd, Nat.reduceSub, Nat.reduceMul, Nat.reduceBEq, Nat.reduceEqDiff, Nat.reduceLeDiff, Nat.reduceLT, Nat.reduceBneDiff, reduceCtorEq, Int.reduceLE, Int.reduceLT, Int.reduceEq, Int.reduceAdd, Int.reduceMul, Int.reduceSub, Int.reduceNeg, Int.reduceBEq, Int.reduceBNe, Int.reduceToNat, outsCode]
theorem spec41 : VSpec Try.prog 41 ⟨[.ro 1, .ro 1], F41, false⟩ :=
  spec_ro' (cx := cx41 0) (f := Try.f41) _ _ _ wide (cxOk _ rfl) fns41_ok Try.func41 (by decide) rfl (by kernel_rfl) (by decide) (by decide)
    (fun s h hl => ⟨0, ev41 0 s.1 s.2⟩)
    (fun _ _ => rfl) (fun _ => rfl)
def fetches (xs : List Out) : Int := xs.foldl (fun (s : Int) (x : Out) => let many := s; if (x.Kind == 2) = true then (IntKind.i64).wrap (many + 1) else many) 0
def fetchesIn (xs : List Out) : IntResult := if 2000 < (xs.length : Int) then ⟨2, 0⟩ else ⟨0, fetches xs⟩
noncomputable def cx14 (n : Nat) : Cx := { T := T, fns := (fun _ => none), cuts := (fun _ => []), vars := some ([0, 2, 3, 4, 7, 12, 20], [2]), live := fun _ => some ([0, 2, 3, 4], [2]), al := [], rounds := n, plan := fun _ => none, fz := [] }
@[go_sem] theorem cx14_z (n : Nat) : (cx14 n).fz = [] := nr rfl
@[go_sem] theorem cx14_T (n : Nat) : (cx14 n).T = T := nr rfl
@[go_sem] theorem cx14_f (n : Nat) : (cx14 n).fns = (fun _ => none) := nr rfl
@[go_sem] theorem cx14_c (n k : Nat) : (cx14 n).cuts k = ((fun _ => [])) k := nr rfl
@[go_sem] theorem cx14_v (n : Nat) : (cx14 n).vars = some ([0, 2, 3, 4, 7, 12, 20], [2]) := nr rfl
@[go_sem] theorem cx14_l (n k : Nat) : (cx14 n).live k = (fun _ => some ([0, 2, 3, 4], [2])) k := nr rfl
@[go_sem] theorem cx14_a (n : Nat) : (cx14 n).al = [] := nr rfl
@[go_sem] theorem cx14_p (n k : Nat) : (cx14 n).plan k = (fun _ => none) k := nr rfl
@[go_sem] theorem cx14_r (n : Nat) : (cx14 n).rounds = n := nr rfl
noncomputable def F14 : List AV → Option (AV × List AV) := FSof (σ := (List Out)) (fun (outs : (List Out)) => True) (fun (outs : (List Out)) => [.sl .ro 10 (outs.map (rOut .ro))]) (fun (outs : (List Out)) => (.agg (rIntResult .mut (fetchesIn outs)), [.u]))
@[go_sem] theorem F14_eq (outs : List Out) : F14 [.sl .ro 10 (outs.map (rOut .ro))] = some (.agg (rIntResult .mut (fetchesIn outs)), [.u]) :=
  FSof_eq (by
    intro outs outs' h
    simp only [List.cons.injEq, AV.i.injEq, AV.b.injEq, AV.s.injEq, AV.sl.injEq, AV.agg.injEq, AV.pr.injEq, AV.fs.injEq, AV.fn.injEq, true_and, and_true, rOut_mi] at h
    simp [h]) outs trivial
theorem rd14 (N : Nat) (xs : List Out) (k : Nat) (hk : k < xs.length) (hb : xs.length ≤ 9223372036854775807) (many : Int)  : ∃ (jv7 : AV) (jv12 : AV) (jv20 : AV), ∀ G, seqE (evCode (cx14 N) 0 (loopN Try.f14 0) ⟨E [(0, .sl .ro 10 (xs.map (rOut .ro))), (2, .p ⟨false, 2, [], 0⟩), (3, .i .i64 many), (4, .i .i64 k)], B [(2, [.i .i64 0, .i .i64 0])]⟩) G = G ⟨E [(0, .sl .ro 10 (xs.map (rOut .ro))), (2, .p ⟨false, 2, [], 0⟩), (3, .i .i64 ((fun (s : (Int)) (x : Out) => let many := s; if (x.Kind == 2) = true then (IntKind.i64).wrap (many + 1) else many) many xs[k])), (4, .i .i64 (k + 1 : Nat)), (7, jv7), (12, jv12), (20, jv20)], B [(2, [.i .i64 0, .i .i64 0])]⟩ := by
  have h1 : ((k : Int) < (xs.length : Int)) := Int.ofNat_lt.2 hk
  rw [loopN_eq Try.f14 0 _ _ rfl rfl]
  simp only [go_sem, reduceIte, ↓reduceIte, Nat.reduceAdd, Nat.reduceSub, Nat.reduceMul, Nat.reduceBEq, Nat.reduceEqDiff, Nat.reduceLeDiff, Nat.reduceLT, Nat.reduceBneDiff, reduceCtorEq, Int.reduceLE, Int.reduceLT, Int.reduceEq, Int.reduceAdd, Int.reduceMul, Int.reduceSub, Int.reduceNeg, Int.reduceBEq, Int.reduceBNe, Int.reduceToNat, h1, idx_nt _ _ hk, wrap_nat1 (show k < 9223372036854775807 by omega), map_gd (rOut .ro) xs k hk]
  exact ⟨_, _, _, fun G => rfl⟩
theorem en14 (N : Nat) (xs : List Out) (many : Int)  : ∃ (jv7 : AV) (jv12 : AV) (jv20 : AV), ∀ G, seqE (evCode (cx14 N) 0 (loopN Try.f14 0) ⟨E [(0, .sl .ro 10 (xs.map (rOut .ro))), (2, .p ⟨false, 2, [], 0⟩), (3, .i .i64 many), (4, .i .i64 xs.length)], B [(2, [.i .i64 0, .i .i64 0])]⟩) G = some (.ex 0, ⟨E [(0, .sl .ro 10 (xs.map (rOut .ro))), (2, .p ⟨false, 2, [], 0⟩), (3, .i .i64 many), (4, .i .i64 xs.length), (7, jv7), (12, jv12), (20, jv20)], B [(2, [.i .i64 0, .i .i64 0])]⟩) := by
  rw [loopN_eq Try.f14 0 _ _ rfl rfl]
  simp only [go_sem, reduceIte, ↓reduceIte, Nat.reduceAdd, Nat.reduceSub, Nat.reduceMul, Nat.reduceBEq, Nat.reduceEqDiff, Nat.reduceLeDiff, Nat.reduceLT, Nat.reduceBneDiff, reduceCtorEq, Int.reduceLE, Int.reduceLT, Int.reduceEq, Int.reduceAdd, Int.reduceMul, Int.reduceSub, Int.reduceNeg, Int.reduceBEq, Int.reduceBNe, Int.reduceToNat, Int.lt_irrefl]
  exact ⟨_, _, _, fun G => rfl⟩
theorem lp14 (N : Nat) (xs : List Out) (hb : xs.length ≤ 9223372036854775807) (many : Int)  (hN : xs.length + 1 ≤ N) : ∃ r, (∀ st, keep ((cx14 N).live 0) st = ⟨E [(0, .sl .ro 10 (xs.map (rOut .ro))), (2, .p ⟨false, 2, [], 0⟩), (3, .i .i64 many), (4, .i .i64 (0 : Nat))], B [(2, [.i .i64 0, .i .i64 0])]⟩ → loopE (cx14 N) 0 (loopN Try.f14 0) N st = r) ∧ ∃ (jv7 : AV) (jv12 : AV) (jv20 : AV), r = some (.ex 0, ⟨E [(0, .sl .ro 10 (xs.map (rOut .ro))), (2, .p ⟨false, 2, [], 0⟩), (3, .i .i64 (xs.foldl (fun (s : (Int)) (x : Out) => let many := s; if (x.Kind == 2) = true then (IntKind.i64).wrap (many + 1) else many) many)), (4, .i .i64 xs.length), (7, jv7), (12, jv12), (20, jv20)], B [(2, [.i .i64 0, .i .i64 0])]⟩) := by
  obtain ⟨r, h1, h2⟩ := loop_ix (cx := (cx14 N)) (blk := 0) (body := (loopN Try.f14 0)) xs.length (fun k (s : (Int)) => ⟨E [(0, .sl .ro 10 (xs.map (rOut .ro))), (2, .p ⟨false, 2, [], 0⟩), (3, .i .i64 s), (4, .i .i64 k)], B [(2, [.i .i64 0, .i .i64 0])]⟩)
    (fun k s r => ∃ (jv7 : AV) (jv12 : AV) (jv20 : AV), r = some (.ex 0, ⟨E [(0, .sl .ro 10 (xs.map (rOut .ro))), (2, .p ⟨false, 2, [], 0⟩), (3, .i .i64 ((xs.drop k).foldl (fun (s : (Int)) (x : Out) => let many := s; if (x.Kind == 2) = true then (IntKind.i64).wrap (many + 1) else many) s)), (4, .i .i64 xs.length), (7, jv7), (12, jv12), (20, jv20)], B [(2, [.i .i64 0, .i .i64 0])]⟩))
    (fun s G => by
      obtain ⟨jv7, jv12, jv20, he⟩ := en14 N xs s 
      simp only [List.drop_length, List.foldl_nil]
      exact ⟨jv7, jv12, jv20, he G⟩)
    (fun k hk s => by
      obtain ⟨jv7, jv12, jv20, he⟩ := rd14 N xs k hk hb s 
      refine .inr ⟨_, (fun (s : (Int)) (x : Out) => let many := s; if (x.Kind == 2) = true then (IntKind.i64).wrap (many + 1) else many) s xs[k], ?_, fun r hr => ?_, fun G => he G⟩
      · simp only [go_sem, reduceIte, ↓reduceIte, Nat.reduceAdd, Nat.reduceSub, Nat.reduceMul, Nat.reduceBEq, Nat.reduceEqDiff, Nat.reduceLeDiff, Nat.reduceLT, Nat.reduceBneDiff, reduceCtorEq, Int.reduceLE, Int.reduceLT, Int.reduceEq, Int.reduceAdd, Int.reduceMul, Int.reduceSub, Int.reduceNeg, Int.reduceBEq, Int.reduceBNe, Int.reduceToNat]
      · rw [List.drop_eq_getElem_cons hk, List.foldl_cons]; exact hr) N hN many
  exact ⟨r, h1, h2⟩
theorem ev14 (n : Nat) (outs : List Out) (hb : lenOkL [.sl .ro 10 (outs.map (rOut .ro))]) (hN : outs.length + 1 ≤ n) : evalFn (cx14 n) [.ro 1] Try.f14 [.sl .ro 10 (outs.map (rOut .ro))] = some (.agg (rIntResult .mut (fetchesIn outs)), [.u]) := by
  rw [evalFn_eq _ _ Try.f14 _ _ _ rfl rfl]
  have hb1 : outs.length ≤ 9223372036854775807 := by simpa using hb.1.1
  unfold fetchesIn
  by_cases hc : 2000 < (outs.length : Int)
  · rw [if_pos hc]
    simp only [go_sem, reduceIte, ↓reduceIte, Nat.reduceAdd, Nat.reduceSub, Nat.reduceMul, Nat.reduceBEq, Nat.reduceEqDiff, Nat.reduceLeDiff, Nat.reduceLT, Nat.reduceBneDiff, reduceCtorEq, Int.reduceLE, Int.reduceLT, Int.reduceEq, Int.reduceAdd, Int.reduceMul, Int.reduceSub, Int.reduceNeg, Int.reduceBEq, Int.reduceBNe, Int.reduceToNat, hc]
  · rw [if_neg hc]
    simp only [go_sem, reduceIte, ↓reduceIte, Nat.reduceAdd, Nat.reduceSub, Nat.reduceMul, Nat.reduceBEq, Nat.reduceEqDiff, Nat.reduceLeDiff, Nat.reduceLT, Nat.reduceBneDiff, reduceCtorEq, Int.reduceLE, Int.reduceLT, Int.reduceEq, Int.reduceAdd, Int.reduceMul, Int.reduceSub, Int.reduceNeg, Int.reduceBEq, Int.reduceBNe, Int.reduceToNat, hc]
    obtain ⟨r, h1, jv7, jv12, jv20, rfl⟩ := lp14 n outs hb1 0 hN
    rw [loopN_eq Try.f14 0 _ _ rfl rfl] at h1
    rw [h1]
    · simp only [go_sem, reduceIte, ↓reduceIte, Nat.reduceAdd, Nat.reduceSub, Nat.reduceMul, Nat.reduceBEq, Nat.reduceEqDiff, Nat.reduceLeDiff, Nat.reduceLT, Nat.reduceBneDiff, reduceCtorEq, Int.reduceLE, Int.reduceLT, Int.reduceEq, Int.reduceAdd, Int.reduceMul, Int.reduceSub, Int.reduceNeg, Int.reduceBEq, Int.reduceBNe, Int.reduceToNat, fetches]
    · simp only [go_sem, reduceIte, ↓reduceIte, Nat.reduceAdd, Nat.reduceSub, Nat.reduceMul, Nat.reduceBEq, Nat.reduceEqDiff, Nat.reduceLeDiff, Nat.reduceLT, Nat.reduceBneDiff, reduceCtorEq, Int.reduceLE, Int.reduceLT, Int.reduceEq, Int.reduceAdd, Int.reduceMul, Int.reduceSub, Int.reduceNeg, Int.reduceBEq, Int.reduceBNe, Int.reduceToNat]
      rfl
theorem spec14 : VSpec Try.prog 14 ⟨[.ro 1], F14, false⟩ :=
  spec_ro' (cx := cx14 0) (f := Try.f14) _ _ _ wide (cxOk _ rfl) (fun g fs h => by cases h) Try.func14 (by decide) rfl (by kernel_rfl) (by decide) (by decide)
    (fun s h hl => ⟨s.length + 1, ev14 _ s hl (Nat.le_refl _)⟩)
    (fun _ _ => rfl) (fun _ => rfl)
noncomputable def fns16 : Nat → Option FS
  | 41 => some ⟨[.ro 1, .ro 1], F41, false⟩
  | _ => none
@[go_sem] theorem fns16_41 : fns16 41 = some ⟨[.ro 1, .ro 1], F41, false⟩ := nr rfl
theorem fns16_ok : ∀ g fs, fns16 g = some fs → VSpec Try.prog g fs := by
  intro g fs h
  unfold fns16 at h
  split at h
  · injection h with h; subst h; exact spec41
  · cases h
noncomputable def cx16 (n : Nat) : Cx := { T := T, fns := fns16, cuts := (fun _ => []), vars := some ([0, 2, 3, 4, 6, 10, 13, 14, 15, 16, 21], [2, 6]), live := fun _ => some ([2, 4, 13, 14, 15], [2]), al := [], rounds := n, plan := fun _ => none, fz := [] }
@[go_sem] theorem cx16_z (n : Nat) : (cx16 n).fz = [] := nr rfl
@[go_sem] theorem cx16_T (n : Nat) : (cx16 n).T = T := nr rfl
@[go_sem] theorem cx16_f (n : Nat) : (cx16 n).fns = fns16 := nr rfl
@[go_sem] theorem cx16_c (n k : Nat) : (cx16 n).cuts k = ((fun _ => [])) k := nr rfl
@[go_sem] theorem cx16_v (n : Nat) : (cx16 n).vars = some ([0, 2, 3, 4, 6, 10, 13, 14, 15, 16, 21], [2, 6]) := nr rfl
@[go_sem] theorem cx16_l (n k : Nat) : (cx16 n).live k = (fun _ => some ([2, 4, 13, 14, 15], [2])) k := nr rfl
@[go_sem] theorem cx16_a (n : Nat) : (cx16 n).al = [] := nr rfl
@[go_sem] theorem cx16_p (n k : Nat) : (cx16 n).plan k = (fun _ => none) k := nr rfl
@[go_sem] theorem cx16_r (n : Nat) : (cx16 n).rounds = n := nr rfl
noncomputable def F16 : List AV → Option (AV × List AV) := FSof (σ := (List Out)) (fun (outs : (List Out)) => True) (fun (outs : (List Out)) => [.sl .ro 10 (outs.map (rOut .ro))]) (fun (outs : (List Out)) => (.agg (rIntResult .mut (fetchesIn outs)), [.u]))
@[go_sem] theorem F16_eq (outs : List Out) : F16 [.sl .ro 10 (outs.map (rOut .ro))] = some (.agg (rIntResult .mut (fetchesIn outs)), [.u]) :=
  FSof_eq (by
    intro outs outs' h
    simp only [List.cons.injEq, AV.i.injEq, AV.b.injEq, AV.s.injEq, AV.sl.injEq, AV.agg.injEq, AV.pr.injEq, AV.fs.injEq, AV.fn.injEq, true_and, and_true, rOut_mi] at h
    simp [h]) outs trivial
theorem rd16 (N : Nat) (xs : List Out) (k : Nat) (hk : k < xs.length) (hb : xs.length ≤ 9223372036854775807) (many : Int)  : ∃ (jv0 : AV) (jv3 : AV) (jv6 : AV) (jv10 : AV) (jv16 : AV) (jv21 : AV) (jb6 : List AV), ∀ G, seqE (evCode (cx16 N) 0 (loopN Try.f16 0) ⟨E [(2, .p ⟨false, 2, [], 0⟩), (4, .i .i64 many), (13, .sl .ro 10 (xs.map (rOut .ro))), (14, .i .i64 xs.length), (15, .i .i64 k)], B [(2, [.i .i64 0, .i .i64 0])]⟩) G = G ⟨E [(0, jv0), (2, .p ⟨false, 2, [], 0⟩), (3, jv3), (4, .i .i64 ((fun (s : (Int)) (x : Out) => let many := s; if (x.Kind == 2) = true then (IntKind.i64).wrap (many + 1) else many) many xs[k])), (6, jv6), (10, jv10), (13, .sl .ro 10 (xs.map (rOut .ro))), (14, .i .i64 xs.length), (15, .i .i64 (k + 1 : Nat)), (16, jv16), (21, jv21)], B [(2, [.i .i64 0, .i .i64 0]), (6, jb6)]⟩ := by
  have h1 : ((k : Int) < (xs.length : Int)) := Int.ofNat_lt.2 hk
  rw [loopN_eq Try.f16 0 _ _ rfl rfl]
  simp only [go_sem, reduceIte, ↓reduceIte, Nat.reduceAdd, Nat.reduceSub, Nat.reduceMul, Nat.reduceBEq, Nat.reduceEqDiff, Nat.reduceLeDiff, Nat.reduceLT, Nat.reduceBneDiff, reduceCtorEq, Int.reduceLE, Int.reduceLT, Int.reduceEq, Int.reduceAdd, Int.reduceMul, Int.reduceSub, Int.reduceNeg, Int.reduceBEq, Int.reduceBNe, Int.reduceToNat, h1, idx_nt _ _ hk, wrap_nat1 (show k < 9223372036854775807 by omega), map_gd (rOut .ro) xs k hk]
  exact ⟨_, _, _, _, _, _, _, fun G => rfl⟩
theorem en16 (N : Nat) (xs : List Out) (many : Int)  : ∃ (jv0 : AV) (jv3 : AV) (jv6 : AV) (jv10 : AV) (jv16 : AV) (jv21 : AV) (jb6 : List AV), ∀ G, seqE (evCode (cx16 N) 0 (loopN Try.f16 0) ⟨E [(2, .p ⟨false, 2, [], 0⟩), (4, .i .i64 many), (13, .sl .ro 10 (xs.map (rOut .ro))), (14, .i .i64 xs.length), (15, .i .i64 xs.length)], B [(2, [.i .i64 0, .i .i64 0])]⟩) G = some (.ex 0, ⟨E [(0, jv0), (2, .p ⟨false, 2, [], 0⟩), (3, jv3), (4, .i .i64 many), (6, jv6), (10, jv10), (13, .sl .ro 10 (xs.map (rOut .ro))), (14, .i .i64 xs.length), (15, .i .i64 xs.length), (16, jv16), (21, jv21)], B [(2, [.i .i64 0, .i .i64 0]), (6, jb6)]⟩) := by
  rw [loopN_eq Try.f16 0 _ _ rfl rfl]
  simp only [go_sem, reduceIte, ↓reduceIte, Nat.reduceAdd, Nat.reduceSub, Nat.reduceMul, Nat.reduceBEq, Nat.reduceEqDiff, Nat.reduceLeDiff, Nat.reduceLT, Nat.reduceBneDiff, reduceCtorEq, Int.reduceLE, Int.reduceLT, Int.reduceEq, Int.reduceAdd, Int.reduceMul, Int.reduceSub, Int.reduceNeg, Int.reduceBEq, Int.reduceBNe, Int.reduceToNat, Int.lt_irrefl]
  exact ⟨_, _, _, _, _, _, _, fun G => rfl⟩
theorem lp16 (N : Nat) (xs : List Out) (hb : xs.length ≤ 9223372036854775807) (many : Int)  (hN : xs.length + 1 ≤ N) : ∃ r, (∀ st, keep ((cx16 N).live 0) st = ⟨E [(2, .p ⟨false, 2, [], 0⟩), (4, .i .i64 many), (13, .sl .ro 10 (xs.map (rOut .ro))), (14, .i .i64 xs.length), (15, .i .i64 (0 : Nat))], B [(2, [.i .i64 0, .i .i64 0])]⟩ → loopE (cx16 N) 0 (loopN Try.f16 0) N st = r) ∧ ∃ (jv0 : AV) (jv3 : AV) (jv6 : AV) (jv10 : AV) (jv16 : AV) (jv21 : AV) (jb6 : List AV), r = some (.ex 0, ⟨E [(0, jv0), (2, .p ⟨false, 2, [], 0⟩), (3, jv3), (4, .i .i64 (xs.foldl (fun (s : (Int)) (x : Out) => let many := s; if (x.Kind == 2) = true then (IntKind.i64).wrap (many + 1) else many) many)), (6, jv6), (10, jv10), (13, .sl .ro 10 (xs.map (rOut .ro))), (14, .i .i64 xs.length), (15, .i .i64 xs.length), (16, jv16), (21, jv21)], B [(2, [.i .i64 0, .i .i64 0]), (6, jb6)]⟩) := by
  obtain ⟨r, h1, h2⟩ := loop_ix (cx := (cx16 N)) (blk := 0) (body := (loopN Try.f16 0)) xs.length (fun k (s : (Int)) => ⟨E [(2, .p ⟨false, 2, [], 0⟩), (4, .i .i64 s), (13, .sl .ro 10 (xs.map (rOut .ro))), (14, .i .i64 xs.length), (15, .i .i64 k)], B [(2, [.i .i64 0, .i .i64 0])]⟩)
    (fun k s r => ∃ (jv0 : AV) (jv3 : AV) (jv6 : AV) (jv10 : AV) (jv16 : AV) (jv21 : AV) (jb6 : List AV), r = some (.ex 0, ⟨E [(0, jv0), (2, .p ⟨false, 2, [], 0⟩), (3, jv3), (4, .i .i64 ((xs.drop k).foldl (fun (s : (Int)) (x : Out) => let many := s; if (x.Kind == 2) = true then (IntKind.i64).wrap (many + 1) else many) s)), (6, jv6), (10, jv10), (13, .sl .ro 10 (xs.map (rOut .ro))), (14, .i .i64 xs.length), (15, .i .i64 xs.length), (16, jv16), (21, jv21)], B [(2, [.i .i64 0, .i .i64 0]), (6, jb6)]⟩))
    (fun s G => by
      obtain ⟨jv0, jv3, jv6, jv10, jv16, jv21, jb6, he⟩ := en16 N xs s 
      simp only [List.drop_length, List.foldl_nil]
      exact ⟨jv0, jv3, jv6, jv10, jv16, jv21, jb6, he G⟩)
    (fun k hk s => by
      obtain ⟨jv0, jv3, jv6, jv10, jv16, jv21, jb6, he⟩ := rd16 N xs k hk hb s 
      refine .inr ⟨_, (fun (s : (Int)) (x : Out) => let many := s; if (x.Kind == 2) = true then (IntKind.i64).wrap (many + 1) else many) s xs[k], ?_, fun r hr => ?_, fun G => he G⟩
      · simp only [go_sem, reduceIte, ↓reduceIte, Nat.reduceAdd, Nat.reduceSub, Nat.reduceMul, Nat.reduceBEq, Nat.reduceEqDiff, Nat.reduceLeDiff, Nat.reduceLT, Nat.reduceBneDiff, reduceCtorEq, Int.reduceLE, Int.reduceLT, Int.reduceEq, Int.reduceAdd, Int.reduceMul, Int.reduceSub, Int.reduceNeg, Int.reduceBEq, Int.reduceBNe, Int.reduceToNat]
      · rw [List.drop_eq_getElem_cons hk, List.foldl_cons]; exact hr) N hN many
  exact ⟨r, h1, h2⟩
theorem ev16 (n : Nat) (outs : List Out) (hb : lenOkL [.sl .ro 10 (outs.map (rOut .ro))]) (hN : outs.length + 1 ≤ n) : evalFn (cx16 n) [.ro 1] Try.f16 [.sl .ro 10 (outs.map (rOut .ro))] = some (.agg (rIntResult .mut (fetchesIn outs)), [.u]) := by
  rw [evalFn_eq _ _ Try.f16 _ _ _ rfl rfl]
  have hb1 : outs.length ≤ 9223372036854775807 := by simpa using hb.1.1
  unfold fetchesIn
  by_cases hc : 2000 < (outs.length : Int)
  · rw [if_pos hc]
    simp only [go_sem, reduceIte, ↓reduceIte, Nat.reduceAdd, Nat.reduceSub, Nat.reduceMul, Nat.reduceBEq, Nat.reduceEqDiff, Nat.reduceLeDiff, Nat.reduceLT, Nat.reduceBneDiff, reduceCtorEq, Int.reduceLE, Int.reduceLT, Int.reduceEq, Int.reduceAdd, Int.reduceMul, Int.reduceSub, Int.reduceNeg, Int.reduceBEq, Int.reduceBNe, Int.reduceToNat, hc, outsCode, firstC, clv]
  · rw [if_neg hc]
    simp only [go_sem, reduceIte, ↓reduceIte, Nat.reduceAdd, Nat.reduceSub, Nat.reduceMul, Nat.reduceBEq, Nat.reduceEqDiff, Nat.reduceLeDiff, Nat.reduceLT, Nat.reduceBneDiff, reduceCtorEq, Int.reduceLE, Int.reduceLT, Int.reduceEq, Int.reduceAdd, Int.reduceMul, Int.reduceSub, Int.reduceNeg, Int.reduceBEq, Int.reduceBNe, Int.reduceToNat, hc, outsCode, firstC, clv, isTime]
    obtain ⟨r, h1, jv0, jv3, jv6, jv10, jv16, jv21, jb6, rfl⟩ := lp16 n outs hb1 0 hN
    rw [loopN_eq Try.f16 0 _ _ rfl rfl] at h1
    rw [h1]
    · simp only [go_sem, reduceIte, ↓reduceIte, Nat.reduceAdd, Nat.reduceSub, Nat.reduceMul, Nat.reduceBEq, Nat.reduceEqDiff, Nat.reduceLeDiff, Nat.reduceLT, Nat.reduceBneDiff, reduceCtorEq, Int.reduceLE, Int.reduceLT, Int.reduceEq, Int.reduceAdd, Int.reduceMul, Int.reduceSub, Int.reduceNeg, Int.reduceBEq, Int.reduceBNe, Int.reduceToNat, fetches]
    · simp only [go_sem, reduceIte, ↓reduceIte, Nat.reduceAdd, Nat.reduceSub, Nat.reduceMul, Nat.reduceBEq, Nat.reduceEqDiff, Nat.reduceLeDiff, Nat.reduceLT, Nat.reduceBneDiff, reduceCtorEq, Int.reduceLE, Int.reduceLT, Int.reduceEq, Int.reduceAdd, Int.reduceMul, Int.reduceSub, Int.reduceNeg, Int.reduceBEq, Int.reduceBNe, Int.reduceToNat]
      rfl
theorem spec16 : VSpec Try.prog 16 ⟨[.ro 1], F16, false⟩ :=
  spec_ro' (cx := cx16 0) (f := Try.f16) _ _ _ wide (cxOk _ rfl) fns16_ok Try.func16 (by decide) rfl (by kernel_rfl) (by decide) (by decide)
    (fun s h hl => ⟨s.length + 1, ev16 _ s hl (Nat.le_refl _)⟩)
    (fun _ _ => rfl) (fun _ => rfl)
end Go.Vm.A
set_option autoImplicit false
set_option maxRecDepth 100000
set_option maxHeartbeats 4000000
set_option linter.unusedVariables false
set_option linter.unusedSimpArgs false
namespace Go.Vm.A
open Go.Proofs
attribute [local go_sem] Nat.add_zero Nat.zero_add List.contains_cons List.contains_nil List.elem_cons List.elem_nil List.length_cons List.length_nil List.map_cons List.map_nil List.all_cons List.all_nil List.any_cons List.any_nil List.getElem?_cons_zero List.getElem?_cons_succ List.getElem?_nil List.getD_cons_zero List.getD_cons_succ List.append_nil List.nil_append List.cons_append List.isEmpty_cons List.isEmpty_nil List.headD_cons List.headD_nil List.tail_cons List.tail_nil List.take_nil List.drop_nil Bool.and_true Bool.true_and Bool.or_false Bool.or_true Bool.false_or Bool.true_or Bool.not_true Bool.not_false Bool.and_false Bool.false_and Bool.false_eq_true Bool.true_eq_false Bool.and_self Bool.not_not decide_true decide_false decide_eq_true_eq beq_self_eq_true Nat.le_refl Nat.zero_le and_self true_and and_true false_and and_false or_true true_or if_true if_false Option.map_some Option.map_none Option.isSome_none Option.isSome_some eq_self_iff_true not_true_eq_false not_false_eq_true ne_eq Nat.not_lt_zero Nat.succ_ne_zero List.length_map List.set_cons_zero List.set_cons_succ gt_iff_lt ge_iff_le List.take_succ_cons List.take_zero List.drop_zero List.drop_succ_cons bne_self_eq_false

noncomputable def fns4 : Nat → Option FS
  | 13 => some ⟨[.ro 1, .ro 1], F13, false⟩
  | 14 => some ⟨[.ro 1], F14, false⟩
  | 15 => some ⟨[.ro 1], F15, false⟩
  | 16 => some ⟨[.ro 1], F16, false⟩
  | 17 => some ⟨[.ro 1, .ro 1], F17, false⟩
  | 18 => some ⟨[.ro 1, .ro 1], F18, false⟩
  | _ => none
@[go_sem] theorem fns4_13 : fns4 13 = some ⟨[.ro 1, .ro 1], F13, false⟩ := nr rfl
@[go_sem] theorem fns4_14 : fns4 14 = some ⟨[.ro 1], F14, false⟩ := nr rfl
@[go_sem] theorem fns4_15 : fns4 15 = some ⟨[.ro 1], F15, false⟩ := nr rfl
@[go_sem] theorem fns4_16 : fns4 16 = some ⟨[.ro 1], F16, false⟩ := nr rfl
@[go_sem] theorem fns4_17 : fns4 17 = some ⟨[.ro 1, .ro 1], F17, false⟩ := nr rfl
@[go_sem] theorem fns4_18 : fns4 18 = some ⟨[.ro 1, .ro 1], F18, false⟩ := nr rfl
theorem fns4_ok : ∀ g fs, fns4 g = some fs → VSpec Try.prog g fs := by
  intro g fs h
  unfold fns4 at h
  split at h
  · injection h with h; subst h; exact spec13
  · injection h with h; subst h; exact spec14
  · injection h with h; subst h; exact spec15
  · injection h with h; subst h; exact spec16
  · injection h with h; subst h; exact spec17
  · injection h with h; subst h; exact spec18
  · cases h
noncomputable def cx4 (n : Nat) : Cx := { T := T, fns := fns4, cuts := (fun _ => []), vars := some ([0, 2, 3, 4, 5, 6, 11, 22, 27], [4, 6]), live := fun _ => none, al := [], rounds := n, plan := fun _ => none, fz := [] }
@[go_sem] theorem cx4_z (n : Nat) : (cx4 n).fz = [] := nr rfl
@[go_sem] theorem cx4_T (n : Nat) : (cx4 n).T = T := nr rfl
@[go_sem] theorem cx4_f (n : Nat) : (cx4 n).fns = fns4 := nr rfl
@[go_sem] theorem cx4_c (n k : Nat) : (cx4 n).cuts k = ((fun _ => [])) k := nr rfl
@[go_sem] theorem cx4_v (n : Nat) : (cx4 n).vars = some ([0, 2, 3, 4, 5, 6, 11, 22, 27], [4, 6]) := nr rfl
@[go_sem] theorem cx4_l (n k : Nat) : (cx4 n).live k = (fun _ => none) k := nr rfl
@[go_sem] theorem cx4_a (n : Nat) : (cx4 n).al = [] := nr rfl
@[go_sem] theorem cx4_p (n k : Nat) : (cx4 n).plan k = (fun _ => none) k := nr rfl
@[go_sem] theorem cx4_r (n : Nat) : (cx4 n).rounds = n := nr rfl
noncomputable def F4 : List AV → Option (AV × List AV) := FSof (σ := (List Out)) (fun (xs : (List Out)) => okL okOut xs) (fun (xs : (List Out)) => [.sl .ro 10 (xs.map (rOut .ro))]) (fun (xs : (List Out)) => (.b true, [.u]))
@[go_sem] theorem F4_eq (xs : List Out) (h : okL okOut xs) : F4 [.sl .ro 10 (xs.map (rOut .ro))] = some (.b true, [.u]) :=
  FSof_eq (by
    intro xs xs' h
    simp only [List.cons.injEq, AV.i.injEq, AV.b.injEq, AV.s.injEq, AV.sl.injEq, AV.agg.injEq, AV.pr.injEq, AV.fs.injEq, AV.fn.injEq, true_and, and_true, rOut_mi] at h
    simp [h]) xs h
theorem ev4 (n : Nat) (xs : List Out) (h : okL okOut xs) : evalFn (cx4 n) [.ro 1] Try.f4 [.sl .ro 10 (xs.map (rOut .ro))] = some (.b true, [.u]) := by
  rw [evalFn_eq _ _ Try.f4 _ _ _ rfl rfl]
  by_cases hc : szL szOut xs 1048576 < 0
  · simp only [go_sem, reduceIte, ↓reduceIte, Nat.reduceAdd, Nat.reduceSub, Nat.reduceMul, Nat.reduceBEq, Nat.reduceEqDiff, Nat.reduceLeDiff, Nat.reduceLT, Nat.reduceBneDiff, reduceCtorEq, Int.reduceLE, Int.reduceLT, Int.reduceEq, Int.reduceAdd, Int.reduceMul, Int.reduceSub, Int.reduceNeg, Int.reduceBEq, Int.reduceBNe, Int.reduceToNat, hc]
  · have hs : smL smOut xs := (szL_fact szOut_fact xs 1048576 h (by decide) (by decide) (by omega)).1
    simp only [go_sem, reduceIte, ↓reduceIte, Nat.reduceAdd, Nat.reduceSub, Nat.reduceMul, Nat.reduceBEq, Nat.reduceEqDiff, Nat.reduceLeDiff, Nat.reduceLT, Nat.reduceBneDiff, reduceCtorEq, Int.reduceLE, Int.reduceLT, Int.reduceEq, Int.reduceAdd, Int.reduceMul, Int.reduceSub, Int.reduceNeg, Int.reduceBEq, Int.reduceBNe, Int.reduceToNat, hc, hs, eqv_self]
theorem spec4 : VSpec Try.prog 4 ⟨[.ro 1], F4, false⟩ :=
  spec_ro' (cx := cx4 0) (f := Try.f4) _ _ _ wide (cxOk _ rfl) fns4_ok Try.func4 (by decide) rfl (by kernel_rfl) (by decide) (by decide)
    (fun s h hl => ⟨0, ev4 0 s h⟩)
    (fun _ _ => rfl) (fun _ => rfl)
end Go.Vm.A
