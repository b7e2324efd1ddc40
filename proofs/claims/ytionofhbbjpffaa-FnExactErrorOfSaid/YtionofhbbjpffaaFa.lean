/- Functions of the program, walked by the evaluator. -/
import Derived.Test.YtionofhbbjpffaaVf
import Derived.Test.YtionofhbbjpffaaVe
import Derived.Test.YtionofhbbjpffaaProg
import Derived.KernelRfl
set_option autoImplicit false
namespace Go.Vm.A
def es : AV := .s ⟨#[]⟩
def z0 : AV := .i .i64 0
def T : TypeId → Option TI
  | 2 => some (.int .i64)
  | 3 => some (.int .i64)
  | 4 => some .bool
  | 5 => some (.int .u8)
  | 9 => some .str
  | 22 => some (.slice 2 32 [.s ⟨#[]⟩, .s ⟨#[]⟩])
  | 23 => some (.slice 1 1 [.i .u8 0])
  | 25 => some (.struct 3 [(0, 1, false, 0), (1, 1, false, 2), (2, 1, false, 1)] [.i .i64 0, .sl .mut 2 [], .sl .mut 1 []])
  | 27 => some (.struct 4 [(0, 1, false, 0), (1, 3, true, 0)] [.i .i64 0, .i .i64 0, .sl .mut 2 [], .sl .mut 1 []])
  | 68 => some (.struct 2 [(0, 1, false, 0), (1, 1, false, 0)] [.s ⟨#[]⟩, .s ⟨#[]⟩])
  | _ => none
@[go_sem] theorem T2 : T 2 = some (.int .i64) := nr rfl
@[go_sem] theorem T3 : T 3 = some (.int .i64) := nr rfl
@[go_sem] theorem T4 : T 4 = some .bool := nr rfl
@[go_sem] theorem T5 : T 5 = some (.int .u8) := nr rfl
@[go_sem] theorem T9 : T 9 = some .str := nr rfl
@[go_sem] theorem T22 : T 22 = some (.slice 2 32 [.s ⟨#[]⟩, .s ⟨#[]⟩]) := nr rfl
@[go_sem] theorem T23 : T 23 = some (.slice 1 1 [.i .u8 0]) := nr rfl
@[go_sem] theorem T25 : T 25 = some (.struct 3 [(0, 1, false, 0), (1, 1, false, 2), (2, 1, false, 1)] [.i .i64 0, .sl .mut 2 [], .sl .mut 1 []]) := nr rfl
@[go_sem] theorem T27 : T 27 = some (.struct 4 [(0, 1, false, 0), (1, 3, true, 0)] [.i .i64 0, .i .i64 0, .sl .mut 2 [], .sl .mut 1 []]) := nr rfl
@[go_sem] theorem T68 : T 68 = some (.struct 2 [(0, 1, false, 0), (1, 1, false, 0)] [.s ⟨#[]⟩, .s ⟨#[]⟩]) := nr rfl
theorem cxOk (cx : Cx) (h : cx.T = T) : CxOk Go.Proofs.Try.prog cx := by
  intro t ti ht
  rw [h] at ht
  unfold T at ht
  split at ht <;> first | cases ht; done | (injection ht with ht; subst ht; exact tiOk_s (by kernel_rfl))
end Go.Vm.A
set_option autoImplicit false
set_option maxRecDepth 100000
set_option maxHeartbeats 4000000
set_option linter.unusedSimpArgs false
namespace Go.Vm.A
open Go.Proofs
theorem wide : Try.prog.follows .mixedOrders = true := by kernel_rfl
theorem spec_ro {g : FuncId} {f : Func} {c : Code} {cx : Cx} {md : List Md} {F : List AV → Option (AV × List AV)} (hT : cx.T = T) (hFs : ∀ g fs, cx.fns g = some fs → VSpec Try.prog g fs) (hf : Try.prog.funcs[g]? = some f) (hname : (f.name == "runtime.NumGoroutine") = false) (hb : f.body = some c)
    (hcode : codeOk cx (fun _ => false) f.ntmps c = true) (hlen : md.length ≤ f.ntmps) (hro : md.all isRoMd = true) (hev : ∀ xs r os, F xs = some (r, os) → (∃ n, evalFn { cx with rounds := n } md f xs = some (r, os)) ∧ hasRo r = false ∧ ∀ o ∈ os, hasRo o = false) : VSpec Try.prog g ⟨md, F, false⟩ := by
  refine fn_spec wide (cxOk _ hT) hFs hf hname hb (fun _ => false) (fun j m h1 h2 => ?_) hcode hlen ?_ (fun xs r os hF _ => (hev xs r os hF).1) (fun _ xs r os hF => (hev xs r os hF).2)
  · have := List.all_eq_true.1 hro m (List.mem_of_getElem? h1)
    rw [this] at h2; cases h2
  · unfold mdPos
    rw [List.all_eq_true]
    intro m hm
    have := List.all_eq_true.1 hro m hm
    cases m <;> first | rfl | cases this
def cx33 : Cx := { T := T, fns := fun _ => none, cuts := fun | 1 => [none, none, none, none, none, none, some [0, 1, 2, 6, 10, 11, 12]] | _ => [], vars := some ([0, 1, 2, 6], []), live := fun _ => none, al := [], rounds := 0 }
def md33 : List Md := [.ro 1, .ro 1, .ro 1]
def F33 : List AV → Option (AV × List AV)
  | [.i .i64 a, .i .i64 b, .i .i64 c] => some (.b (decide (b ≤ a) && decide (a ≤ c)), [.u, .u, .u])
  | _ => none
theorem ev33 (n : Nat) (a b c : Int) : evalFn { cx33 with rounds := n } md33 Try.f33 [.i .i64 a, .i .i64 b, .i .i64 c] = some (.b (decide (b ≤ a) && decide (a ≤ c)), [.u, .u, .u]) := by
  rw [evalFn_eq _ _ Try.f33 _ _ _ rfl rfl]
  simp only [go_sem, reduceIte, ↓reduceIte, Nat.reduceAdd, Nat.reduceSub, Nat.reduceMul, Nat.reduceBEq, Nat.reduceEqDiff, Nat.reduceLeDiff, Nat.reduceLT, Nat.reduceBneDiff, Nat.add_zero, Nat.zero_add, List.contains_cons, List.contains_nil, List.elem_cons, List.elem_nil, List.length_cons, List.length_nil, List.map_cons, List.map_nil, List.all_cons, List.all_nil, List.any_cons, List.any_nil, List.getElem?_cons_zero, List.getElem?_cons_succ, List.getElem?_nil, List.getD_cons_zero, List.getD_cons_succ, List.append_nil, List.nil_append, List.cons_append, List.isEmpty_cons, List.isEmpty_nil, List.headD_cons, List.headD_nil, List.tail_cons, List.tail_nil, List.take_nil, List.drop_nil, Bool.and_true, Bool.true_and, Bool.or_false, Bool.or_true, Bool.false_or, Bool.true_or, Bool.not_true, Bool.not_false, Bool.and_false, Bool.false_and, Bool.false_eq_true, Bool.true_eq_false, Bool.and_self, Bool.not_not, decide_true, decide_false, decide_eq_true_eq, beq_self_eq_true, Nat.le_refl, Nat.zero_le, and_self, true_and, and_true, false_and, and_false, or_true, true_or, if_true, if_false, Option.map_some, Option.map_none, Option.isSome_none, Option.isSome_some, eq_self_iff_true, not_true_eq_false, not_false_eq_true, ne_eq, reduceCtorEq, Nat.not_lt_zero, Nat.succ_ne_zero, cx33, md33]
  by_cases h : b ≤ a <;> simp [h]
theorem spec33 : VSpec Try.prog 33 ⟨md33, F33, false⟩ := by
  refine spec_ro (cx := cx33) (f := Try.f33) rfl (fun g fs h => by cases h) Try.func33 (by decide) rfl (by kernel_rfl) (by decide) (by decide) ?_
  intro xs r os hF
  unfold F33 at hF
  split at hF
  · injection hF with hF; injection hF with h1 h2; subst h1 h2
    exact ⟨⟨0, ev33 0 _ _ _⟩, rfl, by decide⟩
  · cases hF
end Go.Vm.A
set_option autoImplicit false
set_option maxRecDepth 100000
set_option maxHeartbeats 4000000
set_option linter.unusedSimpArgs false
set_option linter.unusedVariables false
namespace Go.Vm.A
open Go.Proofs

/-! headers as cells -/
abbrev H := ByteArray × ByteArray
def hrow (h : H) : List AV := [.s h.1, .s h.2]
def unHrow : List AV → Option H
  | [.s a, .s b] => some (a, b)
  | _ => none
@[go_sem] theorem unHrow_mk (h : H) : unHrow (hrow h) = some h := nr rfl
@[go_sem] theorem unHrow_lit (a b : ByteArray) : unHrow [.s a, .s b] = some (a, b) := nr rfl
theorem unHrow_s {r : List AV} {h : H} (e : unHrow r = some h) : r = hrow h := by
  unfold unHrow at e
  split at e
  · injection e with e; subst e; rfl
  · cases e
def eqHd (a b : H) : Bool := (a.1.toList == b.1.toList) && (a.2.toList == b.2.toList)
def cx96 : Cx := { T := T, fns := fun _ => none, cuts := fun _ => [], vars := none, live := fun _ => none, al := [], rounds := 0 }
def md2 : List Md := [.ro 1, .ro 1]
def F96 : List AV → Option (AV × List AV)
  | [.agg x, .agg y] => match unHrow x, unHrow y with
    | some a, some b => some (.b (eqHd a b), [.u, .u])
    | _, _ => none
  | _ => none
theorem ev96 (n : Nat) (a b : H) : evalFn { cx96 with rounds := n } md2 Try.f96 [.agg (hrow a), .agg (hrow b)] = some (.b (eqHd a b), [.u, .u]) := by
  rw [evalFn_eq _ _ Try.f96 _ _ _ rfl rfl]
  simp only [go_sem, reduceIte, ↓reduceIte, Nat.reduceAdd, Nat.reduceSub, Nat.reduceMul, Nat.reduceBEq, Nat.reduceEqDiff, Nat.reduceLeDiff, Nat.reduceLT, Nat.reduceBneDiff, Nat.add_zero, Nat.zero_add, List.contains_cons, List.contains_nil, List.elem_cons, List.elem_nil, List.length_cons, List.length_nil, List.map_cons, List.map_nil, List.all_cons, List.all_nil, List.any_cons, List.any_nil, List.getElem?_cons_zero, List.getElem?_cons_succ, List.getElem?_nil, List.getD_cons_zero, List.getD_cons_succ, List.append_nil, List.nil_append, List.cons_append, List.isEmpty_cons, List.isEmpty_nil, List.headD_cons, List.headD_nil, List.tail_cons, List.tail_nil, List.take_nil, List.drop_nil, Bool.and_true, Bool.true_and, Bool.or_false, Bool.or_true, Bool.false_or, Bool.true_or, Bool.not_true, Bool.not_false, Bool.and_false, Bool.false_and, Bool.false_eq_true, Bool.true_eq_false, Bool.and_self, Bool.not_not, decide_true, decide_false, decide_eq_true_eq, beq_self_eq_true, Nat.le_refl, Nat.zero_le, and_self, true_and, and_true, false_and, and_false, or_true, true_or, if_true, if_false, Option.map_some, Option.map_none, Option.isSome_none, Option.isSome_some, eq_self_iff_true, not_true_eq_false, not_false_eq_true, ne_eq, reduceCtorEq, Nat.not_lt_zero, Nat.succ_ne_zero, cx96, md2, hrow]
  unfold eqHd
  cases (a.1.toList == b.1.toList) <;> cases (a.2.toList == b.2.toList) <;> rfl
theorem spec96 : VSpec Try.prog 96 ⟨md2, F96, false⟩ := by
  refine spec_ro (cx := cx96) (f := Try.f96) rfl (fun g fs h => by cases h) Try.func96 (by decide) rfl (by kernel_rfl) (by decide) (by decide) ?_
  intro xs r os hF
  unfold F96 at hF
  split at hF
  · split at hF
    · rename_i h1 h2
      injection hF with hF; injection hF with e1 e2; subst e1 e2
      rw [unHrow_s h1, unHrow_s h2]
      exact ⟨⟨0, ev96 0 _ _⟩, rfl, by decide⟩
    · cases hF
  · cases hF
def firstLoop : Code → Option Code
  | .seq a b => match firstLoop a with
    | some c => some c
    | none => firstLoop b
  | .block _ c => firstLoop c
  | .cond _ a b => match firstLoop a with
    | some c => some c
    | none => firstLoop b
  | .loop c => some c
  | _ => none
def loopBody (f : Func) : Code := (f.body.bind firstLoop).getD .skip
theorem loopBody_eq (f : Func) (c b : Code) (h : f.body = some c) (h2 : firstLoop c = some b) : loopBody f = b := by unfold loopBody; rw [h]; simp only [Option.bind, h2, Option.getD]
/-! lists of headers -/
def hrows (l : List H) : List (List AV) := l.map hrow
def unH : List (List AV) → Option (List H)
  | [] => some []
  | r :: l => match unHrow r, unH l with
    | some h, some t => some (h :: t)
    | _, _ => none
theorem unH_mk (l : List H) : unH (hrows l) = some l := by
  induction l with
  | nil => rfl
  | cons h t ih => simp only [hrows, List.map_cons, unH, unHrow_mk] at ih ⊢; rw [ih]
theorem unH_s : ∀ {l : List (List AV)} {hs : List H}, unH l = some hs → l = hrows hs
  | [], hs, h => by injection h with h; subst h; rfl
  | r :: l, hs, h => by
    simp only [unH] at h
    split at h
    · rename_i a t h1 h2
      injection h with h; subst h
      rw [unHrow_s h1, unH_s h2]; rfl
    · cases h
attribute [go_sem] unH_mk
@[go_sem] theorem hrows_len (l : List H) : (hrows l).length = l.length := by unfold hrows; exact List.length_map _
theorem strip_hrow (h : H) : stripL (hrow h) = hrow h := nr rfl
@[go_sem] theorem strip_hrows (l : List H) : stripLL (hrows l) = hrows l := by
  induction l with
  | nil => rfl
  | cons h t ih => simp only [hrows, List.map_cons, stripLL, strip_hrow] at ih ⊢; rw [ih]
theorem hrows_getD (l : List H) (k : Nat) (h : k < l.length) : (hrows l).getD k [] = hrow l[k] := by
  unfold hrows
  simp [List.getD, h]
theorem idx_nat (n k : Nat) (h : k < n) : idx? n (k : Int) = some k := by
  unfold idx?
  rw [if_pos ⟨Int.natCast_nonneg k, Int.ofNat_lt.2 h⟩]
  simp
end Go.Vm.A
set_option autoImplicit false
set_option maxRecDepth 100000
set_option maxHeartbeats 4000000
set_option linter.unusedSimpArgs false
set_option linter.unusedVariables false
namespace Go.Vm.A
open Go.Proofs


def plan63 : Plan := .take 0 (.take 1 (.take 2 (.take 3 (.take 4 (.take 5 (.take 6 (.take 7 (.one 8 (.one 9 .done)))))))))
def fns63 : Nat → Option FS
  | 96 => some ⟨md2, F96, false⟩
  | _ => none
@[go_sem] theorem fns63_96 : fns63 96 = some ⟨[.ro 1, .ro 1], F96, false⟩ := nr rfl
@[go_sem] theorem F96_eq (a b c d : ByteArray) : F96 [.agg [.s a, .s b], .agg [.s c, .s d]] = some (.b (eqHd (a, b) (c, d)), [.u, .u]) := nr rfl
def cx63 (n : Nat) : Cx := { T := T, fns := fns63, cuts := fun _ => [], vars := some ([0, 1, 4, 5, 10, 14, 26], []), live := fun _ => some ([0, 1, 4, 5], []), al := [], rounds := n, plan := fun _ => some plan63 }
@[go_sem] theorem cx63_T (n : Nat) : (cx63 n).T = T := nr rfl
@[go_sem] theorem cx63_f (n : Nat) : (cx63 n).fns = fns63 := nr rfl
@[go_sem] theorem cx63_c (n k : Nat) : (cx63 n).cuts k = (fun _ => []) k := nr rfl
@[go_sem] theorem cx63_v (n : Nat) : (cx63 n).vars = some ([0, 1, 4, 5, 10, 14, 26], []) := nr rfl
@[go_sem] theorem cx63_l (n k : Nat) : (cx63 n).live k = (fun _ => some ([0, 1, 4, 5], [])) k := nr rfl
@[go_sem] theorem cx63_a (n : Nat) : (cx63 n).al = [] := nr rfl
@[go_sem] theorem cx63_p (n k : Nat) : (cx63 n).plan k = (fun _ => some plan63) k := nr rfl
@[go_sem] theorem cx63_r (n : Nat) : (cx63 n).rounds = n := nr rfl

def eqHs : List H → List H → Bool
  | x :: a, y :: b => eqHd x y && eqHs a b
  | [], [] => true
  | _, _ => false
def st63 (a b : List H) (k : Int) (x y z : AV) : St := ⟨E [(0, .sl .ro 2 (hrows a)), (1, .sl .ro 2 (hrows b)), (4, .b false), (5, .i .i64 k), (10, x), (14, y), (26, z)], B []⟩
theorem round63 (N : Nat) (a b : List H) (hl : a.length = b.length) (k : Nat) (hk : k < a.length) (x y z : AV) (G : St → Option (Ex × St)) :
    seqE (evCode (cx63 N) 0 (loopBody Try.f63) (keep ((cx63 N).live 0) (st63 a b k x y z))) G = if eqHd a[k] (b[k]'(by omega)) = true then G (st63 a b ((IntKind.i64).wrap (k + 1)) .u (.b true) (.b false)) else some (.ret, st63 a b k .u (.b true) (.b true)) := by
  have h1 : ((k : Int) < (a.length : Int)) := Int.ofNat_lt.2 hk
  rw [loopBody_eq Try.f63 _ _ rfl rfl]
  simp only [go_sem, reduceIte, ↓reduceIte, Nat.reduceAdd, Nat.reduceSub, Nat.reduceMul, Nat.reduceBEq, Nat.reduceEqDiff, Nat.reduceLeDiff, Nat.reduceLT, Nat.reduceBneDiff, Nat.add_zero, Nat.zero_add, List.contains_cons, List.contains_nil, List.elem_cons, List.elem_nil, List.length_cons, List.length_nil, List.map_cons, List.map_nil, List.all_cons, List.all_nil, List.any_cons, List.any_nil, List.getElem?_cons_zero, List.getElem?_cons_succ, List.getElem?_nil, List.getD_cons_zero, List.getD_cons_succ, List.append_nil, List.nil_append, List.cons_append, List.isEmpty_cons, List.isEmpty_nil, List.headD_cons, List.headD_nil, List.tail_cons, List.tail_nil, List.take_nil, List.drop_nil, Bool.and_true, Bool.true_and, Bool.or_false, Bool.or_true, Bool.false_or, Bool.true_or, Bool.not_true, Bool.not_false, Bool.and_false, Bool.false_and, Bool.false_eq_true, Bool.true_eq_false, Bool.and_self, Bool.not_not, decide_true, decide_false, decide_eq_true_eq, beq_self_eq_true, Nat.le_refl, Nat.zero_le, and_self, true_and, and_true, false_and, and_false, or_true, true_or, if_true, if_false, Option.map_some, Option.map_none, Option.isSome_none, Option.isSome_some, eq_self_iff_true, not_true_eq_false, not_false_eq_true, ne_eq, reduceCtorEq, Nat.not_lt_zero, Nat.succ_ne_zero, plan63, st63, hrow, h1, idx_nat _ _ hk, idx_nat b.length k (by omega), hrows_getD a k hk, hrows_getD b k (by omega)]
  show (if (!eqHd a[k] (b[k]'(by omega))) = true then _ else _) = _
  cases eqHd a[k] (b[k]'(by omega)) <;> rfl
theorem end63 (N : Nat) (a b : List H) (x y z : AV) (G : St → Option (Ex × St)) :
    seqE (evCode (cx63 N) 0 (loopBody Try.f63) (keep ((cx63 N).live 0) (st63 a b a.length x y z))) G = some (.ex 0, st63 a b a.length .u (.b false) .u) := by
  rw [loopBody_eq Try.f63 _ _ rfl rfl]
  simp only [go_sem, reduceIte, ↓reduceIte, Nat.reduceAdd, Nat.reduceSub, Nat.reduceMul, Nat.reduceBEq, Nat.reduceEqDiff, Nat.reduceLeDiff, Nat.reduceLT, Nat.reduceBneDiff, Nat.add_zero, Nat.zero_add, List.contains_cons, List.contains_nil, List.elem_cons, List.elem_nil, List.length_cons, List.length_nil, List.map_cons, List.map_nil, List.all_cons, List.all_nil, List.any_cons, List.any_nil, List.getElem?_cons_zero, List.getElem?_cons_succ, List.getElem?_nil, List.getD_cons_zero, List.getD_cons_succ, List.append_nil, List.nil_append, List.cons_append, List.isEmpty_cons, List.isEmpty_nil, List.headD_cons, List.headD_nil, List.tail_cons, List.tail_nil, List.take_nil, List.drop_nil, Bool.and_true, Bool.true_and, Bool.or_false, Bool.or_true, Bool.false_or, Bool.true_or, Bool.not_true, Bool.not_false, Bool.and_false, Bool.false_and, Bool.false_eq_true, Bool.true_eq_false, Bool.and_self, Bool.not_not, decide_true, decide_false, decide_eq_true_eq, beq_self_eq_true, Nat.le_refl, Nat.zero_le, and_self, true_and, and_true, false_and, and_false, or_true, true_or, if_true, if_false, Option.map_some, Option.map_none, Option.isSome_none, Option.isSome_some, eq_self_iff_true, not_true_eq_false, not_false_eq_true, ne_eq, reduceCtorEq, Nat.not_lt_zero, Nat.succ_ne_zero, plan63, st63, Int.lt_irrefl]
theorem wrap_nat (k : Nat) (h : k < 9223372036854775807) : (IntKind.i64).wrap ((k : Int) + 1) = ((k + 1 : Nat) : Int) := by
  simp [IntKind.wrap, IntKind.bits, IntKind.signed]
  omega
theorem loop63 (N : Nat) (a b : List H) (hl : a.length = b.length) (hb : a.length < 9223372036854775807) : ∀ (n k : Nat), k + n = a.length → ∀ (m : Nat) (x y z : AV),
    (eqHs (a.drop k) (b.drop k) = true → loopE (cx63 N) 0 (loopBody Try.f63) (n + 1 + m) (st63 a b k x y z) = some (.ex 0, st63 a b a.length .u (.b false) .u)) ∧
    (eqHs (a.drop k) (b.drop k) = false → ∃ j : Int, loopE (cx63 N) 0 (loopBody Try.f63) (n + 1 + m) (st63 a b k x y z) = some (.ret, st63 a b j .u (.b true) (.b true))) := by
  intro n
  induction n with
  | zero =>
    intro k hk m x y z
    have hk' : k = a.length := by omega
    subst hk'
    refine ⟨fun _ => ?_, fun h => ?_⟩
    · rw [show 0 + 1 + m = m + 1 by omega, loopE_succ]; exact end63 N a b x y z _
    · rw [List.drop_length, hl, List.drop_length] at h; cases h
  | succ n ih =>
    intro k hk m x y z
    have hka : k < a.length := by omega
    have hkb : k < b.length := by omega
    rw [List.drop_eq_getElem_cons hka, List.drop_eq_getElem_cons hkb]
    simp only [eqHs]
    rw [show n + 1 + 1 + m = (n + 1 + m) + 1 by omega, loopE_succ, round63 N a b hl k hka x y z]
    rw [wrap_nat k (by omega)]
    obtain ⟨h1, h2⟩ := ih (k + 1) (by omega) m .u (.b true) (.b false)
    cases he : eqHd a[k] b[k] with
    | true => simp only [Bool.true_and, if_true]; exact ⟨h1, h2⟩
    | false => simp only [Bool.false_and, Bool.false_eq_true, if_false]; exact ⟨fun h => (by cases h), fun _ => ⟨k, rfl⟩⟩
theorem eqHs_len : ∀ (a b : List H), a.length ≠ b.length → eqHs a b = false
  | [], [], h => absurd rfl h
  | [], _ :: _, _ => rfl
  | _ :: _, [], _ => rfl
  | x :: a, y :: b, h => by simp only [eqHs, eqHs_len a b (by simpa using h), Bool.and_false]
theorem ev63 (N : Nat) (a b : List H) (hb : a.length ≤ 281474976710656) (hN : a.length + 1 ≤ N) : evalFn (cx63 N) md2 Try.f63 [.sl .ro 2 (hrows a), .sl .ro 2 (hrows b)] = some (.b (eqHs a b), [.u, .u]) := by
  have hl0 : loopBody Try.f63 = _ := loopBody_eq Try.f63 _ _ rfl rfl
  rw [evalFn_eq _ _ Try.f63 _ _ _ rfl rfl]
  simp only [go_sem, reduceIte, ↓reduceIte, Nat.reduceAdd, Nat.reduceSub, Nat.reduceMul, Nat.reduceBEq, Nat.reduceEqDiff, Nat.reduceLeDiff, Nat.reduceLT, Nat.reduceBneDiff, Nat.add_zero, Nat.zero_add, List.contains_cons, List.contains_nil, List.elem_cons, List.elem_nil, List.length_cons, List.length_nil, List.map_cons, List.map_nil, List.all_cons, List.all_nil, List.any_cons, List.any_nil, List.getElem?_cons_zero, List.getElem?_cons_succ, List.getElem?_nil, List.getD_cons_zero, List.getD_cons_succ, List.append_nil, List.nil_append, List.cons_append, List.isEmpty_cons, List.isEmpty_nil, List.headD_cons, List.headD_nil, List.tail_cons, List.tail_nil, List.take_nil, List.drop_nil, Bool.and_true, Bool.true_and, Bool.or_false, Bool.or_true, Bool.false_or, Bool.true_or, Bool.not_true, Bool.not_false, Bool.and_false, Bool.false_and, Bool.false_eq_true, Bool.true_eq_false, Bool.and_self, Bool.not_not, decide_true, decide_false, decide_eq_true_eq, beq_self_eq_true, Nat.le_refl, Nat.zero_le, and_self, true_and, and_true, false_and, and_false, or_true, true_or, if_true, if_false, Option.map_some, Option.map_none, Option.isSome_none, Option.isSome_some, eq_self_iff_true, not_true_eq_false, not_false_eq_true, ne_eq, reduceCtorEq, Nat.not_lt_zero, Nat.succ_ne_zero, md2]
  by_cases hl : a.length = b.length
  · have h0 : ((a.length : Int) != (b.length : Int)) = false := by simp [hl]
    rw [if_neg (by rw [h0]; simp)]
    have hlp := loop63 N a b hl (by omega) a.length 0 (by omega) (N - (a.length + 1)) (.b ((a.length : Int) != (b.length : Int))) .u .u
    rw [show a.length + 1 + (N - (a.length + 1)) = N by omega] at hlp
    simp only [List.drop_zero] at hlp
    unfold st63 at hlp
    rw [hl0] at hlp
    cases he : eqHs a b with
    | true =>
      have := hlp.1 he
      erw [this]
      simp only [go_sem, reduceIte, ↓reduceIte, Nat.reduceAdd, Nat.reduceSub, Nat.reduceMul, Nat.reduceBEq, Nat.reduceEqDiff, Nat.reduceLeDiff, Nat.reduceLT, Nat.reduceBneDiff, Nat.add_zero, Nat.zero_add, List.contains_cons, List.contains_nil, List.elem_cons, List.elem_nil, List.length_cons, List.length_nil, List.map_cons, List.map_nil, List.all_cons, List.all_nil, List.any_cons, List.any_nil, List.getElem?_cons_zero, List.getElem?_cons_succ, List.getElem?_nil, List.getD_cons_zero, List.getD_cons_succ, List.append_nil, List.nil_append, List.cons_append, List.isEmpty_cons, List.isEmpty_nil, List.headD_cons, List.headD_nil, List.tail_cons, List.tail_nil, List.take_nil, List.drop_nil, Bool.and_true, Bool.true_and, Bool.or_false, Bool.or_true, Bool.false_or, Bool.true_or, Bool.not_true, Bool.not_false, Bool.and_false, Bool.false_and, Bool.false_eq_true, Bool.true_eq_false, Bool.and_self, Bool.not_not, decide_true, decide_false, decide_eq_true_eq, beq_self_eq_true, Nat.le_refl, Nat.zero_le, and_self, true_and, and_true, false_and, and_false, or_true, true_or, if_true, if_false, Option.map_some, Option.map_none, Option.isSome_none, Option.isSome_some, eq_self_iff_true, not_true_eq_false, not_false_eq_true, ne_eq, reduceCtorEq, Nat.not_lt_zero, Nat.succ_ne_zero]
    | false =>
      obtain ⟨j, this⟩ := hlp.2 he
      erw [this]
      simp only [go_sem, reduceIte, ↓reduceIte, Nat.reduceAdd, Nat.reduceSub, Nat.reduceMul, Nat.reduceBEq, Nat.reduceEqDiff, Nat.reduceLeDiff, Nat.reduceLT, Nat.reduceBneDiff, Nat.add_zero, Nat.zero_add, List.contains_cons, List.contains_nil, List.elem_cons, List.elem_nil, List.length_cons, List.length_nil, List.map_cons, List.map_nil, List.all_cons, List.all_nil, List.any_cons, List.any_nil, List.getElem?_cons_zero, List.getElem?_cons_succ, List.getElem?_nil, List.getD_cons_zero, List.getD_cons_succ, List.append_nil, List.nil_append, List.cons_append, List.isEmpty_cons, List.isEmpty_nil, List.headD_cons, List.headD_nil, List.tail_cons, List.tail_nil, List.take_nil, List.drop_nil, Bool.and_true, Bool.true_and, Bool.or_false, Bool.or_true, Bool.false_or, Bool.true_or, Bool.not_true, Bool.not_false, Bool.and_false, Bool.false_and, Bool.false_eq_true, Bool.true_eq_false, Bool.and_self, Bool.not_not, decide_true, decide_false, decide_eq_true_eq, beq_self_eq_true, Nat.le_refl, Nat.zero_le, and_self, true_and, and_true, false_and, and_false, or_true, true_or, if_true, if_false, Option.map_some, Option.map_none, Option.isSome_none, Option.isSome_some, eq_self_iff_true, not_true_eq_false, not_false_eq_true, ne_eq, reduceCtorEq, Nat.not_lt_zero, Nat.succ_ne_zero]
  · rw [if_pos (by simpa using fun h => hl (Int.ofNat_inj.1 h)), eqHs_len a b hl]
end Go.Vm.A
set_option autoImplicit false
set_option maxRecDepth 100000
set_option maxHeartbeats 4000000
set_option linter.unusedSimpArgs false
set_option linter.unusedVariables false
namespace Go.Vm.A
open Go.Proofs

theorem ba_size (l : List UInt8) : (ByteArray.mk l.toArray).size = l.length := by show l.toArray.size = _; simp
theorem ba_append (l m : List UInt8) : (ByteArray.mk l.toArray) ++ (ByteArray.mk m.toArray) = ByteArray.mk (l ++ m).toArray := by
  apply ByteArray.ext
  rw [ByteArray.data_append]
  apply Array.ext'; simp
theorem ba_empty : (ByteArray.mk #[]) = ByteArray.mk ([] : List UInt8).toArray := rfl
def cx97 (n : Nat) : Cx := { T := T, fns := fun _ => none, cuts := fun _ => [], vars := some ([0, 2, 3, 5, 7], []), live := fun _ => none, al := [], rounds := n, plan := fun _ => none }
@[go_sem] theorem cx97_T (n : Nat) : (cx97 n).T = T := nr rfl
@[go_sem] theorem cx97_f (n : Nat) : (cx97 n).fns = fun _ => none := nr rfl
@[go_sem] theorem cx97_c (n k : Nat) : (cx97 n).cuts k = (fun _ => []) k := nr rfl
@[go_sem] theorem cx97_v (n : Nat) : (cx97 n).vars = some ([0, 2, 3, 5, 7], []) := nr rfl
@[go_sem] theorem cx97_l (n k : Nat) : (cx97 n).live k = (fun _ => none) k := nr rfl
@[go_sem] theorem cx97_a (n : Nat) : (cx97 n).al = [] := nr rfl
@[go_sem] theorem cx97_p (n k : Nat) : (cx97 n).plan k = (fun _ => none) k := nr rfl
@[go_sem] theorem cx97_r (n : Nat) : (cx97 n).rounds = n := nr rfl

theorem w49 : (IntKind.i64).wrap 49 = 49 := by decide
theorem w50 : (IntKind.i64).wrap 50 = 50 := by decide
theorem v49 : (IntKind.u8).wrap 49 = 49 := by decide
theorem v50 : (IntKind.u8).wrap 50 = 50 := by decide
theorem w0 : (IntKind.i64).wrap 0 = 0 := by decide
theorem ev97a : evalFn (cx97 3) [.ro 1] Try.f97 [.i .i64 1] = some (.s ⟨#[109, UInt8.ofNat 49]⟩, [.u]) := by
  rw [evalFn_eq _ _ Try.f97 _ _ _ rfl rfl]
  simp only [go_sem, reduceIte, ↓reduceIte, Nat.reduceAdd, Nat.reduceSub, Nat.reduceMul, Nat.reduceBEq, Nat.reduceEqDiff, Nat.reduceLeDiff, Nat.reduceLT, Nat.reduceBneDiff, Nat.add_zero, Nat.zero_add, List.contains_cons, List.contains_nil, List.elem_cons, List.elem_nil, List.length_cons, List.length_nil, List.map_cons, List.map_nil, List.all_cons, List.all_nil, List.any_cons, List.any_nil, List.getElem?_cons_zero, List.getElem?_cons_succ, List.getElem?_nil, List.getD_cons_zero, List.getD_cons_succ, List.append_nil, List.nil_append, List.cons_append, List.isEmpty_cons, List.isEmpty_nil, List.headD_cons, List.headD_nil, List.tail_cons, List.tail_nil, List.take_nil, List.drop_nil, Bool.and_true, Bool.true_and, Bool.or_false, Bool.or_true, Bool.false_or, Bool.true_or, Bool.not_true, Bool.not_false, Bool.and_false, Bool.false_and, Bool.false_eq_true, Bool.true_eq_false, Bool.and_self, Bool.not_not, decide_true, decide_false, decide_eq_true_eq, beq_self_eq_true, Nat.le_refl, Nat.zero_le, and_self, true_and, and_true, false_and, and_false, or_true, true_or, if_true, if_false, Option.map_some, Option.map_none, Option.isSome_none, Option.isSome_some, eq_self_iff_true, not_true_eq_false, not_false_eq_true, ne_eq, reduceCtorEq, Nat.not_lt_zero, Nat.succ_ne_zero, Int.reduceLE, Int.reduceLT, Int.reduceEq, Int.reduceAdd, Int.reduceMul, Int.reduceSub, Int.reduceNeg, Int.reduceTMod, Int.reduceTDiv, Int.reduceBEq, Int.reduceBNe, Int.reduceToNat, Int.reduceNe, gt_iff_lt, ge_iff_le, List.take_succ_cons, List.take_zero, List.drop_zero, List.drop_succ_cons, strOf, ba_size, ba_append, ba_empty, List.length_append, loopE_succ, w49, w50, v49, v50, w0]
theorem ev97b : evalFn (cx97 3) [.ro 1] Try.f97 [.i .i64 2] = some (.s ⟨#[109, UInt8.ofNat 50]⟩, [.u]) := by
  rw [evalFn_eq _ _ Try.f97 _ _ _ rfl rfl]
  simp only [go_sem, reduceIte, ↓reduceIte, Nat.reduceAdd, Nat.reduceSub, Nat.reduceMul, Nat.reduceBEq, Nat.reduceEqDiff, Nat.reduceLeDiff, Nat.reduceLT, Nat.reduceBneDiff, Nat.add_zero, Nat.zero_add, List.contains_cons, List.contains_nil, List.elem_cons, List.elem_nil, List.length_cons, List.length_nil, List.map_cons, List.map_nil, List.all_cons, List.all_nil, List.any_cons, List.any_nil, List.getElem?_cons_zero, List.getElem?_cons_succ, List.getElem?_nil, List.getD_cons_zero, List.getD_cons_succ, List.append_nil, List.nil_append, List.cons_append, List.isEmpty_cons, List.isEmpty_nil, List.headD_cons, List.headD_nil, List.tail_cons, List.tail_nil, List.take_nil, List.drop_nil, Bool.and_true, Bool.true_and, Bool.or_false, Bool.or_true, Bool.false_or, Bool.true_or, Bool.not_true, Bool.not_false, Bool.and_false, Bool.false_and, Bool.false_eq_true, Bool.true_eq_false, Bool.and_self, Bool.not_not, decide_true, decide_false, decide_eq_true_eq, beq_self_eq_true, Nat.le_refl, Nat.zero_le, and_self, true_and, and_true, false_and, and_false, or_true, true_or, if_true, if_false, Option.map_some, Option.map_none, Option.isSome_none, Option.isSome_some, eq_self_iff_true, not_true_eq_false, not_false_eq_true, ne_eq, reduceCtorEq, Nat.not_lt_zero, Nat.succ_ne_zero, Int.reduceLE, Int.reduceLT, Int.reduceEq, Int.reduceAdd, Int.reduceMul, Int.reduceSub, Int.reduceNeg, Int.reduceTMod, Int.reduceTDiv, Int.reduceBEq, Int.reduceBNe, Int.reduceToNat, Int.reduceNe, gt_iff_lt, ge_iff_le, List.take_succ_cons, List.take_zero, List.drop_zero, List.drop_succ_cons, strOf, ba_size, ba_append, ba_empty, List.length_append, loopE_succ, w49, w50, v49, v50, w0]
end Go.Vm.A
set_option autoImplicit false
set_option maxRecDepth 100000
set_option maxHeartbeats 4000000
set_option linter.unusedSimpArgs false
set_option linter.unusedVariables false
namespace Go.Vm.A
open Go.Proofs

abbrev m1 : ByteArray := ⟨#[109, UInt8.ofNat 49]⟩
abbrev m2 : ByteArray := ⟨#[109, UInt8.ofNat 50]⟩
def F97 : List AV → Option (AV × List AV)
  | [.i .i64 n] => if n = 1 then some (.s m1, [.u]) else if n = 2 then some (.s m2, [.u]) else none
  | _ => none
@[go_sem] theorem F97_1 : F97 [.i .i64 1] = some (.s m1, [.u]) := nr rfl
@[go_sem] theorem F97_2 : F97 [.i .i64 2] = some (.s m2, [.u]) := nr rfl
theorem spec97 : VSpec Try.prog 97 ⟨[.ro 1], F97, false⟩ := by
  refine spec_ro (cx := cx97 0) (f := Try.f97) rfl (fun g fs h => by cases h) Try.func97 (by decide) rfl (by kernel_rfl) (by decide) (by decide) ?_
  intro xs r os hF
  unfold F97 at hF
  split at hF
  · split at hF
    · rename_i h
      subst h
      injection hF with hF; injection hF with e1 e2; subst e1 e2
      exact ⟨⟨3, ev97a⟩, rfl, by decide⟩
    · split at hF
      · rename_i h
        subst h
        injection hF with hF; injection hF with e1 e2; subst e1 e2
        exact ⟨⟨3, ev97b⟩, rfl, by decide⟩
      · cases hF
  · cases hF
def fns65 : Nat → Option FS
  | 97 => some ⟨[.ro 1], F97, false⟩
  | _ => none
@[go_sem] theorem fns65_97 : fns65 97 = some ⟨[.ro 1], F97, false⟩ := nr rfl
theorem fns65_ok : ∀ g fs, fns65 g = some fs → VSpec Try.prog g fs := by
  intro g fs h
  unfold fns65 at h
  split at h
  · injection h with h; subst h; exact spec97
  · cases h
def cx65 (n : Nat) : Cx := { T := T, fns := fns65, cuts := fun _ => [], vars := some ([0, 1, 4, 5, 9], []), live := fun _ => some ([0, 1, 4, 5], []), al := [], rounds := n, plan := fun _ => none }
@[go_sem] theorem cx65_T (n : Nat) : (cx65 n).T = T := nr rfl
@[go_sem] theorem cx65_f (n : Nat) : (cx65 n).fns = fns65 := nr rfl
@[go_sem] theorem cx65_c (n k : Nat) : (cx65 n).cuts k = (fun _ => []) k := nr rfl
@[go_sem] theorem cx65_v (n : Nat) : (cx65 n).vars = some ([0, 1, 4, 5, 9], []) := nr rfl
@[go_sem] theorem cx65_l (n k : Nat) : (cx65 n).live k = (fun _ => some ([0, 1, 4, 5], [])) k := nr rfl
@[go_sem] theorem cx65_a (n : Nat) : (cx65 n).al = [] := nr rfl
@[go_sem] theorem cx65_p (n k : Nat) : (cx65 n).plan k = (fun _ => none) k := nr rfl
@[go_sem] theorem cx65_r (n : Nat) : (cx65 n).rounds = n := nr rfl

theorem w2 : (IntKind.i64).wrap 2 = 2 := by decide
theorem w3 : (IntKind.i64).wrap 3 = 3 := by decide
theorem idx10 : idx? 1 0 = some 0 := by decide
theorem c0 : ((0 : Nat) : Int) = 0 := rfl
theorem c1 : ((1 : Nat) : Int) = 1 := rfl
theorem w1 : (IntKind.i64).wrap 1 = 1 := by decide
theorem ev65a (a b : ByteArray) : evalFn (cx65 3) [.mv, .ro 1] Try.f65 [.sl .mut 2 [[.s a, .s b]], .i .i64 1] = some (.i .i64 3, [.sl .mut 2 [[.s m1, .s m2]], .u]) := by
  rw [evalFn_eq _ _ Try.f65 _ _ _ rfl rfl]
  simp only [go_sem, reduceIte, ↓reduceIte, Nat.reduceAdd, Nat.reduceSub, Nat.reduceMul, Nat.reduceBEq, Nat.reduceEqDiff, Nat.reduceLeDiff, Nat.reduceLT, Nat.reduceBneDiff, Nat.add_zero, Nat.zero_add, List.contains_cons, List.contains_nil, List.elem_cons, List.elem_nil, List.length_cons, List.length_nil, List.map_cons, List.map_nil, List.all_cons, List.all_nil, List.any_cons, List.any_nil, List.getElem?_cons_zero, List.getElem?_cons_succ, List.getElem?_nil, List.getD_cons_zero, List.getD_cons_succ, List.append_nil, List.nil_append, List.cons_append, List.isEmpty_cons, List.isEmpty_nil, List.headD_cons, List.headD_nil, List.tail_cons, List.tail_nil, List.take_nil, List.drop_nil, Bool.and_true, Bool.true_and, Bool.or_false, Bool.or_true, Bool.false_or, Bool.true_or, Bool.not_true, Bool.not_false, Bool.and_false, Bool.false_and, Bool.false_eq_true, Bool.true_eq_false, Bool.and_self, Bool.not_not, decide_true, decide_false, decide_eq_true_eq, beq_self_eq_true, Nat.le_refl, Nat.zero_le, and_self, true_and, and_true, false_and, and_false, or_true, true_or, if_true, if_false, Option.map_some, Option.map_none, Option.isSome_none, Option.isSome_some, eq_self_iff_true, not_true_eq_false, not_false_eq_true, ne_eq, reduceCtorEq, Nat.not_lt_zero, Nat.succ_ne_zero, List.set_cons_zero, List.set_cons_succ, Int.reduceLE, Int.reduceLT, Int.reduceEq, Int.reduceAdd, Int.reduceMul, Int.reduceSub, Int.reduceNeg, Int.reduceTMod, Int.reduceTDiv, Int.reduceBEq, Int.reduceBNe, Int.reduceToNat, Int.reduceNe, gt_iff_lt, ge_iff_le, List.take_succ_cons, List.take_zero, List.drop_zero, List.drop_succ_cons, strOf, ba_size, ba_append, ba_empty, List.length_append, loopE_succ, w49, w50, v49, v50, w0, w1, w2, w3, idx10, c0, c1]
theorem ev65b : evalFn (cx65 3) [.mv, .ro 1] Try.f65 [.sl .mut 2 [], .i .i64 1] = some (.i .i64 1, [.sl .mut 2 [], .u]) := by
  rw [evalFn_eq _ _ Try.f65 _ _ _ rfl rfl]
  simp only [go_sem, reduceIte, ↓reduceIte, Nat.reduceAdd, Nat.reduceSub, Nat.reduceMul, Nat.reduceBEq, Nat.reduceEqDiff, Nat.reduceLeDiff, Nat.reduceLT, Nat.reduceBneDiff, Nat.add_zero, Nat.zero_add, List.contains_cons, List.contains_nil, List.elem_cons, List.elem_nil, List.length_cons, List.length_nil, List.map_cons, List.map_nil, List.all_cons, List.all_nil, List.any_cons, List.any_nil, List.getElem?_cons_zero, List.getElem?_cons_succ, List.getElem?_nil, List.getD_cons_zero, List.getD_cons_succ, List.append_nil, List.nil_append, List.cons_append, List.isEmpty_cons, List.isEmpty_nil, List.headD_cons, List.headD_nil, List.tail_cons, List.tail_nil, List.take_nil, List.drop_nil, Bool.and_true, Bool.true_and, Bool.or_false, Bool.or_true, Bool.false_or, Bool.true_or, Bool.not_true, Bool.not_false, Bool.and_false, Bool.false_and, Bool.false_eq_true, Bool.true_eq_false, Bool.and_self, Bool.not_not, decide_true, decide_false, decide_eq_true_eq, beq_self_eq_true, Nat.le_refl, Nat.zero_le, and_self, true_and, and_true, false_and, and_false, or_true, true_or, if_true, if_false, Option.map_some, Option.map_none, Option.isSome_none, Option.isSome_some, eq_self_iff_true, not_true_eq_false, not_false_eq_true, ne_eq, reduceCtorEq, Nat.not_lt_zero, Nat.succ_ne_zero, List.set_cons_zero, List.set_cons_succ, Int.reduceLE, Int.reduceLT, Int.reduceEq, Int.reduceAdd, Int.reduceMul, Int.reduceSub, Int.reduceNeg, Int.reduceTMod, Int.reduceTDiv, Int.reduceBEq, Int.reduceBNe, Int.reduceToNat, Int.reduceNe, gt_iff_lt, ge_iff_le, List.take_succ_cons, List.take_zero, List.drop_zero, List.drop_succ_cons, strOf, ba_size, ba_append, ba_empty, List.length_append, loopE_succ, w49, w50, v49, v50, w0, w1, w2, w3, idx10, c0, c1]
end Go.Vm.A
set_option autoImplicit false
set_option maxRecDepth 100000
set_option maxHeartbeats 4000000
set_option linter.unusedSimpArgs false
set_option linter.unusedVariables false
namespace Go.Vm.A
open Go.Proofs

theorem spec_any {g : FuncId} {f : Func} {c : Code} {cx : Cx} {md : List Md} {F : List AV → Option (AV × List AV)} (hT : cx.T = T) (hFs : ∀ g fs, cx.fns g = some fs → VSpec Try.prog g fs) (hf : Try.prog.funcs[g]? = some f) (hname : (f.name == "runtime.NumGoroutine") = false) (hb : f.body = some c)
    (hcode : codeOk cx (fun j => (md[j]?).any fun m => !isRoMd m) f.ntmps c = true) (hlen : md.length ≤ f.ntmps) (hpos : mdPos md = true) (hev : ∀ xs r os, F xs = some (r, os) → (∃ n, evalFn { cx with rounds := n } md f xs = some (r, os)) ∧ hasRo r = false ∧ ∀ o ∈ os, hasRo o = false) : VSpec Try.prog g ⟨md, F, false⟩ :=
  fn_spec wide (cxOk _ hT) hFs hf hname hb _ (fun j m h1 h2 => by show ((md[j]?).any fun m => !isRoMd m) = true; rw [h1]; simpa using h2) hcode hlen hpos (fun xs r os hF _ => (hev xs r os hF).1) (fun _ xs r os hF => (hev xs r os hF).2)
def F65 : List AV → Option (AV × List AV)
  | [.sl .mut 2 [], .i .i64 n] => if n = 1 then some (.i .i64 1, [.sl .mut 2 [], .u]) else none
  | [.sl .mut 2 [[.s a, .s b]], .i .i64 n] => if n = 1 then some (.i .i64 3, [.sl .mut 2 [[.s m1, .s m2]], .u]) else none
  | _ => none
@[go_sem] theorem F65_0 : F65 [.sl .mut 2 [], .i .i64 1] = some (.i .i64 1, [.sl .mut 2 [], .u]) := nr rfl
@[go_sem] theorem F65_1 (a b : ByteArray) : F65 [.sl .mut 2 [[.s a, .s b]], .i .i64 1] = some (.i .i64 3, [.sl .mut 2 [[.s m1, .s m2]], .u]) := nr rfl
theorem spec65 : VSpec Try.prog 65 ⟨[.mv, .ro 1], F65, false⟩ := by
  refine spec_any (cx := cx65 0) (f := Try.f65) rfl fns65_ok Try.func65 (by decide) rfl (by kernel_rfl) (by decide) (by decide) ?_
  intro xs r os hF
  unfold F65 at hF
  split at hF
  · split at hF
    · rename_i h; subst h
      injection hF with hF; injection hF with e1 e2; subst e1 e2
      exact ⟨⟨3, ev65b⟩, rfl, by decide⟩
    · cases hF
  · split at hF
    · rename_i h; subst h
      injection hF with hF; injection hF with e1 e2; subst e1 e2
      exact ⟨⟨3, ev65a _ _⟩, rfl, fun o ho => by rcases List.mem_cons.1 ho with rfl | ho; rfl; rcases List.mem_cons.1 ho with rfl | ho; rfl; cases ho⟩
    · cases hF
  · cases hF
def cx64 (n : Nat) : Cx := { T := T, fns := fun _ => none, cuts := fun _ => [], vars := some ([0, 1, 4, 5, 10, 14, 25], []), live := fun _ => some ([0, 1, 4, 5], []), al := [], rounds := n, plan := fun _ => some (.take 0 (.take 1 (.take 2 (.take 3 (.take 4 (.take 5 (.take 6 (.take 7 (.one 8 .done))))))))) }
@[go_sem] theorem cx64_T (n : Nat) : (cx64 n).T = T := nr rfl
@[go_sem] theorem cx64_f (n : Nat) : (cx64 n).fns = fun _ => none := nr rfl
@[go_sem] theorem cx64_c (n k : Nat) : (cx64 n).cuts k = (fun _ => []) k := nr rfl
@[go_sem] theorem cx64_v (n : Nat) : (cx64 n).vars = some ([0, 1, 4, 5, 10, 14, 25], []) := nr rfl
@[go_sem] theorem cx64_l (n k : Nat) : (cx64 n).live k = (fun _ => some ([0, 1, 4, 5], [])) k := nr rfl
@[go_sem] theorem cx64_a (n : Nat) : (cx64 n).al = [] := nr rfl
@[go_sem] theorem cx64_p (n k : Nat) : (cx64 n).plan k = (fun _ => some (.take 0 (.take 1 (.take 2 (.take 3 (.take 4 (.take 5 (.take 6 (.take 7 (.one 8 .done)))))))))) k := nr rfl
@[go_sem] theorem cx64_r (n : Nat) : (cx64 n).rounds = n := nr rfl
theorem ev64  : evalFn (cx64 3) [.ro 1, .ro 1] Try.f64 [.sl .ro 1 [], .sl .ro 1 []] = some (.b true, [.u, .u]) := by
  rw [evalFn_eq _ _ Try.f64 _ _ _ rfl rfl]
  simp only [go_sem, reduceIte, ↓reduceIte, Nat.reduceAdd, Nat.reduceSub, Nat.reduceMul, Nat.reduceBEq, Nat.reduceEqDiff, Nat.reduceLeDiff, Nat.reduceLT, Nat.reduceBneDiff, Nat.add_zero, Nat.zero_add, List.contains_cons, List.contains_nil, List.elem_cons, List.elem_nil, List.length_cons, List.length_nil, List.map_cons, List.map_nil, List.all_cons, List.all_nil, List.any_cons, List.any_nil, List.getElem?_cons_zero, List.getElem?_cons_succ, List.getElem?_nil, List.getD_cons_zero, List.getD_cons_succ, List.append_nil, List.nil_append, List.cons_append, List.isEmpty_cons, List.isEmpty_nil, List.headD_cons, List.headD_nil, List.tail_cons, List.tail_nil, List.take_nil, List.drop_nil, Bool.and_true, Bool.true_and, Bool.or_false, Bool.or_true, Bool.false_or, Bool.true_or, Bool.not_true, Bool.not_false, Bool.and_false, Bool.false_and, Bool.false_eq_true, Bool.true_eq_false, Bool.and_self, Bool.not_not, decide_true, decide_false, decide_eq_true_eq, beq_self_eq_true, Nat.le_refl, Nat.zero_le, and_self, true_and, and_true, false_and, and_false, or_true, true_or, if_true, if_false, Option.map_some, Option.map_none, Option.isSome_none, Option.isSome_some, eq_self_iff_true, not_true_eq_false, not_false_eq_true, ne_eq, reduceCtorEq, Nat.not_lt_zero, Nat.succ_ne_zero, List.set_cons_zero, List.set_cons_succ, Int.reduceLE, Int.reduceLT, Int.reduceEq, Int.reduceAdd, Int.reduceMul, Int.reduceSub, Int.reduceNeg, Int.reduceTMod, Int.reduceTDiv, Int.reduceBEq, Int.reduceBNe, Int.reduceToNat, Int.reduceNe, gt_iff_lt, ge_iff_le, List.take_succ_cons, List.take_zero, List.drop_zero, List.drop_succ_cons, strOf, ba_size, ba_append, ba_empty, List.length_append, loopE_succ, w49, w50, v49, v50, w0, w1, w2, w3, idx10, c0, c1]
def cx66 (n : Nat) : Cx := { T := T, fns := fun _ => none, cuts := fun _ => [], vars := some ([0, 1, 4, 5, 9], []), live := fun _ => some ([0, 1, 4, 5], []), al := [], rounds := n, plan := fun _ => none }
@[go_sem] theorem cx66_T (n : Nat) : (cx66 n).T = T := nr rfl
@[go_sem] theorem cx66_f (n : Nat) : (cx66 n).fns = fun _ => none := nr rfl
@[go_sem] theorem cx66_c (n k : Nat) : (cx66 n).cuts k = (fun _ => []) k := nr rfl
@[go_sem] theorem cx66_v (n : Nat) : (cx66 n).vars = some ([0, 1, 4, 5, 9], []) := nr rfl
@[go_sem] theorem cx66_l (n k : Nat) : (cx66 n).live k = (fun _ => some ([0, 1, 4, 5], [])) k := nr rfl
@[go_sem] theorem cx66_a (n : Nat) : (cx66 n).al = [] := nr rfl
@[go_sem] theorem cx66_p (n k : Nat) : (cx66 n).plan k = (fun _ => none) k := nr rfl
@[go_sem] theorem cx66_r (n : Nat) : (cx66 n).rounds = n := nr rfl
theorem ev66 (n : Int) : evalFn (cx66 3) [.mv, .ro 1] Try.f66 [.sl .mut 1 [], .i .i64 n] = some (.i .i64 n, [.sl .mut 1 [], .u]) := by
  rw [evalFn_eq _ _ Try.f66 _ _ _ rfl rfl]
  simp only [go_sem, reduceIte, ↓reduceIte, Nat.reduceAdd, Nat.reduceSub, Nat.reduceMul, Nat.reduceBEq, Nat.reduceEqDiff, Nat.reduceLeDiff, Nat.reduceLT, Nat.reduceBneDiff, Nat.add_zero, Nat.zero_add, List.contains_cons, List.contains_nil, List.elem_cons, List.elem_nil, List.length_cons, List.length_nil, List.map_cons, List.map_nil, List.all_cons, List.all_nil, List.any_cons, List.any_nil, List.getElem?_cons_zero, List.getElem?_cons_succ, List.getElem?_nil, List.getD_cons_zero, List.getD_cons_succ, List.append_nil, List.nil_append, List.cons_append, List.isEmpty_cons, List.isEmpty_nil, List.headD_cons, List.headD_nil, List.tail_cons, List.tail_nil, List.take_nil, List.drop_nil, Bool.and_true, Bool.true_and, Bool.or_false, Bool.or_true, Bool.false_or, Bool.true_or, Bool.not_true, Bool.not_false, Bool.and_false, Bool.false_and, Bool.false_eq_true, Bool.true_eq_false, Bool.and_self, Bool.not_not, decide_true, decide_false, decide_eq_true_eq, beq_self_eq_true, Nat.le_refl, Nat.zero_le, and_self, true_and, and_true, false_and, and_false, or_true, true_or, if_true, if_false, Option.map_some, Option.map_none, Option.isSome_none, Option.isSome_some, eq_self_iff_true, not_true_eq_false, not_false_eq_true, ne_eq, reduceCtorEq, Nat.not_lt_zero, Nat.succ_ne_zero, List.set_cons_zero, List.set_cons_succ, Int.reduceLE, Int.reduceLT, Int.reduceEq, Int.reduceAdd, Int.reduceMul, Int.reduceSub, Int.reduceNeg, Int.reduceTMod, Int.reduceTDiv, Int.reduceBEq, Int.reduceBNe, Int.reduceToNat, Int.reduceNe, gt_iff_lt, ge_iff_le, List.take_succ_cons, List.take_zero, List.drop_zero, List.drop_succ_cons, strOf, ba_size, ba_append, ba_empty, List.length_append, loopE_succ, w49, w50, v49, v50, w0, w1, w2, w3, idx10, c0, c1]
def fns67 : Nat → Option FS
  | 97 => some ⟨[.ro 1], F97, false⟩
  | _ => none
@[go_sem] theorem fns67_97 : fns67 97 = some ⟨[.ro 1], F97, false⟩ := nr rfl
theorem fns67_ok : ∀ g fs, fns67 g = some fs → VSpec Try.prog g fs := by
  intro g fs h
  unfold fns67 at h
  split at h
  · injection h with h; subst h; exact spec97
  · cases h
def cx67 (n : Nat) : Cx := { T := T, fns := fns67, cuts := fun _ => [], vars := some ([0, 1, 4, 5, 9, 19, 29], []), live := fun _ => some ([0, 1, 4, 5], []), al := [], rounds := n, plan := fun _ => some (.take 0 (.take 1 (.take 2 (.take 3 (.take 4 (.take 5 (.one 6 (.one 7 .done)))))))) }
@[go_sem] theorem cx67_T (n : Nat) : (cx67 n).T = T := nr rfl
@[go_sem] theorem cx67_f (n : Nat) : (cx67 n).fns = fns67 := nr rfl
@[go_sem] theorem cx67_c (n k : Nat) : (cx67 n).cuts k = (fun _ => []) k := nr rfl
@[go_sem] theorem cx67_v (n : Nat) : (cx67 n).vars = some ([0, 1, 4, 5, 9, 19, 29], []) := nr rfl
@[go_sem] theorem cx67_l (n k : Nat) : (cx67 n).live k = (fun _ => some ([0, 1, 4, 5], [])) k := nr rfl
@[go_sem] theorem cx67_a (n : Nat) : (cx67 n).al = [] := nr rfl
@[go_sem] theorem cx67_p (n k : Nat) : (cx67 n).plan k = (fun _ => some (.take 0 (.take 1 (.take 2 (.take 3 (.take 4 (.take 5 (.one 6 (.one 7 .done))))))))) k := nr rfl
@[go_sem] theorem cx67_r (n : Nat) : (cx67 n).rounds = n := nr rfl
theorem ev67a  : evalFn (cx67 3) [.ro 1, .ro 1] Try.f67 [.sl .ro 2 [[.s m1, .s m2]], .i .i64 1] = some (.i .i64 3, [.u, .u]) := by
  rw [evalFn_eq _ _ Try.f67 _ _ _ rfl rfl]
  simp only [go_sem, reduceIte, ↓reduceIte, Nat.reduceAdd, Nat.reduceSub, Nat.reduceMul, Nat.reduceBEq, Nat.reduceEqDiff, Nat.reduceLeDiff, Nat.reduceLT, Nat.reduceBneDiff, Nat.add_zero, Nat.zero_add, List.contains_cons, List.contains_nil, List.elem_cons, List.elem_nil, List.length_cons, List.length_nil, List.map_cons, List.map_nil, List.all_cons, List.all_nil, List.any_cons, List.any_nil, List.getElem?_cons_zero, List.getElem?_cons_succ, List.getElem?_nil, List.getD_cons_zero, List.getD_cons_succ, List.append_nil, List.nil_append, List.cons_append, List.isEmpty_cons, List.isEmpty_nil, List.headD_cons, List.headD_nil, List.tail_cons, List.tail_nil, List.take_nil, List.drop_nil, Bool.and_true, Bool.true_and, Bool.or_false, Bool.or_true, Bool.false_or, Bool.true_or, Bool.not_true, Bool.not_false, Bool.and_false, Bool.false_and, Bool.false_eq_true, Bool.true_eq_false, Bool.and_self, Bool.not_not, decide_true, decide_false, decide_eq_true_eq, beq_self_eq_true, Nat.le_refl, Nat.zero_le, and_self, true_and, and_true, false_and, and_false, or_true, true_or, if_true, if_false, Option.map_some, Option.map_none, Option.isSome_none, Option.isSome_some, eq_self_iff_true, not_true_eq_false, not_false_eq_true, ne_eq, reduceCtorEq, Nat.not_lt_zero, Nat.succ_ne_zero, List.set_cons_zero, List.set_cons_succ, Int.reduceLE, Int.reduceLT, Int.reduceEq, Int.reduceAdd, Int.reduceMul, Int.reduceSub, Int.reduceNeg, Int.reduceTMod, Int.reduceTDiv, Int.reduceBEq, Int.reduceBNe, Int.reduceToNat, Int.reduceNe, gt_iff_lt, ge_iff_le, List.take_succ_cons, List.take_zero, List.drop_zero, List.drop_succ_cons, strOf, ba_size, ba_append, ba_empty, List.length_append, loopE_succ, w49, w50, v49, v50, w0, w1, w2, w3, idx10, c0, c1, bne_self_eq_false]
theorem ev67b  : evalFn (cx67 3) [.ro 1, .ro 1] Try.f67 [.sl .ro 2 [], .i .i64 1] = some (.i .i64 1, [.u, .u]) := by
  rw [evalFn_eq _ _ Try.f67 _ _ _ rfl rfl]
  simp only [go_sem, reduceIte, ↓reduceIte, Nat.reduceAdd, Nat.reduceSub, Nat.reduceMul, Nat.reduceBEq, Nat.reduceEqDiff, Nat.reduceLeDiff, Nat.reduceLT, Nat.reduceBneDiff, Nat.add_zero, Nat.zero_add, List.contains_cons, List.contains_nil, List.elem_cons, List.elem_nil, List.length_cons, List.length_nil, List.map_cons, List.map_nil, List.all_cons, List.all_nil, List.any_cons, List.any_nil, List.getElem?_cons_zero, List.getElem?_cons_succ, List.getElem?_nil, List.getD_cons_zero, List.getD_cons_succ, List.append_nil, List.nil_append, List.cons_append, List.isEmpty_cons, List.isEmpty_nil, List.headD_cons, List.headD_nil, List.tail_cons, List.tail_nil, List.take_nil, List.drop_nil, Bool.and_true, Bool.true_and, Bool.or_false, Bool.or_true, Bool.false_or, Bool.true_or, Bool.not_true, Bool.not_false, Bool.and_false, Bool.false_and, Bool.false_eq_true, Bool.true_eq_false, Bool.and_self, Bool.not_not, decide_true, decide_false, decide_eq_true_eq, beq_self_eq_true, Nat.le_refl, Nat.zero_le, and_self, true_and, and_true, false_and, and_false, or_true, true_or, if_true, if_false, Option.map_some, Option.map_none, Option.isSome_none, Option.isSome_some, eq_self_iff_true, not_true_eq_false, not_false_eq_true, ne_eq, reduceCtorEq, Nat.not_lt_zero, Nat.succ_ne_zero, List.set_cons_zero, List.set_cons_succ, Int.reduceLE, Int.reduceLT, Int.reduceEq, Int.reduceAdd, Int.reduceMul, Int.reduceSub, Int.reduceNeg, Int.reduceTMod, Int.reduceTDiv, Int.reduceBEq, Int.reduceBNe, Int.reduceToNat, Int.reduceNe, gt_iff_lt, ge_iff_le, List.take_succ_cons, List.take_zero, List.drop_zero, List.drop_succ_cons, strOf, ba_size, ba_append, ba_empty, List.length_append, loopE_succ, w49, w50, v49, v50, w0, w1, w2, w3, idx10, c0, c1]
def cx68 (n : Nat) : Cx := { T := T, fns := fun _ => none, cuts := fun _ => [], vars := some ([0, 1, 4, 5, 9, 18], []), live := fun _ => some ([0, 1, 4, 5], []), al := [], rounds := n, plan := fun _ => none }
@[go_sem] theorem cx68_T (n : Nat) : (cx68 n).T = T := nr rfl
@[go_sem] theorem cx68_f (n : Nat) : (cx68 n).fns = fun _ => none := nr rfl
@[go_sem] theorem cx68_c (n k : Nat) : (cx68 n).cuts k = (fun _ => []) k := nr rfl
@[go_sem] theorem cx68_v (n : Nat) : (cx68 n).vars = some ([0, 1, 4, 5, 9, 18], []) := nr rfl
@[go_sem] theorem cx68_l (n k : Nat) : (cx68 n).live k = (fun _ => some ([0, 1, 4, 5], [])) k := nr rfl
@[go_sem] theorem cx68_a (n : Nat) : (cx68 n).al = [] := nr rfl
@[go_sem] theorem cx68_p (n k : Nat) : (cx68 n).plan k = (fun _ => none) k := nr rfl
@[go_sem] theorem cx68_r (n : Nat) : (cx68 n).rounds = n := nr rfl
theorem ev68 (n : Int) : evalFn (cx68 3) [.ro 1, .ro 1] Try.f68 [.sl .ro 1 [], .i .i64 n] = some (.i .i64 n, [.u, .u]) := by
  rw [evalFn_eq _ _ Try.f68 _ _ _ rfl rfl]
  simp only [go_sem, reduceIte, ↓reduceIte, Nat.reduceAdd, Nat.reduceSub, Nat.reduceMul, Nat.reduceBEq, Nat.reduceEqDiff, Nat.reduceLeDiff, Nat.reduceLT, Nat.reduceBneDiff, Nat.add_zero, Nat.zero_add, List.contains_cons, List.contains_nil, List.elem_cons, List.elem_nil, List.length_cons, List.length_nil, List.map_cons, List.map_nil, List.all_cons, List.all_nil, List.any_cons, List.any_nil, List.getElem?_cons_zero, List.getElem?_cons_succ, List.getElem?_nil, List.getD_cons_zero, List.getD_cons_succ, List.append_nil, List.nil_append, List.cons_append, List.isEmpty_cons, List.isEmpty_nil, List.headD_cons, List.headD_nil, List.tail_cons, List.tail_nil, List.take_nil, List.drop_nil, Bool.and_true, Bool.true_and, Bool.or_false, Bool.or_true, Bool.false_or, Bool.true_or, Bool.not_true, Bool.not_false, Bool.and_false, Bool.false_and, Bool.false_eq_true, Bool.true_eq_false, Bool.and_self, Bool.not_not, decide_true, decide_false, decide_eq_true_eq, beq_self_eq_true, Nat.le_refl, Nat.zero_le, and_self, true_and, and_true, false_and, and_false, or_true, true_or, if_true, if_false, Option.map_some, Option.map_none, Option.isSome_none, Option.isSome_some, eq_self_iff_true, not_true_eq_false, not_false_eq_true, ne_eq, reduceCtorEq, Nat.not_lt_zero, Nat.succ_ne_zero, List.set_cons_zero, List.set_cons_succ, Int.reduceLE, Int.reduceLT, Int.reduceEq, Int.reduceAdd, Int.reduceMul, Int.reduceSub, Int.reduceNeg, Int.reduceTMod, Int.reduceTDiv, Int.reduceBEq, Int.reduceBNe, Int.reduceToNat, Int.reduceNe, gt_iff_lt, ge_iff_le, List.take_succ_cons, List.take_zero, List.drop_zero, List.drop_succ_cons, strOf, ba_size, ba_append, ba_empty, List.length_append, loopE_succ, w49, w50, v49, v50, w0, w1, w2, w3, idx10, c0, c1]
end Go.Vm.A
set_option autoImplicit false
set_option maxRecDepth 100000
set_option maxHeartbeats 4000000
set_option linter.unusedSimpArgs false
set_option linter.unusedVariables false
namespace Go.Vm.A
open Go.Proofs

theorem no_fns : ∀ g fs, (fun _ : Nat => (none : Option FS)) g = some fs → VSpec Try.prog g fs := fun g fs h => by cases h
theorem no_ro {a b : AV} (ha : hasRo a = false) (hb : hasRo b = false) : ∀ o ∈ [a, b], hasRo o = false := by
  intro o ho
  rcases List.mem_cons.1 ho with rfl | ho
  · exact ha
  · rcases List.mem_cons.1 ho with rfl | ho
    · exact hb
    · cases ho
theorem no_ro1 {a : AV} (ha : hasRo a = false) : ∀ o ∈ [a], hasRo o = false := by
  intro o ho
  rcases List.mem_cons.1 ho with rfl | ho
  · exact ha
  · cases ho
def F64 : List AV → Option (AV × List AV)
  | [.sl .ro 1 [], .sl .ro 1 []] => some (.b true, [.u, .u])
  | _ => none
@[go_sem] theorem F64_eq : F64 [.sl .ro 1 [], .sl .ro 1 []] = some (.b true, [.u, .u]) := nr rfl
theorem spec64 : VSpec Try.prog 64 ⟨[.ro 1, .ro 1], F64, false⟩ := by
  refine spec_ro (cx := cx64 0) (f := Try.f64) rfl no_fns Try.func64 (by decide) rfl (by kernel_rfl) (by decide) (by decide) ?_
  intro xs r os hF
  unfold F64 at hF
  split at hF
  · injection hF with hF; injection hF with e1 e2; subst e1 e2
    exact ⟨⟨3, ev64⟩, rfl, no_ro rfl rfl⟩
  · cases hF
def F66 : List AV → Option (AV × List AV)
  | [.sl .mut 1 [], .i .i64 n] => some (.i .i64 n, [.sl .mut 1 [], .u])
  | _ => none
@[go_sem] theorem F66_eq (n : Int) : F66 [.sl .mut 1 [], .i .i64 n] = some (.i .i64 n, [.sl .mut 1 [], .u]) := nr rfl
theorem spec66 : VSpec Try.prog 66 ⟨[.mv, .ro 1], F66, false⟩ := by
  refine spec_any (cx := cx66 0) (f := Try.f66) rfl no_fns Try.func66 (by decide) rfl (by kernel_rfl) (by decide) (by decide) ?_
  intro xs r os hF
  unfold F66 at hF
  split at hF
  · injection hF with hF; injection hF with e1 e2; subst e1 e2
    exact ⟨⟨3, ev66 _⟩, rfl, no_ro rfl rfl⟩
  · cases hF
def F67 : List AV → Option (AV × List AV)
  | [.sl .ro 2 [], .i .i64 n] => if n = 1 then some (.i .i64 1, [.u, .u]) else none
  | [.sl .ro 2 [[.s a, .s b]], .i .i64 n] => if (a = m1 ∧ b = m2) ∧ n = 1 then some (.i .i64 3, [.u, .u]) else none
  | _ => none
@[go_sem] theorem F67_0 : F67 [.sl .ro 2 [], .i .i64 1] = some (.i .i64 1, [.u, .u]) := nr rfl
@[go_sem] theorem F67_1 : F67 [.sl .ro 2 [[.s m1, .s m2]], .i .i64 1] = some (.i .i64 3, [.u, .u]) := by unfold F67; simp
theorem spec67 : VSpec Try.prog 67 ⟨[.ro 1, .ro 1], F67, false⟩ := by
  refine spec_ro (cx := cx67 0) (f := Try.f67) rfl fns67_ok Try.func67 (by decide) rfl (by kernel_rfl) (by decide) (by decide) ?_
  intro xs r os hF
  unfold F67 at hF
  split at hF
  · split at hF
    · rename_i h; subst h
      injection hF with hF; injection hF with e1 e2; subst e1 e2
      exact ⟨⟨3, ev67b⟩, rfl, no_ro rfl rfl⟩
    · cases hF
  · split at hF
    · rename_i h; obtain ⟨⟨rfl, rfl⟩, rfl⟩ := h
      injection hF with hF; injection hF with e1 e2; subst e1 e2
      exact ⟨⟨3, ev67a⟩, rfl, no_ro rfl rfl⟩
    · cases hF
  · cases hF
def F68 : List AV → Option (AV × List AV)
  | [.sl .ro 1 [], .i .i64 n] => some (.i .i64 n, [.u, .u])
  | _ => none
@[go_sem] theorem F68_eq (n : Int) : F68 [.sl .ro 1 [], .i .i64 n] = some (.i .i64 n, [.u, .u]) := nr rfl
theorem spec68 : VSpec Try.prog 68 ⟨[.ro 1, .ro 1], F68, false⟩ := by
  refine spec_ro (cx := cx68 0) (f := Try.f68) rfl no_fns Try.func68 (by decide) rfl (by kernel_rfl) (by decide) (by decide) ?_
  intro xs r os hF
  unfold F68 at hF
  split at hF
  · injection hF with hF; injection hF with e1 e2; subst e1 e2
    exact ⟨⟨3, ev68 _⟩, rfl, no_ro rfl rfl⟩
  · cases hF
def F63 : List AV → Option (AV × List AV)
  | [.sl .ro 2 x, .sl .ro 2 y] => match unH x, unH y with
    | some a, some b => if a.length ≤ 281474976710656 then some (.b (eqHs a b), [.u, .u]) else none
    | _, _ => none
  | _ => none
theorem F63_eq (a b : List H) (h : a.length ≤ 281474976710656) : F63 [.sl .ro 2 (hrows a), .sl .ro 2 (hrows b)] = some (.b (eqHs a b), [.u, .u]) := by unfold F63; simp only [unH_mk, if_pos h]
theorem fns63_ok : ∀ g fs, fns63 g = some fs → VSpec Try.prog g fs := by
  intro g fs h
  unfold fns63 at h
  split at h
  · injection h with h; subst h; exact spec96
  · cases h
theorem spec63 : VSpec Try.prog 63 ⟨[.ro 1, .ro 1], F63, false⟩ := by
  refine spec_ro (cx := cx63 0) (f := Try.f63) rfl fns63_ok Try.func63 (by decide) rfl (by kernel_rfl) (by decide) (by decide) ?_
  intro xs r os hF
  unfold F63 at hF
  split at hF
  · split at hF
    · rename_i a b h1 h2
      split at hF
      · rename_i h
        injection hF with hF; injection hF with e1 e2; subst e1 e2
        rw [unH_s h1, unH_s h2]
        exact ⟨⟨a.length + 1, ev63 _ a b h (Nat.le_refl _)⟩, rfl, no_ro rfl rfl⟩
      · cases hF
    · cases hF
  · cases hF
/- 35 is as 33 -/
def cx35 (n : Nat) : Cx := { T := T, fns := fun _ => none, cuts := fun _ => [], vars := some ([0, 1, 2, 6], []), live := fun _ => none, al := [], rounds := n, plan := fun _ => none }
@[go_sem] theorem cx35_T (n : Nat) : (cx35 n).T = T := nr rfl
@[go_sem] theorem cx35_f (n : Nat) : (cx35 n).fns = fun _ => none := nr rfl
@[go_sem] theorem cx35_c (n k : Nat) : (cx35 n).cuts k = (fun _ => []) k := nr rfl
@[go_sem] theorem cx35_v (n : Nat) : (cx35 n).vars = some ([0, 1, 2, 6], []) := nr rfl
@[go_sem] theorem cx35_l (n k : Nat) : (cx35 n).live k = (fun _ => none) k := nr rfl
@[go_sem] theorem cx35_a (n : Nat) : (cx35 n).al = [] := nr rfl
@[go_sem] theorem cx35_p (n k : Nat) : (cx35 n).plan k = (fun _ => none) k := nr rfl
@[go_sem] theorem cx35_r (n : Nat) : (cx35 n).rounds = n := nr rfl

theorem ev35 (n : Nat) (a b c : Int) : evalFn (cx35 n) [.ro 1, .ro 1, .ro 1] Try.f35 [.i .i64 a, .i .i64 b, .i .i64 c] = some (.b (decide (b ≤ a) && decide (a ≤ c)), [.u, .u, .u]) := by
  rw [evalFn_eq _ _ Try.f35 _ _ _ rfl rfl]
  simp only [go_sem, reduceIte, ↓reduceIte, Nat.reduceAdd, Nat.reduceSub, Nat.reduceMul, Nat.reduceBEq, Nat.reduceEqDiff, Nat.reduceLeDiff, Nat.reduceLT, Nat.reduceBneDiff, Nat.add_zero, Nat.zero_add, List.contains_cons, List.contains_nil, List.elem_cons, List.elem_nil, List.length_cons, List.length_nil, List.map_cons, List.map_nil, List.all_cons, List.all_nil, List.any_cons, List.any_nil, List.getElem?_cons_zero, List.getElem?_cons_succ, List.getElem?_nil, List.getD_cons_zero, List.getD_cons_succ, List.append_nil, List.nil_append, List.cons_append, List.isEmpty_cons, List.isEmpty_nil, List.headD_cons, List.headD_nil, List.tail_cons, List.tail_nil, List.take_nil, List.drop_nil, Bool.and_true, Bool.true_and, Bool.or_false, Bool.or_true, Bool.false_or, Bool.true_or, Bool.not_true, Bool.not_false, Bool.and_false, Bool.false_and, Bool.false_eq_true, Bool.true_eq_false, Bool.and_self, Bool.not_not, decide_true, decide_false, decide_eq_true_eq, beq_self_eq_true, Nat.le_refl, Nat.zero_le, and_self, true_and, and_true, false_and, and_false, or_true, true_or, if_true, if_false, Option.map_some, Option.map_none, Option.isSome_none, Option.isSome_some, eq_self_iff_true, not_true_eq_false, not_false_eq_true, ne_eq, reduceCtorEq, Nat.not_lt_zero, Nat.succ_ne_zero]
  by_cases h : b ≤ a <;> simp [h]
@[go_sem] theorem F33_eq (a b c : Int) : F33 [.i .i64 a, .i .i64 b, .i .i64 c] = some (.b (decide (b ≤ a) && decide (a ≤ c)), [.u, .u, .u]) := nr rfl
abbrev F35 := F33
theorem spec35 : VSpec Try.prog 35 ⟨[.ro 1, .ro 1, .ro 1], F35, false⟩ := by
  refine spec_ro (cx := cx35 0) (f := Try.f35) rfl no_fns Try.func35 (by decide) rfl (by kernel_rfl) (by decide) (by decide) ?_
  intro xs r os hF
  unfold F35 F33 at hF
  split at hF
  · injection hF with hF; injection hF with h1 h2; subst h1 h2
    exact ⟨⟨0, ev35 0 _ _ _⟩, rfl, by decide⟩
  · cases hF
def cx34 (n : Nat) : Cx := { T := T, fns := fun _ => none, cuts := fun _ => [], vars := some ([0, 2], [2]), live := fun _ => none, al := [], rounds := n, plan := fun _ => none }
@[go_sem] theorem cx34_T (n : Nat) : (cx34 n).T = T := nr rfl
@[go_sem] theorem cx34_f (n : Nat) : (cx34 n).fns = fun _ => none := nr rfl
@[go_sem] theorem cx34_c (n k : Nat) : (cx34 n).cuts k = (fun _ => []) k := nr rfl
@[go_sem] theorem cx34_v (n : Nat) : (cx34 n).vars = some ([0, 2], [2]) := nr rfl
@[go_sem] theorem cx34_l (n k : Nat) : (cx34 n).live k = (fun _ => none) k := nr rfl
@[go_sem] theorem cx34_a (n : Nat) : (cx34 n).al = [] := nr rfl
@[go_sem] theorem cx34_p (n k : Nat) : (cx34 n).plan k = (fun _ => none) k := nr rfl
@[go_sem] theorem cx34_r (n : Nat) : (cx34 n).rounds = n := nr rfl
abbrev x1 : ByteArray := ⟨#[88, 45, 67, 97, 99, 104, 101]⟩
abbrev x2 : ByteArray := ⟨#[101, 114, 114, 111, 114]⟩
theorem ev34 (s : Int) : evalFn (cx34 0) [.ro 1] Try.f34 [.i .i64 s] = some (.agg [.i .i64 s, .sl .mut 2 [[.s x1, .s x2]], .sl .mut 1 []], [.u]) := by
  rw [evalFn_eq _ _ Try.f34 _ _ _ rfl rfl]
  simp only [go_sem, reduceIte, ↓reduceIte, Nat.reduceAdd, Nat.reduceSub, Nat.reduceMul, Nat.reduceBEq, Nat.reduceEqDiff, Nat.reduceLeDiff, Nat.reduceLT, Nat.reduceBneDiff, Nat.add_zero, Nat.zero_add, List.contains_cons, List.contains_nil, List.elem_cons, List.elem_nil, List.length_cons, List.length_nil, List.map_cons, List.map_nil, List.all_cons, List.all_nil, List.any_cons, List.any_nil, List.getElem?_cons_zero, List.getElem?_cons_succ, List.getElem?_nil, List.getD_cons_zero, List.getD_cons_succ, List.append_nil, List.nil_append, List.cons_append, List.isEmpty_cons, List.isEmpty_nil, List.headD_cons, List.headD_nil, List.tail_cons, List.tail_nil, List.take_nil, List.drop_nil, Bool.and_true, Bool.true_and, Bool.or_false, Bool.or_true, Bool.false_or, Bool.true_or, Bool.not_true, Bool.not_false, Bool.and_false, Bool.false_and, Bool.false_eq_true, Bool.true_eq_false, Bool.and_self, Bool.not_not, decide_true, decide_false, decide_eq_true_eq, beq_self_eq_true, Nat.le_refl, Nat.zero_le, and_self, true_and, and_true, false_and, and_false, or_true, true_or, if_true, if_false, Option.map_some, Option.map_none, Option.isSome_none, Option.isSome_some, eq_self_iff_true, not_true_eq_false, not_false_eq_true, ne_eq, reduceCtorEq, Nat.not_lt_zero, Nat.succ_ne_zero, List.set_cons_zero, List.set_cons_succ, Int.reduceLE, Int.reduceLT, Int.reduceEq, Int.reduceAdd, Int.reduceMul, Int.reduceSub, Int.reduceNeg, Int.reduceTMod, Int.reduceTDiv, Int.reduceBEq, Int.reduceBNe, Int.reduceToNat, Int.reduceNe, gt_iff_lt, ge_iff_le, List.take_succ_cons, List.take_zero, List.drop_zero, List.drop_succ_cons, strOf, ba_size, ba_append, ba_empty, List.length_append, w49, w50, v49, v50, w0, w1, w2, w3, idx10, c0, c1]
end Go.Vm.A
set_option autoImplicit false
set_option maxRecDepth 100000
set_option maxHeartbeats 4000000
set_option linter.unusedSimpArgs false
set_option linter.unusedVariables false
namespace Go.Vm.A
open Go.Proofs

def F34 : List AV → Option (AV × List AV)
  | [.i .i64 s] => some (.agg [.i .i64 s, .sl .mut 2 [[.s x1, .s x2]], .sl .mut 1 []], [.u])
  | _ => none
@[go_sem] theorem F34_eq (s : Int) : F34 [.i .i64 s] = some (.agg [.i .i64 s, .sl .mut 2 [[.s x1, .s x2]], .sl .mut 1 []], [.u]) := nr rfl
theorem spec34 : VSpec Try.prog 34 ⟨[.ro 1], F34, false⟩ := by
  refine spec_ro (cx := cx34 0) (f := Try.f34) rfl no_fns Try.func34 (by decide) rfl (by kernel_rfl) (by decide) (by decide) ?_
  intro xs r os hF
  unfold F34 at hF
  split at hF
  · injection hF with hF; injection hF with e1 e2; subst e1 e2
    exact ⟨⟨0, ev34 _⟩, rfl, no_ro1 rfl⟩
  · cases hF
def fns36 : Nat → Option FS
  | 63 => some ⟨[.ro 1, .ro 1], F63, false⟩
  | 64 => some ⟨[.ro 1, .ro 1], F64, false⟩
  | _ => none
@[go_sem] theorem fns36_63 : fns36 63 = some ⟨[.ro 1, .ro 1], F63, false⟩ := nr rfl
@[go_sem] theorem fns36_64 : fns36 64 = some ⟨[.ro 1, .ro 1], F64, false⟩ := nr rfl
theorem fns36_ok : ∀ g fs, fns36 g = some fs → VSpec Try.prog g fs := by
  intro g fs h
  unfold fns36 at h
  split at h
  · injection h with h; subst h; exact spec63
  · injection h with h; subst h; exact spec64
  · cases h
def cx36 (n : Nat) : Cx := { T := T, fns := fns36, cuts := fun _ => [], vars := some ([0, 1, 2, 3, 4, 9, 15, 21], [2, 3]), live := fun _ => none, al := [], rounds := n, plan := fun _ => none }
@[go_sem] theorem cx36_T (n : Nat) : (cx36 n).T = T := nr rfl
@[go_sem] theorem cx36_f (n : Nat) : (cx36 n).fns = fns36 := nr rfl
@[go_sem] theorem cx36_c (n k : Nat) : (cx36 n).cuts k = (fun _ => []) k := nr rfl
@[go_sem] theorem cx36_v (n : Nat) : (cx36 n).vars = some ([0, 1, 2, 3, 4, 9, 15, 21], [2, 3]) := nr rfl
@[go_sem] theorem cx36_l (n k : Nat) : (cx36 n).live k = (fun _ => none) k := nr rfl
@[go_sem] theorem cx36_a (n : Nat) : (cx36 n).al = [] := nr rfl
@[go_sem] theorem cx36_p (n k : Nat) : (cx36 n).plan k = (fun _ => none) k := nr rfl
@[go_sem] theorem cx36_r (n : Nat) : (cx36 n).rounds = n := nr rfl
theorem ev36 (s t : Int) (a b : List H) (h : a.length ≤ 281474976710656) : evalFn (cx36 0) [.ro 1, .ro 1] Try.f36 [.agg [.i .i64 s, .sl .ro 2 (hrows a), .sl .ro 1 []], .agg [.i .i64 t, .sl .ro 2 (hrows b), .sl .ro 1 []]] = some (.b (s == t && eqHs a b), [.u, .u]) := by
  rw [evalFn_eq _ _ Try.f36 _ _ _ rfl rfl]
  simp only [go_sem, reduceIte, ↓reduceIte, Nat.reduceAdd, Nat.reduceSub, Nat.reduceMul, Nat.reduceBEq, Nat.reduceEqDiff, Nat.reduceLeDiff, Nat.reduceLT, Nat.reduceBneDiff, Nat.add_zero, Nat.zero_add, List.contains_cons, List.contains_nil, List.elem_cons, List.elem_nil, List.length_cons, List.length_nil, List.map_cons, List.map_nil, List.all_cons, List.all_nil, List.any_cons, List.any_nil, List.getElem?_cons_zero, List.getElem?_cons_succ, List.getElem?_nil, List.getD_cons_zero, List.getD_cons_succ, List.append_nil, List.nil_append, List.cons_append, List.isEmpty_cons, List.isEmpty_nil, List.headD_cons, List.headD_nil, List.tail_cons, List.tail_nil, List.take_nil, List.drop_nil, Bool.and_true, Bool.true_and, Bool.or_false, Bool.or_true, Bool.false_or, Bool.true_or, Bool.not_true, Bool.not_false, Bool.and_false, Bool.false_and, Bool.false_eq_true, Bool.true_eq_false, Bool.and_self, Bool.not_not, decide_true, decide_false, decide_eq_true_eq, beq_self_eq_true, Nat.le_refl, Nat.zero_le, and_self, true_and, and_true, false_and, and_false, or_true, true_or, if_true, if_false, Option.map_some, Option.map_none, Option.isSome_none, Option.isSome_some, eq_self_iff_true, not_true_eq_false, not_false_eq_true, ne_eq, reduceCtorEq, Nat.not_lt_zero, Nat.succ_ne_zero, List.set_cons_zero, List.set_cons_succ, Int.reduceLE, Int.reduceLT, Int.reduceEq, Int.reduceAdd, Int.reduceMul, Int.reduceSub, Int.reduceNeg, Int.reduceTMod, Int.reduceTDiv, Int.reduceBEq, Int.reduceBNe, Int.reduceToNat, Int.reduceNe, gt_iff_lt, ge_iff_le, List.take_succ_cons, List.take_zero, List.drop_zero, List.drop_succ_cons, strOf, ba_size, ba_append, ba_empty, List.length_append, w49, w50, v49, v50, w0, w1, w2, w3, idx10, c0, c1, F63_eq a b h]
  by_cases h1 : s = t <;> cases eqHs a b <;> simp [h1]
def F36 : List AV → Option (AV × List AV)
  | [.agg [.i .i64 s, .sl .ro 2 x, .sl .ro 1 []], .agg [.i .i64 t, .sl .ro 2 y, .sl .ro 1 []]] => match unH x, unH y with
    | some a, some b => if a.length ≤ 281474976710656 then some (.b (s == t && eqHs a b), [.u, .u]) else none
    | _, _ => none
  | _ => none
theorem F36_eq (s t : Int) (a b : List H) (h : a.length ≤ 281474976710656) : F36 [.agg [.i .i64 s, .sl .ro 2 (hrows a), .sl .ro 1 []], .agg [.i .i64 t, .sl .ro 2 (hrows b), .sl .ro 1 []]] = some (.b (s == t && eqHs a b), [.u, .u]) := by unfold F36; simp only [unH_mk, if_pos h]
theorem spec36 : VSpec Try.prog 36 ⟨[.ro 1, .ro 1], F36, false⟩ := by
  refine spec_ro (cx := cx36 0) (f := Try.f36) rfl fns36_ok Try.func36 (by decide) rfl (by kernel_rfl) (by decide) (by decide) ?_
  intro xs r os hF
  unfold F36 at hF
  split at hF
  · split at hF
    · rename_i a b h1 h2
      split at hF
      · rename_i h
        injection hF with hF; injection hF with e1 e2; subst e1 e2
        rw [unH_s h1, unH_s h2]
        exact ⟨⟨0, ev36 _ _ a b h⟩, rfl, no_ro rfl rfl⟩
      · cases hF
    · cases hF
  · cases hF
def fns10 : Nat → Option FS
  | 36 => some ⟨[.ro 1, .ro 1], F36, false⟩
  | _ => none
@[go_sem] theorem fns10_36 : fns10 36 = some ⟨[.ro 1, .ro 1], F36, false⟩ := nr rfl
theorem fns10_ok : ∀ g fs, fns10 g = some fs → VSpec Try.prog g fs := by
  intro g fs h
  unfold fns10 at h
  split at h
  · injection h with h; subst h; exact spec36
  · cases h
def cx10 (n : Nat) : Cx := { T := T, fns := fns10, cuts := fun _ => [], vars := some ([0, 1, 2, 3, 4, 9, 15], [2, 3]), live := fun _ => none, al := [], rounds := n, plan := fun _ => none }
@[go_sem] theorem cx10_T (n : Nat) : (cx10 n).T = T := nr rfl
@[go_sem] theorem cx10_f (n : Nat) : (cx10 n).fns = fns10 := nr rfl
@[go_sem] theorem cx10_c (n k : Nat) : (cx10 n).cuts k = (fun _ => []) k := nr rfl
@[go_sem] theorem cx10_v (n : Nat) : (cx10 n).vars = some ([0, 1, 2, 3, 4, 9, 15], [2, 3]) := nr rfl
@[go_sem] theorem cx10_l (n k : Nat) : (cx10 n).live k = (fun _ => none) k := nr rfl
@[go_sem] theorem cx10_a (n : Nat) : (cx10 n).al = [] := nr rfl
@[go_sem] theorem cx10_p (n k : Nat) : (cx10 n).plan k = (fun _ => none) k := nr rfl
@[go_sem] theorem cx10_r (n : Nat) : (cx10 n).rounds = n := nr rfl
theorem ev10 (c d s t : Int) (a b : List H) (h : a.length ≤ 281474976710656) : evalFn (cx10 0) [.ro 1, .ro 1] Try.f10 [.agg [.i .i64 c, .i .i64 s, .sl .ro 2 (hrows a), .sl .ro 1 []], .agg [.i .i64 d, .i .i64 t, .sl .ro 2 (hrows b), .sl .ro 1 []]] = some (.b (c == d && (s == t && eqHs a b)), [.u, .u]) := by
  rw [evalFn_eq _ _ Try.f10 _ _ _ rfl rfl]
  simp only [go_sem, reduceIte, ↓reduceIte, Nat.reduceAdd, Nat.reduceSub, Nat.reduceMul, Nat.reduceBEq, Nat.reduceEqDiff, Nat.reduceLeDiff, Nat.reduceLT, Nat.reduceBneDiff, Nat.add_zero, Nat.zero_add, List.contains_cons, List.contains_nil, List.elem_cons, List.elem_nil, List.length_cons, List.length_nil, List.map_cons, List.map_nil, List.all_cons, List.all_nil, List.any_cons, List.any_nil, List.getElem?_cons_zero, List.getElem?_cons_succ, List.getElem?_nil, List.getD_cons_zero, List.getD_cons_succ, List.append_nil, List.nil_append, List.cons_append, List.isEmpty_cons, List.isEmpty_nil, List.headD_cons, List.headD_nil, List.tail_cons, List.tail_nil, List.take_nil, List.drop_nil, Bool.and_true, Bool.true_and, Bool.or_false, Bool.or_true, Bool.false_or, Bool.true_or, Bool.not_true, Bool.not_false, Bool.and_false, Bool.false_and, Bool.false_eq_true, Bool.true_eq_false, Bool.and_self, Bool.not_not, decide_true, decide_false, decide_eq_true_eq, beq_self_eq_true, Nat.le_refl, Nat.zero_le, and_self, true_and, and_true, false_and, and_false, or_true, true_or, if_true, if_false, Option.map_some, Option.map_none, Option.isSome_none, Option.isSome_some, eq_self_iff_true, not_true_eq_false, not_false_eq_true, ne_eq, reduceCtorEq, Nat.not_lt_zero, Nat.succ_ne_zero, List.set_cons_zero, List.set_cons_succ, Int.reduceLE, Int.reduceLT, Int.reduceEq, Int.reduceAdd, Int.reduceMul, Int.reduceSub, Int.reduceNeg, Int.reduceTMod, Int.reduceTDiv, Int.reduceBEq, Int.reduceBNe, Int.reduceToNat, Int.reduceNe, gt_iff_lt, ge_iff_le, List.take_succ_cons, List.take_zero, List.drop_zero, List.drop_succ_cons, strOf, ba_size, ba_append, ba_empty, List.length_append, w49, w50, v49, v50, w0, w1, w2, w3, idx10, c0, c1, F36_eq s t a b h]
  by_cases h2 : c = d <;> by_cases h1 : s = t <;> cases eqHs a b <;> simp [h1, h2]
def F10 : List AV → Option (AV × List AV)
  | [.agg [.i .i64 c, .i .i64 s, .sl .ro 2 x, .sl .ro 1 []], .agg [.i .i64 d, .i .i64 t, .sl .ro 2 y, .sl .ro 1 []]] => match unH x, unH y with
    | some a, some b => if a.length ≤ 281474976710656 then some (.b (c == d && (s == t && eqHs a b)), [.u, .u]) else none
    | _, _ => none
  | _ => none
theorem spec10 : VSpec Try.prog 10 ⟨[.ro 1, .ro 1], F10, false⟩ := by
  refine spec_ro (cx := cx10 0) (f := Try.f10) rfl fns10_ok Try.func10 (by decide) rfl (by kernel_rfl) (by decide) (by decide) ?_
  intro xs r os hF
  unfold F10 at hF
  split at hF
  · split at hF
    · rename_i a b h1 h2
      split at hF
      · rename_i h
        injection hF with hF; injection hF with e1 e2; subst e1 e2
        rw [unH_s h1, unH_s h2]
        exact ⟨⟨0, ev10 _ _ _ _ a b h⟩, rfl, no_ro rfl rfl⟩
      · cases hF
    · cases hF
  · cases hF
def fns37 : Nat → Option FS
  | 65 => some ⟨[.mv, .ro 1], F65, false⟩
  | 66 => some ⟨[.mv, .ro 1], F66, false⟩
  | _ => none
@[go_sem] theorem fns37_65 : fns37 65 = some ⟨[.mv, .ro 1], F65, false⟩ := nr rfl
@[go_sem] theorem fns37_66 : fns37 66 = some ⟨[.mv, .ro 1], F66, false⟩ := nr rfl
theorem fns37_ok : ∀ g fs, fns37 g = some fs → VSpec Try.prog g fs := by
  intro g fs h
  unfold fns37 at h
  split at h
  · injection h with h; subst h; exact spec65
  · injection h with h; subst h; exact spec66
  · cases h
def cx37 (n : Nat) : Cx := { T := T, fns := fns37, cuts := fun _ => [], vars := some ([0, 1, 2, 4], [2]), live := fun _ => none, al := [2], rounds := n, plan := fun _ => none }
@[go_sem] theorem cx37_T (n : Nat) : (cx37 n).T = T := nr rfl
@[go_sem] theorem cx37_f (n : Nat) : (cx37 n).fns = fns37 := nr rfl
@[go_sem] theorem cx37_c (n k : Nat) : (cx37 n).cuts k = (fun _ => []) k := nr rfl
@[go_sem] theorem cx37_v (n : Nat) : (cx37 n).vars = some ([0, 1, 2, 4], [2]) := nr rfl
@[go_sem] theorem cx37_l (n k : Nat) : (cx37 n).live k = (fun _ => none) k := nr rfl
@[go_sem] theorem cx37_a (n : Nat) : (cx37 n).al = [2] := nr rfl
@[go_sem] theorem cx37_p (n k : Nat) : (cx37 n).plan k = (fun _ => none) k := nr rfl
@[go_sem] theorem cx37_r (n : Nat) : (cx37 n).rounds = n := nr rfl
theorem ev37a (s : Int) : evalFn (cx37 0) [.mv, .ro 1] Try.f37 [.agg [.i .i64 s, .sl .mut 2 [], .sl .mut 1 []], .i .i64 1] = some (.i .i64 1, [.agg [.i .i64 s, .sl .mut 2 [], .sl .mut 1 []], .u]) := by
  rw [evalFn_eq _ _ Try.f37 _ _ _ rfl rfl]
  simp only [go_sem, reduceIte, ↓reduceIte, Nat.reduceAdd, Nat.reduceSub, Nat.reduceMul, Nat.reduceBEq, Nat.reduceEqDiff, Nat.reduceLeDiff, Nat.reduceLT, Nat.reduceBneDiff, Nat.add_zero, Nat.zero_add, List.contains_cons, List.contains_nil, List.elem_cons, List.elem_nil, List.length_cons, List.length_nil, List.map_cons, List.map_nil, List.all_cons, List.all_nil, List.any_cons, List.any_nil, List.getElem?_cons_zero, List.getElem?_cons_succ, List.getElem?_nil, List.getD_cons_zero, List.getD_cons_succ, List.append_nil, List.nil_append, List.cons_append, List.isEmpty_cons, List.isEmpty_nil, List.headD_cons, List.headD_nil, List.tail_cons, List.tail_nil, List.take_nil, List.drop_nil, Bool.and_true, Bool.true_and, Bool.or_false, Bool.or_true, Bool.false_or, Bool.true_or, Bool.not_true, Bool.not_false, Bool.and_false, Bool.false_and, Bool.false_eq_true, Bool.true_eq_false, Bool.and_self, Bool.not_not, decide_true, decide_false, decide_eq_true_eq, beq_self_eq_true, Nat.le_refl, Nat.zero_le, and_self, true_and, and_true, false_and, and_false, or_true, true_or, if_true, if_false, Option.map_some, Option.map_none, Option.isSome_none, Option.isSome_some, eq_self_iff_true, not_true_eq_false, not_false_eq_true, ne_eq, reduceCtorEq, Nat.not_lt_zero, Nat.succ_ne_zero, List.set_cons_zero, List.set_cons_succ, Int.reduceLE, Int.reduceLT, Int.reduceEq, Int.reduceAdd, Int.reduceMul, Int.reduceSub, Int.reduceNeg, Int.reduceTMod, Int.reduceTDiv, Int.reduceBEq, Int.reduceBNe, Int.reduceToNat, Int.reduceNe, gt_iff_lt, ge_iff_le, List.take_succ_cons, List.take_zero, List.drop_zero, List.drop_succ_cons, strOf, ba_size, ba_append, ba_empty, List.length_append, w49, w50, v49, v50, w0, w1, w2, w3, idx10, c0, c1]
theorem ev37b (s : Int) (a b : ByteArray) : evalFn (cx37 0) [.mv, .ro 1] Try.f37 [.agg [.i .i64 s, .sl .mut 2 [[.s a, .s b]], .sl .mut 1 []], .i .i64 1] = some (.i .i64 3, [.agg [.i .i64 s, .sl .mut 2 [[.s m1, .s m2]], .sl .mut 1 []], .u]) := by
  rw [evalFn_eq _ _ Try.f37 _ _ _ rfl rfl]
  simp only [go_sem, reduceIte, ↓reduceIte, Nat.reduceAdd, Nat.reduceSub, Nat.reduceMul, Nat.reduceBEq, Nat.reduceEqDiff, Nat.reduceLeDiff, Nat.reduceLT, Nat.reduceBneDiff, Nat.add_zero, Nat.zero_add, List.contains_cons, List.contains_nil, List.elem_cons, List.elem_nil, List.length_cons, List.length_nil, List.map_cons, List.map_nil, List.all_cons, List.all_nil, List.any_cons, List.any_nil, List.getElem?_cons_zero, List.getElem?_cons_succ, List.getElem?_nil, List.getD_cons_zero, List.getD_cons_succ, List.append_nil, List.nil_append, List.cons_append, List.isEmpty_cons, List.isEmpty_nil, List.headD_cons, List.headD_nil, List.tail_cons, List.tail_nil, List.take_nil, List.drop_nil, Bool.and_true, Bool.true_and, Bool.or_false, Bool.or_true, Bool.false_or, Bool.true_or, Bool.not_true, Bool.not_false, Bool.and_false, Bool.false_and, Bool.false_eq_true, Bool.true_eq_false, Bool.and_self, Bool.not_not, decide_true, decide_false, decide_eq_true_eq, beq_self_eq_true, Nat.le_refl, Nat.zero_le, and_self, true_and, and_true, false_and, and_false, or_true, true_or, if_true, if_false, Option.map_some, Option.map_none, Option.isSome_none, Option.isSome_some, eq_self_iff_true, not_true_eq_false, not_false_eq_true, ne_eq, reduceCtorEq, Nat.not_lt_zero, Nat.succ_ne_zero, List.set_cons_zero, List.set_cons_succ, Int.reduceLE, Int.reduceLT, Int.reduceEq, Int.reduceAdd, Int.reduceMul, Int.reduceSub, Int.reduceNeg, Int.reduceTMod, Int.reduceTDiv, Int.reduceBEq, Int.reduceBNe, Int.reduceToNat, Int.reduceNe, gt_iff_lt, ge_iff_le, List.take_succ_cons, List.take_zero, List.drop_zero, List.drop_succ_cons, strOf, ba_size, ba_append, ba_empty, List.length_append, w49, w50, v49, v50, w0, w1, w2, w3, idx10, c0, c1]
def F37 : List AV → Option (AV × List AV)
  | [.agg [.i .i64 s, .sl .mut 2 [], .sl .mut 1 []], .i .i64 n] => if n = 1 then some (.i .i64 1, [.agg [.i .i64 s, .sl .mut 2 [], .sl .mut 1 []], .u]) else none
  | [.agg [.i .i64 s, .sl .mut 2 [[.s a, .s b]], .sl .mut 1 []], .i .i64 n] => if n = 1 then some (.i .i64 3, [.agg [.i .i64 s, .sl .mut 2 [[.s m1, .s m2]], .sl .mut 1 []], .u]) else none
  | _ => none
@[go_sem] theorem F37_0 (s : Int) : F37 [.agg [.i .i64 s, .sl .mut 2 [], .sl .mut 1 []], .i .i64 1] = some (.i .i64 1, [.agg [.i .i64 s, .sl .mut 2 [], .sl .mut 1 []], .u]) := nr rfl
@[go_sem] theorem F37_1 (s : Int) (a b : ByteArray) : F37 [.agg [.i .i64 s, .sl .mut 2 [[.s a, .s b]], .sl .mut 1 []], .i .i64 1] = some (.i .i64 3, [.agg [.i .i64 s, .sl .mut 2 [[.s m1, .s m2]], .sl .mut 1 []], .u]) := nr rfl
theorem spec37 : VSpec Try.prog 37 ⟨[.mv, .ro 1], F37, false⟩ := by
  refine spec_any (cx := cx37 0) (f := Try.f37) rfl fns37_ok Try.func37 (by decide) rfl (by kernel_rfl) (by decide) (by decide) ?_
  intro xs r os hF
  unfold F37 at hF
  split at hF
  · split at hF
    · rename_i h; subst h
      injection hF with hF; injection hF with e1 e2; subst e1 e2
      exact ⟨⟨0, ev37a _⟩, rfl, no_ro rfl rfl⟩
    · cases hF
  · split at hF
    · rename_i h; subst h
      injection hF with hF; injection hF with e1 e2; subst e1 e2
      exact ⟨⟨0, ev37b _ _ _⟩, rfl, no_ro rfl rfl⟩
    · cases hF
  · cases hF
def fns11 : Nat → Option FS
  | 37 => some ⟨[.mv, .ro 1], F37, false⟩
  | _ => none
@[go_sem] theorem fns11_37 : fns11 37 = some ⟨[.mv, .ro 1], F37, false⟩ := nr rfl
theorem fns11_ok : ∀ g fs, fns11 g = some fs → VSpec Try.prog g fs := by
  intro g fs h
  unfold fns11 at h
  split at h
  · injection h with h; subst h; exact spec37
  · cases h
def cx11 (n : Nat) : Cx := { T := T, fns := fns11, cuts := fun _ => [], vars := some ([0, 1, 2, 4], [2]), live := fun _ => none, al := [2], rounds := n, plan := fun _ => none }
@[go_sem] theorem cx11_T (n : Nat) : (cx11 n).T = T := nr rfl
@[go_sem] theorem cx11_f (n : Nat) : (cx11 n).fns = fns11 := nr rfl
@[go_sem] theorem cx11_c (n k : Nat) : (cx11 n).cuts k = (fun _ => []) k := nr rfl
@[go_sem] theorem cx11_v (n : Nat) : (cx11 n).vars = some ([0, 1, 2, 4], [2]) := nr rfl
@[go_sem] theorem cx11_l (n k : Nat) : (cx11 n).live k = (fun _ => none) k := nr rfl
@[go_sem] theorem cx11_a (n : Nat) : (cx11 n).al = [2] := nr rfl
@[go_sem] theorem cx11_p (n k : Nat) : (cx11 n).plan k = (fun _ => none) k := nr rfl
@[go_sem] theorem cx11_r (n : Nat) : (cx11 n).rounds = n := nr rfl
theorem ev11a (c s : Int) : evalFn (cx11 0) [.mv, .ro 1] Try.f11 [.agg [.i .i64 c, .i .i64 s, .sl .mut 2 [], .sl .mut 1 []], .i .i64 1] = some (.i .i64 1, [.agg [.i .i64 c, .i .i64 s, .sl .mut 2 [], .sl .mut 1 []], .u]) := by
  rw [evalFn_eq _ _ Try.f11 _ _ _ rfl rfl]
  simp only [go_sem, reduceIte, ↓reduceIte, Nat.reduceAdd, Nat.reduceSub, Nat.reduceMul, Nat.reduceBEq, Nat.reduceEqDiff, Nat.reduceLeDiff, Nat.reduceLT, Nat.reduceBneDiff, Nat.add_zero, Nat.zero_add, List.contains_cons, List.contains_nil, List.elem_cons, List.elem_nil, List.length_cons, List.length_nil, List.map_cons, List.map_nil, List.all_cons, List.all_nil, List.any_cons, List.any_nil, List.getElem?_cons_zero, List.getElem?_cons_succ, List.getElem?_nil, List.getD_cons_zero, List.getD_cons_succ, List.append_nil, List.nil_append, List.cons_append, List.isEmpty_cons, List.isEmpty_nil, List.headD_cons, List.headD_nil, List.tail_cons, List.tail_nil, List.take_nil, List.drop_nil, Bool.and_true, Bool.true_and, Bool.or_false, Bool.or_true, Bool.false_or, Bool.true_or, Bool.not_true, Bool.not_false, Bool.and_false, Bool.false_and, Bool.false_eq_true, Bool.true_eq_false, Bool.and_self, Bool.not_not, decide_true, decide_false, decide_eq_true_eq, beq_self_eq_true, Nat.le_refl, Nat.zero_le, and_self, true_and, and_true, false_and, and_false, or_true, true_or, if_true, if_false, Option.map_some, Option.map_none, Option.isSome_none, Option.isSome_some, eq_self_iff_true, not_true_eq_false, not_false_eq_true, ne_eq, reduceCtorEq, Nat.not_lt_zero, Nat.succ_ne_zero, List.set_cons_zero, List.set_cons_succ, Int.reduceLE, Int.reduceLT, Int.reduceEq, Int.reduceAdd, Int.reduceMul, Int.reduceSub, Int.reduceNeg, Int.reduceTMod, Int.reduceTDiv, Int.reduceBEq, Int.reduceBNe, Int.reduceToNat, Int.reduceNe, gt_iff_lt, ge_iff_le, List.take_succ_cons, List.take_zero, List.drop_zero, List.drop_succ_cons, strOf, ba_size, ba_append, ba_empty, List.length_append, w49, w50, v49, v50, w0, w1, w2, w3, idx10, c0, c1]
theorem ev11b (c s : Int) (a b : ByteArray) : evalFn (cx11 0) [.mv, .ro 1] Try.f11 [.agg [.i .i64 c, .i .i64 s, .sl .mut 2 [[.s a, .s b]], .sl .mut 1 []], .i .i64 1] = some (.i .i64 3, [.agg [.i .i64 c, .i .i64 s, .sl .mut 2 [[.s m1, .s m2]], .sl .mut 1 []], .u]) := by
  rw [evalFn_eq _ _ Try.f11 _ _ _ rfl rfl]
  simp only [go_sem, reduceIte, ↓reduceIte, Nat.reduceAdd, Nat.reduceSub, Nat.reduceMul, Nat.reduceBEq, Nat.reduceEqDiff, Nat.reduceLeDiff, Nat.reduceLT, Nat.reduceBneDiff, Nat.add_zero, Nat.zero_add, List.contains_cons, List.contains_nil, List.elem_cons, List.elem_nil, List.length_cons, List.length_nil, List.map_cons, List.map_nil, List.all_cons, List.all_nil, List.any_cons, List.any_nil, List.getElem?_cons_zero, List.getElem?_cons_succ, List.getElem?_nil, List.getD_cons_zero, List.getD_cons_succ, List.append_nil, List.nil_append, List.cons_append, List.isEmpty_cons, List.isEmpty_nil, List.headD_cons, List.headD_nil, List.tail_cons, List.tail_nil, List.take_nil, List.drop_nil, Bool.and_true, Bool.true_and, Bool.or_false, Bool.or_true, Bool.false_or, Bool.true_or, Bool.not_true, Bool.not_false, Bool.and_false, Bool.false_and, Bool.false_eq_true, Bool.true_eq_false, Bool.and_self, Bool.not_not, decide_true, decide_false, decide_eq_true_eq, beq_self_eq_true, Nat.le_refl, Nat.zero_le, and_self, true_and, and_true, false_and, and_false, or_true, true_or, if_true, if_false, Option.map_some, Option.map_none, Option.isSome_none, Option.isSome_some, eq_self_iff_true, not_true_eq_false, not_false_eq_true, ne_eq, reduceCtorEq, Nat.not_lt_zero, Nat.succ_ne_zero, List.set_cons_zero, List.set_cons_succ, Int.reduceLE, Int.reduceLT, Int.reduceEq, Int.reduceAdd, Int.reduceMul, Int.reduceSub, Int.reduceNeg, Int.reduceTMod, Int.reduceTDiv, Int.reduceBEq, Int.reduceBNe, Int.reduceToNat, Int.reduceNe, gt_iff_lt, ge_iff_le, List.take_succ_cons, List.take_zero, List.drop_zero, List.drop_succ_cons, strOf, ba_size, ba_append, ba_empty, List.length_append, w49, w50, v49, v50, w0, w1, w2, w3, idx10, c0, c1]
def F11 : List AV → Option (AV × List AV)
  | [.agg [.i .i64 c, .i .i64 s, .sl .mut 2 [], .sl .mut 1 []], .i .i64 n] => if n = 1 then some (.i .i64 1, [.agg [.i .i64 c, .i .i64 s, .sl .mut 2 [], .sl .mut 1 []], .u]) else none
  | [.agg [.i .i64 c, .i .i64 s, .sl .mut 2 [[.s a, .s b]], .sl .mut 1 []], .i .i64 n] => if n = 1 then some (.i .i64 3, [.agg [.i .i64 c, .i .i64 s, .sl .mut 2 [[.s m1, .s m2]], .sl .mut 1 []], .u]) else none
  | _ => none
@[go_sem] theorem F11_0 (c s : Int) : F11 [.agg [.i .i64 c, .i .i64 s, .sl .mut 2 [], .sl .mut 1 []], .i .i64 1] = some (.i .i64 1, [.agg [.i .i64 c, .i .i64 s, .sl .mut 2 [], .sl .mut 1 []], .u]) := nr rfl
@[go_sem] theorem F11_1 (c s : Int) (a b : ByteArray) : F11 [.agg [.i .i64 c, .i .i64 s, .sl .mut 2 [[.s a, .s b]], .sl .mut 1 []], .i .i64 1] = some (.i .i64 3, [.agg [.i .i64 c, .i .i64 s, .sl .mut 2 [[.s m1, .s m2]], .sl .mut 1 []], .u]) := nr rfl
theorem spec11 : VSpec Try.prog 11 ⟨[.mv, .ro 1], F11, false⟩ := by
  refine spec_any (cx := cx11 0) (f := Try.f11) rfl fns11_ok Try.func11 (by decide) rfl (by kernel_rfl) (by decide) (by decide) ?_
  intro xs r os hF
  unfold F11 at hF
  split at hF
  · split at hF
    · rename_i h; subst h
      injection hF with hF; injection hF with e1 e2; subst e1 e2
      exact ⟨⟨0, ev11a _ _⟩, rfl, no_ro rfl rfl⟩
    · cases hF
  · split at hF
    · rename_i h; subst h
      injection hF with hF; injection hF with e1 e2; subst e1 e2
      exact ⟨⟨0, ev11b _ _ _ _⟩, rfl, no_ro rfl rfl⟩
    · cases hF
  · cases hF
def fns38 : Nat → Option FS
  | 67 => some ⟨[.ro 1, .ro 1], F67, false⟩
  | 68 => some ⟨[.ro 1, .ro 1], F68, false⟩
  | _ => none
@[go_sem] theorem fns38_67 : fns38 67 = some ⟨[.ro 1, .ro 1], F67, false⟩ := nr rfl
@[go_sem] theorem fns38_68 : fns38 68 = some ⟨[.ro 1, .ro 1], F68, false⟩ := nr rfl
theorem fns38_ok : ∀ g fs, fns38 g = some fs → VSpec Try.prog g fs := by
  intro g fs h
  unfold fns38 at h
  split at h
  · injection h with h; subst h; exact spec67
  · injection h with h; subst h; exact spec68
  · cases h
def cx38 (n : Nat) : Cx := { T := T, fns := fns38, cuts := fun _ => [], vars := some ([0, 1, 2, 4, 10, 16], [2]), live := fun _ => none, al := [], rounds := n, plan := fun _ => none }
@[go_sem] theorem cx38_T (n : Nat) : (cx38 n).T = T := nr rfl
@[go_sem] theorem cx38_f (n : Nat) : (cx38 n).fns = fns38 := nr rfl
@[go_sem] theorem cx38_c (n k : Nat) : (cx38 n).cuts k = (fun _ => []) k := nr rfl
@[go_sem] theorem cx38_v (n : Nat) : (cx38 n).vars = some ([0, 1, 2, 4, 10, 16], [2]) := nr rfl
@[go_sem] theorem cx38_l (n k : Nat) : (cx38 n).live k = (fun _ => none) k := nr rfl
@[go_sem] theorem cx38_a (n : Nat) : (cx38 n).al = [] := nr rfl
@[go_sem] theorem cx38_p (n k : Nat) : (cx38 n).plan k = (fun _ => none) k := nr rfl
@[go_sem] theorem cx38_r (n : Nat) : (cx38 n).rounds = n := nr rfl
theorem ev38a (s : Int) : evalFn (cx38 0) [.ro 1, .ro 1] Try.f38 [.agg [.i .i64 s, .sl .ro 2 [], .sl .ro 1 []], .i .i64 1] = some (.i .i64 1, [.u, .u]) := by
  rw [evalFn_eq _ _ Try.f38 _ _ _ rfl rfl]
  simp only [go_sem, reduceIte, ↓reduceIte, Nat.reduceAdd, Nat.reduceSub, Nat.reduceMul, Nat.reduceBEq, Nat.reduceEqDiff, Nat.reduceLeDiff, Nat.reduceLT, Nat.reduceBneDiff, Nat.add_zero, Nat.zero_add, List.contains_cons, List.contains_nil, List.elem_cons, List.elem_nil, List.length_cons, List.length_nil, List.map_cons, List.map_nil, List.all_cons, List.all_nil, List.any_cons, List.any_nil, List.getElem?_cons_zero, List.getElem?_cons_succ, List.getElem?_nil, List.getD_cons_zero, List.getD_cons_succ, List.append_nil, List.nil_append, List.cons_append, List.isEmpty_cons, List.isEmpty_nil, List.headD_cons, List.headD_nil, List.tail_cons, List.tail_nil, List.take_nil, List.drop_nil, Bool.and_true, Bool.true_and, Bool.or_false, Bool.or_true, Bool.false_or, Bool.true_or, Bool.not_true, Bool.not_false, Bool.and_false, Bool.false_and, Bool.false_eq_true, Bool.true_eq_false, Bool.and_self, Bool.not_not, decide_true, decide_false, decide_eq_true_eq, beq_self_eq_true, Nat.le_refl, Nat.zero_le, and_self, true_and, and_true, false_and, and_false, or_true, true_or, if_true, if_false, Option.map_some, Option.map_none, Option.isSome_none, Option.isSome_some, eq_self_iff_true, not_true_eq_false, not_false_eq_true, ne_eq, reduceCtorEq, Nat.not_lt_zero, Nat.succ_ne_zero, List.set_cons_zero, List.set_cons_succ, Int.reduceLE, Int.reduceLT, Int.reduceEq, Int.reduceAdd, Int.reduceMul, Int.reduceSub, Int.reduceNeg, Int.reduceTMod, Int.reduceTDiv, Int.reduceBEq, Int.reduceBNe, Int.reduceToNat, Int.reduceNe, gt_iff_lt, ge_iff_le, List.take_succ_cons, List.take_zero, List.drop_zero, List.drop_succ_cons, strOf, ba_size, ba_append, ba_empty, List.length_append, w49, w50, v49, v50, w0, w1, w2, w3, idx10, c0, c1]
theorem ev38b (s : Int) : evalFn (cx38 0) [.ro 1, .ro 1] Try.f38 [.agg [.i .i64 s, .sl .ro 2 [[.s m1, .s m2]], .sl .ro 1 []], .i .i64 1] = some (.i .i64 3, [.u, .u]) := by
  rw [evalFn_eq _ _ Try.f38 _ _ _ rfl rfl]
  simp only [go_sem, reduceIte, ↓reduceIte, Nat.reduceAdd, Nat.reduceSub, Nat.reduceMul, Nat.reduceBEq, Nat.reduceEqDiff, Nat.reduceLeDiff, Nat.reduceLT, Nat.reduceBneDiff, Nat.add_zero, Nat.zero_add, List.contains_cons, List.contains_nil, List.elem_cons, List.elem_nil, List.length_cons, List.length_nil, List.map_cons, List.map_nil, List.all_cons, List.all_nil, List.any_cons, List.any_nil, List.getElem?_cons_zero, List.getElem?_cons_succ, List.getElem?_nil, List.getD_cons_zero, List.getD_cons_succ, List.append_nil, List.nil_append, List.cons_append, List.isEmpty_cons, List.isEmpty_nil, List.headD_cons, List.headD_nil, List.tail_cons, List.tail_nil, List.take_nil, List.drop_nil, Bool.and_true, Bool.true_and, Bool.or_false, Bool.or_true, Bool.false_or, Bool.true_or, Bool.not_true, Bool.not_false, Bool.and_false, Bool.false_and, Bool.false_eq_true, Bool.true_eq_false, Bool.and_self, Bool.not_not, decide_true, decide_false, decide_eq_true_eq, beq_self_eq_true, Nat.le_refl, Nat.zero_le, and_self, true_and, and_true, false_and, and_false, or_true, true_or, if_true, if_false, Option.map_some, Option.map_none, Option.isSome_none, Option.isSome_some, eq_self_iff_true, not_true_eq_false, not_false_eq_true, ne_eq, reduceCtorEq, Nat.not_lt_zero, Nat.succ_ne_zero, List.set_cons_zero, List.set_cons_succ, Int.reduceLE, Int.reduceLT, Int.reduceEq, Int.reduceAdd, Int.reduceMul, Int.reduceSub, Int.reduceNeg, Int.reduceTMod, Int.reduceTDiv, Int.reduceBEq, Int.reduceBNe, Int.reduceToNat, Int.reduceNe, gt_iff_lt, ge_iff_le, List.take_succ_cons, List.take_zero, List.drop_zero, List.drop_succ_cons, strOf, ba_size, ba_append, ba_empty, List.length_append, w49, w50, v49, v50, w0, w1, w2, w3, idx10, c0, c1]
def F38 : List AV → Option (AV × List AV)
  | [.agg [.i .i64 s, .sl .ro 2 [], .sl .ro 1 []], .i .i64 n] => if n = 1 then some (.i .i64 1, [.u, .u]) else none
  | [.agg [.i .i64 s, .sl .ro 2 [[.s a, .s b]], .sl .ro 1 []], .i .i64 n] => if (a = m1 ∧ b = m2) ∧ n = 1 then some (.i .i64 3, [.u, .u]) else none
  | _ => none
@[go_sem] theorem F38_0 (s : Int) : F38 [.agg [.i .i64 s, .sl .ro 2 [], .sl .ro 1 []], .i .i64 1] = some (.i .i64 1, [.u, .u]) := nr rfl
@[go_sem] theorem F38_1 (s : Int) : F38 [.agg [.i .i64 s, .sl .ro 2 [[.s m1, .s m2]], .sl .ro 1 []], .i .i64 1] = some (.i .i64 3, [.u, .u]) := by unfold F38; simp
theorem spec38 : VSpec Try.prog 38 ⟨[.ro 1, .ro 1], F38, false⟩ := by
  refine spec_ro (cx := cx38 0) (f := Try.f38) rfl fns38_ok Try.func38 (by decide) rfl (by kernel_rfl) (by decide) (by decide) ?_
  intro xs r os hF
  unfold F38 at hF
  split at hF
  · split at hF
    · rename_i h; subst h
      injection hF with hF; injection hF with e1 e2; subst e1 e2
      exact ⟨⟨0, ev38a _⟩, rfl, no_ro rfl rfl⟩
    · cases hF
  · split at hF
    · rename_i h; obtain ⟨⟨rfl, rfl⟩, rfl⟩ := h
      injection hF with hF; injection hF with e1 e2; subst e1 e2
      exact ⟨⟨0, ev38b _⟩, rfl, no_ro rfl rfl⟩
    · cases hF
  · cases hF
def fns12 : Nat → Option FS
  | 38 => some ⟨[.ro 1, .ro 1], F38, false⟩
  | _ => none
@[go_sem] theorem fns12_38 : fns12 38 = some ⟨[.ro 1, .ro 1], F38, false⟩ := nr rfl
theorem fns12_ok : ∀ g fs, fns12 g = some fs → VSpec Try.prog g fs := by
  intro g fs h
  unfold fns12 at h
  split at h
  · injection h with h; subst h; exact spec38
  · cases h
def cx12 (n : Nat) : Cx := { T := T, fns := fns12, cuts := fun _ => [], vars := some ([0, 1, 2, 4, 10], [2]), live := fun _ => none, al := [], rounds := n, plan := fun _ => none }
@[go_sem] theorem cx12_T (n : Nat) : (cx12 n).T = T := nr rfl
@[go_sem] theorem cx12_f (n : Nat) : (cx12 n).fns = fns12 := nr rfl
@[go_sem] theorem cx12_c (n k : Nat) : (cx12 n).cuts k = (fun _ => []) k := nr rfl
@[go_sem] theorem cx12_v (n : Nat) : (cx12 n).vars = some ([0, 1, 2, 4, 10], [2]) := nr rfl
@[go_sem] theorem cx12_l (n k : Nat) : (cx12 n).live k = (fun _ => none) k := nr rfl
@[go_sem] theorem cx12_a (n : Nat) : (cx12 n).al = [] := nr rfl
@[go_sem] theorem cx12_p (n k : Nat) : (cx12 n).plan k = (fun _ => none) k := nr rfl
@[go_sem] theorem cx12_r (n : Nat) : (cx12 n).rounds = n := nr rfl
theorem ev12a (c s : Int) : evalFn (cx12 0) [.ro 1, .ro 1] Try.f12 [.agg [.i .i64 c, .i .i64 s, .sl .ro 2 [], .sl .ro 1 []], .i .i64 1] = some (.i .i64 1, [.u, .u]) := by
  rw [evalFn_eq _ _ Try.f12 _ _ _ rfl rfl]
  simp only [go_sem, reduceIte, ↓reduceIte, Nat.reduceAdd, Nat.reduceSub, Nat.reduceMul, Nat.reduceBEq, Nat.reduceEqDiff, Nat.reduceLeDiff, Nat.reduceLT, Nat.reduceBneDiff, Nat.add_zero, Nat.zero_add, List.contains_cons, List.contains_nil, List.elem_cons, List.elem_nil, List.length_cons, List.length_nil, List.map_cons, List.map_nil, List.all_cons, List.all_nil, List.any_cons, List.any_nil, List.getElem?_cons_zero, List.getElem?_cons_succ, List.getElem?_nil, List.getD_cons_zero, List.getD_cons_succ, List.append_nil, List.nil_append, List.cons_append, List.isEmpty_cons, List.isEmpty_nil, List.headD_cons, List.headD_nil, List.tail_cons, List.tail_nil, List.take_nil, List.drop_nil, Bool.and_true, Bool.true_and, Bool.or_false, Bool.or_true, Bool.false_or, Bool.true_or, Bool.not_true, Bool.not_false, Bool.and_false, Bool.false_and, Bool.false_eq_true, Bool.true_eq_false, Bool.and_self, Bool.not_not, decide_true, decide_false, decide_eq_true_eq, beq_self_eq_true, Nat.le_refl, Nat.zero_le, and_self, true_and, and_true, false_and, and_false, or_true, true_or, if_true, if_false, Option.map_some, Option.map_none, Option.isSome_none, Option.isSome_some, eq_self_iff_true, not_true_eq_false, not_false_eq_true, ne_eq, reduceCtorEq, Nat.not_lt_zero, Nat.succ_ne_zero, List.set_cons_zero, List.set_cons_succ, Int.reduceLE, Int.reduceLT, Int.reduceEq, Int.reduceAdd, Int.reduceMul, Int.reduceSub, Int.reduceNeg, Int.reduceTMod, Int.reduceTDiv, Int.reduceBEq, Int.reduceBNe, Int.reduceToNat, Int.reduceNe, gt_iff_lt, ge_iff_le, List.take_succ_cons, List.take_zero, List.drop_zero, List.drop_succ_cons, strOf, ba_size, ba_append, ba_empty, List.length_append, w49, w50, v49, v50, w0, w1, w2, w3, idx10, c0, c1]
theorem ev12b (c s : Int) : evalFn (cx12 0) [.ro 1, .ro 1] Try.f12 [.agg [.i .i64 c, .i .i64 s, .sl .ro 2 [[.s m1, .s m2]], .sl .ro 1 []], .i .i64 1] = some (.i .i64 3, [.u, .u]) := by
  rw [evalFn_eq _ _ Try.f12 _ _ _ rfl rfl]
  simp only [go_sem, reduceIte, ↓reduceIte, Nat.reduceAdd, Nat.reduceSub, Nat.reduceMul, Nat.reduceBEq, Nat.reduceEqDiff, Nat.reduceLeDiff, Nat.reduceLT, Nat.reduceBneDiff, Nat.add_zero, Nat.zero_add, List.contains_cons, List.contains_nil, List.elem_cons, List.elem_nil, List.length_cons, List.length_nil, List.map_cons, List.map_nil, List.all_cons, List.all_nil, List.any_cons, List.any_nil, List.getElem?_cons_zero, List.getElem?_cons_succ, List.getElem?_nil, List.getD_cons_zero, List.getD_cons_succ, List.append_nil, List.nil_append, List.cons_append, List.isEmpty_cons, List.isEmpty_nil, List.headD_cons, List.headD_nil, List.tail_cons, List.tail_nil, List.take_nil, List.drop_nil, Bool.and_true, Bool.true_and, Bool.or_false, Bool.or_true, Bool.false_or, Bool.true_or, Bool.not_true, Bool.not_false, Bool.and_false, Bool.false_and, Bool.false_eq_true, Bool.true_eq_false, Bool.and_self, Bool.not_not, decide_true, decide_false, decide_eq_true_eq, beq_self_eq_true, Nat.le_refl, Nat.zero_le, and_self, true_and, and_true, false_and, and_false, or_true, true_or, if_true, if_false, Option.map_some, Option.map_none, Option.isSome_none, Option.isSome_some, eq_self_iff_true, not_true_eq_false, not_false_eq_true, ne_eq, reduceCtorEq, Nat.not_lt_zero, Nat.succ_ne_zero, List.set_cons_zero, List.set_cons_succ, Int.reduceLE, Int.reduceLT, Int.reduceEq, Int.reduceAdd, Int.reduceMul, Int.reduceSub, Int.reduceNeg, Int.reduceTMod, Int.reduceTDiv, Int.reduceBEq, Int.reduceBNe, Int.reduceToNat, Int.reduceNe, gt_iff_lt, ge_iff_le, List.take_succ_cons, List.take_zero, List.drop_zero, List.drop_succ_cons, strOf, ba_size, ba_append, ba_empty, List.length_append, w49, w50, v49, v50, w0, w1, w2, w3, idx10, c0, c1]
def F12 : List AV → Option (AV × List AV)
  | [.agg [.i .i64 c, .i .i64 s, .sl .ro 2 [], .sl .ro 1 []], .i .i64 n] => if n = 1 then some (.i .i64 1, [.u, .u]) else none
  | [.agg [.i .i64 c, .i .i64 s, .sl .ro 2 [[.s a, .s b]], .sl .ro 1 []], .i .i64 n] => if (a = m1 ∧ b = m2) ∧ n = 1 then some (.i .i64 3, [.u, .u]) else none
  | _ => none
@[go_sem] theorem F12_0 (c s : Int) : F12 [.agg [.i .i64 c, .i .i64 s, .sl .ro 2 [], .sl .ro 1 []], .i .i64 1] = some (.i .i64 1, [.u, .u]) := nr rfl
@[go_sem] theorem F12_1 (c s : Int) : F12 [.agg [.i .i64 c, .i .i64 s, .sl .ro 2 [[.s m1, .s m2]], .sl .ro 1 []], .i .i64 1] = some (.i .i64 3, [.u, .u]) := by unfold F12; simp
theorem spec12 : VSpec Try.prog 12 ⟨[.ro 1, .ro 1], F12, false⟩ := by
  refine spec_ro (cx := cx12 0) (f := Try.f12) rfl fns12_ok Try.func12 (by decide) rfl (by kernel_rfl) (by decide) (by decide) ?_
  intro xs r os hF
  unfold F12 at hF
  split at hF
  · split at hF
    · rename_i h; subst h
      injection hF with hF; injection hF with e1 e2; subst e1 e2
      exact ⟨⟨0, ev12a _ _⟩, rfl, no_ro rfl rfl⟩
    · cases hF
  · split at hF
    · rename_i h; obtain ⟨⟨rfl, rfl⟩, rfl⟩ := h
      injection hF with hF; injection hF with e1 e2; subst e1 e2
      exact ⟨⟨0, ev12b _ _⟩, rfl, no_ro rfl rfl⟩
    · cases hF
  · cases hF
def fns8 : Nat → Option FS
  | 33 => some ⟨[.ro 1, .ro 1, .ro 1], F33, false⟩
  | 34 => some ⟨[.ro 1], F34, false⟩
  | _ => none
@[go_sem] theorem fns8_33 : fns8 33 = some ⟨[.ro 1, .ro 1, .ro 1], F33, false⟩ := nr rfl
@[go_sem] theorem fns8_34 : fns8 34 = some ⟨[.ro 1], F34, false⟩ := nr rfl
theorem fns8_ok : ∀ g fs, fns8 g = some fs → VSpec Try.prog g fs := by
  intro g fs h
  unfold fns8 at h
  split at h
  · injection h with h; subst h; exact spec33
  · injection h with h; subst h; exact spec34
  · cases h
def cx8 (n : Nat) : Cx := { T := T, fns := fns8, cuts := fun _ => [], vars := some ([0, 2, 5], [2]), live := fun _ => none, al := [], rounds := n, plan := fun _ => none }
@[go_sem] theorem cx8_T (n : Nat) : (cx8 n).T = T := nr rfl
@[go_sem] theorem cx8_f (n : Nat) : (cx8 n).fns = fns8 := nr rfl
@[go_sem] theorem cx8_c (n k : Nat) : (cx8 n).cuts k = (fun _ => []) k := nr rfl
@[go_sem] theorem cx8_v (n : Nat) : (cx8 n).vars = some ([0, 2, 5], [2]) := nr rfl
@[go_sem] theorem cx8_l (n k : Nat) : (cx8 n).live k = (fun _ => none) k := nr rfl
@[go_sem] theorem cx8_a (n : Nat) : (cx8 n).al = [] := nr rfl
@[go_sem] theorem cx8_p (n k : Nat) : (cx8 n).plan k = (fun _ => none) k := nr rfl
@[go_sem] theorem cx8_r (n : Nat) : (cx8 n).rounds = n := nr rfl
theorem ev8a (s : Int) (h : (decide (400 ≤ s) && decide (s ≤ 599)) = true) : evalFn (cx8 0) [.ro 1] Try.f8 [.i .i64 s] = some (.agg [.i .i64 0, .i .i64 s, .sl .mut 2 [[.s x1, .s x2]], .sl .mut 1 []], [.u]) := by
  rw [evalFn_eq _ _ Try.f8 _ _ _ rfl rfl]
  simp only [go_sem, reduceIte, ↓reduceIte, Nat.reduceAdd, Nat.reduceSub, Nat.reduceMul, Nat.reduceBEq, Nat.reduceEqDiff, Nat.reduceLeDiff, Nat.reduceLT, Nat.reduceBneDiff, Nat.add_zero, Nat.zero_add, List.contains_cons, List.contains_nil, List.elem_cons, List.elem_nil, List.length_cons, List.length_nil, List.map_cons, List.map_nil, List.all_cons, List.all_nil, List.any_cons, List.any_nil, List.getElem?_cons_zero, List.getElem?_cons_succ, List.getElem?_nil, List.getD_cons_zero, List.getD_cons_succ, List.append_nil, List.nil_append, List.cons_append, List.isEmpty_cons, List.isEmpty_nil, List.headD_cons, List.headD_nil, List.tail_cons, List.tail_nil, List.take_nil, List.drop_nil, Bool.and_true, Bool.true_and, Bool.or_false, Bool.or_true, Bool.false_or, Bool.true_or, Bool.not_true, Bool.not_false, Bool.and_false, Bool.false_and, Bool.false_eq_true, Bool.true_eq_false, Bool.and_self, Bool.not_not, decide_true, decide_false, decide_eq_true_eq, beq_self_eq_true, Nat.le_refl, Nat.zero_le, and_self, true_and, and_true, false_and, and_false, or_true, true_or, if_true, if_false, Option.map_some, Option.map_none, Option.isSome_none, Option.isSome_some, eq_self_iff_true, not_true_eq_false, not_false_eq_true, ne_eq, reduceCtorEq, Nat.not_lt_zero, Nat.succ_ne_zero, List.set_cons_zero, List.set_cons_succ, Int.reduceLE, Int.reduceLT, Int.reduceEq, Int.reduceAdd, Int.reduceMul, Int.reduceSub, Int.reduceNeg, Int.reduceTMod, Int.reduceTDiv, Int.reduceBEq, Int.reduceBNe, Int.reduceToNat, Int.reduceNe, gt_iff_lt, ge_iff_le, List.take_succ_cons, List.take_zero, List.drop_zero, List.drop_succ_cons, strOf, ba_size, ba_append, ba_empty, List.length_append, w49, w50, v49, v50, w0, w1, w2, w3, idx10, c0, c1, h, F35]
theorem ev8b (s : Int) (h : (decide (400 ≤ s) && decide (s ≤ 599)) = false) : evalFn (cx8 0) [.ro 1] Try.f8 [.i .i64 s] = some (.agg [.i .i64 3, .i .i64 0, .sl .mut 2 [], .sl .mut 1 []], [.u]) := by
  rw [evalFn_eq _ _ Try.f8 _ _ _ rfl rfl]
  simp only [go_sem, reduceIte, ↓reduceIte, Nat.reduceAdd, Nat.reduceSub, Nat.reduceMul, Nat.reduceBEq, Nat.reduceEqDiff, Nat.reduceLeDiff, Nat.reduceLT, Nat.reduceBneDiff, Nat.add_zero, Nat.zero_add, List.contains_cons, List.contains_nil, List.elem_cons, List.elem_nil, List.length_cons, List.length_nil, List.map_cons, List.map_nil, List.all_cons, List.all_nil, List.any_cons, List.any_nil, List.getElem?_cons_zero, List.getElem?_cons_succ, List.getElem?_nil, List.getD_cons_zero, List.getD_cons_succ, List.append_nil, List.nil_append, List.cons_append, List.isEmpty_cons, List.isEmpty_nil, List.headD_cons, List.headD_nil, List.tail_cons, List.tail_nil, List.take_nil, List.drop_nil, Bool.and_true, Bool.true_and, Bool.or_false, Bool.or_true, Bool.false_or, Bool.true_or, Bool.not_true, Bool.not_false, Bool.and_false, Bool.false_and, Bool.false_eq_true, Bool.true_eq_false, Bool.and_self, Bool.not_not, decide_true, decide_false, decide_eq_true_eq, beq_self_eq_true, Nat.le_refl, Nat.zero_le, and_self, true_and, and_true, false_and, and_false, or_true, true_or, if_true, if_false, Option.map_some, Option.map_none, Option.isSome_none, Option.isSome_some, eq_self_iff_true, not_true_eq_false, not_false_eq_true, ne_eq, reduceCtorEq, Nat.not_lt_zero, Nat.succ_ne_zero, List.set_cons_zero, List.set_cons_succ, Int.reduceLE, Int.reduceLT, Int.reduceEq, Int.reduceAdd, Int.reduceMul, Int.reduceSub, Int.reduceNeg, Int.reduceTMod, Int.reduceTDiv, Int.reduceBEq, Int.reduceBNe, Int.reduceToNat, Int.reduceNe, gt_iff_lt, ge_iff_le, List.take_succ_cons, List.take_zero, List.drop_zero, List.drop_succ_cons, strOf, ba_size, ba_append, ba_empty, List.length_append, w49, w50, v49, v50, w0, w1, w2, w3, idx10, c0, c1, h, F35]
def F8 : List AV → Option (AV × List AV)
  | [.i .i64 s] => if (decide (400 ≤ s) && decide (s ≤ 599)) = true then some (.agg [.i .i64 0, .i .i64 s, .sl .mut 2 [[.s x1, .s x2]], .sl .mut 1 []], [.u]) else some (.agg [.i .i64 3, .i .i64 0, .sl .mut 2 [], .sl .mut 1 []], [.u])
  | _ => none
theorem spec8 : VSpec Try.prog 8 ⟨[.ro 1], F8, false⟩ := by
  refine spec_ro (cx := cx8 0) (f := Try.f8) rfl fns8_ok Try.func8 (by decide) rfl (by kernel_rfl) (by decide) (by decide) ?_
  intro xs r os hF
  unfold F8 at hF
  split at hF
  · split at hF
    · rename_i h
      injection hF with hF; injection hF with e1 e2; subst e1 e2
      exact ⟨⟨0, ev8a _ h⟩, rfl, no_ro1 rfl⟩
    · rename_i h
      injection hF with hF; injection hF with e1 e2; subst e1 e2
      exact ⟨⟨0, ev8b _ (by simpa using h)⟩, rfl, no_ro1 rfl⟩
  · cases hF
def fns9 : Nat → Option FS
  | 35 => some ⟨[.ro 1, .ro 1, .ro 1], F35, false⟩
  | _ => none
@[go_sem] theorem fns9_35 : fns9 35 = some ⟨[.ro 1, .ro 1, .ro 1], F35, false⟩ := nr rfl
theorem fns9_ok : ∀ g fs, fns9 g = some fs → VSpec Try.prog g fs := by
  intro g fs h
  unfold fns9 at h
  split at h
  · injection h with h; subst h; exact spec35
  · cases h
def cx9 (n : Nat) : Cx := { T := T, fns := fns9, cuts := fun _ => [], vars := some ([0, 2, 5], [2]), live := fun _ => none, al := [], rounds := n, plan := fun _ => none }
@[go_sem] theorem cx9_T (n : Nat) : (cx9 n).T = T := nr rfl
@[go_sem] theorem cx9_f (n : Nat) : (cx9 n).fns = fns9 := nr rfl
@[go_sem] theorem cx9_c (n k : Nat) : (cx9 n).cuts k = (fun _ => []) k := nr rfl
@[go_sem] theorem cx9_v (n : Nat) : (cx9 n).vars = some ([0, 2, 5], [2]) := nr rfl
@[go_sem] theorem cx9_l (n k : Nat) : (cx9 n).live k = (fun _ => none) k := nr rfl
@[go_sem] theorem cx9_a (n : Nat) : (cx9 n).al = [] := nr rfl
@[go_sem] theorem cx9_p (n k : Nat) : (cx9 n).plan k = (fun _ => none) k := nr rfl
@[go_sem] theorem cx9_r (n : Nat) : (cx9 n).rounds = n := nr rfl
theorem ev9a (s : Int) (h : (decide (400 ≤ s) && decide (s ≤ 599)) = true) : evalFn (cx9 0) [.ro 1] Try.f9 [.i .i64 s] = some (.agg [.i .i64 0, .i .i64 s, .sl .mut 2 [[.s x1, .s x2]], .sl .mut 1 []], [.u]) := by
  rw [evalFn_eq _ _ Try.f9 _ _ _ rfl rfl]
  simp only [go_sem, reduceIte, ↓reduceIte, Nat.reduceAdd, Nat.reduceSub, Nat.reduceMul, Nat.reduceBEq, Nat.reduceEqDiff, Nat.reduceLeDiff, Nat.reduceLT, Nat.reduceBneDiff, Nat.add_zero, Nat.zero_add, List.contains_cons, List.contains_nil, List.elem_cons, List.elem_nil, List.length_cons, List.length_nil, List.map_cons, List.map_nil, List.all_cons, List.all_nil, List.any_cons, List.any_nil, List.getElem?_cons_zero, List.getElem?_cons_succ, List.getElem?_nil, List.getD_cons_zero, List.getD_cons_succ, List.append_nil, List.nil_append, List.cons_append, List.isEmpty_cons, List.isEmpty_nil, List.headD_cons, List.headD_nil, List.tail_cons, List.tail_nil, List.take_nil, List.drop_nil, Bool.and_true, Bool.true_and, Bool.or_false, Bool.or_true, Bool.false_or, Bool.true_or, Bool.not_true, Bool.not_false, Bool.and_false, Bool.false_and, Bool.false_eq_true, Bool.true_eq_false, Bool.and_self, Bool.not_not, decide_true, decide_false, decide_eq_true_eq, beq_self_eq_true, Nat.le_refl, Nat.zero_le, and_self, true_and, and_true, false_and, and_false, or_true, true_or, if_true, if_false, Option.map_some, Option.map_none, Option.isSome_none, Option.isSome_some, eq_self_iff_true, not_true_eq_false, not_false_eq_true, ne_eq, reduceCtorEq, Nat.not_lt_zero, Nat.succ_ne_zero, List.set_cons_zero, List.set_cons_succ, Int.reduceLE, Int.reduceLT, Int.reduceEq, Int.reduceAdd, Int.reduceMul, Int.reduceSub, Int.reduceNeg, Int.reduceTMod, Int.reduceTDiv, Int.reduceBEq, Int.reduceBNe, Int.reduceToNat, Int.reduceNe, gt_iff_lt, ge_iff_le, List.take_succ_cons, List.take_zero, List.drop_zero, List.drop_succ_cons, strOf, ba_size, ba_append, ba_empty, List.length_append, w49, w50, v49, v50, w0, w1, w2, w3, idx10, c0, c1, h, F35]
theorem ev9b (s : Int) (h : (decide (400 ≤ s) && decide (s ≤ 599)) = false) : evalFn (cx9 0) [.ro 1] Try.f9 [.i .i64 s] = some (.agg [.i .i64 3, .i .i64 0, .sl .mut 2 [], .sl .mut 1 []], [.u]) := by
  rw [evalFn_eq _ _ Try.f9 _ _ _ rfl rfl]
  simp only [go_sem, reduceIte, ↓reduceIte, Nat.reduceAdd, Nat.reduceSub, Nat.reduceMul, Nat.reduceBEq, Nat.reduceEqDiff, Nat.reduceLeDiff, Nat.reduceLT, Nat.reduceBneDiff, Nat.add_zero, Nat.zero_add, List.contains_cons, List.contains_nil, List.elem_cons, List.elem_nil, List.length_cons, List.length_nil, List.map_cons, List.map_nil, List.all_cons, List.all_nil, List.any_cons, List.any_nil, List.getElem?_cons_zero, List.getElem?_cons_succ, List.getElem?_nil, List.getD_cons_zero, List.getD_cons_succ, List.append_nil, List.nil_append, List.cons_append, List.isEmpty_cons, List.isEmpty_nil, List.headD_cons, List.headD_nil, List.tail_cons, List.tail_nil, List.take_nil, List.drop_nil, Bool.and_true, Bool.true_and, Bool.or_false, Bool.or_true, Bool.false_or, Bool.true_or, Bool.not_true, Bool.not_false, Bool.and_false, Bool.false_and, Bool.false_eq_true, Bool.true_eq_false, Bool.and_self, Bool.not_not, decide_true, decide_false, decide_eq_true_eq, beq_self_eq_true, Nat.le_refl, Nat.zero_le, and_self, true_and, and_true, false_and, and_false, or_true, true_or, if_true, if_false, Option.map_some, Option.map_none, Option.isSome_none, Option.isSome_some, eq_self_iff_true, not_true_eq_false, not_false_eq_true, ne_eq, reduceCtorEq, Nat.not_lt_zero, Nat.succ_ne_zero, List.set_cons_zero, List.set_cons_succ, Int.reduceLE, Int.reduceLT, Int.reduceEq, Int.reduceAdd, Int.reduceMul, Int.reduceSub, Int.reduceNeg, Int.reduceTMod, Int.reduceTDiv, Int.reduceBEq, Int.reduceBNe, Int.reduceToNat, Int.reduceNe, gt_iff_lt, ge_iff_le, List.take_succ_cons, List.take_zero, List.drop_zero, List.drop_succ_cons, strOf, ba_size, ba_append, ba_empty, List.length_append, w49, w50, v49, v50, w0, w1, w2, w3, idx10, c0, c1, h, F35]
def F9 : List AV → Option (AV × List AV)
  | [.i .i64 s] => if (decide (400 ≤ s) && decide (s ≤ 599)) = true then some (.agg [.i .i64 0, .i .i64 s, .sl .mut 2 [[.s x1, .s x2]], .sl .mut 1 []], [.u]) else some (.agg [.i .i64 3, .i .i64 0, .sl .mut 2 [], .sl .mut 1 []], [.u])
  | _ => none
theorem spec9 : VSpec Try.prog 9 ⟨[.ro 1], F9, false⟩ := by
  refine spec_ro (cx := cx9 0) (f := Try.f9) rfl fns9_ok Try.func9 (by decide) rfl (by kernel_rfl) (by decide) (by decide) ?_
  intro xs r os hF
  unfold F9 at hF
  split at hF
  · split at hF
    · rename_i h
      injection hF with hF; injection hF with e1 e2; subst e1 e2
      exact ⟨⟨0, ev9a _ h⟩, rfl, no_ro1 rfl⟩
    · rename_i h
      injection hF with hF; injection hF with e1 e2; subst e1 e2
      exact ⟨⟨0, ev9b _ (by simpa using h)⟩, rfl, no_ro1 rfl⟩
  · cases hF
end Go.Vm.A
set_option autoImplicit false
set_option maxRecDepth 100000
set_option maxHeartbeats 4000000
set_option linter.unusedSimpArgs false
set_option linter.unusedVariables false
namespace Go.Vm.A
open Go.Proofs
theorem F10_g (s : Int) : F10 [.agg [.i .i64 0, .i .i64 s, .sl .ro 2 [[.s x1, .s x2]], .sl .ro 1 []], .agg [.i .i64 0, .i .i64 s, .sl .ro 2 [[.s x1, .s x2]], .sl .ro 1 []]] = some (.b true, [.u, .u]) := by unfold F10; simp [unH, unHrow, eqHs, eqHd]
theorem F10_b : F10 [.agg [.i .i64 3, .i .i64 0, .sl .ro 2 [], .sl .ro 1 []], .agg [.i .i64 3, .i .i64 0, .sl .ro 2 [], .sl .ro 1 []]] = some (.b true, [.u, .u]) := by unfold F10; simp [unH, eqHs]
theorem F8_g (s : Int) (h : (decide (400 ≤ s) && decide (s ≤ 599)) = true) : F8 [.i .i64 s] = some (.agg [.i .i64 0, .i .i64 s, .sl .mut 2 [[.s x1, .s x2]], .sl .mut 1 []], [.u]) := by unfold F8; simp only [h, if_true]
theorem F9_g (s : Int) (h : (decide (400 ≤ s) && decide (s ≤ 599)) = true) : F9 [.i .i64 s] = some (.agg [.i .i64 0, .i .i64 s, .sl .mut 2 [[.s x1, .s x2]], .sl .mut 1 []], [.u]) := by unfold F9; simp only [h, if_true]
theorem F8_b (s : Int) (h : (decide (400 ≤ s) && decide (s ≤ 599)) = false) : F8 [.i .i64 s] = some (.agg [.i .i64 3, .i .i64 0, .sl .mut 2 [], .sl .mut 1 []], [.u]) := by unfold F8; simp only [h, Bool.false_eq_true, if_false]
theorem F9_b (s : Int) (h : (decide (400 ≤ s) && decide (s ≤ 599)) = false) : F9 [.i .i64 s] = some (.agg [.i .i64 3, .i .i64 0, .sl .mut 2 [], .sl .mut 1 []], [.u]) := by unfold F9; simp only [h, Bool.false_eq_true, if_false]
def fns3 : Nat → Option FS
  | 8 => some ⟨[.ro 1], F8, false⟩
  | 9 => some ⟨[.ro 1], F9, false⟩
  | 10 => some ⟨[.ro 1, .ro 1], F10, false⟩
  | 11 => some ⟨[.mv, .ro 1], F11, false⟩
  | 12 => some ⟨[.ro 1, .ro 1], F12, false⟩
  | _ => none
@[go_sem] theorem fns3_8 : fns3 8 = some ⟨[.ro 1], F8, false⟩ := nr rfl
@[go_sem] theorem fns3_9 : fns3 9 = some ⟨[.ro 1], F9, false⟩ := nr rfl
@[go_sem] theorem fns3_10 : fns3 10 = some ⟨[.ro 1, .ro 1], F10, false⟩ := nr rfl
@[go_sem] theorem fns3_11 : fns3 11 = some ⟨[.mv, .ro 1], F11, false⟩ := nr rfl
@[go_sem] theorem fns3_12 : fns3 12 = some ⟨[.ro 1, .ro 1], F12, false⟩ := nr rfl
theorem fns3_ok : ∀ g fs, fns3 g = some fs → VSpec Try.prog g fs := by
  intro g fs h
  unfold fns3 at h
  split at h
  · injection h with h; subst h; exact spec8
  · injection h with h; subst h; exact spec9
  · injection h with h; subst h; exact spec10
  · injection h with h; subst h; exact spec11
  · injection h with h; subst h; exact spec12
  · cases h
def cx3 (n : Nat) : Cx := { T := T, fns := fns3, cuts := fun _ => [], vars := some ([0, 2, 3, 4, 5, 6, 7, 15, 23, 26, 32, 37, 40], [3, 4, 7]), live := fun _ => none, al := [], rounds := n, plan := fun _ => none }
@[go_sem] theorem cx3_T (n : Nat) : (cx3 n).T = T := nr rfl
@[go_sem] theorem cx3_f (n : Nat) : (cx3 n).fns = fns3 := nr rfl
@[go_sem] theorem cx3_c (n k : Nat) : (cx3 n).cuts k = (fun _ => []) k := nr rfl
@[go_sem] theorem cx3_v (n : Nat) : (cx3 n).vars = some ([0, 2, 3, 4, 5, 6, 7, 15, 23, 26, 32, 37, 40], [3, 4, 7]) := nr rfl
@[go_sem] theorem cx3_l (n k : Nat) : (cx3 n).live k = (fun _ => none) k := nr rfl
@[go_sem] theorem cx3_a (n : Nat) : (cx3 n).al = [] := nr rfl
@[go_sem] theorem cx3_p (n k : Nat) : (cx3 n).plan k = (fun _ => none) k := nr rfl
@[go_sem] theorem cx3_r (n : Nat) : (cx3 n).rounds = n := nr rfl
theorem ev3a (s : Int) (h : (decide (400 ≤ s) && decide (s ≤ 599)) = true) : evalFn (cx3 0) [.ro 1] Try.f3 [.i .i64 s] = some (.b true, [.u]) := by
  rw [evalFn_eq _ _ Try.f3 _ _ _ rfl rfl]
  simp only [go_sem, reduceIte, ↓reduceIte, Nat.reduceAdd, Nat.reduceSub, Nat.reduceMul, Nat.reduceBEq, Nat.reduceEqDiff, Nat.reduceLeDiff, Nat.reduceLT, Nat.reduceBneDiff, Nat.add_zero, Nat.zero_add, List.contains_cons, List.contains_nil, List.elem_cons, List.elem_nil, List.length_cons, List.length_nil, List.map_cons, List.map_nil, List.all_cons, List.all_nil, List.any_cons, List.any_nil, List.getElem?_cons_zero, List.getElem?_cons_succ, List.getElem?_nil, List.getD_cons_zero, List.getD_cons_succ, List.append_nil, List.nil_append, List.cons_append, List.isEmpty_cons, List.isEmpty_nil, List.headD_cons, List.headD_nil, List.tail_cons, List.tail_nil, List.take_nil, List.drop_nil, Bool.and_true, Bool.true_and, Bool.or_false, Bool.or_true, Bool.false_or, Bool.true_or, Bool.not_true, Bool.not_false, Bool.and_false, Bool.false_and, Bool.false_eq_true, Bool.true_eq_false, Bool.and_self, Bool.not_not, decide_true, decide_false, decide_eq_true_eq, beq_self_eq_true, Nat.le_refl, Nat.zero_le, and_self, true_and, and_true, false_and, and_false, or_true, true_or, if_true, if_false, Option.map_some, Option.map_none, Option.isSome_none, Option.isSome_some, eq_self_iff_true, not_true_eq_false, not_false_eq_true, ne_eq, reduceCtorEq, Nat.not_lt_zero, Nat.succ_ne_zero, List.set_cons_zero, List.set_cons_succ, Int.reduceLE, Int.reduceLT, Int.reduceEq, Int.reduceAdd, Int.reduceMul, Int.reduceSub, Int.reduceNeg, Int.reduceTMod, Int.reduceTDiv, Int.reduceBEq, Int.reduceBNe, Int.reduceToNat, Int.reduceNe, gt_iff_lt, ge_iff_le, List.take_succ_cons, List.take_zero, List.drop_zero, List.drop_succ_cons, strOf, ba_size, ba_append, ba_empty, List.length_append, w49, w50, v49, v50, w0, w1, w2, w3, idx10, c0, c1, F8_g s h, F9_g s h, F10_g, bne_self_eq_false]
theorem ev3b (s : Int) (h : (decide (400 ≤ s) && decide (s ≤ 599)) = false) : evalFn (cx3 0) [.ro 1] Try.f3 [.i .i64 s] = some (.b true, [.u]) := by
  rw [evalFn_eq _ _ Try.f3 _ _ _ rfl rfl]
  simp only [go_sem, reduceIte, ↓reduceIte, Nat.reduceAdd, Nat.reduceSub, Nat.reduceMul, Nat.reduceBEq, Nat.reduceEqDiff, Nat.reduceLeDiff, Nat.reduceLT, Nat.reduceBneDiff, Nat.add_zero, Nat.zero_add, List.contains_cons, List.contains_nil, List.elem_cons, List.elem_nil, List.length_cons, List.length_nil, List.map_cons, List.map_nil, List.all_cons, List.all_nil, List.any_cons, List.any_nil, List.getElem?_cons_zero, List.getElem?_cons_succ, List.getElem?_nil, List.getD_cons_zero, List.getD_cons_succ, List.append_nil, List.nil_append, List.cons_append, List.isEmpty_cons, List.isEmpty_nil, List.headD_cons, List.headD_nil, List.tail_cons, List.tail_nil, List.take_nil, List.drop_nil, Bool.and_true, Bool.true_and, Bool.or_false, Bool.or_true, Bool.false_or, Bool.true_or, Bool.not_true, Bool.not_false, Bool.and_false, Bool.false_and, Bool.false_eq_true, Bool.true_eq_false, Bool.and_self, Bool.not_not, decide_true, decide_false, decide_eq_true_eq, beq_self_eq_true, Nat.le_refl, Nat.zero_le, and_self, true_and, and_true, false_and, and_false, or_true, true_or, if_true, if_false, Option.map_some, Option.map_none, Option.isSome_none, Option.isSome_some, eq_self_iff_true, not_true_eq_false, not_false_eq_true, ne_eq, reduceCtorEq, Nat.not_lt_zero, Nat.succ_ne_zero, List.set_cons_zero, List.set_cons_succ, Int.reduceLE, Int.reduceLT, Int.reduceEq, Int.reduceAdd, Int.reduceMul, Int.reduceSub, Int.reduceNeg, Int.reduceTMod, Int.reduceTDiv, Int.reduceBEq, Int.reduceBNe, Int.reduceToNat, Int.reduceNe, gt_iff_lt, ge_iff_le, List.take_succ_cons, List.take_zero, List.drop_zero, List.drop_succ_cons, strOf, ba_size, ba_append, ba_empty, List.length_append, w49, w50, v49, v50, w0, w1, w2, w3, idx10, c0, c1, F8_b s h, F9_b s h, F10_b, bne_self_eq_false]
def F3 : List AV → Option (AV × List AV)
  | [.i .i64 s] => some (.b true, [.u])
  | _ => none
theorem spec3 : VSpec Try.prog 3 ⟨[.ro 1], F3, false⟩ := by
  refine spec_ro (cx := cx3 0) (f := Try.f3) rfl fns3_ok Try.func3 (by decide) rfl (by kernel_rfl) (by decide) (by decide) ?_
  intro xs r os hF
  unfold F3 at hF
  split at hF
  · rename_i s
    injection hF with hF; injection hF with e1 e2; subst e1 e2
    refine ⟨⟨0, ?_⟩, rfl, no_ro1 rfl⟩
    cases h : (decide (400 ≤ s) && decide (s ≤ 599)) with
    | true => exact ev3a s h
    | false => exact ev3b s h
  · cases hF
#print axioms spec3
end Go.Vm.A
