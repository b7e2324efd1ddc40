/- Functions of the program, walked by the evaluator. -/
import Derived.Test.YtionofhbbjpffaaVf
import Derived.Test.YtionofhbbjpffaaVe
import Derived.Laws.Strings
import Derived.ChangeShapes
import Derived.ChangeArms
import Derived.Deep.Slices
import Derived.RowKit
import Derived.Below
/- What a function does, told by plain data; loops. -/
set_option autoImplicit false
set_option linter.unusedVariables false
namespace Go.Vm

/-- What a function does at arguments that are told by an s: 'enc s' are they, 'res s' is what it answers. -/
noncomputable def FSof {σ : Type} (ok : σ → Prop) (enc : σ → List AV) (res : σ → AV × List AV) (xs : List AV) : Option (AV × List AV) :=
  open Classical in if h : ∃ s, ok s ∧ enc s = xs then some (res h.choose) else none
theorem FSof_eq {σ : Type} {ok : σ → Prop} {enc : σ → List AV} {res : σ → AV × List AV} (hinj : ∀ s s', enc s = enc s' → s = s') (s : σ) (h : ok s) : FSof ok enc res (enc s) = some (res s) := by
  have hx : ∃ s', ok s' ∧ enc s' = enc s := ⟨s, h, rfl⟩
  unfold FSof
  rw [dif_pos hx, hinj _ _ hx.choose_spec.2]
theorem FSof_inv {σ : Type} {ok : σ → Prop} {enc : σ → List AV} {res : σ → AV × List AV} {xs : List AV} {y : AV × List AV} (h : FSof ok enc res xs = some y) : ∃ s, ok s ∧ enc s = xs ∧ res s = y := by
  unfold FSof at h
  split at h
  · rename_i hx
    exact ⟨_, hx.choose_spec.1, hx.choose_spec.2, by injection h⟩
  · cases h

/-- A LOOP: from every state of a kind on, one round ends it rightly or leads to a smaller one. -/
theorem loop_gen {σ : Type} {cx : Cx} {blk : Nat} {body : Code} (S : σ → St) (I : σ → Prop) (μ : σ → Nat) (Q : σ → Option (Ex × St) → Prop)
    (h : ∀ s, I s → (∀ G, Q s (seqE (evCode cx blk body (S s)) G)) ∨ ∃ st' s', keep (cx.live blk) st' = S s' ∧ I s' ∧ μ s' < μ s ∧ (∀ r, Q s' r → Q s r) ∧ ∀ G, seqE (evCode cx blk body (S s)) G = G st') :
    ∀ (N : Nat) (s : σ), I s → μ s < N → ∃ r, (∀ st, keep (cx.live blk) st = S s → loopE cx blk body N st = r) ∧ Q s r := by
  intro N
  have key : ∀ (N : Nat) (s : σ), I s → μ s < N + 1 → Q s (seqE (evCode cx blk body (S s)) (fun s => loopE cx blk body N s)) := by
    intro N
    induction N with
    | zero =>
      intro s hI hN
      rcases h s hI with h1 | ⟨st', s', h1, h2, h3, h4, h5⟩
      · exact h1 _
      · omega
    | succ N ih =>
      intro s hI hN
      rcases h s hI with h1 | ⟨st', s', h1, h2, h3, h4, h5⟩
      · exact h1 _
      · rw [h5, loopE_succ, h1]
        exact h4 _ (ih s' h2 (by omega))
  intro s hI hN
  cases N with
  | zero => omega
  | succ N => exact ⟨_, fun st hst => by rw [loopE_succ, hst], key N s hI hN⟩
/-- a loop over the indices from 0 to n -/
theorem loop_ix {σ : Type} {cx : Cx} {blk : Nat} {body : Code} (n : Nat) (S : Nat → σ → St) (Q : Nat → σ → Option (Ex × St) → Prop)
    (hend : ∀ acc G, Q n acc (seqE (evCode cx blk body (S n acc)) G))
    (hstep : ∀ k, k < n → ∀ acc, (∀ G, Q k acc (seqE (evCode cx blk body (S k acc)) G)) ∨ ∃ st' acc', keep (cx.live blk) st' = S (k + 1) acc' ∧ (∀ r, Q (k + 1) acc' r → Q k acc r) ∧ ∀ G, seqE (evCode cx blk body (S k acc)) G = G st')
    (N : Nat) (hN : n + 1 ≤ N) (acc : σ) : ∃ r, (∀ st, keep (cx.live blk) st = S 0 acc → loopE cx blk body N st = r) ∧ Q 0 acc r := by
  refine loop_gen (σ := Nat × σ) (fun s => S s.1 s.2) (fun s => s.1 ≤ n) (fun s => n - s.1) (fun s => Q s.1 s.2) ?_ N (0, acc) (Nat.zero_le _) (by simp; omega)
  rintro ⟨k, acc⟩ hk
  simp only at hk ⊢
  by_cases he : k = n
  · subst he; exact .inl (hend acc)
  · have hlt : k < n := by omega
    rcases hstep k hlt acc with h1 | ⟨st', acc', h1, h2, h3⟩
    · exact .inl h1
    · exact .inr ⟨st', (k + 1, acc'), h1, by simp; omega, by simp; omega, h2, h3⟩

/-- the same, with what holds in between -/
theorem loop_ixI {σ : Type} {cx : Cx} {blk : Nat} {body : Code} (n : Nat) (I : Nat → σ → Prop) (S : Nat → σ → St) (Q : Nat → σ → Option (Ex × St) → Prop)
    (hend : ∀ acc, I n acc → ∀ G, Q n acc (seqE (evCode cx blk body (S n acc)) G))
    (hstep : ∀ k, k < n → ∀ acc, I k acc → (∀ G, Q k acc (seqE (evCode cx blk body (S k acc)) G)) ∨ ∃ st' acc', keep (cx.live blk) st' = S (k + 1) acc' ∧ I (k + 1) acc' ∧ (∀ r, Q (k + 1) acc' r → Q k acc r) ∧ ∀ G, seqE (evCode cx blk body (S k acc)) G = G st')
    (N : Nat) (hN : n + 1 ≤ N) (acc : σ) (hI : I 0 acc) : ∃ r, (∀ st, keep (cx.live blk) st = S 0 acc → loopE cx blk body N st = r) ∧ Q 0 acc r := by
  refine loop_gen (σ := Nat × σ) (fun s => S s.1 s.2) (fun s => s.1 ≤ n ∧ I s.1 s.2) (fun s => n - s.1) (fun s => Q s.1 s.2) ?_ N (0, acc) ⟨Nat.zero_le _, hI⟩ (by simp; omega)
  rintro ⟨k, acc⟩ ⟨hk, hIk⟩
  simp only at hk hIk ⊢
  by_cases he : k = n
  · subst he; exact .inl (hend acc hIk)
  · have hlt : k < n := by omega
    rcases hstep k hlt acc hIk with h1 | ⟨st', acc', h1, h4, h2, h3⟩
    · exact .inl h1
    · exact .inr ⟨st', (k + 1, acc'), h1, ⟨by simp; omega, h4⟩, by simp; omega, h2, h3⟩

/-- THE CONTRACT OF A FUNCTION, by plain data. -/
theorem spec_of {P : Program} {σ : Type} {cx : Cx} {g : FuncId} {f : Func} {c : Code} {md : List Md} (ok : σ → Prop) (enc : σ → List AV) (res : σ → AV × List AV) (wk : Bool) (hm : P.follows .mixedOrders = true) (hC : CxOk P cx) (hFs : ∀ g fs, cx.fns g = some fs → VSpec P g fs)
    (hf : P.funcs[g]? = some f) (hname : (f.name == "runtime.NumGoroutine") = false) (hb : f.body = some c) (np : Nat → Bool) (hnp : ∀ (j : Nat) (m : Md), md[j]? = some m → isRoMd m = false → np j = true) (hcode : codeOk cx np f.ntmps c = true)
    (hlen : md.length ≤ f.ntmps) (hpos : mdPos md = true) (hev : ∀ s, ok s → lenOkL (enc s) → ∃ n, evalFn { cx with rounds := n } md f (enc s) = some (res s)) (hnr : wk = false → ∀ s, ok s → hasRo (res s).1 = false ∧ ∀ o ∈ (res s).2, hasRo o = false) :
    VSpec P g ⟨md, FSof ok enc res, wk⟩ := by
  refine fn_spec hm hC hFs hf hname hb np hnp hcode hlen hpos (fun xs r os hF _ hl => ?_) (fun hw xs r os hF => ?_)
  · obtain ⟨s, h1, h2, h3⟩ := FSof_inv hF
    subst h2
    obtain ⟨n, h4⟩ := hev s h1 hl
    exact ⟨n, by rw [h4, h3]⟩
  · obtain ⟨s, h1, h2, h3⟩ := FSof_inv hF
    have := hnr hw s h1
    rw [h3] at this
    exact this
/-- where everything is only read -/
theorem spec_ro' {P : Program} {σ : Type} {cx : Cx} {g : FuncId} {f : Func} {c : Code} {md : List Md} (ok : σ → Prop) (enc : σ → List AV) (res : σ → AV × List AV) (hm : P.follows .mixedOrders = true) (hC : CxOk P cx) (hFs : ∀ g fs, cx.fns g = some fs → VSpec P g fs)
    (hf : P.funcs[g]? = some f) (hname : (f.name == "runtime.NumGoroutine") = false) (hb : f.body = some c) (hcode : codeOk cx (fun _ => false) f.ntmps c = true) (hlen : md.length ≤ f.ntmps) (hro : md.all isRoMd = true)
    (hev : ∀ s, ok s → lenOkL (enc s) → ∃ n, evalFn { cx with rounds := n } md f (enc s) = some (res s)) (hnr : ∀ s, ok s → hasRo (res s).1 = false) (ho : ∀ s, (res s).2 = md.map fun _ => .u) :
    VSpec P g ⟨md, FSof ok enc res, false⟩ := by
  refine spec_of ok enc res false hm hC hFs hf hname hb (fun _ => false) (fun j m h1 h2 => ?_) hcode hlen ?_ hev (fun _ s hs => ⟨hnr s hs, fun o h => ?_⟩)
  · have := List.all_eq_true.1 hro m (List.mem_of_getElem? h1)
    rw [this] at h2; cases h2
  · unfold mdPos
    rw [List.all_eq_true]
    intro m hm
    have := List.all_eq_true.1 hro m hm
    cases m <;> first | rfl | cases this
  · rw [ho, List.mem_map] at h
    obtain ⟨_, _, rfl⟩ := h
    rfl

/-- where parts of what is read may be kept in the answer -/
theorem spec_wk {P : Program} {σ : Type} {cx : Cx} {g : FuncId} {f : Func} {c : Code} {md : List Md} (ok : σ → Prop) (enc : σ → List AV) (res : σ → AV × List AV) (hm : P.follows .mixedOrders = true) (hC : CxOk P cx) (hFs : ∀ g fs, cx.fns g = some fs → VSpec P g fs)
    (hf : P.funcs[g]? = some f) (hname : (f.name == "runtime.NumGoroutine") = false) (hb : f.body = some c) (hcode : codeOk cx (fun _ => false) f.ntmps c = true) (hlen : md.length ≤ f.ntmps) (hro : md.all isRoMd = true)
    (hev : ∀ s, ok s → lenOkL (enc s) → ∃ n, evalFn { cx with rounds := n } md f (enc s) = some (res s)) :
    VSpec P g ⟨md, FSof ok enc res, true⟩ := by
  refine spec_of ok enc res true hm hC hFs hf hname hb (fun _ => false) (fun j m h1 h2 => ?_) hcode hlen ?_ hev (fun h => by cases h)
  · have := List.all_eq_true.1 hro m (List.mem_of_getElem? h1)
    rw [this] at h2; cases h2
  · unfold mdPos
    rw [List.all_eq_true]
    intro m hm
    have := List.all_eq_true.1 hro m hm
    cases m <;> first | rfl | cases this

/-! what loops do -/
def runS {α σ : Type} (c : α → σ → Bool) (g : α → σ → σ) : List α → σ → Sum σ (α × σ)
  | [], s => .inl s
  | x :: xs, s => if c x s = true then .inr (x, s) else runS c g xs (g x s)
theorem map_gdA {α : Type} (f : α → AV) (xs : List α) (k : Nat) (h : k < xs.length) : (xs.map f).getD k .u = f xs[k] := by simp [List.getD, h]

/-! small things for walks -/
@[go_sem] theorem av_nilFunc : avOf .nilFunc = .u := nr rfl
theorem wrap_id {k : Int} (h0 : -9223372036854775808 ≤ k) (h : k ≤ 9223372036854775807) : (IntKind.i64).wrap k = k := by
  simp [IntKind.wrap, IntKind.bits, IntKind.signed]
  omega
theorem wrap_nat1 {k : Nat} (h : k < 9223372036854775807) : (IntKind.i64).wrap ((k : Int) + 1) = ((k + 1 : Nat) : Int) := by
  rw [wrap_id (by omega) (by omega)]; rfl
theorem idx_nt (n k : Nat) (h : k < n) : idx? n (k : Int) = some k := by
  simp only [idx?]
  rw [if_pos ⟨by omega, by omega⟩]; rfl
theorem map_gd {α : Type} (f : α → List AV) (xs : List α) (k : Nat) (h : k < xs.length) : (xs.map f).getD k [] = f xs[k] := by simp [List.getD, h]
theorem gd_map {α : Type} (f : α → List AV) (xs : List α) (k : Nat) (h : k < xs.length) : (xs.map f)[k]? = some (f xs[k]) := by simp [h]
@[go_sem] theorem take_mapl {α : Type} (f : α → List AV) (xs : List α) : (xs.map f).take xs.length = xs.map f := by
  have := List.take_length (l := xs.map f)
  rwa [List.length_map] at this
theorem map_snoc {α : Type} (f : α → List AV) (xs : List α) (x : α) : xs.map f ++ [f x] = (xs ++ [x]).map f := by simp
/-- are they the same? -/
noncomputable def eqv {α : Type} (a b : α) : Bool := open Classical in decide (a = b)
theorem eqv_iff {α : Type} {a b : α} : eqv a b = true ↔ a = b := by simp [eqv]
theorem eqv_self {α : Type} (a : α) : eqv a a = true := by simp [eqv]
theorem eqv_of {α : Type} {p : Bool} {a b : α} (h : p = true ↔ a = b) : p = eqv a b := by
  cases p with
  | true => exact (eqv_iff.2 (h.1 rfl)).symm
  | false =>
    cases he : eqv a b with
    | false => rfl
    | true => exact absurd (h.2 (eqv_iff.1 he)) (by simp)
theorem eqv_int (a b : Int) : (a == b) = eqv a b := eqv_of (by simp)
theorem eqv_intne (a b : Int) : (a != b) = !eqv a b := by rw [bne, eqv_int]
theorem eqv_bool (a b : Bool) : (a == b) = eqv a b := eqv_of (by simp)
theorem eqv_boolne (a b : Bool) : (a != b) = !eqv a b := by rw [bne, eqv_bool]
theorem eqv_byte (a b : UInt8) : ((a.toNat : Int) != (b.toNat : Int)) = !eqv a b := by
  rw [bne, eqv_of (p := ((a.toNat : Int) == (b.toNat : Int))) (a := a) (b := b)]
  simp only [beq_iff_eq, Int.ofNat_inj]
  exact UInt8.toNat_inj
theorem ba_ext {a b : ByteArray} (h : a.toList = b.toList) : a = b := by
  rw [ByteArray.toList_eq, ByteArray.toList_eq] at h
  cases a; cases b
  simp only [ByteArray.mk.injEq] at h ⊢
  exact Array.ext' h
theorem eqv_bytes (a b : ByteArray) : (a.toList == b.toList) = eqv a b := eqv_of (by
  constructor
  · intro h; exact ba_ext (by simpa using h)
  · rintro rfl; simp)
/-! the loops of a function, in text order -/
def loopsOf : Code → List Code
  | .seq a b => loopsOf a ++ loopsOf b
  | .cond _ a b => loopsOf a ++ loopsOf b
  | .block _ c => loopsOf c
  | .loop c => c :: loopsOf c
  | _ => []
def loopN (f : Func) (i : Nat) : Code := ((f.body.map loopsOf).getD [])[i]?.getD .skip
theorem loopN_eq (f : Func) (i : Nat) (c b : Code) (h : f.body = some c) (h2 : (loopsOf c)[i]? = some b) : loopN f i = b := by
  unfold loopN; rw [h]; simp only [Option.map_some, Option.getD_some, h2]
end Go.Vm
/- Plain data for the program's own types: rows of cells, sizes. -/
set_option autoImplicit false
set_option maxRecDepth 100000
set_option maxHeartbeats 4000000
set_option linter.unusedVariables false
set_option linter.unusedSimpArgs false
namespace Go.Vm
def rByte (b : UInt8) : List AV := [.i .u8 b.toNat]
def rStr (s : ByteArray) : List AV := [.s s]
def rInt (n : Int) : List AV := [.i .i64 n]
def rBool (b : Bool) : List AV := [.b b]
@[go_sem] theorem rByte_def (b : UInt8) : rByte b = [.i .u8 b.toNat] := nr rfl
@[go_sem] theorem rStr_def (s : ByteArray) : rStr s = [.s s] := nr rfl
@[go_sem] theorem rInt_def (n : Int) : rInt n = [.i .i64 n] := nr rfl
@[go_sem] theorem rBool_def (b : Bool) : rBool b = [.b b] := nr rfl
theorem rByte_inj {a b : UInt8} (h : rByte a = rByte b) : a = b := by
  simp only [rByte, List.cons.injEq, AV.i.injEq, true_and, and_true] at h
  exact UInt8.toNat_inj.1 (by omega)
theorem rStr_inj {a b : ByteArray} (h : rStr a = rStr b) : a = b := by simpa [rStr] using h
theorem rInt_inj {a b : Int} (h : rInt a = rInt b) : a = b := by simpa [rInt] using h
theorem rBool_inj {a b : Bool} (h : rBool a = rBool b) : a = b := by simpa [rBool] using h
theorem map_inj_of {α β : Type} {f : α → β} (hf : ∀ {a b : α}, f a = f b → a = b) (xs ys : List α) : xs.map f = ys.map f ↔ xs = ys := by
  constructor
  · intro h
    induction xs generalizing ys with
    | nil => cases ys <;> simp_all
    | cons x xs ih =>
      cases ys with
      | nil => simp at h
      | cons y ys =>
        simp only [List.map_cons, List.cons.injEq] at h
        rw [hf h.1, ih _ h.2]
  · rintro rfl; rfl
theorem rByte_mi (xs ys : List UInt8) : xs.map rByte = ys.map rByte ↔ xs = ys := map_inj_of rByte_inj xs ys
theorem rStr_mi (xs ys : List ByteArray) : xs.map rStr = ys.map rStr ↔ xs = ys := map_inj_of rStr_inj xs ys
theorem rInt_mi (xs ys : List Int) : xs.map rInt = ys.map rInt ↔ xs = ys := map_inj_of rInt_inj xs ys
theorem rBool_mi (xs ys : List Bool) : xs.map rBool = ys.map rBool ↔ xs = ys := map_inj_of rBool_inj xs ys
theorem strip_map {α : Type} {f g : α → List AV} (h : ∀ a, stripL (f a) = g a) : ∀ xs : List α, stripLL (xs.map f) = xs.map g
  | [] => rfl
  | x :: xs => by simp only [List.map_cons, stripLL, h, strip_map h xs]
theorem noRo_map {α : Type} {f : α → List AV} (h : ∀ a, hasRoL (f a) = false) : ∀ xs : List α, hasRoLL (xs.map f) = false
  | [] => rfl
  | x :: xs => by simp only [List.map_cons, hasRoLL, h, noRo_map h xs, Bool.or_self]
@[go_sem] theorem rByte_strip (xs : List UInt8) : stripLL (xs.map rByte) = xs.map rByte := strip_map (fun a => by simp only [rByte, stripL, strip]) xs
@[go_sem] theorem rStr_strip (xs : List ByteArray) : stripLL (xs.map rStr) = xs.map rStr := strip_map (fun a => by simp only [rStr, stripL, strip]) xs
@[go_sem] theorem rInt_strip (xs : List Int) : stripLL (xs.map rInt) = xs.map rInt := strip_map (fun a => by simp only [rInt, stripL, strip]) xs
@[go_sem] theorem rBool_strip (xs : List Bool) : stripLL (xs.map rBool) = xs.map rBool := strip_map (fun a => by simp only [rBool, stripL, strip]) xs
@[go_sem] theorem rByte_noRo (xs : List UInt8) : hasRoLL (xs.map rByte) = false := noRo_map (fun a => by simp only [rByte, hasRoL, hasRo, Bool.or_self]) xs
@[go_sem] theorem rStr_noRo (xs : List ByteArray) : hasRoLL (xs.map rStr) = false := noRo_map (fun a => by simp only [rStr, hasRoL, hasRo, Bool.or_self]) xs
@[go_sem] theorem rInt_noRo (xs : List Int) : hasRoLL (xs.map rInt) = false := noRo_map (fun a => by simp only [rInt, hasRoL, hasRo, Bool.or_self]) xs
@[go_sem] theorem rBool_noRo (xs : List Bool) : hasRoLL (xs.map rBool) = false := noRo_map (fun a => by simp only [rBool, hasRoL, hasRo, Bool.or_self]) xs
/-! sizes -/
def szs (n : Nat) (left : Int) (k : Int → Int) : Int := if (IntKind.i64).wrap (left - (n : Int)) < 0 then -1 else k ((IntKind.i64).wrap (left - (n : Int)))
def szn (r : Int) (k : Int → Int) : Int := if r < 0 then -1 else k r
def szO {α : Type} (f : α → Int → Int) : List α → Int → Option Int
  | [], l => some l
  | x :: xs, l => if f x l < 0 then none else szO f xs (f x l)
def szL {α : Type} (f : α → Int → Int) (xs : List α) (left : Int) : Int := szs xs.length left fun l => (szO f xs l).getD (-1)
def szByteS (xs : List UInt8) (left : Int) : Int := szs xs.length left fun l => l
def szStr (s : ByteArray) (left : Int) : Int := szs s.size left fun l => l
def okByte (_ : UInt8) : Prop := True
def okStr (s : ByteArray) : Prop := s.size ≤ 9223372036854775807
def okInt (n : Int) : Prop := -9223372036854775808 ≤ n ∧ n ≤ 9223372036854775807
def okL {α : Type} (p : α → Prop) (xs : List α) : Prop := xs.length ≤ 9223372036854775807 ∧ ∀ x ∈ xs, p x
def smStr (s : ByteArray) : Prop := s.size ≤ 1048576
def smByte (_ : UInt8) : Prop := True
def smInt (_ : Int) : Prop := True
def smBool (_ : Bool) : Prop := True
def okBool (_ : Bool) : Prop := True
def smL {α : Type} (p : α → Prop) (xs : List α) : Prop := xs.length ≤ 1048576 ∧ ∀ x ∈ xs, p x
theorem szs_fact {n : Nat} {l : Int} {k : Int → Int} (hn : n ≤ 9223372036854775807) (h0 : 0 ≤ l) (hl : l ≤ 1048576) (h : 0 ≤ szs n l k) : n ≤ 1048576 ∧ ∃ l', 0 ≤ l' ∧ l' ≤ l ∧ szs n l k = k l' := by
  unfold szs at h ⊢
  rw [wrap_id (by omega) (by omega)] at h ⊢
  split at h
  · omega
  · rename_i hc
    rw [if_neg hc]
    exact ⟨by omega, _, by omega, by omega, rfl⟩
theorem szn_fact {r : Int} {k : Int → Int} (h : 0 ≤ szn r k) : 0 ≤ r ∧ szn r k = k r := by
  unfold szn at h ⊢
  split at h
  · omega
  · rename_i hc
    rw [if_neg hc]
    exact ⟨by omega, rfl⟩
def SzFact {α : Type} (f : α → Int → Int) (ok sm : α → Prop) : Prop := ∀ a l, ok a → 0 ≤ l → l ≤ 1048576 → 0 ≤ f a l → sm a ∧ f a l ≤ l
theorem szL_fact {α : Type} {f : α → Int → Int} {ok sm : α → Prop} (hf : SzFact f ok sm) : SzFact (szL f) (okL ok) (smL sm) := by
  intro xs l hok h0 hl h
  obtain ⟨h1, l', a1, a2, e⟩ := szs_fact hok.1 h0 hl h
  have key : ∀ (ys : List α) (m : Int), (∀ x ∈ ys, ok x) → 0 ≤ m → m ≤ 1048576 → 0 ≤ (szO f ys m).getD (-1) → (∀ x ∈ ys, sm x) ∧ (szO f ys m).getD (-1) ≤ m := by
    intro ys
    induction ys with
    | nil => intro m _ _ _ _; simp [szO]
    | cons y ys ih =>
      intro m ho hm0 hm hs
      simp only [szO] at hs ⊢
      split at hs
      · simp at hs
      · rename_i hc
        rw [if_neg hc]
        obtain ⟨s1, s2⟩ := hf y m (ho y (by simp)) hm0 hm (by omega)
        obtain ⟨s3, s4⟩ := ih _ (fun x hx => ho x (by simp [hx])) (by omega) (by omega) hs
        exact ⟨fun x hx => (List.mem_cons.1 hx).elim (fun e => e ▸ s1) (fun hx => s3 x hx), by omega⟩
  unfold szL at h ⊢
  rw [e] at h ⊢
  obtain ⟨k1, k2⟩ := key xs l' hok.2 a1 (by omega) h
  exact ⟨⟨h1, k1⟩, by omega⟩
theorem szByteS_fact : SzFact szByteS (okL okByte) (smL smByte) := by
  intro xs l hok h0 hl h
  obtain ⟨h1, l', a1, a2, e⟩ := szs_fact hok.1 h0 hl h
  unfold szByteS at h ⊢
  rw [e]
  exact ⟨⟨h1, fun _ _ => trivial⟩, a2⟩
theorem szStr_fact : SzFact szStr okStr smStr := by
  intro xs l hok h0 hl h
  obtain ⟨h1, l', a1, a2, e⟩ := szs_fact hok h0 hl h
  unfold szStr at h ⊢
  rw [e]
  exact ⟨h1, a2⟩
theorem smL_get {α : Type} {p : α → Prop} {xs : List α} (h : smL p xs) {k : Nat} (hk : k < xs.length) : p xs[k] := h.2 _ (List.getElem_mem hk)
/-! the list that is filled -/
def fillUp {α : Type} (f : α → List AV) (z : List AV) (xs : List α) (k : Nat) : List (List AV) := (xs.take k).map f ++ List.replicate (xs.length - k) z
theorem fillUp_zero {α : Type} (f : α → List AV) (z : List AV) (xs : List α) : List.replicate xs.length z = fillUp f z xs 0 := by simp [fillUp]
theorem fillUp_all {α : Type} (f : α → List AV) (z : List AV) (xs : List α) : fillUp f z xs xs.length = xs.map f := by simp [fillUp]
theorem fillUp_len {α : Type} (f : α → List AV) (z : List AV) (xs : List α) (k : Nat) (h : k ≤ xs.length) : (fillUp f z xs k).length = xs.length := by simp [fillUp]; omega
theorem fillUp_set {α : Type} (f : α → List AV) (z : List AV) (xs : List α) (k : Nat) (h : k < xs.length) : (fillUp f z xs k).set k (f xs[k]) = fillUp f z xs (k + 1) := by
  unfold fillUp
  rw [List.set_append_right _ _ (by simp; omega)]
  simp only [List.length_map, List.length_take]
  rw [show k - min k xs.length = 0 by omega, show xs.length - k = (xs.length - (k + 1)) + 1 by omega, List.replicate_succ, List.set_cons_zero, List.take_succ_eq_append_getElem h, List.map_append]
  simp only [List.map_cons, List.map_nil, List.append_assoc, List.cons_append, List.nil_append]
theorem fillUp_get {α : Type} (f : α → List AV) (z : List AV) (xs : List α) (k : Nat) (h : k < xs.length) : (fillUp f z xs k)[k]? = some z := by
  unfold fillUp
  rw [List.getElem?_append_right (by simp; omega)]
  simp only [List.length_map, List.length_take]
  rw [show k - min k xs.length = 0 by omega, List.getElem?_replicate, if_pos (by omega)]
theorem fillUp_getD {α : Type} (f : α → List AV) (z : List AV) (xs : List α) (k : Nat) (h : k < xs.length) : (fillUp f z xs k).getD k [] = z := by
  rw [List.getD_eq_getElem?_getD, fillUp_get f z xs k h]; rfl
/-! answers that part -/
theorem if_i (c : Prop) [Decidable c] (k : IntKind) (x y : Int) (l : List AV) : (if c then some (AV.i k x, l) else some (AV.i k y, l)) = some (AV.i k (if c then x else y), l) := by split <;> rfl
theorem if_b (c : Prop) [Decidable c] (x y : Bool) (l : List AV) : (if c then some (AV.b x, l) else some (AV.b y, l)) = some (AV.b (if c then x else y), l) := by split <;> rfl
theorem not_eq_t (x : Bool) : ((!x) = true) = (x = false) := by cases x <;> simp
theorem if_nb (x y : Bool) : (if x = false then false else y) = (x && y) := by cases x <;> rfl
end Go.Vm

namespace Go.Vm
structure Header where
  Name : ByteArray
  Value : ByteArray
def rHeader (t : Tag) (a : Header) : List AV := [.s a.Name, .s a.Value]
@[go_sem] theorem rHeader_def (t : Tag) (a : Header) : rHeader t a = [.s a.Name, .s a.Value] := nr rfl
theorem rHeader_inj {t : Tag} {a b : Header} (h : rHeader t a = rHeader t b) : a = b := by
  obtain ⟨aName, aValue⟩ := a
  obtain ⟨bName, bValue⟩ := b
  simp only [rHeader, List.cons.injEq, AV.i.injEq, AV.b.injEq, AV.s.injEq, AV.sl.injEq, true_and, and_true] at h
  simp only [Header.mk.injEq]
  simp [h]
theorem rHeader_ii (t : Tag) (a b : Header) : rHeader t a = rHeader t b ↔ a = b := ⟨rHeader_inj, fun h => by rw [h]⟩
theorem rHeader_mi (t : Tag) (xs ys : List Header) : xs.map (rHeader t) = ys.map (rHeader t) ↔ xs = ys := map_inj_of rHeader_inj xs ys
@[go_sem] theorem rHeader_strip (t : Tag) (xs : List Header) : stripLL (xs.map (rHeader t)) = xs.map (rHeader .ro) := strip_map (fun a => by simp only [rHeader, stripL, strip]) xs
@[go_sem] theorem rHeader_noRo (xs : List Header) : hasRoLL (xs.map (rHeader .mut)) = false := noRo_map (fun a => by simp only [rHeader, hasRoL, hasRo, Bool.or_self]) xs
@[go_sem] theorem Header.eta (a : Header) : Header.mk a.Name a.Value = a := nr rfl
theorem Header.eqv (a b : Header) : Vm.eqv a b = (Vm.eqv a.Name b.Name && (Vm.eqv a.Value b.Value)) := (eqv_of (by simp only [Bool.and_eq_true, eqv_iff]; cases a; cases b; simp only [Header.mk.injEq, and_assoc])).symm
def okHeader (a : Header) : Prop := okStr a.Name ∧ okStr a.Value
def smHeader (a : Header) : Prop := smStr a.Name ∧ smStr a.Value
def szHeader (a : Header) (left : Int) : Int := szs a.Name.size left fun l => szs a.Value.size l fun l => l
theorem szHeader_fact : SzFact szHeader okHeader smHeader := by
  intro a left hok h0 hl h
  unfold szHeader at h ⊢
  obtain ⟨qName, qValue⟩ := hok
  obtain ⟨sName, l0, a0, b0, e0⟩ := szs_fact qName h0 (by omega) h
  rw [e0] at h ⊢
  obtain ⟨sValue, l1, a1, b1, e1⟩ := szs_fact qValue a0 (by omega) h
  rw [e1] at h ⊢
  exact ⟨⟨sName, sValue⟩, by omega⟩
structure Response where
  Status : Int
  Headers : List Header
  Body : List UInt8
def rResponse (t : Tag) (a : Response) : List AV := [.i .i64 a.Status, .sl t 2 (a.Headers.map (rHeader t)), .sl t 1 (a.Body.map rByte)]
@[go_sem] theorem rResponse_def (t : Tag) (a : Response) : rResponse t a = [.i .i64 a.Status, .sl t 2 (a.Headers.map (rHeader t)), .sl t 1 (a.Body.map rByte)] := nr rfl
theorem rResponse_inj {t : Tag} {a b : Response} (h : rResponse t a = rResponse t b) : a = b := by
  obtain ⟨aStatus, aHeaders, aBody⟩ := a
  obtain ⟨bStatus, bHeaders, bBody⟩ := b
  simp only [rResponse, List.cons.injEq, AV.i.injEq, AV.b.injEq, AV.s.injEq, AV.sl.injEq, true_and, and_true, rByte_mi, rHeader_mi] at h
  simp only [Response.mk.injEq]
  simp [h]
theorem rResponse_ii (t : Tag) (a b : Response) : rResponse t a = rResponse t b ↔ a = b := ⟨rResponse_inj, fun h => by rw [h]⟩
theorem rResponse_mi (t : Tag) (xs ys : List Response) : xs.map (rResponse t) = ys.map (rResponse t) ↔ xs = ys := map_inj_of rResponse_inj xs ys
@[go_sem] theorem rResponse_strip (t : Tag) (xs : List Response) : stripLL (xs.map (rResponse t)) = xs.map (rResponse .ro) := strip_map (fun a => by simp only [rResponse, stripL, strip, rByte_strip, rHeader_strip]) xs
@[go_sem] theorem rResponse_noRo (xs : List Response) : hasRoLL (xs.map (rResponse .mut)) = false := noRo_map (fun a => by simp only [rResponse, hasRoL, hasRo, Bool.or_self, rByte_noRo, rHeader_noRo]) xs
@[go_sem] theorem Response.eta (a : Response) : Response.mk a.Status a.Headers a.Body = a := nr rfl
theorem Response.eqv (a b : Response) : Vm.eqv a b = (Vm.eqv a.Status b.Status && (Vm.eqv a.Headers b.Headers && (Vm.eqv a.Body b.Body))) := (eqv_of (by simp only [Bool.and_eq_true, eqv_iff]; cases a; cases b; simp only [Response.mk.injEq, and_assoc])).symm
def okResponse (a : Response) : Prop := okInt a.Status ∧ (okL okHeader) a.Headers ∧ (okL okByte) a.Body
def smResponse (a : Response) : Prop := smInt a.Status ∧ (smL smHeader) a.Headers ∧ (smL smByte) a.Body
def szResponse (a : Response) (left : Int) : Int := szn (szL szHeader a.Headers left) fun l => szn (szByteS a.Body l) fun l => l
theorem szResponse_fact : SzFact szResponse okResponse smResponse := by
  intro a left hok h0 hl h
  unfold szResponse at h ⊢
  obtain ⟨qStatus, qHeaders, qBody⟩ := hok
  obtain ⟨a0, e0⟩ := szn_fact h
  obtain ⟨sHeaders, b0⟩ := (szL_fact szHeader_fact) _ _ qHeaders h0 (by omega) a0
  rw [e0] at h ⊢
  obtain ⟨a1, e1⟩ := szn_fact h
  obtain ⟨sBody, b1⟩ := szByteS_fact _ _ qBody a0 (by omega) a1
  rw [e1] at h ⊢
  exact ⟨⟨trivial, sHeaders, sBody⟩, by omega⟩
structure ResponseResult where
  Code : Int
  Response : Response
def rResponseResult (t : Tag) (a : ResponseResult) : List AV := [.i .i64 a.Code, .i .i64 a.Response.Status, .sl t 2 (a.Response.Headers.map (rHeader t)), .sl t 1 (a.Response.Body.map rByte)]
@[go_sem] theorem rResponseResult_def (t : Tag) (a : ResponseResult) : rResponseResult t a = [.i .i64 a.Code, .i .i64 a.Response.Status, .sl t 2 (a.Response.Headers.map (rHeader t)), .sl t 1 (a.Response.Body.map rByte)] := nr rfl
theorem rResponseResult_inj {t : Tag} {a b : ResponseResult} (h : rResponseResult t a = rResponseResult t b) : a = b := by
  obtain ⟨aCode, ⟨aResponseStatus, aResponseHeaders, aResponseBody⟩⟩ := a
  obtain ⟨bCode, ⟨bResponseStatus, bResponseHeaders, bResponseBody⟩⟩ := b
  simp only [rResponseResult, List.cons.injEq, AV.i.injEq, AV.b.injEq, AV.s.injEq, AV.sl.injEq, true_and, and_true, rByte_mi, rHeader_mi] at h
  simp only [ResponseResult.mk.injEq, Response.mk.injEq]
  simp [h]
theorem rResponseResult_ii (t : Tag) (a b : ResponseResult) : rResponseResult t a = rResponseResult t b ↔ a = b := ⟨rResponseResult_inj, fun h => by rw [h]⟩
theorem rResponseResult_mi (t : Tag) (xs ys : List ResponseResult) : xs.map (rResponseResult t) = ys.map (rResponseResult t) ↔ xs = ys := map_inj_of rResponseResult_inj xs ys
@[go_sem] theorem rResponseResult_strip (t : Tag) (xs : List ResponseResult) : stripLL (xs.map (rResponseResult t)) = xs.map (rResponseResult .ro) := strip_map (fun a => by simp only [rResponseResult, stripL, strip, rByte_strip, rHeader_strip]) xs
@[go_sem] theorem rResponseResult_noRo (xs : List ResponseResult) : hasRoLL (xs.map (rResponseResult .mut)) = false := noRo_map (fun a => by simp only [rResponseResult, hasRoL, hasRo, Bool.or_self, rByte_noRo, rHeader_noRo]) xs
@[go_sem] theorem ResponseResult.eta (a : ResponseResult) : ResponseResult.mk a.Code a.Response = a := nr rfl
theorem ResponseResult.eqv (a b : ResponseResult) : Vm.eqv a b = (Vm.eqv a.Code b.Code && (Vm.eqv a.Response b.Response)) := (eqv_of (by simp only [Bool.and_eq_true, eqv_iff]; cases a; cases b; simp only [ResponseResult.mk.injEq, and_assoc])).symm
def okResponseResult (a : ResponseResult) : Prop := okInt a.Code ∧ okResponse a.Response
def smResponseResult (a : ResponseResult) : Prop := smInt a.Code ∧ smResponse a.Response
def szResponseResult (a : ResponseResult) (left : Int) : Int := szn (szResponse a.Response left) fun l => l
theorem szResponseResult_fact : SzFact szResponseResult okResponseResult smResponseResult := by
  intro a left hok h0 hl h
  unfold szResponseResult at h ⊢
  obtain ⟨qCode, qResponse⟩ := hok
  obtain ⟨a0, e0⟩ := szn_fact h
  obtain ⟨sResponse, b0⟩ := szResponse_fact _ _ qResponse h0 (by omega) a0
  rw [e0] at h ⊢
  exact ⟨⟨trivial, sResponse⟩, by omega⟩
structure IntResult where
  Code : Int
  Value : Int
def rIntResult (t : Tag) (a : IntResult) : List AV := [.i .i64 a.Code, .i .i64 a.Value]
@[go_sem] theorem rIntResult_def (t : Tag) (a : IntResult) : rIntResult t a = [.i .i64 a.Code, .i .i64 a.Value] := nr rfl
theorem rIntResult_inj {t : Tag} {a b : IntResult} (h : rIntResult t a = rIntResult t b) : a = b := by
  obtain ⟨aCode, aValue⟩ := a
  obtain ⟨bCode, bValue⟩ := b
  simp only [rIntResult, List.cons.injEq, AV.i.injEq, AV.b.injEq, AV.s.injEq, AV.sl.injEq, true_and, and_true] at h
  simp only [IntResult.mk.injEq]
  simp [h]
theorem rIntResult_ii (t : Tag) (a b : IntResult) : rIntResult t a = rIntResult t b ↔ a = b := ⟨rIntResult_inj, fun h => by rw [h]⟩
theorem rIntResult_mi (t : Tag) (xs ys : List IntResult) : xs.map (rIntResult t) = ys.map (rIntResult t) ↔ xs = ys := map_inj_of rIntResult_inj xs ys
@[go_sem] theorem rIntResult_strip (t : Tag) (xs : List IntResult) : stripLL (xs.map (rIntResult t)) = xs.map (rIntResult .ro) := strip_map (fun a => by simp only [rIntResult, stripL, strip]) xs
@[go_sem] theorem rIntResult_noRo (xs : List IntResult) : hasRoLL (xs.map (rIntResult .mut)) = false := noRo_map (fun a => by simp only [rIntResult, hasRoL, hasRo, Bool.or_self]) xs
@[go_sem] theorem IntResult.eta (a : IntResult) : IntResult.mk a.Code a.Value = a := nr rfl
theorem IntResult.eqv (a b : IntResult) : Vm.eqv a b = (Vm.eqv a.Code b.Code && (Vm.eqv a.Value b.Value)) := (eqv_of (by simp only [Bool.and_eq_true, eqv_iff]; cases a; cases b; simp only [IntResult.mk.injEq, and_assoc])).symm
def okIntResult (a : IntResult) : Prop := okInt a.Code ∧ okInt a.Value
def smIntResult (a : IntResult) : Prop := smInt a.Code ∧ smInt a.Value
theorem sm_trivIntResult (a : IntResult) : smIntResult a := ⟨trivial, trivial⟩
structure Mark where
  At : Int
  Good : Bool
def rMark (t : Tag) (a : Mark) : List AV := [.i .i64 a.At, .b a.Good]
@[go_sem] theorem rMark_def (t : Tag) (a : Mark) : rMark t a = [.i .i64 a.At, .b a.Good] := nr rfl
theorem rMark_inj {t : Tag} {a b : Mark} (h : rMark t a = rMark t b) : a = b := by
  obtain ⟨aAt, aGood⟩ := a
  obtain ⟨bAt, bGood⟩ := b
  simp only [rMark, List.cons.injEq, AV.i.injEq, AV.b.injEq, AV.s.injEq, AV.sl.injEq, true_and, and_true] at h
  simp only [Mark.mk.injEq]
  simp [h]
theorem rMark_ii (t : Tag) (a b : Mark) : rMark t a = rMark t b ↔ a = b := ⟨rMark_inj, fun h => by rw [h]⟩
theorem rMark_mi (t : Tag) (xs ys : List Mark) : xs.map (rMark t) = ys.map (rMark t) ↔ xs = ys := map_inj_of rMark_inj xs ys
@[go_sem] theorem rMark_strip (t : Tag) (xs : List Mark) : stripLL (xs.map (rMark t)) = xs.map (rMark .ro) := strip_map (fun a => by simp only [rMark, stripL, strip]) xs
@[go_sem] theorem rMark_noRo (xs : List Mark) : hasRoLL (xs.map (rMark .mut)) = false := noRo_map (fun a => by simp only [rMark, hasRoL, hasRo, Bool.or_self]) xs
@[go_sem] theorem Mark.eta (a : Mark) : Mark.mk a.At a.Good = a := nr rfl
theorem Mark.eqv (a b : Mark) : Vm.eqv a b = (Vm.eqv a.At b.At && (Vm.eqv a.Good b.Good)) := (eqv_of (by simp only [Bool.and_eq_true, eqv_iff]; cases a; cases b; simp only [Mark.mk.injEq, and_assoc])).symm
def okMark (a : Mark) : Prop := okInt a.At ∧ okBool a.Good
def smMark (a : Mark) : Prop := smInt a.At ∧ smBool a.Good
theorem sm_trivMark (a : Mark) : smMark a := ⟨trivial, trivial⟩
structure Breaker where
  State : Int
  Since : Int
  Out : Int
  Marks : List Mark
def rBreaker (t : Tag) (a : Breaker) : List AV := [.i .i64 a.State, .i .i64 a.Since, .i .i64 a.Out, .sl t 2 (a.Marks.map (rMark t))]
@[go_sem] theorem rBreaker_def (t : Tag) (a : Breaker) : rBreaker t a = [.i .i64 a.State, .i .i64 a.Since, .i .i64 a.Out, .sl t 2 (a.Marks.map (rMark t))] := nr rfl
theorem rBreaker_inj {t : Tag} {a b : Breaker} (h : rBreaker t a = rBreaker t b) : a = b := by
  obtain ⟨aState, aSince, aOut, aMarks⟩ := a
  obtain ⟨bState, bSince, bOut, bMarks⟩ := b
  simp only [rBreaker, List.cons.injEq, AV.i.injEq, AV.b.injEq, AV.s.injEq, AV.sl.injEq, true_and, and_true, rMark_mi] at h
  simp only [Breaker.mk.injEq]
  simp [h]
theorem rBreaker_ii (t : Tag) (a b : Breaker) : rBreaker t a = rBreaker t b ↔ a = b := ⟨rBreaker_inj, fun h => by rw [h]⟩
theorem rBreaker_mi (t : Tag) (xs ys : List Breaker) : xs.map (rBreaker t) = ys.map (rBreaker t) ↔ xs = ys := map_inj_of rBreaker_inj xs ys
@[go_sem] theorem rBreaker_strip (t : Tag) (xs : List Breaker) : stripLL (xs.map (rBreaker t)) = xs.map (rBreaker .ro) := strip_map (fun a => by simp only [rBreaker, stripL, strip, rMark_strip]) xs
@[go_sem] theorem rBreaker_noRo (xs : List Breaker) : hasRoLL (xs.map (rBreaker .mut)) = false := noRo_map (fun a => by simp only [rBreaker, hasRoL, hasRo, Bool.or_self, rMark_noRo]) xs
@[go_sem] theorem Breaker.eta (a : Breaker) : Breaker.mk a.State a.Since a.Out a.Marks = a := nr rfl
theorem Breaker.eqv (a b : Breaker) : Vm.eqv a b = (Vm.eqv a.State b.State && (Vm.eqv a.Since b.Since && (Vm.eqv a.Out b.Out && (Vm.eqv a.Marks b.Marks)))) := (eqv_of (by simp only [Bool.and_eq_true, eqv_iff]; cases a; cases b; simp only [Breaker.mk.injEq, and_assoc])).symm
def okBreaker (a : Breaker) : Prop := okInt a.State ∧ okInt a.Since ∧ okInt a.Out ∧ (okL okMark) a.Marks
def smBreaker (a : Breaker) : Prop := smInt a.State ∧ smInt a.Since ∧ smInt a.Out ∧ (smL smMark) a.Marks
def szBreaker (a : Breaker) (left : Int) : Int := szs a.Marks.length left fun l => l
theorem szBreaker_fact : SzFact szBreaker okBreaker smBreaker := by
  intro a left hok h0 hl h
  unfold szBreaker at h ⊢
  obtain ⟨qState, qSince, qOut, qMarks⟩ := hok
  obtain ⟨sMarks, l0, a0, b0, e0⟩ := szs_fact qMarks.1 h0 (by omega) h
  rw [e0] at h ⊢
  exact ⟨⟨trivial, trivial, trivial, ⟨sMarks, fun _ _ => sm_trivMark _⟩⟩, by omega⟩
structure Rules where
  Window : Int
  Min : Int
  Ratio : Int
  Cool : Int
  Quota : Int
def rRules (t : Tag) (a : Rules) : List AV := [.i .i64 a.Window, .i .i64 a.Min, .i .i64 a.Ratio, .i .i64 a.Cool, .i .i64 a.Quota]
@[go_sem] theorem rRules_def (t : Tag) (a : Rules) : rRules t a = [.i .i64 a.Window, .i .i64 a.Min, .i .i64 a.Ratio, .i .i64 a.Cool, .i .i64 a.Quota] := nr rfl
theorem rRules_inj {t : Tag} {a b : Rules} (h : rRules t a = rRules t b) : a = b := by
  obtain ⟨aWindow, aMin, aRatio, aCool, aQuota⟩ := a
  obtain ⟨bWindow, bMin, bRatio, bCool, bQuota⟩ := b
  simp only [rRules, List.cons.injEq, AV.i.injEq, AV.b.injEq, AV.s.injEq, AV.sl.injEq, true_and, and_true] at h
  simp only [Rules.mk.injEq]
  simp [h]
theorem rRules_ii (t : Tag) (a b : Rules) : rRules t a = rRules t b ↔ a = b := ⟨rRules_inj, fun h => by rw [h]⟩
theorem rRules_mi (t : Tag) (xs ys : List Rules) : xs.map (rRules t) = ys.map (rRules t) ↔ xs = ys := map_inj_of rRules_inj xs ys
@[go_sem] theorem rRules_strip (t : Tag) (xs : List Rules) : stripLL (xs.map (rRules t)) = xs.map (rRules .ro) := strip_map (fun a => by simp only [rRules, stripL, strip]) xs
@[go_sem] theorem rRules_noRo (xs : List Rules) : hasRoLL (xs.map (rRules .mut)) = false := noRo_map (fun a => by simp only [rRules, hasRoL, hasRo, Bool.or_self]) xs
@[go_sem] theorem Rules.eta (a : Rules) : Rules.mk a.Window a.Min a.Ratio a.Cool a.Quota = a := nr rfl
theorem Rules.eqv (a b : Rules) : Vm.eqv a b = (Vm.eqv a.Window b.Window && (Vm.eqv a.Min b.Min && (Vm.eqv a.Ratio b.Ratio && (Vm.eqv a.Cool b.Cool && (Vm.eqv a.Quota b.Quota))))) := (eqv_of (by simp only [Bool.and_eq_true, eqv_iff]; cases a; cases b; simp only [Rules.mk.injEq, and_assoc])).symm
def okRules (a : Rules) : Prop := okInt a.Window ∧ okInt a.Min ∧ okInt a.Ratio ∧ okInt a.Cool ∧ okInt a.Quota
def smRules (a : Rules) : Prop := smInt a.Window ∧ smInt a.Min ∧ smInt a.Ratio ∧ smInt a.Cool ∧ smInt a.Quota
theorem sm_trivRules (a : Rules) : smRules a := ⟨trivial, trivial, trivial, trivial, trivial⟩
structure BreakerResult where
  Code : Int
  Breaker : Breaker
def rBreakerResult (t : Tag) (a : BreakerResult) : List AV := [.i .i64 a.Code, .i .i64 a.Breaker.State, .i .i64 a.Breaker.Since, .i .i64 a.Breaker.Out, .sl t 2 (a.Breaker.Marks.map (rMark t))]
@[go_sem] theorem rBreakerResult_def (t : Tag) (a : BreakerResult) : rBreakerResult t a = [.i .i64 a.Code, .i .i64 a.Breaker.State, .i .i64 a.Breaker.Since, .i .i64 a.Breaker.Out, .sl t 2 (a.Breaker.Marks.map (rMark t))] := nr rfl
theorem rBreakerResult_inj {t : Tag} {a b : BreakerResult} (h : rBreakerResult t a = rBreakerResult t b) : a = b := by
  obtain ⟨aCode, ⟨aBreakerState, aBreakerSince, aBreakerOut, aBreakerMarks⟩⟩ := a
  obtain ⟨bCode, ⟨bBreakerState, bBreakerSince, bBreakerOut, bBreakerMarks⟩⟩ := b
  simp only [rBreakerResult, List.cons.injEq, AV.i.injEq, AV.b.injEq, AV.s.injEq, AV.sl.injEq, true_and, and_true, rMark_mi] at h
  simp only [BreakerResult.mk.injEq, Breaker.mk.injEq]
  simp [h]
theorem rBreakerResult_ii (t : Tag) (a b : BreakerResult) : rBreakerResult t a = rBreakerResult t b ↔ a = b := ⟨rBreakerResult_inj, fun h => by rw [h]⟩
theorem rBreakerResult_mi (t : Tag) (xs ys : List BreakerResult) : xs.map (rBreakerResult t) = ys.map (rBreakerResult t) ↔ xs = ys := map_inj_of rBreakerResult_inj xs ys
@[go_sem] theorem rBreakerResult_strip (t : Tag) (xs : List BreakerResult) : stripLL (xs.map (rBreakerResult t)) = xs.map (rBreakerResult .ro) := strip_map (fun a => by simp only [rBreakerResult, stripL, strip, rMark_strip]) xs
@[go_sem] theorem rBreakerResult_noRo (xs : List BreakerResult) : hasRoLL (xs.map (rBreakerResult .mut)) = false := noRo_map (fun a => by simp only [rBreakerResult, hasRoL, hasRo, Bool.or_self, rMark_noRo]) xs
@[go_sem] theorem BreakerResult.eta (a : BreakerResult) : BreakerResult.mk a.Code a.Breaker = a := nr rfl
theorem BreakerResult.eqv (a b : BreakerResult) : Vm.eqv a b = (Vm.eqv a.Code b.Code && (Vm.eqv a.Breaker b.Breaker)) := (eqv_of (by simp only [Bool.and_eq_true, eqv_iff]; cases a; cases b; simp only [BreakerResult.mk.injEq, and_assoc])).symm
def okBreakerResult (a : BreakerResult) : Prop := okInt a.Code ∧ okBreaker a.Breaker
def smBreakerResult (a : BreakerResult) : Prop := smInt a.Code ∧ smBreaker a.Breaker
def szBreakerResult (a : BreakerResult) (left : Int) : Int := szn (szBreaker a.Breaker left) fun l => l
theorem szBreakerResult_fact : SzFact szBreakerResult okBreakerResult smBreakerResult := by
  intro a left hok h0 hl h
  unfold szBreakerResult at h ⊢
  obtain ⟨qCode, qBreaker⟩ := hok
  obtain ⟨a0, e0⟩ := szn_fact h
  obtain ⟨sBreaker, b0⟩ := szBreaker_fact _ _ qBreaker h0 (by omega) a0
  rw [e0] at h ⊢
  exact ⟨⟨trivial, sBreaker⟩, by omega⟩
structure Request where
  Method : ByteArray
  Host : ByteArray
  Path : ByteArray
  Headers : List Header
def rRequest (t : Tag) (a : Request) : List AV := [.s a.Method, .s a.Host, .s a.Path, .sl t 2 (a.Headers.map (rHeader t))]
@[go_sem] theorem rRequest_def (t : Tag) (a : Request) : rRequest t a = [.s a.Method, .s a.Host, .s a.Path, .sl t 2 (a.Headers.map (rHeader t))] := nr rfl
theorem rRequest_inj {t : Tag} {a b : Request} (h : rRequest t a = rRequest t b) : a = b := by
  obtain ⟨aMethod, aHost, aPath, aHeaders⟩ := a
  obtain ⟨bMethod, bHost, bPath, bHeaders⟩ := b
  simp only [rRequest, List.cons.injEq, AV.i.injEq, AV.b.injEq, AV.s.injEq, AV.sl.injEq, true_and, and_true, rHeader_mi] at h
  simp only [Request.mk.injEq]
  simp [h]
theorem rRequest_ii (t : Tag) (a b : Request) : rRequest t a = rRequest t b ↔ a = b := ⟨rRequest_inj, fun h => by rw [h]⟩
theorem rRequest_mi (t : Tag) (xs ys : List Request) : xs.map (rRequest t) = ys.map (rRequest t) ↔ xs = ys := map_inj_of rRequest_inj xs ys
@[go_sem] theorem rRequest_strip (t : Tag) (xs : List Request) : stripLL (xs.map (rRequest t)) = xs.map (rRequest .ro) := strip_map (fun a => by simp only [rRequest, stripL, strip, rHeader_strip]) xs
@[go_sem] theorem rRequest_noRo (xs : List Request) : hasRoLL (xs.map (rRequest .mut)) = false := noRo_map (fun a => by simp only [rRequest, hasRoL, hasRo, Bool.or_self, rHeader_noRo]) xs
@[go_sem] theorem Request.eta (a : Request) : Request.mk a.Method a.Host a.Path a.Headers = a := nr rfl
theorem Request.eqv (a b : Request) : Vm.eqv a b = (Vm.eqv a.Method b.Method && (Vm.eqv a.Host b.Host && (Vm.eqv a.Path b.Path && (Vm.eqv a.Headers b.Headers)))) := (eqv_of (by simp only [Bool.and_eq_true, eqv_iff]; cases a; cases b; simp only [Request.mk.injEq, and_assoc])).symm
def okRequest (a : Request) : Prop := okStr a.Method ∧ okStr a.Host ∧ okStr a.Path ∧ (okL okHeader) a.Headers
def smRequest (a : Request) : Prop := smStr a.Method ∧ smStr a.Host ∧ smStr a.Path ∧ (smL smHeader) a.Headers
def szRequest (a : Request) (left : Int) : Int := szs a.Method.size left fun l => szs a.Host.size l fun l => szs a.Path.size l fun l => szn (szL szHeader a.Headers l) fun l => l
theorem szRequest_fact : SzFact szRequest okRequest smRequest := by
  intro a left hok h0 hl h
  unfold szRequest at h ⊢
  obtain ⟨qMethod, qHost, qPath, qHeaders⟩ := hok
  obtain ⟨sMethod, l0, a0, b0, e0⟩ := szs_fact qMethod h0 (by omega) h
  rw [e0] at h ⊢
  obtain ⟨sHost, l1, a1, b1, e1⟩ := szs_fact qHost a0 (by omega) h
  rw [e1] at h ⊢
  obtain ⟨sPath, l2, a2, b2, e2⟩ := szs_fact qPath a1 (by omega) h
  rw [e2] at h ⊢
  obtain ⟨a3, e3⟩ := szn_fact h
  obtain ⟨sHeaders, b3⟩ := (szL_fact szHeader_fact) _ _ qHeaders a2 (by omega) a3
  rw [e3] at h ⊢
  exact ⟨⟨sMethod, sHost, sPath, sHeaders⟩, by omega⟩
structure Out where
  Kind : Int
  Id : Int
  Source : ByteArray
  Response : Response
  Request : Request
def rOut (t : Tag) (a : Out) : List AV := [.i .i64 a.Kind, .i .i64 a.Id, .s a.Source, .i .i64 a.Response.Status, .sl t 2 (a.Response.Headers.map (rHeader t)), .sl t 1 (a.Response.Body.map rByte), .s a.Request.Method, .s a.Request.Host, .s a.Request.Path, .sl t 2 (a.Request.Headers.map (rHeader t))]
@[go_sem] theorem rOut_def (t : Tag) (a : Out) : rOut t a = [.i .i64 a.Kind, .i .i64 a.Id, .s a.Source, .i .i64 a.Response.Status, .sl t 2 (a.Response.Headers.map (rHeader t)), .sl t 1 (a.Response.Body.map rByte), .s a.Request.Method, .s a.Request.Host, .s a.Request.Path, .sl t 2 (a.Request.Headers.map (rHeader t))] := nr rfl
theorem rOut_inj {t : Tag} {a b : Out} (h : rOut t a = rOut t b) : a = b := by
  obtain ⟨aKind, aId, aSource, ⟨aResponseStatus, aResponseHeaders, aResponseBody⟩, ⟨aRequestMethod, aRequestHost, aRequestPath, aRequestHeaders⟩⟩ := a
  obtain ⟨bKind, bId, bSource, ⟨bResponseStatus, bResponseHeaders, bResponseBody⟩, ⟨bRequestMethod, bRequestHost, bRequestPath, bRequestHeaders⟩⟩ := b
  simp only [rOut, List.cons.injEq, AV.i.injEq, AV.b.injEq, AV.s.injEq, AV.sl.injEq, true_and, and_true, rByte_mi, rHeader_mi] at h
  simp only [Out.mk.injEq, Response.mk.injEq, Request.mk.injEq]
  simp [h]
theorem rOut_ii (t : Tag) (a b : Out) : rOut t a = rOut t b ↔ a = b := ⟨rOut_inj, fun h => by rw [h]⟩
theorem rOut_mi (t : Tag) (xs ys : List Out) : xs.map (rOut t) = ys.map (rOut t) ↔ xs = ys := map_inj_of rOut_inj xs ys
@[go_sem] theorem rOut_strip (t : Tag) (xs : List Out) : stripLL (xs.map (rOut t)) = xs.map (rOut .ro) := strip_map (fun a => by simp only [rOut, stripL, strip, rByte_strip, rHeader_strip]) xs
@[go_sem] theorem rOut_noRo (xs : List Out) : hasRoLL (xs.map (rOut .mut)) = false := noRo_map (fun a => by simp only [rOut, hasRoL, hasRo, Bool.or_self, rByte_noRo, rHeader_noRo]) xs
@[go_sem] theorem Out.eta (a : Out) : Out.mk a.Kind a.Id a.Source a.Response a.Request = a := nr rfl
theorem Out.eqv (a b : Out) : Vm.eqv a b = (Vm.eqv a.Kind b.Kind && (Vm.eqv a.Id b.Id && (Vm.eqv a.Source b.Source && (Vm.eqv a.Response b.Response && (Vm.eqv a.Request b.Request))))) := (eqv_of (by simp only [Bool.and_eq_true, eqv_iff]; cases a; cases b; simp only [Out.mk.injEq, and_assoc])).symm
def okOut (a : Out) : Prop := okInt a.Kind ∧ okInt a.Id ∧ okStr a.Source ∧ okResponse a.Response ∧ okRequest a.Request
def smOut (a : Out) : Prop := smInt a.Kind ∧ smInt a.Id ∧ smStr a.Source ∧ smResponse a.Response ∧ smRequest a.Request
def szOut (a : Out) (left : Int) : Int := szs a.Source.size left fun l => szn (szResponse a.Response l) fun l => szn (szRequest a.Request l) fun l => l
theorem szOut_fact : SzFact szOut okOut smOut := by
  intro a left hok h0 hl h
  unfold szOut at h ⊢
  obtain ⟨qKind, qId, qSource, qResponse, qRequest⟩ := hok
  obtain ⟨sSource, l0, a0, b0, e0⟩ := szs_fact qSource h0 (by omega) h
  rw [e0] at h ⊢
  obtain ⟨a1, e1⟩ := szn_fact h
  obtain ⟨sResponse, b1⟩ := szResponse_fact _ _ qResponse a0 (by omega) a1
  rw [e1] at h ⊢
  obtain ⟨a2, e2⟩ := szn_fact h
  obtain ⟨sRequest, b2⟩ := szRequest_fact _ _ qRequest a1 (by omega) a2
  rw [e2] at h ⊢
  exact ⟨⟨trivial, trivial, sSource, sResponse, sRequest⟩, by omega⟩
end Go.Vm
/- From a law's own arguments to plain data. -/
set_option autoImplicit false
set_option linter.unusedVariables false
namespace Go.Vm
open Go.ChangeShapes Go.WideShapes

inductive Sh
  | b | i (k : IntKind) | s | sl (r : List Sh)
def shFs (g : TypeId → Option (List Sh)) (P : Program) : List Field → Nat → Option (List Sh)
  | [], _ => some []
  | f :: r, off => match g f.type with
    | some q => if f.offset = off ∧ P.cellsOf f.type = q.length then (match shFs g P r (off + q.length) with
      | some l => some (q ++ l)
      | none => none) else none
    | none => none
def shOf (P : Program) : Nat → TypeId → Option (List Sh)
  | 0, _ => none
  | n + 1, t => match P.underlying t with
    | some .bool => some [.b]
    | some (.int k) => some [.i k]
    | some .string => some [.s]
    | some (.slice e) => match shOf P n e with
      | some (x :: r) => if P.cellsOf e = (x :: r).length then some [.sl (x :: r)] else none
      | _ => none
    | some (.struct fs) => match shFs (shOf P n) P fs.toList 0 with
      | some l => if P.cellsOf t = l.length then some l else none
      | none => none
    | _ => none

inductive ShOk : Sh → AV → Prop
  | b {x : Bool} : ShOk .b (.b x)
  | i {k : IntKind} {n : Int} (h : (Lit.int k n).wf = true) : ShOk (.i k) (.i k n)
  | s {x : ByteArray} (h : x.size ≤ maxLen) : ShOk .s (.s x)
  | sl {r : List Sh} {es : List (List AV)} (hl : es.length ≤ maxLen) (hz : ∀ row ∈ es, row.length = r.length) (h : ∀ row ∈ es, ∀ (j : Nat) (sh : Sh) (a : AV), r[j]? = some sh → row[j]? = some a → ShOk sh a) : ShOk (.sl r) (.sl .ro r.length es)
def RowOk (r : List Sh) (row : List AV) : Prop := row.length = r.length ∧ ∀ (j : Nat) (sh : Sh) (a : AV), r[j]? = some sh → row[j]? = some a → ShOk sh a

/-- all that there is -/
def allC (w : World) : CS := fun g k => ∃ v, cellAt w g k = some v
theorem allC_lt {w : World} {g k : Nat} (h : allC w g k) : g < w.heap.size := by
  obtain ⟨v, hv⟩ := h
  exact World.block_lt_of_cell? w ⟨g, k, none⟩ hv
/-- cells that show a row -/
def Shows (w : World) (shs : List Sh) (cs : List Value) (as : List AV) : Prop := cs.length = shs.length ∧ RowOk shs as ∧ ∀ (j : Nat) (v : Value) (a : AV), cs[j]? = some v → as[j]? = some a → Rep w (allC w) v a nos
theorem Shows.one {w : World} {sh : Sh} {v : Value} {a : AV} (h : ShOk sh a) (hr : Rep w (allC w) v a nos) : Shows w [sh] [v] [a] := by
  refine ⟨rfl, ⟨rfl, fun j q b hs hb => ?_⟩, fun j u b hu hb => ?_⟩
  · rcases j with _ | j
    · simp only [List.getElem?_cons_zero, Option.some.injEq] at hs hb; subst hs hb; exact h
    · simp at hs
  · rcases j with _ | j
    · simp only [List.getElem?_cons_zero, Option.some.injEq] at hu hb; subst hu hb; exact hr
    · simp at hu
theorem getElem?_app {α : Type} {l r : List α} {j : Nat} {x : α} (h : (l ++ r)[j]? = some x) : l[j]? = some x ∨ (l.length ≤ j ∧ r[j - l.length]? = some x) := by
  by_cases hj : j < l.length
  · rw [List.getElem?_append_left hj] at h; exact .inl h
  · rw [List.getElem?_append_right (by omega)] at h; exact .inr ⟨by omega, h⟩
theorem Shows.app {w : World} {s1 s2 : List Sh} {c1 c2 : List Value} {a1 a2 : List AV} (h1 : Shows w s1 c1 a1) (h2 : Shows w s2 c2 a2) : Shows w (s1 ++ s2) (c1 ++ c2) (a1 ++ a2) := by
  obtain ⟨l1, ⟨m1, p1⟩, q1⟩ := h1
  obtain ⟨l2, ⟨m2, p2⟩, q2⟩ := h2
  refine ⟨by simp [l1, l2], ⟨by simp [m1, m2], fun j q a hs ha => ?_⟩, fun j v a hv ha => ?_⟩
  · rcases getElem?_app hs with hs | ⟨h0, hs⟩
    · have hlt := (List.getElem?_eq_some_iff.1 hs).1
      rw [List.getElem?_append_left (by omega)] at ha
      exact p1 j q a hs ha
    · rw [List.getElem?_append_right (by omega), m1] at ha
      exact p2 _ q a hs ha
  · rcases getElem?_app hv with hv | ⟨h0, hv⟩
    · have hlt := (List.getElem?_eq_some_iff.1 hv).1
      rw [List.getElem?_append_left (by omega)] at ha
      exact q1 j v a hv ha
    · rw [List.getElem?_append_right (by omega), m1, ← l1] at ha
      exact q2 _ v a hv ha

theorem add_of {a : Addr} (h : a.spot = none) (n : Nat) : a.add n = ⟨a.block, a.off + n, none⟩ := by
  unfold Addr.add
  split
  · rename_i h0; subst h0; cases a; simp only at h; subst h; rfl
  · cases a; rfl

section
variable {H : Type} {enc : TypeId × Value → H} {P : Program} {w : World}

theorem read_cells (n : Nat) : ∀ {fuel : Nat} {t : TypeId} {cs : List Value} {x : DataW H × List MemPlace} {shs : List Sh}, DataW.trod enc P w 0 (fun _ => true) true fuel t cs = some x → shOf P n t = some shs → ∃ as, Shows w shs cs as := by
  induction n with
  | zero => intro fuel t cs x shs _ h; cases h
  | succ n ih =>
    intro fuel t cs x shs ht hs
    unfold shOf at hs
    split at hs
    · rename_i hu
      injection hs with hs; subst hs
      obtain ⟨b, rfl, _⟩ := DataW.trod_bool hu ht
      exact ⟨_, Shows.one .b .b⟩
    · rename_i k hu
      injection hs with hs; subst hs
      obtain ⟨m, rfl, _, hwf⟩ := DataW.trod_int hu ht
      exact ⟨_, Shows.one (.i hwf) .i⟩
    · rename_i hu
      injection hs with hs; subst hs
      obtain ⟨s, rfl, _, hsz⟩ := DataW.trod_string hu ht
      exact ⟨_, Shows.one (.s hsz) .s⟩
    · rename_i e hu
      split at hs
      · rename_i x0 r hr
        split at hs
        · rename_i hce
          injection hs with hs; subst hs
          rcases Go.Deep.open_slice hu ht with ⟨rfl, _⟩ | ⟨a, len, cap, m, n', D, Pl, rfl, _, hl, hm, hmm, _, hi⟩
          · refine ⟨_, Shows.one (.sl (es := []) (Nat.zero_le _) (fun _ h => by cases h) (fun _ h => by cases h)) ?_⟩
            exact .sl 0 0 (fun _ _ => undef) (fun _ _ => nos) rfl (Nat.le_refl _) (by simp) (fun h => absurd h (by omega)) (fun i row hi => by simp at hi) (fun i row j a hi => by simp at hi) (fun i row j a hi => by simp at hi)
              ⟨(fun e => by cases e), (fun e => by cases e), (fun e => absurd rfl e), fun _ k hk => absurd hk (by simp)⟩ (fun _ _ => nos_sub _) (fun _ _ _ _ _ => nos_disj _) (fun e => by cases e) (fun _ _ _ => rfl)
          · simp only [if_true] at hmm
            subst hmm
            generalize hzz : (x0 :: r).length = z at hce
            have hz0 : 0 < z := by rw [← hzz]; simp
            rw [hce] at hi
            have hsp : 0 < m → a.spot = none := by
              intro h0
              obtain ⟨cs', h1, _⟩ := hi 0 h0
              obtain ⟨_, h3, h4⟩ := World.cells?_some h1
              have := h4 0 hz0
              rw [List.getElem?_eq_getElem (by omega), Nat.zero_mul] at this
              unfold World.cell? at this
              simp only [Addr.add, if_true] at this
              split at this
              · cases hs : a.spot with
                | none => rfl
                | some q => rw [hs] at this; simp at this
              · cases this
            have hrow : ∀ i, i < len → ∃ p : List Value × List AV, (∀ j, j < z → cellAt w a.block (a.off + (i * z + j)) = p.1[j]?) ∧ Shows w (x0 :: r) p.1 p.2 := by
              intro i hil
              obtain ⟨cs', h1, h2⟩ := hi i (by omega)
              obtain ⟨as, h3⟩ := ih h2 hr
              obtain ⟨_, _, h6⟩ := World.cells?_some h1
              refine ⟨(cs', as), fun j hj => ?_, h3⟩
              have := h6 j hj
              rw [Go.Deep.add_add, add_of (hsp (by omega))] at this
              exact this
            obtain ⟨f, hf⟩ := Go.Deep.choose_lt hrow
            let es : List (List AV) := (List.range len).map fun i => (f i).2
            have hes : ∀ (i : Nat) (row : List AV), es[i]? = some row → i < len ∧ row = (f i).2 := by
              intro i row h
              have hlt : i < len := Decidable.byContradiction fun hn => by
                rw [List.getElem?_eq_none (by simp only [es, List.length_map, List.length_range]; omega)] at h
                cases h
              simp only [es, List.getElem?_map, List.getElem?_range hlt, Option.map_some, Option.some.injEq] at h
              exact ⟨hlt, h.symm⟩
            have hmem : ∀ row ∈ es, ∃ i, i < len ∧ row = (f i).2 := by
              intro row h
              obtain ⟨i, h⟩ := List.getElem?_of_mem h
              exact ⟨i, hes i row h⟩
            have hcell : ∀ i j, i < len → j < z → cellAt w a.block (a.off + (i * z + j)) = some ((f i).1.getD j undef) := by
              intro i j h1 h2
              obtain ⟨q1, q2, _⟩ := hf i h1
              rw [q1 j h2, List.getD_eq_getElem?_getD, List.getElem?_eq_getElem (by rw [q2, hzz]; exact h2)]
              rfl
            refine ⟨_, Shows.one (.sl (es := es) (by simp only [es, List.length_map, List.length_range]; omega) (fun row h => ?_) (fun row h => ?_)) ?_⟩
            · obtain ⟨i, h1, rfl⟩ := hmem row h
              exact (hf i h1).2.2.1.1
            · obtain ⟨i, h1, rfl⟩ := hmem row h
              exact (hf i h1).2.2.1.2
            · rw [hzz]
              have hM : maxLen = 9223372036854775807 := rfl
              refine .sl a.block a.off (fun i j => (f i).1.getD j undef) (fun _ _ => nos) (by simp [es]) hl (by omega) (fun h0 => ?_) (fun i row h => ?_) (fun i row j b h hj => ?_) (fun i row j b h hj => ?_)
                ⟨(fun e => by cases e), (fun e => by cases e), (fun e => absurd rfl e), fun _ k hk => ?_⟩ (fun _ _ => nos_sub _) (fun _ _ _ _ _ => nos_disj _) (fun e => by cases e) (fun _ _ _ => rfl)
              · have := hsp h0
                cases a; simp only at this; subst this; rfl
              · obtain ⟨h1, rfl⟩ := hes i row h
                rw [← hzz]; exact (hf i h1).2.2.1.1
              · obtain ⟨h1, rfl⟩ := hes i row h
                have hlt := (List.getElem?_eq_some_iff.1 hj).1
                rw [(hf i h1).2.2.1.1, hzz] at hlt
                exact hcell i j h1 hlt
              · obtain ⟨h1, rfl⟩ := hes i row h
                have hlt := (List.getElem?_eq_some_iff.1 hj).1
                obtain ⟨_, q2, q3, q4⟩ := hf i h1
                rw [q3.1] at hlt
                refine q4 j _ b ?_ hj
                rw [List.getD_eq_getElem?_getD, List.getElem?_eq_getElem (by rw [q2]; exact hlt)]
                rfl
              · have h1 : k / z < len := by rw [Nat.div_lt_iff_lt_mul hz0]; exact hk
                have h2 : k % z < z := Nat.mod_lt _ hz0
                have := hcell (k / z) (k % z) h1 h2
                rw [Nat.mul_comm, Nat.div_add_mod] at this
                exact ⟨_, this⟩
        · cases hs
      · cases hs
    · rename_i fs hu
      obtain ⟨xs, n', rfl, _, hlen, hxl, hi⟩ := DataW.trod_struct hu ht
      split at hs
      · rename_i l hl
        split at hs
        · rename_i hcl
          injection hs with hs; subst hs
          have key : ∀ (fl : List Field) (off : Nat) (l : List Sh), shFs (shOf P n) P fl off = some l → (∀ f ∈ fl, ∃ y, DataW.trod enc P w 0 (fun _ => true) true n' f.type ((cs.drop f.offset).take (P.cellsOf f.type)) = some y) → ∃ as, Shows w l ((cs.drop off).take l.length) as := by
            intro fl
            induction fl with
            | nil =>
              intro off l h _
              injection h with h; subst h
              exact ⟨[], by simp, ⟨rfl, fun j q a h => by simp at h⟩, fun j v a h => by simp at h⟩
            | cons f fl ihf =>
              intro off l h hy
              unfold shFs at h
              split at h
              · rename_i s hfs
                split at h
                · rename_i hc
                  obtain ⟨rfl, hc2⟩ := hc
                  split at h
                  · rename_i l' hl'
                    injection h with h; subst h
                    obtain ⟨y, hyy⟩ := hy f (by simp)
                    obtain ⟨a1, h1⟩ := ih hyy hfs
                    obtain ⟨a2, h2⟩ := ihf _ _ hl' (fun g hg => hy g (by simp [hg]))
                    refine ⟨a1 ++ a2, ?_⟩
                    have e : (cs.drop f.offset).take (s ++ l').length = (cs.drop f.offset).take (P.cellsOf f.type) ++ (cs.drop (f.offset + s.length)).take l'.length := by
                      rw [List.length_append, List.take_add, List.drop_drop, hc2]
                    rw [e]
                    exact h1.app h2
                  · cases h
                · cases h
              · cases h
          obtain ⟨as, h⟩ := key fs.toList 0 l hl (fun f hf => by
            obtain ⟨i, hi'⟩ := List.getElem?_of_mem hf
            have hi2 : fs[i]? = some f := by simpa using hi'
            have := hi i f hi2
            have hlt : i < fs.size := (Array.getElem?_eq_some_iff.1 hi2).1
            rw [List.getElem?_eq_getElem (by omega)] at this
            exact ⟨_, this⟩)
          rw [List.drop_zero, List.take_of_length_le (by omega)] at h
          exact ⟨as, h⟩
        · cases hs
      · cases hs
    · cases hs
end

/-! from rows to plain data -/
theorem RowOk.cons {sh : Sh} {r : List Sh} {row : List AV} (h : RowOk (sh :: r) row) : ∃ a row', row = a :: row' ∧ ShOk sh a ∧ RowOk r row' := by
  obtain ⟨h1, h2⟩ := h
  cases row with
  | nil => simp at h1
  | cons a row => exact ⟨a, row, rfl, h2 0 sh a rfl rfl, by simpa using h1, fun j q b hs hb => h2 (j + 1) q b (by simpa using hs) (by simpa using hb)⟩
theorem RowOk.nil {row : List AV} (h : RowOk [] row) : row = [] := List.length_eq_zero_iff.1 h.1
theorem ShOk.bool {a : AV} (h : ShOk .b a) : ∃ x : Bool, a = .b x ∧ True := by cases h; exact ⟨_, rfl, trivial⟩
theorem ShOk.int {a : AV} (h : ShOk (.i .i64) a) : ∃ x : Int, a = .i .i64 x ∧ (-9223372036854775808 ≤ x ∧ x ≤ 9223372036854775807) := by
  cases h with
  | i h =>
    refine ⟨_, rfl, ?_⟩
    simp only [Lit.wf, Bool.and_eq_true, decide_eq_true_eq, IntKind.min, IntKind.max, IntKind.signed, IntKind.bits] at h
    simpa using h
theorem ShOk.byte {a : AV} (h : ShOk (.i .u8) a) : ∃ x : UInt8, a = .i .u8 x.toNat ∧ True := by
  cases h with
  | @i _ n h =>
    simp only [Lit.wf, Bool.and_eq_true, IntKind.min, IntKind.max, IntKind.signed, IntKind.bits] at h
    have h1 : 0 ≤ n := by simpa using h.1
    have h2 : n ≤ 255 := by simpa using h.2
    refine ⟨UInt8.ofNat n.toNat, ?_, trivial⟩
    congr 1
    have : (UInt8.ofNat n.toNat).toNat = n.toNat % 256 := UInt8.toNat_ofNat'
    omega
theorem ShOk.str {a : AV} (h : ShOk .s a) : ∃ x : ByteArray, a = .s x ∧ x.size ≤ 9223372036854775807 := by cases h with | s h => exact ⟨_, rfl, h⟩
theorem ShOk.list {α : Type} {r : List Sh} {f : α → List AV} {ok : α → Prop} (hf : ∀ row, RowOk r row → ∃ x, row = f x ∧ ok x) {a : AV} (h : ShOk (.sl r) a) : ∃ xs : List α, a = .sl .ro r.length (xs.map f) ∧ (xs.length ≤ 9223372036854775807 ∧ ∀ x ∈ xs, ok x) := by
  cases h with
  | @sl _ es hl hz h =>
    have key : ∀ es : List (List AV), (∀ row ∈ es, RowOk r row) → ∃ xs : List α, es = xs.map f ∧ ∀ x ∈ xs, ok x := by
      intro es
      induction es with
      | nil => intro _; exact ⟨[], rfl, fun _ h => by cases h⟩
      | cons row es ih =>
        intro hr
        obtain ⟨x, rfl, hx⟩ := hf row (hr row (by simp))
        obtain ⟨xs, rfl, hxs⟩ := ih (fun q hq => hr q (by simp [hq]))
        exact ⟨x :: xs, rfl, fun y hy => (List.mem_cons.1 hy).elim (fun e => e ▸ hx) (hxs y)⟩
    obtain ⟨xs, rfl, hxs⟩ := key es (fun row hr => ⟨hz row hr, h row hr⟩)
    have hM : maxLen = 9223372036854775807 := rfl
    exact ⟨xs, rfl, by simp only [List.length_map] at hl; omega, hxs⟩
theorem row_byte (row : List AV) (h : RowOk [.i .u8] row) : ∃ x : UInt8, row = [.i .u8 x.toNat] ∧ True := by
  obtain ⟨a, _, rfl, h0, h⟩ := h.cons; obtain rfl := h.nil; obtain ⟨x, rfl, _⟩ := h0.byte; exact ⟨x, rfl, trivial⟩
theorem row_str (row : List AV) (h : RowOk [.s] row) : ∃ x : ByteArray, row = [.s x] ∧ x.size ≤ 9223372036854775807 := by
  obtain ⟨a, _, rfl, h0, h⟩ := h.cons; obtain rfl := h.nil; obtain ⟨x, rfl, h1⟩ := h0.str; exact ⟨x, rfl, h1⟩
theorem row_int (row : List AV) (h : RowOk [.i .i64] row) : ∃ x : Int, row = [.i .i64 x] ∧ (-9223372036854775808 ≤ x ∧ x ≤ 9223372036854775807) := by
  obtain ⟨a, _, rfl, h0, h⟩ := h.cons; obtain rfl := h.nil; obtain ⟨x, rfl, h1⟩ := h0.int; exact ⟨x, rfl, h1⟩

/-! a law's arguments -/
section
variable {H : Type} {enc : TypeId × Value → H} {P : Program} {w : World}
theorem arg_one {r : Reach} {base : Nat} {t : TypeId} {v : Value} {d : DataW H} {p : List MemPlace} (n : Nat) {u : TypeDesc} (hu : P.underlying t = some u) (hn : ∀ fs, u ≠ .struct fs) {sh : Sh} (hs : shOf P n t = some [sh]) (hval : Value.okWide P w r base t v) (hd : DataW.Trod enc P w 0 (fun _ => true) true t v d p) :
    ∃ a, ShOk sh a ∧ Cl w (allC w) v a nos := by
  obtain ⟨fuel, hf⟩ := hd
  obtain ⟨as, h1⟩ := read_cells n hf hs
  have hc : v.cells.toList = [v] := by
    cases n with
    | zero => cases hs
    | succ n =>
      unfold shOf at hs
      rw [hu] at hs
      cases u with
      | bool => obtain ⟨b, rfl⟩ := okWide_bool hu hval; rfl
      | int k => obtain ⟨b, rfl⟩ := okWide_int hu hval; rfl
      | string => obtain ⟨b, rfl⟩ := okWide_string hu hval; rfl
      | slice e => obtain ⟨a, b, c, rfl⟩ := okWide_slice hu hval; rfl
      | struct fs => exact absurd rfl (hn fs)
      | _ => cases hs
  rw [hc] at h1
  obtain ⟨_, ⟨h2, h3⟩, h4⟩ := h1
  match as, h2 with
  | [a], _ => exact ⟨a, h3 0 sh a rfl rfl, .leaf (.rep (h4 0 v a rfl rfl))⟩
theorem arg_agg {r : Reach} {base : Nat} {t : TypeId} {v : Value} {d : DataW H} {p : List MemPlace} (n : Nat) {fs : Array Field} (hu : P.underlying t = some (.struct fs)) {shs : List Sh} (hs : shOf P n t = some shs) (hval : Value.okWide P w r base t v) (hd : DataW.Trod enc P w 0 (fun _ => true) true t v d p) :
    ∃ as, RowOk shs as ∧ Cl w (allC w) v (.agg as) nos := by
  obtain ⟨fuel, hf⟩ := hd
  obtain ⟨as, h1⟩ := read_cells n hf hs
  simp only [Value.okWide, hu] at hval
  obtain ⟨cs, rfl, _, _⟩ := hval
  obtain ⟨h0, h2, h3⟩ := h1
  have h0' : cs.toList.length = shs.length := h0
  refine ⟨as, h2, ?_⟩
  have : Cl w (allC w) (.agg cs.toList.toArray) (.agg as) nos := .agg cs.toList (fun _ => nos) (by rw [h0', h2.1]) (fun j v a hv ha => .rep (h3 j v a hv ha)) (fun _ => nos_sub _) (fun _ _ _ => nos_disj _)
  rwa [Array.toArray_toList] at this
end
theorem below_of {w w' : World} (h : Vm.Frame w w' nos) : Go.RowKit.Below w.heap.size w w' := by
  refine ⟨h.os, h.tape, h.output, h.size, fun k hk => ?_⟩
  rcases h.block k hk with h1 | ⟨c, c', e, fr, h1, h2, h3, h4⟩
  · exact h1
  · rw [h1, h2]
    congr 2
    apply Array.ext_getElem?
    intro i
    exact h4 i (fun h => h)
/-- A LAW's CALL: it answers true and leaves all as it was. -/
theorem law_true {P : Program} {g : FuncId} {f : Func} {c : Code} {md : List Md} {F : List AV → Option (AV × List AV)} {wk : Bool} {W : World} {vs : List Value} {xs os : List AV} (hsp : VSpec P g ⟨md, F, wk⟩) (hro : md.all isRoMd = true) (hF : F xs = some (.b true, os)) (hl1 : vs.length = md.length) (hl2 : xs.length = md.length)
    (hargs : ∀ (j : Nat) (v : Value) (a : AV), vs[j]? = some v → xs[j]? = some a → Cl W (allC W) v a nos) (hf : P.funcs[g]? = some f) (hname : ¬ f.name = "runtime.NumGoroutine") (hb : f.body = some c) :
    Calls P g vs.toArray W fun e w' => e = .returned (.bool true) ∧ Go.RowKit.Below W.heap.size W w' := by
  have h := hsp W (allC W) vs xs (fun _ => nos) (.b true) os hF hl1 hl2 (fun j m v a hm hv ha => by
    have := List.all_eq_true.1 hro m (List.mem_of_getElem? hm)
    cases m with
    | ro n => exact hargs j v a hv ha
    | _ => cases this) (fun _ _ _ => nos_disj _) (fun _ => nos_disj _) (fun _ _ _ h => h.elim) (fun _ _ h => allC_lt h)
  rcases h with ⟨v, w', h1, _⟩ | ⟨_, h2⟩
  · exfalso
    have : (callFunc g vs.toArray).run P W = .ok (.enter g vs.toArray) W := by simp [callFunc, hf, hname, hb]
    rw [this] at h1
    cases h1
  · intro cs
    obtain ⟨e, w', fr, k1, k2⟩ := h2 cs
    refine ⟨e, w', fr, ?_, k2⟩
    cases e with
    | returned v =>
      obtain ⟨Im', S, Of, b, _⟩ := k1
      have hv : v = .bool true := by
        have := b.res
        cases this with
        | leaf h => cases h with
          | rep h => cases h; rfl
      exact ⟨by rw [hv], below_of (b.frame.mono (fun g k ⟨j, hb⟩ => hb))⟩
    | panicked => exact k1.elim
    | outgrown => exact k1.elim
end Go.Vm
/- From rows to plain data, type by type. -/
set_option autoImplicit false
set_option maxRecDepth 100000
set_option maxHeartbeats 4000000
set_option linter.unusedVariables false
set_option linter.unusedSimpArgs false

namespace Go.Vm
theorem shHeader (row : List AV) (h : RowOk [.s, .s] row) : ∃ x : Header, row = rHeader .ro x ∧ okHeader x := by
  obtain ⟨a0, _, rfl, h0, h⟩ := h.cons
  obtain ⟨a1, _, rfl, h1, h⟩ := h.cons
  obtain rfl := h.nil
  obtain ⟨x0, rfl, o0⟩ := h0.str
  obtain ⟨x1, rfl, o1⟩ := h1.str
  exact ⟨⟨x0, x1⟩, rfl, ⟨o0, o1⟩⟩
theorem shResponse (row : List AV) (h : RowOk [.i .i64, .sl [.s, .s], .sl [.i .u8]] row) : ∃ x : Response, row = rResponse .ro x ∧ okResponse x := by
  obtain ⟨a0, _, rfl, h0, h⟩ := h.cons
  obtain ⟨a1, _, rfl, h1, h⟩ := h.cons
  obtain ⟨a2, _, rfl, h2, h⟩ := h.cons
  obtain rfl := h.nil
  obtain ⟨x0, rfl, o0⟩ := h0.int
  obtain ⟨x1, rfl, o1⟩ := h1.list (f := (rHeader .ro)) (ok := okHeader) shHeader
  obtain ⟨x2, rfl, o2⟩ := h2.list (f := rByte) (ok := okByte) row_byte
  exact ⟨⟨x0, x1, x2⟩, rfl, ⟨o0, o1, o2⟩⟩
theorem shResponseResult (row : List AV) (h : RowOk [.i .i64, .i .i64, .sl [.s, .s], .sl [.i .u8]] row) : ∃ x : ResponseResult, row = rResponseResult .ro x ∧ okResponseResult x := by
  obtain ⟨a0, _, rfl, h0, h⟩ := h.cons
  obtain ⟨a1, _, rfl, h1, h⟩ := h.cons
  obtain ⟨a2, _, rfl, h2, h⟩ := h.cons
  obtain ⟨a3, _, rfl, h3, h⟩ := h.cons
  obtain rfl := h.nil
  obtain ⟨x0, rfl, o0⟩ := h0.int
  obtain ⟨x1, rfl, o1⟩ := h1.int
  obtain ⟨x2, rfl, o2⟩ := h2.list (f := (rHeader .ro)) (ok := okHeader) shHeader
  obtain ⟨x3, rfl, o3⟩ := h3.list (f := rByte) (ok := okByte) row_byte
  exact ⟨⟨x0, ⟨x1, x2, x3⟩⟩, rfl, ⟨o0, ⟨o1, o2, o3⟩⟩⟩
theorem shIntResult (row : List AV) (h : RowOk [.i .i64, .i .i64] row) : ∃ x : IntResult, row = rIntResult .ro x ∧ okIntResult x := by
  obtain ⟨a0, _, rfl, h0, h⟩ := h.cons
  obtain ⟨a1, _, rfl, h1, h⟩ := h.cons
  obtain rfl := h.nil
  obtain ⟨x0, rfl, o0⟩ := h0.int
  obtain ⟨x1, rfl, o1⟩ := h1.int
  exact ⟨⟨x0, x1⟩, rfl, ⟨o0, o1⟩⟩
theorem shMark (row : List AV) (h : RowOk [.i .i64, .b] row) : ∃ x : Mark, row = rMark .ro x ∧ okMark x := by
  obtain ⟨a0, _, rfl, h0, h⟩ := h.cons
  obtain ⟨a1, _, rfl, h1, h⟩ := h.cons
  obtain rfl := h.nil
  obtain ⟨x0, rfl, o0⟩ := h0.int
  obtain ⟨x1, rfl, o1⟩ := h1.bool
  exact ⟨⟨x0, x1⟩, rfl, ⟨o0, o1⟩⟩
theorem shBreaker (row : List AV) (h : RowOk [.i .i64, .i .i64, .i .i64, .sl [.i .i64, .b]] row) : ∃ x : Breaker, row = rBreaker .ro x ∧ okBreaker x := by
  obtain ⟨a0, _, rfl, h0, h⟩ := h.cons
  obtain ⟨a1, _, rfl, h1, h⟩ := h.cons
  obtain ⟨a2, _, rfl, h2, h⟩ := h.cons
  obtain ⟨a3, _, rfl, h3, h⟩ := h.cons
  obtain rfl := h.nil
  obtain ⟨x0, rfl, o0⟩ := h0.int
  obtain ⟨x1, rfl, o1⟩ := h1.int
  obtain ⟨x2, rfl, o2⟩ := h2.int
  obtain ⟨x3, rfl, o3⟩ := h3.list (f := (rMark .ro)) (ok := okMark) shMark
  exact ⟨⟨x0, x1, x2, x3⟩, rfl, ⟨o0, o1, o2, o3⟩⟩
theorem shRules (row : List AV) (h : RowOk [.i .i64, .i .i64, .i .i64, .i .i64, .i .i64] row) : ∃ x : Rules, row = rRules .ro x ∧ okRules x := by
  obtain ⟨a0, _, rfl, h0, h⟩ := h.cons
  obtain ⟨a1, _, rfl, h1, h⟩ := h.cons
  obtain ⟨a2, _, rfl, h2, h⟩ := h.cons
  obtain ⟨a3, _, rfl, h3, h⟩ := h.cons
  obtain ⟨a4, _, rfl, h4, h⟩ := h.cons
  obtain rfl := h.nil
  obtain ⟨x0, rfl, o0⟩ := h0.int
  obtain ⟨x1, rfl, o1⟩ := h1.int
  obtain ⟨x2, rfl, o2⟩ := h2.int
  obtain ⟨x3, rfl, o3⟩ := h3.int
  obtain ⟨x4, rfl, o4⟩ := h4.int
  exact ⟨⟨x0, x1, x2, x3, x4⟩, rfl, ⟨o0, o1, o2, o3, o4⟩⟩
theorem shBreakerResult (row : List AV) (h : RowOk [.i .i64, .i .i64, .i .i64, .i .i64, .sl [.i .i64, .b]] row) : ∃ x : BreakerResult, row = rBreakerResult .ro x ∧ okBreakerResult x := by
  obtain ⟨a0, _, rfl, h0, h⟩ := h.cons
  obtain ⟨a1, _, rfl, h1, h⟩ := h.cons
  obtain ⟨a2, _, rfl, h2, h⟩ := h.cons
  obtain ⟨a3, _, rfl, h3, h⟩ := h.cons
  obtain ⟨a4, _, rfl, h4, h⟩ := h.cons
  obtain rfl := h.nil
  obtain ⟨x0, rfl, o0⟩ := h0.int
  obtain ⟨x1, rfl, o1⟩ := h1.int
  obtain ⟨x2, rfl, o2⟩ := h2.int
  obtain ⟨x3, rfl, o3⟩ := h3.int
  obtain ⟨x4, rfl, o4⟩ := h4.list (f := (rMark .ro)) (ok := okMark) shMark
  exact ⟨⟨x0, ⟨x1, x2, x3, x4⟩⟩, rfl, ⟨o0, ⟨o1, o2, o3, o4⟩⟩⟩
theorem shRequest (row : List AV) (h : RowOk [.s, .s, .s, .sl [.s, .s]] row) : ∃ x : Request, row = rRequest .ro x ∧ okRequest x := by
  obtain ⟨a0, _, rfl, h0, h⟩ := h.cons
  obtain ⟨a1, _, rfl, h1, h⟩ := h.cons
  obtain ⟨a2, _, rfl, h2, h⟩ := h.cons
  obtain ⟨a3, _, rfl, h3, h⟩ := h.cons
  obtain rfl := h.nil
  obtain ⟨x0, rfl, o0⟩ := h0.str
  obtain ⟨x1, rfl, o1⟩ := h1.str
  obtain ⟨x2, rfl, o2⟩ := h2.str
  obtain ⟨x3, rfl, o3⟩ := h3.list (f := (rHeader .ro)) (ok := okHeader) shHeader
  exact ⟨⟨x0, x1, x2, x3⟩, rfl, ⟨o0, o1, o2, o3⟩⟩
theorem shOut (row : List AV) (h : RowOk [.i .i64, .i .i64, .s, .i .i64, .sl [.s, .s], .sl [.i .u8], .s, .s, .s, .sl [.s, .s]] row) : ∃ x : Out, row = rOut .ro x ∧ okOut x := by
  obtain ⟨a0, _, rfl, h0, h⟩ := h.cons
  obtain ⟨a1, _, rfl, h1, h⟩ := h.cons
  obtain ⟨a2, _, rfl, h2, h⟩ := h.cons
  obtain ⟨a3, _, rfl, h3, h⟩ := h.cons
  obtain ⟨a4, _, rfl, h4, h⟩ := h.cons
  obtain ⟨a5, _, rfl, h5, h⟩ := h.cons
  obtain ⟨a6, _, rfl, h6, h⟩ := h.cons
  obtain ⟨a7, _, rfl, h7, h⟩ := h.cons
  obtain ⟨a8, _, rfl, h8, h⟩ := h.cons
  obtain ⟨a9, _, rfl, h9, h⟩ := h.cons
  obtain rfl := h.nil
  obtain ⟨x0, rfl, o0⟩ := h0.int
  obtain ⟨x1, rfl, o1⟩ := h1.int
  obtain ⟨x2, rfl, o2⟩ := h2.str
  obtain ⟨x3, rfl, o3⟩ := h3.int
  obtain ⟨x4, rfl, o4⟩ := h4.list (f := (rHeader .ro)) (ok := okHeader) shHeader
  obtain ⟨x5, rfl, o5⟩ := h5.list (f := rByte) (ok := okByte) row_byte
  obtain ⟨x6, rfl, o6⟩ := h6.str
  obtain ⟨x7, rfl, o7⟩ := h7.str
  obtain ⟨x8, rfl, o8⟩ := h8.str
  obtain ⟨x9, rfl, o9⟩ := h9.list (f := (rHeader .ro)) (ok := okHeader) shHeader
  exact ⟨⟨x0, x1, x2, ⟨x3, x4, x5⟩, ⟨x6, x7, x8, x9⟩⟩, rfl, ⟨o0, o1, o2, ⟨o3, o4, o5⟩, ⟨o6, o7, o8, o9⟩⟩⟩
end Go.Vm
