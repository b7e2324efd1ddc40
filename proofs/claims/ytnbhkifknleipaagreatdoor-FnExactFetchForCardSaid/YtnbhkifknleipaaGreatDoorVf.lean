/- A part of a reflected evaluator of the program's code, and the proof that what it computes is what the machine does. -/
import Derived.Test.YtnbhkifknleipaaGreatDoorVa
import Derived.Attr
/- The evaluator by equations: what the walk of a function by 'simp only' rests on. -/
set_option autoImplicit false
namespace Go.Vm

/-- not to be taken for a definition: simp's congruences count a step only where there is a proof -/
theorem nr {α : Sort _} {a b : α} (h : a = b) : a = b := h

/-! environments as lists -/
def E : List (Nat × AV) → Nat → AV
  | [], _ => .u
  | (k, v) :: r, t => if t = k then v else E r t
def B : List (Nat × List AV) → Nat → List AV
  | [], _ => []
  | (k, v) :: r, t => if t = k then v else B r t
theorem E_nil (t : Nat) : E [] t = .u := nr rfl
theorem E_cons (k : Nat) (v : AV) (r : List (Nat × AV)) (t : Nat) : E ((k, v) :: r) t = if t = k then v else E r t := nr rfl
theorem B_nil (t : Nat) : B [] t = [] := nr rfl
theorem B_cons (k : Nat) (v : List AV) (r : List (Nat × List AV)) (t : Nat) : B ((k, v) :: r) t = if t = k then v else B r t := nr rfl
theorem upd_E (l : List (Nat × AV)) (t : Nat) (v : AV) : upd (E l) t v = E ((t, v) :: l) := by funext x; simp [upd, E_cons]
theorem upd_B (l : List (Nat × List AV)) (t : Nat) (v : List AV) : upd (B l) t v = B ((t, v) :: l) := by funext x; simp [upd, B_cons]
def mapE (kp kr : Pl → Bool) : List (Nat × AV) → List (Nat × AV)
  | [] => []
  | (k, v) :: r => (k, filt kp kr v) :: mapE kp kr r
def mapB (kp kr : Pl → Bool) : List (Nat × List AV) → List (Nat × List AV)
  | [] => []
  | (k, v) :: r => (k, filtL kp kr v) :: mapB kp kr r
theorem filt_EB (l : List (Nat × AV)) (m : List (Nat × List AV)) (kp kr : Pl → Bool) : St.filt ⟨E l, B m⟩ kp kr = ⟨E (mapE kp kr l), B (mapB kp kr m)⟩ := by
  simp only [St.filt, St.mk.injEq]
  constructor
  · funext t
    induction l with
    | nil => rfl
    | cons x r ih => obtain ⟨k, v⟩ := x; simp only [mapE, E_cons]; split <;> simp_all
  · funext t
    induction m with
    | nil => rfl
    | cons x r ih => obtain ⟨k, v⟩ := x; simp only [mapB, B_cons]; split <;> simp_all
/-- some slots alone -/
def pickE (f : Nat → AV) : List Nat → List (Nat × AV)
  | [] => []
  | k :: r => (k, f k) :: pickE f r
def pickB (f : Nat → List AV) : List Nat → List (Nat × List AV)
  | [] => []
  | k :: r => (k, f k) :: pickB f r
theorem keep_some (ks bs : List Nat) (st : St) : keep (some (ks, bs)) st = ⟨E (pickE (st.filt (within ks bs) (within ks bs)).env ks), B (pickB (st.filt (within ks bs) (within ks bs)).bx bs)⟩ := by
  simp only [keep, St.mk.injEq]
  generalize st.filt (within ks bs) (within ks bs) = s
  constructor
  · funext t
    induction ks with
    | nil => rfl
    | cons k r ih =>
      simp only [pickE, E_cons, List.contains_cons]
      by_cases h : t = k
      · subst h; simp
      · simp [h, ← ih]
  · funext t
    induction bs with
    | nil => rfl
    | cons k r ih =>
      simp only [pickB, B_cons, List.contains_cons]
      by_cases h : t = k
      · subst h; simp
      · simp [h, ← ih]
theorem keep_none (st : St) : keep none st = st := nr rfl

theorem trim_EB (ks : List Nat) (l : List (Nat × AV)) (m : List (Nat × List AV)) : trim ks ⟨E l, B m⟩ = ⟨E (pickE (E (mapE (inE ks) (inE ks) l)) ks), B (mapB (inE ks) (inE ks) m)⟩ := by
  simp only [trim, filt_EB, St.mk.injEq, and_true]
  generalize E (mapE (inE ks) (inE ks) l) = s
  funext t
  induction ks with
  | nil => rfl
  | cons k r ih =>
    simp only [pickE, E_cons, List.contains_cons]
    by_cases h : t = k
    · subst h; simp
    · simp [h, ← ih]

variable {R : Type}
def bindO {α : Type} (x : Option α) (k : α → Option R) : Option R := match x with
  | some a => k a
  | none => none
theorem bindO_some {α : Type} (a : α) (k : α → Option R) : bindO (some a) k = k a := nr rfl
theorem bindO_none {α : Type} (k : α → Option R) : bindO none k = none := nr rfl
@[congr] theorem bindO_congr {α : Type} {x y : Option α} {k : α → Option R} (h : x = y) : bindO x k = bindO y k := by rw [h]
theorem bindO_ite {α : Type} (c : Prop) [Decidable c] (x y : Option α) (k : α → Option R) : bindO (if c then x else y) k = if c then bindO x k else bindO y k := by split <;> rfl

theorem bindO_bindV {α β : Type} (x : Option α) (f : α → Option β) (k : β → Option R) : bindO (bindV x f) k = bindO x (fun a => bindO (f a) k) := by cases x <;> rfl
theorem bindV_O {α β : Type} (x : Option α) (f : α → Option β) : bindV x f = bindO x f := by cases x <;> rfl

/-! what an operation's guard tells -/
@[congr] theorem evalOps_congr {cx : Cx} {ops : List Oper} {cs : List (Option (List Nat))} {st st' : St} {l : List Oper} (h : st = st') : evalOps cx ops cs st l = evalOps cx ops cs st' l := by rw [h]
@[congr] theorem evalOp_congr {cx : Cx} {st st' : St} {o : Oper} (h : st = st') : evalOp cx st o = evalOp cx st' o := by rw [h]
@[congr] theorem evCode_congr {cx : Cx} {blk : Nat} {c : Code} {st st' : St} (h : st = st') : evCode cx blk c st = evCode cx blk c st' := by rw [h]
def upE (st : St) (d : Nat) (v : AV) : St := ⟨upd st.env d v, st.bx⟩
theorem upE_self (st : St) (d : Nat) : upE st d (st.env d) = st := by
  have : upd st.env d (st.env d) = st.env := by funext x; unfold upd; split <;> simp_all
  simp only [upE, this]
/-- the guard's value, and what is done if it is so, is not so, or was not asked; where it is not known: twice, and behind it it is known -/
def guardK (a : AV) (x y z xs ys : Option St) : Option St := match a with
  | .b true => x
  | .b false => y
  | .no => z
  | _ => none
def guardD (d : Option Nat) (k : Nat → Option St) : Option St := match d with
  | some d => k d
  | none => none
@[congr] theorem guardK_congr {a a' : AV} {x y z xs ys : Option St} (h : a = a') : guardK a x y z xs ys = guardK a' x y z xs ys := by rw [h]
@[congr] theorem guardD_congr {d d' : Option Nat} {k : Nat → Option St} (h : d = d') : guardD d k = guardD d' k := by rw [h]
theorem guardK_true (x y z xs ys : Option St) : guardK (.b true) x y z xs ys = x := nr rfl
theorem guardK_false (x y z xs ys : Option St) : guardK (.b false) x y z xs ys = y := nr rfl
theorem guardK_no (x y z xs ys : Option St) : guardK .no x y z xs ys = z := nr rfl
theorem guardD_some (d : Nat) (k : Nat → Option St) : guardD (some d) k = k d := nr rfl
@[congr] theorem dstAt_congr {l : List Oper} {n : Nat} : dstAt l n = dstAt l n := rfl
theorem dstAt_zero (d op t pos aft g r) : dstAt (⟨d, op, t, pos, aft, g⟩ :: r) 0 = d := nr rfl
theorem dstAt_succ (o : Oper) (r : List Oper) (n : Nat) : dstAt (o :: r) (n + 1) = dstAt r n := nr rfl
/-- the guard is not known: 'guardB' is met only where it is asked for a variable -/
def guardB (b : Bool) (x y : Option St) : Option St := if b = true then x else y
/-- one operation, its state being told first -/
def opS (cx : Cx) (ops : List Oper) (cs : List (Option (List Nat))) (st : St) (o : Oper) (r : List Oper) : Option St := match wanted ops st o with
  | some true => bindO (evalOp cx st o) (fun st' => evalOps cx ops cs st' r)
  | some false => evalOps cx ops cs (st.put? o.dst .no) r
  | none => none
@[congr] theorem opS_congr {cx : Cx} {ops : List Oper} {cs : List (Option (List Nat))} {st st' : St} {o : Oper} {r : List Oper} (h : st = st') : opS cx ops cs st o r = opS cx ops cs st' o r := by rw [h]
theorem evalOps_nil (cx : Cx) (ops : List Oper) (cs : List (Option (List Nat))) (st : St) : evalOps cx ops cs st [] = some st := by simp only [evalOps]
theorem evalOps_cons (cx : Cx) (ops : List Oper) (c : Option (List Nat)) (cs : List (Option (List Nat))) (st : St) (o : Oper) (r : List Oper) : evalOps cx ops (c :: cs) st (o :: r) = opS cx ops cs (trim? c st) o r := by
  simp only [evalOps, opS, hd?, List.tail_cons, bindO]
  cases wanted ops (trim? c st) o with
  | none => rfl
  | some b => cases b <;> try rfl
              simp only []; cases evalOp cx (trim? c st) o <;> rfl
theorem evalOps_cons' (cx : Cx) (ops : List Oper) (st : St) (o : Oper) (r : List Oper) : evalOps cx ops [] st (o :: r) = opS cx ops [] st o r := by
  simp only [evalOps, opS, hd?, List.tail_nil, bindO, trim?]
  cases wanted ops st o with
  | none => rfl
  | some b => cases b <;> try rfl
              simp only []; cases evalOp cx st o <;> rfl
section
variable (cx : Cx) (ops : List Oper) (cs : List (Option (List Nat))) (st : St) (d : Option Nat) (op : Op) (t : TypeId) (pos : String) (aft : Array Edge) (j : Nat) (r : List Oper)
theorem opS_plain : opS cx ops cs st ⟨d, op, t, pos, aft, none⟩ r = bindO (evalOp cx st ⟨d, op, t, pos, aft, none⟩) (fun st' => evalOps cx ops cs st' r) := nr rfl
/-- a guard that isn't known yet: both ways, each with the knowledge -/
def guardS (cx : Cx) (ops : List Oper) (cs : List (Option (List Nat))) (st : St) (o : Oper) (r : List Oper) (want : Bool) (g : Nat) (a : AV) : Option St := match a with
  | .b b => if b = want then bindO (evalOp cx st o) (fun st' => evalOps cx ops cs st' r) else evalOps cx ops cs (st.put? o.dst .no) r
  | .no => evalOps cx ops cs (st.put? o.dst .no) r
  | _ => none
@[congr] theorem guardS_congr {cx : Cx} {ops : List Oper} {cs : List (Option (List Nat))} {st : St} {o : Oper} {r : List Oper} {want : Bool} {g : Nat} {a a' : AV} (h : a = a') : guardS cx ops cs st o r want g a = guardS cx ops cs st o r want g a' := by rw [h]
theorem opS_guard (want : Bool) : opS cx ops cs st ⟨d, op, t, pos, aft, some (j, want)⟩ r = guardD (dstAt ops j) (fun g => guardS cx ops cs st ⟨d, op, t, pos, aft, some (j, want)⟩ r want g (st.env g)) := by
  simp only [opS, wanted, guardD]
  cases dstAt ops j with
  | none => rfl
  | some g =>
    simp only [guardS]
    cases st.env g with
    | b b => cases b <;> cases want <;> rfl
    | _ => rfl
end
section
variable (cx : Cx) (ops : List Oper) (cs : List (Option (List Nat))) (st : St) (o : Oper) (r : List Oper) (g : Nat)
theorem guardS_tt : guardS cx ops cs st o r true g (.b true) = bindO (evalOp cx st o) (fun st' => evalOps cx ops cs st' r) := nr rfl
theorem guardS_ff : guardS cx ops cs st o r false g (.b false) = bindO (evalOp cx st o) (fun st' => evalOps cx ops cs st' r) := nr rfl
theorem guardS_tf : guardS cx ops cs st o r true g (.b false) = evalOps cx ops cs (st.put? o.dst .no) r := nr rfl
theorem guardS_ft : guardS cx ops cs st o r false g (.b true) = evalOps cx ops cs (st.put? o.dst .no) r := nr rfl
theorem guardS_no (want : Bool) : guardS cx ops cs st o r want g .no = evalOps cx ops cs (st.put? o.dst .no) r := nr rfl
/-- met last: it is not known -/
def opU (cx : Cx) (ops : List Oper) (cs : List (Option (List Nat))) (st : St) (o : Oper) (r : List Oper) : Option St := bindO (evalOp cx st o) (fun st' => evalOps cx ops cs st' r)
def skU (cx : Cx) (ops : List Oper) (cs : List (Option (List Nat))) (st : St) (o : Oper) (r : List Oper) : Option St := evalOps cx ops cs (st.put? o.dst .no) r
@[congr] theorem opU_congr {cx : Cx} {ops : List Oper} {cs : List (Option (List Nat))} {st st' : St} {o : Oper} {r : List Oper} (h : st = st') : opU cx ops cs st o r = opU cx ops cs st' o r := by rw [h]
@[congr] theorem skU_congr {cx : Cx} {ops : List Oper} {cs : List (Option (List Nat))} {st st' : St} {o : Oper} {r : List Oper} (h : st = st') : skU cx ops cs st o r = skU cx ops cs st' o r := by rw [h]
end
theorem guardS_b (cx : Cx) (ops : List Oper) (cs : List (Option (List Nat))) (l : List (Nat × AV)) (m : List (Nat × List AV)) (o : Oper) (r : List Oper) (g : Nat) (want b : Bool) (h : E l g = .b b) :
    guardS cx ops cs ⟨E l, B m⟩ o r want g (.b b) =
      if b = true then (if want = true then opU cx ops cs ⟨E ((g, .b true) :: l), B m⟩ o r else skU cx ops cs ⟨E ((g, .b true) :: l), B m⟩ o r)
      else (if want = true then skU cx ops cs ⟨E ((g, .b false) :: l), B m⟩ o r else opU cx ops cs ⟨E ((g, .b false) :: l), B m⟩ o r) := by
  have hs : (⟨E ((g, .b b) :: l), B m⟩ : St) = ⟨E l, B m⟩ := by
    have := upE_self ⟨E l, B m⟩ g
    simp only [upE, upd_E, h] at this
    exact this
  cases b <;> cases want <;> simp only [guardS, opU, skU, hs, if_true, if_false, Bool.false_eq_true, reduceCtorEq]

/-! two ways meet again -/
def jA (c : Prop) [Decidable c] (a b : AV) : AV := if c then a else b
section
variable (c : Prop) [Decidable c]
theorem jA_self (a : AV) : jA c a a = a := by unfold jA; split <;> rfl
theorem jA_b (x y : Bool) : jA c (.b x) (.b y) = .b (if c then x else y) := by unfold jA; split <;> rfl
theorem jA_i (k : IntKind) (x y : Int) : jA c (.i k x) (.i k y) = .i k (if c then x else y) := by unfold jA; split <;> rfl
theorem jA_s (x y : ByteArray) : jA c (.s x) (.s y) = .s (if c then x else y) := by unfold jA; split <;> rfl
theorem jA_sl (t : Tag) (z : Nat) (x y : List (List AV)) : jA c (.sl t z x) (.sl t z y) = .sl t z (if c then x else y) := by unfold jA; split <;> rfl
def jL (c : Prop) [Decidable c] : List AV → List AV → List AV
  | a :: l, b :: r => jA c a b :: jL c l r
  | _, _ => []
def sameLen : List AV → List AV → Bool
  | _ :: l, _ :: r => sameLen l r
  | [], [] => true
  | _, _ => false
theorem jL_eq : ∀ (x y : List AV), sameLen x y = true → (if c then x else y) = jL c x y
  | [], [], _ => by simp [jL]
  | a :: l, b :: r, h => by
    have ih := jL_eq l r (by simpa [sameLen] using h)
    simp only [jL, jA, ← ih]
    split <;> rfl
  | [], _ :: _, h => by simp [sameLen] at h
  | _ :: _, [], h => by simp [sameLen] at h
theorem jA_agg (x y : List AV) (h : sameLen x y = true) : jA c (.agg x) (.agg y) = .agg (jL c x y) := by rw [← jL_eq c x y h]; unfold jA; split <;> rfl
theorem jL_self (x : List AV) : jL c x x = x := by
  rw [← jL_eq c x x (by induction x <;> simp_all [sameLen])]; simp
def jE (c : Prop) [Decidable c] : List (Nat × AV) → List (Nat × AV) → List (Nat × AV)
  | (k, a) :: l, (_, b) :: r => (k, jA c a b) :: jE c l r
  | _, _ => []
def jB (c : Prop) [Decidable c] : List (Nat × List AV) → List (Nat × List AV) → List (Nat × List AV)
  | (k, a) :: l, (_, b) :: r => (k, jL c a b) :: jB c l r
  | _, _ => []
def keysE : List (Nat × AV) → List (Nat × AV) → Bool
  | (k, _) :: l, (k', _) :: r => k == k' && keysE l r
  | [], [] => true
  | _, _ => false
def keysB : List (Nat × List AV) → List (Nat × List AV) → Bool
  | (k, a) :: l, (k', b) :: r => k == k' && (sameLen a b && keysB l r)
  | [], [] => true
  | _, _ => false
theorem jE_eq : ∀ (x y : List (Nat × AV)), keysE x y = true → (if c then E x else E y) = E (jE c x y)
  | [], [], _ => by simp [jE]
  | (k, a) :: l, (k', b) :: r, h => by
    simp only [keysE, Bool.and_eq_true, beq_iff_eq] at h
    obtain ⟨rfl, h⟩ := h
    have ih := jE_eq l r h
    funext t
    have ih' := congrFun ih t
    simp only [jE, jA]
    rw [E_cons, ← ih']
    split <;> simp only [E_cons]
  | [], _ :: _, h => by simp [keysE] at h
  | _ :: _, [], h => by simp [keysE] at h
theorem jB_eq : ∀ (x y : List (Nat × List AV)), keysB x y = true → (if c then B x else B y) = B (jB c x y)
  | [], [], _ => by simp [jB]
  | (k, a) :: l, (k', b) :: r, h => by
    simp only [keysB, Bool.and_eq_true, beq_iff_eq] at h
    obtain ⟨rfl, h1, h⟩ := h
    have ih := jB_eq l r h
    funext t
    have ih' := congrFun ih t
    simp only [jB]
    rw [B_cons, ← ih', ← jL_eq c a b h1]
    split <;> simp only [B_cons]
  | [], _ :: _, h => by simp [keysB] at h
  | _ :: _, [], h => by simp [keysB] at h
theorem join_st (x y : List (Nat × AV)) (m n : List (Nat × List AV)) (h : keysE x y = true) (h' : keysB m n = true) : (if c then some (⟨E x, B m⟩ : St) else some ⟨E y, B n⟩) = some ⟨E (jE c x y), B (jB c m n)⟩ := by
  rw [← jE_eq c x y h, ← jB_eq c m n h']; split <;> rfl
theorem join_ex (e : Ex) (x y : List (Nat × AV)) (m n : List (Nat × List AV)) (h : keysE x y = true) (h' : keysB m n = true) : (if c then some (e, (⟨E x, B m⟩ : St)) else some (e, ⟨E y, B n⟩)) = some (e, ⟨E (jE c x y), B (jB c m n)⟩) := by
  rw [← jE_eq c x y h, ← jB_eq c m n h']; split <;> rfl
end

/-! code -/
theorem evCode_skip (cx : Cx) (blk : Nat) (st : St) : evCode cx blk .skip st = some (.nor, st) := nr rfl
theorem evCode_exit (cx : Cx) (blk id : Nat) (st : St) : evCode cx blk (.exit id) st = some (.ex id, keep (cx.out id) st) := nr rfl
theorem evCode_ret (cx : Cx) (blk : Nat) (st : St) : evCode cx blk .ret st = some (.ret, keep cx.rets st) := nr rfl
def norS (x : Option St) : Option (Ex × St) := match x with
  | some s => some (.nor, s)
  | none => none
theorem norS_some (s : St) : norS (some s) = some (.nor, s) := nr rfl
theorem norS_none : norS none = none := nr rfl
theorem norS_ite (c : Prop) [Decidable c] (x y : Option St) : norS (if c then x else y) = if c then norS x else norS y := by split <;> rfl
theorem evCode_region (cx : Cx) (blk id : Nat) (l : List Oper) (st : St) : evCode cx blk (.region id (List.toArray l) false) st = norS (bindO (evalOps cx l (cx.cuts id) st l) (fun s => weakW (keep (cx.rg id) s) (cx.ws id))) := by
  simp only [evCode, bindO, norS, norV, Bool.false_eq_true, if_false]
  cases evalOps cx l (cx.cuts id) st l <;> rfl
theorem evCode_draw (cx : Cx) (blk id : Nat) (l : List Oper) (st : St) : evCode cx blk (.region id (List.toArray l) true) st = norS (bindO (bindO (cx.plan id) (fun p => evPlan cx id l p st)) (fun s => weakW s (cx.ws id))) := by
  simp only [evCode, if_true, norS, norV, bindV_O]
  cases cx.plan id with
  | none => rfl
  | some p => simp only [bindO]; cases evPlan cx id l p st <;> rfl
@[congr] theorem weakW_congr {st st' : St} {l l' : List (Bool × Nat × Nat)} (h : st = st') (h2 : l = l') : weakW st l = weakW st' l' := by rw [h, h2]
theorem weakW_nil (st : St) : weakW st [] = some st := nr rfl
theorem weakW_t (st : St) (r c : Nat) (l : List (Bool × Nat × Nat)) : weakW st ((true, r, c) :: l) = bindO (weakArg st (.tmp r)) (fun s => weakW s l) := by simp only [weakW, bindV_O]
def weakC (st : St) (b c : Nat) : Option AV → Option St
  | some (.sl .mut z es) => weakLeaf st (.rf ⟨false, b, [], c⟩ z 0 es.length)
  | _ => some st
theorem weakC_mut (st : St) (b c z : Nat) (es : List (List AV)) : weakC st b c (some (.sl .mut z es)) = weakLeaf st (.rf ⟨false, b, [], c⟩ z 0 es.length) := nr rfl
theorem weakC_app (st : St) (b c z : Nat) (es : List (List AV)) : weakC st b c (some (.sl .app z es)) = some st := nr rfl
theorem weakC_ro (st : St) (b c z : Nat) (es : List (List AV)) : weakC st b c (some (.sl .ro z es)) = some st := nr rfl
theorem weakC_u (st : St) (b c : Nat) : weakC st b c (some .u) = some st := nr rfl
theorem weakW_f (st : St) (r c : Nat) (l : List (Bool × Nat × Nat)) : weakW st ((false, r, c) :: l) = bindO (weakC st r c (st.bx r)[c]?) (fun s => weakW s l) := by simp only [weakW, weakAt, weakC, bindV_O]; rfl
theorem evPlan_done (cx : Cx) (id : Nat) (ops : List Oper) (st : St) : evPlan cx id ops .done st = some (keep (cx.rg id) st) := nr rfl
theorem evPlan_take (cx : Cx) (id : Nat) (ops : List Oper) (i : Nat) (p : Plan) (st : St) : evPlan cx id ops (.take i p) st = bindO (getOp ops i) (fun o => takeK (isPure o.op) (bindO (stepOp cx ops st o) (fun s => evPlan cx id ops p s))) := by
  simp only [evPlan, bindV_O]
theorem evPlan_one (cx : Cx) (id : Nat) (ops : List Oper) (i : Nat) (p : Plan) (st : St) : evPlan cx id ops (.one i p) st = bindO (getOp ops i) (fun o => takeK (lateOp cx o.op || growOp cx st o.op) (bindO (stepOp cx ops st o) (fun s => evPlan cx id ops p s))) := by
  simp only [evPlan, bindV_O]
theorem evPlan_alt (cx : Cx) (id : Nat) (ops : List Oper) (i : Nat) (p q : Plan) (st : St) : evPlan cx id ops (.alt i p q) st = same? (evPlan cx id ops (.one i p) st) (evPlan cx id ops q st) := nr rfl
theorem getOp_zero (o : Oper) (r : List Oper) : getOp (o :: r) 0 = some o := nr rfl
theorem getOp_succ (o : Oper) (r : List Oper) (n : Nat) : getOp (o :: r) (n + 1) = getOp r n := nr rfl
theorem takeK_true (x : Option St) : takeK true x = x := nr rfl
@[congr] theorem takeK_congr {p p' : Bool} {x : Option St} (h : p = p') : takeK p x = takeK p' x := by rw [h]
theorem same?_self (x : Option St) : same? x x = x := by unfold same?; rw [if_pos rfl]
theorem stepOp_plain (cx : Cx) (ops : List Oper) (st : St) (d : Option Nat) (op : Op) (t : TypeId) (pos : String) (aft : Array Edge) : stepOp cx ops st ⟨d, op, t, pos, aft, none⟩ = evalOp cx st ⟨d, op, t, pos, aft, none⟩ := nr rfl
def stepG (cx : Cx) (ops : List Oper) (st : St) (o : Oper) (want : Bool) (g : Nat) (a : AV) : Option St := match a with
  | .b b => if b = want then evalOp cx st o else some (st.put? o.dst .no)
  | .no => some (st.put? o.dst .no)
  | _ => none
@[congr] theorem stepG_congr {cx : Cx} {ops : List Oper} {st : St} {o : Oper} {want : Bool} {g : Nat} {a a' : AV} (h : a = a') : stepG cx ops st o want g a = stepG cx ops st o want g a' := by rw [h]
def stepD (cx : Cx) (ops : List Oper) (st : St) (o : Oper) (want : Bool) (d : Option Nat) : Option St := match d with
  | some d => stepG cx ops st o want d (st.env d)
  | none => none
theorem stepD_some (cx : Cx) (ops : List Oper) (st : St) (o : Oper) (want : Bool) (d : Nat) : stepD cx ops st o want (some d) = stepG cx ops st o want d (st.env d) := nr rfl
theorem stepG_tt (cx : Cx) (ops : List Oper) (st : St) (o : Oper) (g : Nat) : stepG cx ops st o true g (.b true) = evalOp cx st o := nr rfl
theorem stepG_ff (cx : Cx) (ops : List Oper) (st : St) (o : Oper) (g : Nat) : stepG cx ops st o false g (.b false) = evalOp cx st o := nr rfl
theorem stepG_tf (cx : Cx) (ops : List Oper) (st : St) (o : Oper) (g : Nat) : stepG cx ops st o true g (.b false) = some (st.put? o.dst .no) := nr rfl
theorem stepG_ft (cx : Cx) (ops : List Oper) (st : St) (o : Oper) (g : Nat) : stepG cx ops st o false g (.b true) = some (st.put? o.dst .no) := nr rfl
theorem stepG_no (cx : Cx) (ops : List Oper) (st : St) (o : Oper) (want : Bool) (g : Nat) : stepG cx ops st o want g .no = some (st.put? o.dst .no) := nr rfl
/-- met last: it is not known -/
def stU (cx : Cx) (st : St) (o : Oper) : Option St := evalOp cx st o
def skS (st : St) (o : Oper) : Option St := some (st.put? o.dst .no)
@[congr] theorem stU_congr {cx : Cx} {st st' : St} {o : Oper} (h : st = st') : stU cx st o = stU cx st' o := by rw [h]
@[congr] theorem skS_congr {st st' : St} {o : Oper} (h : st = st') : skS st o = skS st' o := by rw [h]
theorem stepG_b (cx : Cx) (ops : List Oper) (l : List (Nat × AV)) (m : List (Nat × List AV)) (o : Oper) (want : Bool) (g : Nat) (b : Bool) (h : E l g = .b b) :
    stepG cx ops ⟨E l, B m⟩ o want g (.b b) =
      if b = true then (if want = true then stU cx ⟨E ((g, .b true) :: l), B m⟩ o else skS ⟨E ((g, .b true) :: l), B m⟩ o)
      else (if want = true then skS ⟨E ((g, .b false) :: l), B m⟩ o else stU cx ⟨E ((g, .b false) :: l), B m⟩ o) := by
  have hs : (⟨E ((g, .b b) :: l), B m⟩ : St) = ⟨E l, B m⟩ := by
    have := upE_self ⟨E l, B m⟩ g
    simp only [upE, upd_E, h] at this
    exact this
  cases b <;> cases want <;> simp only [stepG, stU, skS, hs, if_true, if_false, Bool.false_eq_true, reduceCtorEq]
theorem stepOp_guard (cx : Cx) (ops : List Oper) (st : St) (d : Option Nat) (op : Op) (t : TypeId) (pos : String) (aft : Array Edge) (j : Nat) (want : Bool) : stepOp cx ops st ⟨d, op, t, pos, aft, some (j, want)⟩ = stepD cx ops st ⟨d, op, t, pos, aft, some (j, want)⟩ want (dstAt ops j) := by
  unfold stepOp wanted stepD stepG
  simp only
  cases dstAt ops j with
  | none => rfl
  | some d =>
    simp only
    cases st.env d with
    | b b =>
      cases b <;> cases want <;> rfl
    | _ => rfl
/-- what follows, where nothing was left -/
def seqE (x : Option (Ex × St)) (k : St → Option (Ex × St)) : Option (Ex × St) := match x with
  | some (.nor, st) => k st
  | some (.ex j, st) => some (.ex j, st)
  | some (.ret, st) => some (.ret, st)
  | none => none
@[congr] theorem seqE_congr {x y : Option (Ex × St)} {k : St → Option (Ex × St)} (h : x = y) : seqE x k = seqE y k := by rw [h]
theorem seqE_nor (st : St) (k : St → Option (Ex × St)) : seqE (some (.nor, st)) k = k st := nr rfl
theorem seqE_ret (st : St) (k : St → Option (Ex × St)) : seqE (some (.ret, st)) k = some (.ret, st) := nr rfl
theorem seqE_ex (j : Nat) (st : St) (k : St → Option (Ex × St)) : seqE (some (.ex j, st)) k = some (.ex j, st) := nr rfl
theorem seqE_none (k : St → Option (Ex × St)) : seqE none k = none := nr rfl
theorem seqE_ite (c : Prop) [Decidable c] (x y : Option (Ex × St)) (k : St → Option (Ex × St)) : seqE (if c then x else y) k = if c then seqE x k else seqE y k := by split <;> rfl
theorem evCode_seq (cx : Cx) (blk : Nat) (a b : Code) (st : St) : evCode cx blk (.seq a b) st = seqE (evCode cx blk a st) (fun s => evCode cx blk b s) := by
  simp only [evCode]
  cases evCode cx blk a st with
  | none => rfl
  | some x => obtain ⟨e, s⟩ := x; cases e <;> rfl
def blkE (id : Nat) (x : Option (Ex × St)) : Option (Ex × St) := match x with
  | some (.ex j, st) => if j = id then some (.nor, st) else some (.ex j, st)
  | some (.nor, st) => some (.nor, st)
  | some (.ret, st) => some (.ret, st)
  | none => none
theorem blkE_nor (id : Nat) (st : St) : blkE id (some (.nor, st)) = some (.nor, st) := nr rfl
theorem blkE_ret (id : Nat) (st : St) : blkE id (some (.ret, st)) = some (.ret, st) := nr rfl
theorem blkE_ex (id j : Nat) (st : St) : blkE id (some (.ex j, st)) = if j = id then some (.nor, st) else some (.ex j, st) := nr rfl
theorem blkE_none (id : Nat) : blkE id none = none := nr rfl
theorem blkE_ite (id : Nat) (c : Prop) [Decidable c] (x y : Option (Ex × St)) : blkE id (if c then x else y) = if c then blkE id x else blkE id y := by split <;> rfl
theorem evCode_block (cx : Cx) (blk id : Nat) (c : Code) (st : St) : evCode cx blk (.block id c) st = blkE id (evCode cx id c st) := by
  simp only [evCode]
  cases evCode cx id c st with
  | none => rfl
  | some x => obtain ⟨e, s⟩ := x; cases e <;> rfl
def condE (a : AV) (x y : Option (Ex × St)) : Option (Ex × St) := match a with
  | .b b => if b = true then x else y
  | _ => none
@[congr] theorem condE_congr {a a' : AV} {x y : Option (Ex × St)} (h : a = a') : condE a x y = condE a' x y := by rw [h]
theorem condE_true (x y : Option (Ex × St)) : condE (.b true) x y = x := nr rfl
theorem condE_false (x y : Option (Ex × St)) : condE (.b false) x y = y := nr rfl
theorem condE_b (b : Bool) (x y : Option (Ex × St)) : condE (.b b) x y = if b = true then x else y := nr rfl
theorem evCode_cond (cx : Cx) (blk : Nat) (c : Operand) (a b : Code) (st : St) : evCode cx blk (.cond c a b) st = condE (view st c) (evCode cx blk a st) (evCode cx blk b st) := by
  simp only [evCode, condE]
  cases view st c with
  | b x => cases x <;> rfl
  | _ => rfl
/-- A loop, n rounds at the most. -/
noncomputable def loopE (cx : Cx) (blk : Nat) (c : Code) (n : Nat) (st : St) : Option (Ex × St) := iter (fun st => evCode cx blk c (keep (cx.live blk) st)) n st
@[congr] theorem loopE_congr {cx : Cx} {blk : Nat} {c : Code} {n : Nat} {st st' : St} (h : st = st') : loopE cx blk c n st = loopE cx blk c n st' := by rw [h]
theorem evCode_loop (cx : Cx) (blk : Nat) (c : Code) (st : St) : evCode cx blk (.loop c) st = loopE cx blk c cx.rounds st := nr rfl
theorem loopE_succ (cx : Cx) (blk : Nat) (c : Code) (n : Nat) (st : St) : loopE cx blk c (n + 1) st = seqE (evCode cx blk c (keep (cx.live blk) st)) (fun s => loopE cx blk c n s) := by
  simp only [loopE, iter]
  cases evCode cx blk c (keep (cx.live blk) st) with
  | none => rfl
  | some x => obtain ⟨e, s⟩ := x; cases e <;> rfl

/-! functions -/
def finE (cx : Cx) (md : List Md) (rv : List ResultVar) (x : Option (Ex × St)) : Option (AV × List AV) := match x with
  | some (.nor, st) => finish cx md rv st
  | some (.ret, st) => finish cx md rv st
  | _ => none
theorem finE_nor (cx : Cx) (md : List Md) (rv : List ResultVar) (st : St) : finE cx md rv (some (.nor, st)) = finish cx md rv st := nr rfl
theorem finE_ret (cx : Cx) (md : List Md) (rv : List ResultVar) (st : St) : finE cx md rv (some (.ret, st)) = finish cx md rv st := nr rfl
theorem finE_none (cx : Cx) (md : List Md) (rv : List ResultVar) : finE cx md rv none = none := nr rfl
theorem finE_ite (cx : Cx) (md : List Md) (rv : List ResultVar) (c : Prop) [Decidable c] (x y : Option (Ex × St)) : finE cx md rv (if c then x else y) = if c then finE cx md rv x else finE cx md rv y := by split <;> rfl
theorem evalFn_eq (cx : Cx) (md : List Md) (f : Func) (args : List AV) (c : Code) (rv : List ResultVar) (h : f.body = some c) (hr : f.results = rv.toArray) (hz : cx.nz = false) : evalFn cx md f args = finE cx md rv (evCode cx 0 c (entry md args)) := by
  simp only [evalFn, h, hr, evB, hz, Bool.false_eq_true, if_false]
  cases evCode cx 0 c (entry md args) with
  | none => rfl
  | some x => obtain ⟨e, s⟩ := x; cases e <;> rfl
theorem evalFn_eqN (cx : Cx) (md : List Md) (f : Func) (args : List AV) (c : Code) (rv : List ResultVar) (h : f.body = some c) (hr : f.results = rv.toArray) (hz : cx.nz = true) : evalFn cx md f args = finE cx md rv (evN cx c (fun s => some (.nor, s)) (entry md args)) := by
  simp only [evalFn, h, hr, evB, hz, if_true]
  cases evN cx c (fun s => some (.nor, s)) (entry md args) with
  | none => rfl
  | some x => obtain ⟨e, s⟩ := x; cases e <;> rfl
@[congr] theorem evN_congr {cx : Cx} {c : Code} {K : St → Option (Ex × St)} {st st' : St} (h : st = st') : evN cx c K st = evN cx c K st' := by rw [h]
theorem evN_skip (cx : Cx) (K : St → Option (Ex × St)) (st : St) : evN cx .skip K st = K st := nr rfl
theorem evN_seq (cx : Cx) (a b : Code) (K : St → Option (Ex × St)) (st : St) : evN cx (.seq a b) K st = evN cx a (fun s => evN cx b K s) st := nr rfl
noncomputable def conN (a : AV) (x y : Option (Ex × St)) : Option (Ex × St) := match a with
  | .b true => x
  | .b false => y
  | .ub => both? x y
  | _ => none
@[congr] theorem conN_congr {a a' : AV} {x y : Option (Ex × St)} (h : a = a') : conN a x y = conN a' x y := by rw [h]
theorem conN_true (x y : Option (Ex × St)) : conN (.b true) x y = x := nr rfl
theorem conN_false (x y : Option (Ex × St)) : conN (.b false) x y = y := nr rfl
theorem conN_ub (x y : Option (Ex × St)) : conN .ub x y = both? x y := nr rfl
theorem both?_self (x : Option (Ex × St)) : both? x x = x := by unfold both?; rw [if_pos rfl]
theorem evN_cond (cx : Cx) (c : Operand) (a b : Code) (K : St → Option (Ex × St)) (st : St) : evN cx (.cond c a b) K st = conN (view st c) (evN cx a K st) (evN cx b K st) := by
  simp only [evN, conN]
  cases view st c with
  | b x => cases x <;> rfl
  | _ => rfl
theorem evN_ret (cx : Cx) (K : St → Option (Ex × St)) (st : St) : evN cx .ret K st = some (.ret, keep cx.rets st) := nr rfl
theorem evN_region (cx : Cx) (id : Nat) (ops : Array Oper) (d : Bool) (K : St → Option (Ex × St)) (st : St) : evN cx (.region id ops d) K st = seqE (evCode cx 0 (.region id ops d) st) (fun s => K s) := by
  simp only [evN, afterN]
  cases evCode cx 0 (.region id ops d) st with
  | none => rfl
  | some x => obtain ⟨e, s⟩ := x; cases e <;> rfl
def finB (md : List Md) (p : List AV × St) : Option (AV × List AV) := if (p.1.all okLeaf && (outL p.2 md 0).all okLeaf && outLen md (outL p.2 md 0)) = true then some (one p.1, outL p.2 md 0) else none
def finX (cx : Cx) (md : List Md) (rv : List ResultVar) (st : St) : Option (List AV) → Option (AV × List AV)
  | some cs => finN md st cs
  | none => bindO (resL cx st rv) (finB md)
theorem finish_O (cx : Cx) (md : List Md) (rv : List ResultVar) (st : St) : finish cx md rv st = finX cx md rv st (npOut md st rv) := by
  simp only [finish, finX]
  cases npOut md st rv with
  | some cs => rfl
  | none =>
    simp only [finA, bindO]
    cases resL cx st rv <;> rfl
theorem finX_some (cx : Cx) (md : List Md) (rv : List ResultVar) (st : St) (cs : List AV) : finX cx md rv st (some cs) = finN md st cs := nr rfl
theorem finX_none (cx : Cx) (md : List Md) (rv : List ResultVar) (st : St) : finX cx md rv st none = bindO (resL cx st rv) (finB md) := nr rfl
theorem finN_eq (md : List Md) (st : St) (cs : List AV) : finN md st cs = if (cs.all rowOk && !cs.isEmpty && (outL st md 0).all okLeaf && outLen md (outL st md 0)) = true then some (.tup [.agg cs], outL st md 0) else none := nr rfl
theorem npOut_nil (md : List Md) (st : St) : npOut md st [] = none := nr rfl
theorem npOut_tmp (md : List Md) (st : St) (t : Nat) : npOut md st [.tmp t] = npP md st (st.env t) := nr rfl
theorem npOut_cell (md : List Md) (st : St) (a t : Nat) : npOut md st [.cell a t] = none := nr rfl
theorem npOut_two (md : List Md) (st : St) (a b : ResultVar) (l : List ResultVar) : npOut md st (a :: b :: l) = none := by cases a <;> rfl
theorem npP_p (md : List Md) (st : St) (q : Pl) : npP md st (.p q) = if (!q.e && q.path.isEmpty && q.c == 0 && decide (md.length ≤ q.r)) = true then some (st.bx q.r) else none := nr rfl
theorem finB_eq (md : List Md) (l : List AV) (st : St) : finB md (l, st) = if (l.all okLeaf && (outL st md 0).all okLeaf && outLen md (outL st md 0)) = true then some (one l, outL st md 0) else none := nr rfl
theorem resL_nil (cx : Cx) (st : St) : resL cx st [] = some ([], st) := nr rfl
def resC (v : AV) (p : List AV × St) : Option (List AV × St) := some (v :: p.1, p.2)
theorem resC_eq (v : AV) (l : List AV) (st : St) : resC v (l, st) = some (v :: l, st) := nr rfl
theorem resL_cons (cx : Cx) (st : St) (t : Tmp) (r : List ResultVar) : resL cx st (.tmp t :: r) = bindO (take st (.tmp t)) (fun p => bindO (resL cx p.2 r) (resC p.1)) := by
  simp only [resL, bindO]
  cases take st (.tmp t) with
  | none => rfl
  | some p => obtain ⟨v, s⟩ := p; simp only; cases resL cx s r <;> rfl
theorem resL_cell (cx : Cx) (st : St) (a t : Nat) (r : List ResultVar) : resL cx st (.cell a t :: r) = bindO (cx.T t) (fun ti => bindO (loadAt st ti (view st (.tmp a))) (fun v => bindO (takeVal st v) (fun p => bindO (resL cx p.2 r) (resC p.1)))) := by
  simp only [resL, bindV_O, bindO]
  cases cx.T t with
  | none => rfl
  | some ti =>
    simp only
    cases loadAt st ti (view st (.tmp a)) with
    | none => rfl
    | some v =>
      simp only
      cases takeVal st v with
      | none => rfl
      | some p => obtain ⟨v, s⟩ := p; simp only; cases resL cx s r <;> rfl
def entE : List Md → List AV → Nat → List (Nat × AV)
  | .rw _ :: ms, _ :: as, j => (j, .p ⟨false, j, [], 0⟩) :: entE ms as (j + 1)
  | .ro _ :: ms, a :: as, j => (j, a) :: entE ms as (j + 1)
  | .mv :: ms, a :: as, j => (j, a) :: entE ms as (j + 1)
  | _, _, _ => []
def entB : List Md → List AV → Nat → List (Nat × List AV)
  | .rw _ :: ms, a :: as, j => (j, cellsOf a) :: entB ms as (j + 1)
  | .ro _ :: ms, _ :: as, j => entB ms as (j + 1)
  | .mv :: ms, _ :: as, j => entB ms as (j + 1)
  | _, _, _ => []
theorem entry_eq (ms : List Md) (as : List AV) : entry ms as = ⟨E (entE ms as 0), B (entB ms as 0)⟩ := by
  have h1 : ∀ (ms : List Md) (as : List AV) (j t : Nat), entryEnv ms as j t = E (entE ms as j) t := by
    intro ms
    induction ms with
    | nil => intro as j t; cases as <;> rfl
    | cons m ms ih =>
      intro as j t
      cases as with
      | nil => cases m <;> rfl
      | cons a as => cases m <;> simp only [entryEnv, entE, E_cons, ih]
  have h2 : ∀ (ms : List Md) (as : List AV) (j t : Nat), entryBx ms as j t = B (entB ms as j) t := by
    intro ms
    induction ms with
    | nil => intro as j t; cases as <;> rfl
    | cons m ms ih =>
      intro as j t
      cases as with
      | nil => cases m <;> rfl
      | cons a as => cases m <;> simp only [entryBx, entB, B_cons, ih]
  simp only [entry, St.mk.injEq]
  exact ⟨funext (h1 ms as 0), funext (h2 ms as 0)⟩

/-! operations -/
section
variable (cx : Cx) (t : TypeId) (pos : String) (aft : Array Edge) (g : Option (Nat × Bool)) (st : St)
theorem setD_O (d : Nat) (x : Option AV) : setD st (some d) x = bindO x (fun v => some (st.put d v)) := by cases x <;> rfl
theorem setV_O (d : Nat) (x : Option (AV × St)) : setV (some d) x = bindO x (fun y => some (y.2.put d y.1)) := by cases x <;> rfl
theorem setC_O (d : Option Nat) (x : Option (AV × St)) : setC d x = bindO x (fun y => putN d y.2 y.1 (isNp y.1)) := by cases x <;> rfl
theorem putN_none (d : Option Nat) (st : St) (r : AV) : putN d st r none = some (st.put? d r) := nr rfl
theorem putN_some (d : Nat) (st : St) (r : AV) (cs : List AV) : putN (some d) st r (some cs) = newBoxO st d cs := nr rfl
theorem isNp_np (cs : List AV) : isNp (.tup [.agg cs]) = some cs := nr rfl
theorem isNp_nil : isNp (.tup []) = none := nr rfl
theorem isNp_two (a b : AV) (l : List AV) : isNp (.tup (a :: b :: l)) = none := by cases a <;> rfl
def moveE (st : St) (t : Nat) : AV → Option (AV × St)
  | .tup (v :: vs) => some (.tup (v :: vs), ⟨upd st.env t .u, st.bx⟩)
  | _ => none
theorem moveE_tup (st : St) (t : Nat) (v : AV) (vs : List AV) : moveE st t (.tup (v :: vs)) = some (.tup (v :: vs), ⟨upd st.env t .u, st.bx⟩) := nr rfl
theorem moveT_tmp (st : St) (t : Nat) : moveT st (.tmp t) = moveE st t (st.env t) := by
  simp only [moveT, moveE]
  cases st.env t with
  | tup vs => cases vs <;> rfl
  | _ => rfl
theorem op_move (d : Nat) (x : Operand) : evalOp cx st ⟨some d, .move x, t, pos, aft, g⟩ = if cx.al.contains d = true then bindO (moveT st x) (fun y => some (y.2.put d y.1)) else some (st.put d (fix (zOf cx t) (view st x))) := by
  simp only [evalOp, alD, setV_O, St.put?]
theorem op_assign (d : Nat) (x : Operand) : evalOp cx st ⟨some d, .assign x, t, pos, aft, g⟩ =
    if cx.al.contains d = true then some (st.put d (fix (zOf cx t) (view st x))) else bindO (take st x) (fun y => some (y.2.put d (fix (zOf cx t) y.1))) := by
  simp only [evalOp, bindV_O, bindO_some]
def pickO (st : St) (d : Nat) (a x y : AV) : Option St := match a with
  | .b b => if b = true then some (st.put d x) else some (st.put d y)
  | _ => none
@[congr] theorem pickO_congr {st : St} {d : Nat} {a a' x y : AV} (h : a = a') : pickO st d a x y = pickO st d a' x y := by rw [h]
theorem pickO_true (d : Nat) (x y : AV) : pickO st d (.b true) x y = some (st.put d x) := nr rfl
theorem pickO_false (d : Nat) (x y : AV) : pickO st d (.b false) x y = some (st.put d y) := nr rfl
theorem pickO_b (d : Nat) (b : Bool) (x y : AV) : pickO st d (.b b) x y = if b = true then some (st.put d x) else some (st.put d y) := nr rfl
theorem op_pick (d : Nat) (c x y : Operand) : evalOp cx st ⟨some d, .pick c x y, t, pos, aft, g⟩ = pickO st d (view st c) (view st x) (view st y) := by
  simp only [evalOp, pickO, St.put?]
  cases view st c with
  | b x => cases x <;> rfl
  | _ => rfl
theorem op_alloc (d : Nat) (t' : TypeId) : evalOp cx st ⟨some d, .alloc t', t, pos, aft, g⟩ = bindO (cx.T t') (fun ti => newBoxO st d ti.zero) := bindV_O _ _
theorem op_box (d : Nat) (t' : TypeId) (x : Operand) : evalOp cx st ⟨some d, .box t' x, t, pos, aft, g⟩ = bindO (cx.T t') (fun ti => if cx.fz.contains d = true then bindO (boxV ti (fix ti.z (view st x))) (fun cs => frozenBox st d cs) else if cx.al.contains d = true then bindO (boxV ti (fix ti.z (view st x))) (fun cs => newBoxO st d cs) else bindO (take st x) (fun y => bindO (boxV ti (fix ti.z y.1)) fun cs => newBoxO y.2 d cs)) := by
  simp only [evalOp, bindV_O, bindO_some]
theorem op_load (d : Nat) (t' : TypeId) (a : Operand) : evalOp cx st ⟨some d, .load t' a, t, pos, aft, g⟩ = bindO (cx.T t') (fun ti => bindO (loadAt st ti (view st a)) (fun v => some (st.put d v))) := by
  simp only [evalOp, bindV_O, setD_O]
theorem op_store (t' : TypeId) (a x : Operand) : evalOp cx st ⟨none, .store t' a x, t, pos, aft, g⟩ = bindO (cx.T t') (fun ti => bindO (take st x) (fun y => storeAt y.2 ti (view y.2 a) y.1)) := by
  simp only [evalOp, bindV_O, Option.isSome_none, Bool.false_eq_true, if_false]
theorem op_nilCheck (d : Nat) (x : Operand) : evalOp cx st ⟨some d, .nilCheck x, t, pos, aft, g⟩ = bindO (nilV (view st x)) (fun v => some (st.put d v)) := setD_O st d _
theorem op_fieldAddr (d : Nat) (t' : TypeId) (x : Operand) (f : Nat) : evalOp cx st ⟨some d, .fieldAddr t' x f, t, pos, aft, g⟩ = bindO (cx.T t') (fun ti => bindO (fieldOff ti f (view st x)) (fun v => some (st.put d v))) := by
  simp only [evalOp, bindV_O, setD_O]
theorem op_field (d : Nat) (t' : TypeId) (x : Operand) (f : Nat) : evalOp cx st ⟨some d, .field t' x f, t, pos, aft, g⟩ = bindO (cx.T t') (fun ti => bindO (fieldV ti f (view st x)) (fun v => some (st.put d v))) := by
  simp only [evalOp, bindV_O, setD_O]
theorem op_indexAddr (d : Nat) (t' : TypeId) (x ix : Operand) : evalOp cx st ⟨some d, .indexAddr t' x ix, t, pos, aft, g⟩ = bindO (cx.T t') (fun ti => bindO (indexAddrV st ti (view st x) (view st ix)) (fun v => some (st.put d v))) := by
  simp only [evalOp, bindV_O, setD_O]
theorem op_index (d : Nat) (t' : TypeId) (x ix : Operand) : evalOp cx st ⟨some d, .index t' x ix, t, pos, aft, g⟩ = bindO (cx.T t') (fun ti => bindO (indexV ti (view st x) (view st ix)) (fun v => some (st.put d v))) := by
  simp only [evalOp, bindV_O, setD_O]
theorem op_bin (d : Nat) (op : BinOp) (xt : TypeId) (x y : Operand) (yt : TypeId) : evalOp cx st ⟨some d, .binOp op xt x y yt, t, pos, aft, g⟩ = bindO (binX (cx.T xt) (cx.eqs xt) op (view st x) (view st y)) (fun v => some (st.put d v)) := setD_O st d _
theorem op_un (d : Nat) (op : UnOp) (xt : TypeId) (x : Operand) : evalOp cx st ⟨some d, .unOp op xt x, t, pos, aft, g⟩ = bindO (unV op (view st x)) (fun v => some (st.put d v)) := setD_O st d _
theorem op_convert (d : Nat) (a b : TypeId) (x : Operand) : evalOp cx st ⟨some d, .convert a b x, t, pos, aft, g⟩ = bindO (cx.T a) (fun ta => bindO (cx.T b) (fun tb => bindO (convS st ta tb (view st x)) (fun v => some (st.put d v)))) := by
  simp only [evalOp, bindV_O, setD_O]
theorem convS_int (src : TI) (k : IntKind) (a : AV) : convS st src (.int k) a = convV st src (.int k) a := nr rfl
theorem convS_str (src : TI) (a : AV) : convS st src .str a = convV st src .str a := nr rfl
theorem convS_sl (z n : Nat) (zero : List AV) (src : TI) (a : AV) : convS st src (.slice z n zero) a = bytesV src z zero a := nr rfl
theorem bytesV_s (z : Nat) (zero : List AV) (b : ByteArray) : bytesV .str z zero (.s b) = if z = 1 ∧ isU8 zero = true ∧ b.size ≤ 9223372036854775807 then some (.sl .mut 1 (b.data.toList.map byteRow)) else none := nr rfl
theorem op_slice (d : Nat) (xt : TypeId) (x : Operand) (lo hi : Option Operand) : evalOp cx st ⟨some d, .slice xt x lo hi none, t, pos, aft, g⟩ = bindO (cx.T xt) (fun ti => bindO (sliceT ti (view st x) (lo.map (view st)) (hi.map (view st))) (fun v => some (st.put d v))) := by
  simp only [evalOp, bindV_O, setD_O]
theorem op_makeFunc (d f : Nat) (caps : List Operand) : evalOp cx st ⟨some d, .makeFunc (.func f) (List.toArray []) (List.toArray caps), t, pos, aft, g⟩ = if (caps.map (view st)).all leafA = true then some (st.put d (.fn f (caps.map (view st)))) else none := by
  simp only [evalOp, List.isEmpty_toArray, List.isEmpty_nil, Bool.true_and]; rfl
theorem op_extract (d : Nat) (x : Operand) (j : Nat) : evalOp cx st ⟨some d, .extract x j, t, pos, aft, g⟩ = bindO (extractV st x j) (fun y => some (y.2.put d y.1)) := setV_O d _
theorem op_build (d : Nat) (t' : TypeId) (parts : List (Nat × Operand)) : evalOp cx st ⟨some d, .build t' (List.toArray parts), t, pos, aft, g⟩ = bindO (cx.T t') (fun ti => bindO (buildV ti st parts) (fun v => some (st.put d v))) := by
  simp only [evalOp, bindV_O, setD_O]
theorem op_buildSlice (d : Nat) (t' : TypeId) (len : Nat) (parts : List (Nat × Operand)) : evalOp cx st ⟨some d, .buildSlice t' len (List.toArray parts), t, pos, aft, g⟩ = bindO (cx.T t') (fun ti => bindO (buildSliceV ti st len parts) (fun y => some (y.2.put d y.1))) := by
  simp only [evalOp, bindV_O, setV_O, St.put?]
theorem op_makeSlice (d : Nat) (t' : TypeId) (l c : Operand) : evalOp cx st ⟨some d, .makeSlice t' l c, t, pos, aft, g⟩ = bindO (cx.T t') (fun ti => bindO (makeV ti (view st l) (view st c)) (fun v => some (st.put d v))) := by
  simp only [evalOp, bindV_O, setD_O]
theorem op_len (d : Nat) (x : Operand) (tx : TypeId) (ts : List TypeId) : evalOp cx st ⟨some d, .call { callee := .builtin .len, args := List.toArray [x], argTypes := List.toArray (tx :: ts) }, t, pos, aft, g⟩ = bindO (cx.T tx) (fun ti => bindO (lenT st ti (view st x)) (fun n => some (st.put d (.i .i64 n)))) := by
  simp only [evalOp, evalCall, bindV_O]; rfl
theorem op_append (d : Nat) (x y : Operand) (tx ty : TypeId) : evalOp cx st ⟨some d, .call { callee := .builtin .append, args := List.toArray [x, y], argTypes := List.toArray [tx, ty] }, t, pos, aft, g⟩ = bindO (cx.T tx) (fun ti => bindO (cx.T ty) (fun tj => if notInt tj = true then bindO (appendV ti st x y) (fun y => some (y.2.put d y.1)) else none)) := by
  simp only [evalOp, evalCall, bindV_O, setV_O]
theorem op_clear (x : Operand) (tx : TypeId) : evalOp cx st ⟨none, .call { callee := .builtin .clear, args := List.toArray [x], argTypes := List.toArray [tx] }, t, pos, aft, g⟩ = bindO (cx.T tx) (fun ti => clearV ti st (view st x)) := by
  simp only [evalOp, evalCall, bindV_O, noD]
theorem op_min (d : Nat) (xs : List Operand) (at_ : Array TypeId) : evalOp cx st ⟨some d, .call { callee := .builtin .min, args := List.toArray xs, argTypes := at_ }, t, pos, aft, g⟩ = bindO (minL (fun a b => if b < a then b else a) (xs.map (view st))) (fun v => some (st.put d v)) := by
  simp only [evalOp, evalCall, setD_O]
theorem op_max (d : Nat) (xs : List Operand) (at_ : Array TypeId) : evalOp cx st ⟨some d, .call { callee := .builtin .max, args := List.toArray xs, argTypes := at_ }, t, pos, aft, g⟩ = bindO (minL (fun a b => if b > a then b else a) (xs.map (view st))) (fun v => some (st.put d v)) := by
  simp only [evalOp, evalCall, setD_O]
theorem op_call (d : Option Nat) (f : Operand) (args : List Operand) (ats : List TypeId) : evalOp cx st ⟨d, .call { callee := .value f, args := List.toArray args, argTypes := List.toArray ats }, t, pos, aft, g⟩ =
    bindO (doCall cx st f ats args) (fun y => putN d y.2 y.1 (isNp y.1)) := by
  simp only [evalOp, evalCall, setC_O]
theorem doCall_O (f : Operand) (ts : List TypeId) (xs : List Operand) : doCall cx st f ts xs = bindO (argVs cx st f ts xs) (fun p => bindO (cx.fns p.1) (fun fs => callWk cx st p.1 fs f ts xs)) := by
  simp only [doCall, bindO]
  cases argVs cx st f ts xs with
  | none => rfl
  | some p => obtain ⟨g, as⟩ := p; simp only; cases cx.fns g <;> rfl
theorem argVs_O (f : Operand) (ts : List TypeId) (xs : List Operand) : argVs cx st f ts xs = fnV (view st f) (fixL cx ts xs (xs.map (view st))) := nr rfl
theorem callWk_O (g : Nat) (md : List Md) (F : List AV → Option (AV × List AV)) (f : Operand) (ts : List TypeId) (xs : List Operand) : callWk cx st g ⟨md, F, false⟩ f ts xs = callO cx st g ⟨md, F, false⟩ f ts xs := nr rfl
theorem callWk_T (g : Nat) (md : List Md) (F : List AV → Option (AV × List AV)) (f : Operand) (ts : List TypeId) (xs : List Operand) : callWk cx st g ⟨md, F, true⟩ f ts xs = bindO (weakAll st md xs) (fun s => callO cx s g ⟨md, F, true⟩ f ts xs) := by
  simp only [callWk, if_true, bindO]
  cases weakAll st md xs <;> rfl
def rwK (cx : Cx) (st : St) (g : Nat) (fs : FS) (f : Operand) (ts : List TypeId) (xs : List Operand) : Option (Nat × Nat) → Option (AV × St)
  | some (k, n) => callW cx st g fs k n f ts xs
  | none => callM cx st g fs f ts xs
theorem callO_K (g : Nat) (md : List Md) (F : List AV → Option (AV × List AV)) (b : Bool) (f : Operand) (ts : List TypeId) (xs : List Operand) : callO cx st g ⟨md, F, b⟩ f ts xs = rwK cx st g ⟨md, F, b⟩ f ts xs (rwIx 0 md) := by
  unfold callO rwK
  simp only
  cases rwIx 0 md with
  | none => rfl
  | some p => rfl
theorem rwK_some (g : Nat) (fs : FS) (f : Operand) (ts : List TypeId) (xs : List Operand) (k n : Nat) : rwK cx st g fs f ts xs (some (k, n)) = callW cx st g fs k n f ts xs := nr rfl
theorem rwK_none (g : Nat) (fs : FS) (f : Operand) (ts : List TypeId) (xs : List Operand) : rwK cx st g fs f ts xs none = callM cx st g fs f ts xs := nr rfl
theorem rwIx_nil (k : Nat) : rwIx k [] = none := nr rfl
theorem rwIx_ro (k n : Nat) (ms : List Md) : rwIx k (.ro n :: ms) = rwIx (k + 1) ms := nr rfl
theorem rwIx_mv (k : Nat) (ms : List Md) : rwIx k (.mv :: ms) = rwIx (k + 1) ms := nr rfl
theorem rwIx_rw (k n : Nat) (ms : List Md) : rwIx k (.rw n :: ms) = some (k, n) := nr rfl
def inO (a : Option AV) (l : Option (List AV)) : Option (List AV) := match a, l with
  | some a, some l => some (a :: l)
  | _, _ => none
theorem inO_some (a : AV) (l : List AV) : inO (some a) (some l) = some (a :: l) := nr rfl
theorem inArgs_nil (own : Bool) (av : Option (Bool × Nat)) (ys : List (AV × List (Option (Pl × Bool)))) : inArgs own av st [] [] ys = some [] := nr rfl
theorem inArgs_cons (own : Bool) (av : Option (Bool × Nat)) (m : Md) (ms : List Md) (a : AV) (as : List AV) (ys : List (AV × List (Option (Pl × Bool)))) : inArgs own av st (m :: ms) (a :: as) ys = inO (inArg own av st m a (ys.headD (.u, []))) (inArgs own av st ms as ys.tail) := by
  simp only [inArgs, inO]
  cases inArg own av st m a (ys.headD (.u, [])) with
  | none => rfl
  | some b => simp only; cases inArgs own av st ms as ys.tail <;> rfl
theorem inArg_ro (own : Bool) (av : Option (Bool × Nat)) (n : Nat) (a : AV) (y : AV × List (Option (Pl × Bool))) : inArg own av st (.ro n) a y = roTop own av st a := nr rfl
theorem inArg_mv (own : Bool) (av : Option (Bool × Nat)) (a : AV) (x : AV) (l : List (Option (Pl × Bool))) : inArg own av st .mv a (x, l) = some x := nr rfl
def rwB (n : Nat) (pl : Pl) (w : Bool) (cells : List AV) : Option AV := if (w && decide (pl.c + n ≤ cells.length) && ((cells.drop pl.c).take n).all rowOk) = true then some (.agg ((cells.drop pl.c).take n)) else none
theorem inArg_rw (own : Bool) (av : Option (Bool × Nat)) (n : Nat) (pl : Pl) (y : AV × List (Option (Pl × Bool))) : inArg own av st (.rw n) (.p pl) y = bindO (node st pl) (rwB n pl (canWrite st pl)) := by
  simp only [inArg, bindO, rwB]
  cases node st pl <;> rfl
def rwP (cx : Cx) (st : St) (fs : FS) (as : List AV) (k n : Nat) : Option AV → Option (AV × St)
  | some (.p pl) => callW2 cx st fs as k n pl
  | _ => none
theorem rwP_p (fs : FS) (as : List AV) (k n : Nat) (pl : Pl) : rwP cx st fs as k n (some (.p pl)) = callW2 cx st fs as k n pl := nr rfl
theorem callW_O (g : Nat) (fs : FS) (k n : Nat) (f : Operand) (ts : List TypeId) (xs : List Operand) : callW cx st g fs k n f ts xs = bindO (argVs cx st f ts xs) (fun p => if p.1 = g ∧ othRo k fs.md = true then rwP cx st fs p.2 k n p.2[k]? else none) := by
  simp only [callW, bindO]
  cases argVs cx st f ts xs with
  | none => rfl
  | some p =>
    obtain ⟨g', as⟩ := p
    simp only
    split
    · cases as[k]? with
      | none => rfl
      | some a => cases a <;> rfl
    · rfl
def rwA (st : St) (pl : Pl) (n : Nat) (r : AV) : Option AV → Option (AV × St)
  | some (.agg cs) => bindO (node st pl) (fun cells => some (r, (setNode st pl (cells.take pl.c ++ cs ++ cells.drop (pl.c + n))).cut pl n))
  | _ => none
theorem rwA_agg (pl : Pl) (n : Nat) (r : AV) (cs : List AV) : rwA st pl n r (some (.agg cs)) = bindO (node st pl) (fun cells => some (r, (setNode st pl (cells.take pl.c ++ cs ++ cells.drop (pl.c + n))).cut pl n)) := nr rfl
def rwR (st : St) (pl : Pl) (k n : Nat) (p : AV × List AV) : Option (AV × St) := rwA st pl n p.1 p.2[k]?
theorem rwR_eq (pl : Pl) (k n : Nat) (r : AV) (os : List AV) : rwR st pl k n (r, os) = rwA st pl n r os[k]? := nr rfl
theorem callW2_O (md : List Md) (F : List AV → Option (AV × List AV)) (b : Bool) (as : List AV) (k n : Nat) (pl : Pl) : callW2 cx st ⟨md, F, b⟩ as k n pl = bindO (inArgs (!b) (some (pl.e, pl.r)) st md as []) (fun bs => bindO (F bs) (rwR st pl k n)) := by
  simp only [callW2, bindO, rwR]
  cases inArgs (!b) (some (pl.e, pl.r)) st md as [] with
  | none => rfl
  | some bs =>
    simp only
    cases F bs with
    | none => rfl
    | some p =>
      obtain ⟨r, os⟩ := p
      simp only [rwA]
      cases os[k]? with
      | none => rfl
      | some a =>
        cases a <;> try rfl
        simp only [bindO]
        cases node st pl <;> rfl
theorem othRo_zero (m : Md) (ms : List Md) : othRo 0 (m :: ms) = ms.all isRoMd := nr rfl
theorem othRo_succ (k n : Nat) (ms : List Md) : othRo (k + 1) (.ro n :: ms) = othRo k ms := nr rfl
/-! what is not written from now on -/
theorem weakAll_nil (xs : List Operand) : weakAll st [] xs = some st := by cases xs <;> rfl
theorem weakAll_ro (n : Nat) (ms : List Md) (x : Operand) (xs : List Operand) : weakAll st (.ro n :: ms) (x :: xs) = bindO (weakArg st x) (fun s => weakAll s ms xs) := by
  simp only [weakAll, bindO]; cases weakArg st x <;> rfl
theorem weakAll_rw (n : Nat) (ms : List Md) (x : Operand) (xs : List Operand) : weakAll st (.rw n :: ms) (x :: xs) = weakAll st ms xs := by simp only [weakAll]
theorem weakAll_mv (ms : List Md) (x : Operand) (xs : List Operand) : weakAll st (.mv :: ms) (x :: xs) = weakAll st ms xs := by simp only [weakAll]
def weakV (st : St) (x : Operand) : AV → Option St
  | .agg cs => weakAgg x cs.length 0 st
  | a => weakLeaf st a
theorem weakArg_V (x : Operand) : weakArg st x = weakV st x (view st x) := by simp only [weakArg, weakV]; cases view st x <;> rfl
theorem weakAgg_zero (x : Operand) (j : Nat) : weakAgg x 0 j st = some st := nr rfl
def weakG (x : Operand) (n j : Nat) (st : St) : AV → Option St
  | .agg cs => bindO cs[j]? (fun a => bindO (weakLeaf st a) (fun s => weakAgg x n (j + 1) s))
  | _ => none
theorem weakG_agg (x : Operand) (n j : Nat) (cs : List AV) : weakG x n j st (.agg cs) = bindO cs[j]? (fun a => bindO (weakLeaf st a) (fun s => weakAgg x n (j + 1) s)) := nr rfl
theorem weakAgg_succ (x : Operand) (n j : Nat) : weakAgg x (n + 1) j st = weakG x n j st (view st x) := by
  simp only [weakAgg, weakG]
  cases view st x with
  | agg cs =>
    simp only [bindO]
    cases cs[j]? with
    | none => rfl
    | some a => simp only; cases weakLeaf st a <;> rfl
  | _ => rfl
def weakN (st : St) (pl : Pl) (z' : Nat) (cells : List AV) : Option AV → Option St
  | some (.sl .mut z es) => if z' = z then (if canWrite st pl then some ((setNode st pl (cells.set pl.c (.sl .app z (stripLL es)))).filt (keepP pl.e pl.r pl.path pl.c 1) (keepP pl.e pl.r pl.path pl.c 1)) else none) else none
  | _ => some st
def weakO (st : St) (pl : Pl) (z' : Nat) : Option (List AV) → Option St
  | some cells => weakN st pl z' cells cells[pl.c]?
  | none => some st
theorem weakLeaf_rf (pl : Pl) (z' lo n : Nat) : weakLeaf st (.rf pl z' lo n) = weakO st pl z' (node st pl) := by
  simp only [weakLeaf, weakO]
  cases node st pl with
  | none => rfl
  | some cells => rfl
theorem weakO_some (pl : Pl) (z' : Nat) (cells : List AV) : weakO st pl z' (some cells) = weakN st pl z' cells cells[pl.c]? := nr rfl
theorem weakN_mut (pl : Pl) (z' : Nat) (cells : List AV) (z : Nat) (es : List (List AV)) : weakN st pl z' cells (some (.sl .mut z es)) = if z' = z then (if canWrite st pl = true then some ((setNode st pl (cells.set pl.c (.sl .app z (stripLL es)))).filt (keepP pl.e pl.r pl.path pl.c 1) (keepP pl.e pl.r pl.path pl.c 1)) else none) else none := nr rfl
theorem weakN_ro (pl : Pl) (z' : Nat) (cells : List AV) (z : Nat) (es : List (List AV)) : weakN st pl z' cells (some (.sl .ro z es)) = some st := nr rfl
theorem weakN_app (pl : Pl) (z' : Nat) (cells : List AV) (z : Nat) (es : List (List AV)) : weakN st pl z' cells (some (.sl .app z es)) = some st := nr rfl
def ansK (ys : List (AV × List (Option (Pl × Bool)))) (st : St) (p : AV × List AV) : Option (AV × St) := bindO (fillAll st p.2 ys) (fun s => some (p.1, s))
theorem callM_O (g : Nat) (md : List Md) (F : List AV → Option (AV × List AV)) (b : Bool) (f : Operand) (ts : List TypeId) (xs : List Operand) : callM cx st g ⟨md, F, b⟩ f ts xs = bindO (outArgs cx st md ts xs) (fun p => bindO (argVs cx p.2 f ts xs) (fun q => if q.1 = g ∧ (p.1.all fun y => y.2.all (okPl p.2)) = true then bindO (inArgs (!b) none p.2 md q.2 p.1) (fun bs => bindO (F bs) (ansK p.1 p.2)) else none)) := by
  simp only [callM, bindO, ansK]
  cases outArgs cx st md ts xs with
  | none => rfl
  | some p =>
    obtain ⟨ys, s⟩ := p
    simp only
    cases argVs cx s f ts xs with
    | none => rfl
    | some q =>
      obtain ⟨g', as⟩ := q
      simp only [callM2]
      split
      · cases inArgs (!b) none s md as ys with
        | none => rfl
        | some bs =>
          simp only
          cases F bs with
          | none => rfl
          | some r =>
            obtain ⟨v, os⟩ := r
            simp only
            cases fillAll s os ys <;> rfl
      · rfl
/-! what is lent by value -/
theorem outArgs_nil (ts : List TypeId) (xs : List Operand) : outArgs cx st [] ts xs = some ([], st) := by cases ts <;> cases xs <;> rfl
def consY (y : AV × List (Option (Pl × Bool))) (q : List (AV × List (Option (Pl × Bool))) × St) : Option (List (AV × List (Option (Pl × Bool))) × St) := some (y :: q.1, q.2)
theorem consY_eq (y : AV × List (Option (Pl × Bool))) (l : List (AV × List (Option (Pl × Bool)))) (s : St) : consY y (l, s) = some (y :: l, s) := nr rfl
theorem outArgs_mv (ms : List Md) (t : TypeId) (ts : List TypeId) (x : Operand) (xs : List Operand) : outArgs cx st (.mv :: ms) (t :: ts) (x :: xs) = bindO (outArg (zOf cx t) st x) (fun p => bindO (outArgs cx p.2 ms ts xs) (consY p.1)) := by
  simp only [outArgs, Md.isMv, if_true, bindO, consY]
  cases outArg (zOf cx t) st x with
  | none => rfl
  | some p => obtain ⟨y, s⟩ := p; simp only; cases outArgs cx s ms ts xs <;> rfl
theorem outArgs_ro (n : Nat) (ms : List Md) (t : TypeId) (ts : List TypeId) (x : Operand) (xs : List Operand) : outArgs cx st (.ro n :: ms) (t :: ts) (x :: xs) = bindO (outArgs cx st ms ts xs) (consY (.u, [])) := by
  simp only [outArgs, Md.isMv, Bool.false_eq_true, if_false, bindO, consY]
  cases outArgs cx st ms ts xs <;> rfl
def outA (z : Nat) (st : St) (x : Operand) : AV → Option ((AV × List (Option (Pl × Bool))) × St)
  | .agg cs => match outAgg x cs.length 0 st with
    | some (ys, st') => some ((.agg ys.1, ys.2), st')
    | none => none
  | a => match outLeaf st (fix z a) with
    | some (y, st') => some ((y.1, [y.2]), st')
    | none => none
theorem outArg_A (z : Nat) (x : Operand) : outArg z st x = outA z st x (view st x) := by
  simp only [outArg, outA]
  cases view st x <;> rfl
def outA1 (p : (List AV × List (Option (Pl × Bool))) × St) : Option ((AV × List (Option (Pl × Bool))) × St) := some ((.agg p.1.1, p.1.2), p.2)
theorem outA1_eq (l : List AV) (r : List (Option (Pl × Bool))) (s : St) : outA1 ((l, r), s) = some ((.agg l, r), s) := nr rfl
def outA2 (p : (AV × Option (Pl × Bool)) × St) : Option ((AV × List (Option (Pl × Bool))) × St) := some ((p.1.1, [p.1.2]), p.2)
theorem outA2_eq (a : AV) (r : Option (Pl × Bool)) (s : St) : outA2 ((a, r), s) = some ((a, [r]), s) := nr rfl
theorem outA_agg (z : Nat) (x : Operand) (cs : List AV) : outA z st x (.agg cs) = bindO (outAgg x cs.length 0 st) outA1 := by
  simp only [outA, bindO, outA1]
  cases outAgg x cs.length 0 st <;> rfl
theorem outA_rf (z : Nat) (x : Operand) (pl : Pl) (y lo n : Nat) : outA z st x (.rf pl y lo n) = bindO (outLeaf st (.rf pl y lo n)) outA2 := by
  simp only [outA, fix, bindO, outA2]
  cases outLeaf st (.rf pl y lo n) <;> rfl
theorem outA_sl (z : Nat) (x : Operand) (t : Tag) (y : Nat) (es : List (List AV)) : outA z st x (.sl t y es) = bindO (outLeaf st (.sl t y es)) outA2 := by
  simp only [outA, fix, bindO, outA2]
  cases outLeaf st (.sl t y es) <;> rfl
theorem outA_nil (z : Nat) (x : Operand) : outA z st x .nil = bindO (outLeaf st (fix z .nil)) outA2 := by
  simp only [outA, bindO, outA2]
  cases outLeaf st (fix z .nil) <;> rfl
theorem outAgg_zero (x : Operand) (j : Nat) : outAgg x 0 j st = some (([], []), st) := nr rfl
def outP (y : AV × Option (Pl × Bool)) (q : (List AV × List (Option (Pl × Bool))) × St) : Option ((List AV × List (Option (Pl × Bool))) × St) := some ((y.1 :: q.1.1, y.2 :: q.1.2), q.2)
theorem outP_eq (a : AV) (r : Option (Pl × Bool)) (l : List AV) (rs : List (Option (Pl × Bool))) (s : St) : outP (a, r) ((l, rs), s) = some ((a :: l, r :: rs), s) := nr rfl
def outG (x : Operand) (n j : Nat) (st : St) : AV → Option ((List AV × List (Option (Pl × Bool))) × St)
  | .agg cs => bindO cs[j]? (fun a => bindO (outLeaf st a) (fun p => bindO (outAgg x n (j + 1) p.2) (outP p.1)))
  | _ => none
theorem outG_agg (x : Operand) (n j : Nat) (cs : List AV) : outG x n j st (.agg cs) = bindO cs[j]? (fun a => bindO (outLeaf st a) (fun p => bindO (outAgg x n (j + 1) p.2) (outP p.1))) := nr rfl
theorem outAgg_succ (x : Operand) (n j : Nat) : outAgg x (n + 1) j st = outG x n j st (view st x) := by
  simp only [outAgg, outG]
  cases view st x with
  | agg cs =>
    simp only [bindO, outP]
    cases cs[j]? with
    | none => rfl
    | some a =>
      simp only
      cases outLeaf st a with
      | none => rfl
      | some p => obtain ⟨y, s⟩ := p; simp only; cases outAgg x n (j + 1) s <;> rfl
  | _ => rfl
def outC (st : St) (pl : Pl) (z' lo n : Nat) (cells : List AV) : Option AV → Option ((AV × Option (Pl × Bool)) × St)
  | some (.sl .mut z es) => if (lo = 0 ∧ n = es.length) ∧ z' = z then (if canWrite st pl = true then some ((.sl .mut z es, some (pl, whole st pl)), (setNode st pl (cells.set pl.c .u)).cut pl 1) else none) else none
  | _ => none
theorem outC_mut (pl : Pl) (z' lo n : Nat) (cells : List AV) (z : Nat) (es : List (List AV)) : outC st pl z' lo n cells (some (.sl .mut z es)) = if (lo = 0 ∧ n = es.length) ∧ z' = z then (if canWrite st pl = true then some ((.sl .mut z es, some (pl, whole st pl)), (setNode st pl (cells.set pl.c .u)).cut pl 1) else none) else none := nr rfl
theorem outLeaf_rf (pl : Pl) (z' lo n : Nat) : outLeaf st (.rf pl z' lo n) = bindO (node st pl) (fun cells => outC st pl z' lo n cells cells[pl.c]?) := by
  simp only [outLeaf, bindO]
  cases node st pl with
  | none => rfl
  | some cells => simp only [outC]; rfl
def clrC (st : St) (z : Nat) (pl : Pl) (y lo n : Nat) (cells : List AV) : Option AV → Option St
  | some (.sl .mut z' es) => if ((lo + n ≤ es.length ∧ z' = z) ∧ y = z) ∧ (canWrite st pl && okPl ((setNode st pl (cells.set pl.c .u)).cut pl 1) (some (pl, whole st pl))) = true then fillLeaf ((setNode st pl (cells.set pl.c .u)).cut pl 1) (.sl .mut z (clearRows z lo n es)) (some (pl, whole st pl)) else none
  | _ => none
theorem clrC_mut (z : Nat) (pl : Pl) (y lo n : Nat) (cells : List AV) (z' : Nat) (es : List (List AV)) : clrC st z pl y lo n cells (some (.sl .mut z' es)) = if ((lo + n ≤ es.length ∧ z' = z) ∧ y = z) ∧ (canWrite st pl && okPl ((setNode st pl (cells.set pl.c .u)).cut pl 1) (some (pl, whole st pl))) = true then fillLeaf ((setNode st pl (cells.set pl.c .u)).cut pl 1) (.sl .mut z (clearRows z lo n es)) (some (pl, whole st pl)) else none := nr rfl
theorem clearV_rf (z b : Nat) (ze : List AV) (pl : Pl) (y lo n : Nat) : clearV (.slice z b ze) st (.rf pl y lo n) = bindO (node st pl) (fun cells => clrC st z pl y lo n cells cells[pl.c]?) := by
  simp only [clearV, bindO]
  cases node st pl with
  | none => rfl
  | some cells => simp only [clrC]; rfl
@[congr] theorem clearV_congr {ti : TI} {a a' : AV} (h : a = a') : clearV ti st a = clearV ti st a' := by rw [h]
theorem okPl_none : okPl st none = true := nr rfl
theorem okPl_true (pl : Pl) : okPl st (some (pl, true)) = true := nr rfl
def okN (c : Nat) : Option (List AV) → Bool
  | some cells => decide (c < cells.length)
  | none => false
theorem okN_some (c : Nat) (cells : List AV) : okN c (some cells) = decide (c < cells.length) := nr rfl
theorem okPl_false (pl : Pl) : okPl st (some (pl, false)) = ((!pl.e || top (st.env pl.r)) && okN pl.c (node st pl)) := nr rfl
theorem fillAll_nil (ys : List (AV × List (Option (Pl × Bool)))) : fillAll st [] ys = some st := by cases ys <;> rfl
theorem fillAll_none (o : AV) (os : List AV) (a : AV) (ys : List (AV × List (Option (Pl × Bool)))) : fillAll st (o :: os) ((a, []) :: ys) = fillAll st os ys := nr rfl
theorem fillAll_some (o : AV) (os : List AV) (a : AV) (p : Option (Pl × Bool)) (ps : List (Option (Pl × Bool))) (ys : List (AV × List (Option (Pl × Bool)))) : fillAll st (o :: os) ((a, p :: ps) :: ys) = bindO (fillLeaves st (cellsOf o) (p :: ps)) (fun s => fillAll s os ys) := by
  simp only [fillAll, bindO]
  cases fillLeaves st (cellsOf o) (p :: ps) <;> rfl
theorem fillAll_end (os : List AV) : fillAll st os [] = some st := by cases os <;> rfl
theorem fillLeaves_nil : fillLeaves st [] [] = some st := nr rfl
theorem fillLeaves_cons (a : AV) (as : List AV) (p : Option (Pl × Bool)) (ps : List (Option (Pl × Bool))) : fillLeaves st (a :: as) (p :: ps) = bindO (fillLeaf st a p) (fun s => fillLeaves s as ps) := by
  simp only [fillLeaves, bindO]
  cases fillLeaf st a p <;> rfl
theorem fillLeaf_none (a : AV) : fillLeaf st a none = some st := nr rfl
def fillT (st : St) (r : Nat) (a : AV) : AV → Option St
  | .u => some (st.put r a)
  | _ => none
theorem fillT_u (r : Nat) (a : AV) : fillT st r a .u = some (st.put r a) := nr rfl
theorem fillLeaf_true (pl : Pl) (t : Tag) (z : Nat) (es : List (List AV)) : fillLeaf st (.sl t z es) (some (pl, true)) = fillT st pl.r (.sl t z es) (st.env pl.r) := by
  simp only [fillLeaf, fillT]
  cases st.env pl.r <;> rfl
def fillC (st : St) (pl : Pl) (a : AV) (cells : List AV) : Option AV → Option St
  | some .u => if (canWrite st pl && (!pl.e || top (st.env pl.r))) = true then some (setNode st pl (cells.set pl.c a)) else none
  | _ => none
theorem fillC_u (pl : Pl) (a : AV) (cells : List AV) : fillC st pl a cells (some .u) = if (canWrite st pl && (!pl.e || top (st.env pl.r))) = true then some (setNode st pl (cells.set pl.c a)) else none := nr rfl
theorem fillLeaf_false (pl : Pl) (t : Tag) (z : Nat) (es : List (List AV)) : fillLeaf st (.sl t z es) (some (pl, false)) = bindO (node st pl) (fun cells => fillC st pl (.sl t z es) cells cells[pl.c]?) := by
  simp only [fillLeaf, bindO]
  cases node st pl with
  | none => rfl
  | some cells =>
    simp only [fillC]
    cases cells[pl.c]? with
    | none => rfl
    | some a => cases a <;> rfl
/-- a call that only reads -/
def ans1 (st : St) (p : AV × List AV) : Option (AV × St) := some (p.1, st)
theorem ans1_eq (v : AV) (os : List AV) : ans1 st (v, os) = some (v, st) := nr rfl
theorem callM_ro (g : Nat) (md : List Md) (F : List AV → Option (AV × List AV)) (b : Bool) (f : Operand) (ts : List TypeId) (xs : List Operand) (h : md.all isRoMd = true) :
    callM cx st g ⟨md, F, b⟩ f ts xs = bindO (argVs cx st f ts xs) (fun q => if q.1 = g then bindO (inArgs (!b) none st md q.2 []) (fun bs => bindO (F bs) (ans1 st)) else none) := by
  have h1 : ∀ (ms : List Md) (ts : List TypeId) (xs : List Operand), ms.all isRoMd = true → ∃ ys, outArgs cx st ms ts xs = some (ys, st) ∧ ∀ y ∈ ys, y = (AV.u, []) := by
    intro ms
    induction ms with
    | nil => intro ts xs _; exact ⟨[], by simp [outArgs], by simp⟩
    | cons m ms ih =>
      intro ts xs hm
      simp only [List.all_cons, Bool.and_eq_true] at hm
      cases ts with
      | nil => exact ⟨[], by simp [outArgs], by simp⟩
      | cons t ts =>
        cases xs with
        | nil => exact ⟨[], by simp [outArgs], by simp⟩
        | cons x xs =>
          obtain ⟨ys, e1, e2⟩ := ih ts xs hm.2
          have : m.isMv = false := by cases m <;> first | rfl | cases hm.1
          exact ⟨(.u, []) :: ys, by simp only [outArgs, this, Bool.false_eq_true, if_false, e1], by simpa using e2⟩
  obtain ⟨ys, e1, e2⟩ := h1 md ts xs h
  have h2 : ∀ (ms : List Md) (as : List AV) (ys : List (AV × List (Option (Pl × Bool)))), ms.all isRoMd = true → (∀ y ∈ ys, y = (AV.u, [])) → inArgs (!b) none st ms as ys = inArgs (!b) none st ms as [] := by
    intro ms
    induction ms with
    | nil => intro as ys _ _; cases as <;> rfl
    | cons m ms ih =>
      intro as ys hm hy
      simp only [List.all_cons, Bool.and_eq_true] at hm
      cases as with
      | nil => rfl
      | cons a as =>
        cases m with
        | ro n =>
          simp only [inArgs, inArg, List.tail_nil]
          rw [ih as ys.tail hm.2 (fun y hy' => hy y (List.mem_of_mem_tail hy'))]
        | _ => cases hm.1
  have h3 : ∀ (os : List AV) (ys : List (AV × List (Option (Pl × Bool)))), (∀ y ∈ ys, y = (AV.u, [])) → fillAll st os ys = some st := by
    intro os
    induction os with
    | nil => intro ys _; cases ys <;> rfl
    | cons o os ih =>
      intro ys hy
      cases ys with
      | nil => rfl
      | cons y ys =>
        have := hy y (by simp)
        subst this
        simp only [fillAll]
        exact ih ys (fun y hy' => hy y (by simp [hy']))
  have h4 : (ys.all fun y => y.2.all (okPl st)) = true := by
    rw [List.all_eq_true]
    intro y hy
    rw [e2 y hy]; rfl
  rw [callM_O, e1]
  simp only [bindO_some, h4, and_true]
  congr 1
  funext q
  split
  · rw [h2 md q.2 ys h e2]
    congr 1
    funext bs
    congr 1
    funext p
    simp only [ansK, ans1, h3 p.2 ys e2, bindO_some]
  · rfl
end
end Go.Vm
/- The equations by which a function is walked, constructor by constructor: WRITTEN BY mkVKs.py. -/
set_option autoImplicit false
set_option linter.unusedVariables false
namespace Go.Vm
theorem k_viewLeaf_u (q : Pl)  : viewLeaf q .u = .u := nr rfl
theorem k_viewLeaf_no (q : Pl)  : viewLeaf q .no = .no := nr rfl
theorem k_viewLeaf_ub (q : Pl)  : viewLeaf q .ub = .ub := nr rfl
theorem k_viewLeaf_b (q : Pl) (x : Bool) : viewLeaf q (.b x) = (.b x) := nr rfl
theorem k_viewLeaf_i (q : Pl) (k : IntKind) (n : Int) : viewLeaf q (.i k n) = (.i k n) := nr rfl
theorem k_viewLeaf_s (q : Pl) (x : ByteArray) : viewLeaf q (.s x) = (.s x) := nr rfl
theorem k_viewLeaf_nil (q : Pl)  : viewLeaf q .nil = .nil := nr rfl
theorem k_viewLeaf_rf (q : Pl) (pl : Pl) (y : Nat) (lo : Nat) (n : Nat) : viewLeaf q (.rf pl y lo n) = (.rf pl y lo n) := nr rfl
theorem k_viewLeaf_p (q : Pl) (pl : Pl) : viewLeaf q (.p pl) = (.p pl) := nr rfl
theorem k_viewLeaf_pr (q : Pl) (cs : List AV) : viewLeaf q (.pr cs) = (.pr cs) := nr rfl
theorem k_viewLeaf_pn (q : Pl)  : viewLeaf q .pn = .pn := nr rfl
theorem k_viewLeaf_fn (q : Pl) (f : Nat) (cs : List AV) : viewLeaf q (.fn f cs) = (.fn f cs) := nr rfl
theorem k_viewLeaf_fs (q : Pl) (cs : List AV) : viewLeaf q (.fs cs) = (.fs cs) := nr rfl
theorem k_viewLeaf_agg (q : Pl) (cs : List AV) : viewLeaf q (.agg cs) = (.agg cs) := nr rfl
theorem k_viewLeaf_tup (q : Pl) (cs : List AV) : viewLeaf q (.tup cs) = (.tup cs) := nr rfl
theorem k_viewLeaf_app (q : Pl) (z : Nat) (es : List (List AV)) : viewLeaf q (.sl .app z es) = .rf q z 0 es.length := nr rfl
theorem k_viewLeaf_mut (q : Pl) (z : Nat) (es : List (List AV)) : viewLeaf q (.sl .mut z es) = .rf q z 0 es.length := nr rfl
theorem k_viewLeaf_ro (q : Pl) (z : Nat) (es : List (List AV)) : viewLeaf q (.sl .ro z es) = .sl .ro z es := nr rfl
def viewA (x : Nat) (a : AV) : AV := match a with
  | .agg cs => .agg (viewCells ⟨true, x, [], 0⟩ 0 cs)
  | .tup _ => .u
  | a => viewLeaf ⟨true, x, [], 0⟩ a
theorem k_viewTmp (st : St) (x : Nat) : view st (.tmp x) = viewA x (st.env x) := nr rfl
theorem k_viewC (st : St) (v : Value) : view st (.const v) = avOf v := nr rfl
theorem k_viewF (st : St) (f : Nat) : view st (.func f) = .fn f [] := nr rfl
theorem k_viewA_u (x : Nat)  : viewA x .u = .u := nr rfl
theorem k_viewA_no (x : Nat)  : viewA x .no = .no := nr rfl
theorem k_viewA_ub (x : Nat)  : viewA x .ub = .ub := nr rfl
theorem k_viewA_i (x : Nat) (k : IntKind) (n : Int) : viewA x (.i k n) = (.i k n) := nr rfl
theorem k_viewA_nil (x : Nat)  : viewA x .nil = .nil := nr rfl
theorem k_viewA_rf (x : Nat) (pl : Pl) (y : Nat) (lo : Nat) (n : Nat) : viewA x (.rf pl y lo n) = (.rf pl y lo n) := nr rfl
theorem k_viewA_p (x : Nat) (pl : Pl) : viewA x (.p pl) = (.p pl) := nr rfl
theorem k_viewA_pr (x : Nat) (cs : List AV) : viewA x (.pr cs) = (.pr cs) := nr rfl
theorem k_viewA_pn (x : Nat)  : viewA x .pn = .pn := nr rfl
theorem k_viewA_fn (x : Nat) (f : Nat) (cs : List AV) : viewA x (.fn f cs) = (.fn f cs) := nr rfl
theorem k_viewA_fs (x : Nat) (cs : List AV) : viewA x (.fs cs) = (.fs cs) := nr rfl
theorem k_viewA_agg (x : Nat) (cs : List AV) : viewA x (.agg cs) = .agg (viewCells ⟨true, x, [], 0⟩ 0 cs) := nr rfl
theorem k_viewA_tup (x : Nat) (cs : List AV) : viewA x (.tup cs) = .u := nr rfl
theorem k_viewA_b (x : Nat) (y : Bool) : viewA x (.b y) = .b y := nr rfl
theorem k_viewA_s (x : Nat) (y : ByteArray) : viewA x (.s y) = .s y := nr rfl
theorem k_viewA_app (x : Nat) (z : Nat) (es : List (List AV)) : viewA x (.sl .app z es) = .rf ⟨true, x, [], 0⟩ z 0 es.length := nr rfl
theorem k_viewA_mut (x : Nat) (z : Nat) (es : List (List AV)) : viewA x (.sl .mut z es) = .rf ⟨true, x, [], 0⟩ z 0 es.length := nr rfl
theorem k_viewA_ro (x : Nat) (z : Nat) (es : List (List AV)) : viewA x (.sl .ro z es) = .sl .ro z es := nr rfl
theorem k_viewCells_nil (q : Pl) (j : Nat) : viewCells q j [] = [] := nr rfl
theorem k_viewCells_cons (q : Pl) (j : Nat) (a : AV) (l : List AV) : viewCells q j (a :: l) = viewLeaf { q with c := j } a :: viewCells q (j + 1) l := nr rfl
theorem k_isSl_u   : isSl .u = false := nr rfl
theorem k_isSl_no   : isSl .no = false := nr rfl
theorem k_isSl_ub   : isSl .ub = false := nr rfl
theorem k_isSl_b  (x : Bool) : isSl (.b x) = false := nr rfl
theorem k_isSl_i  (k : IntKind) (n : Int) : isSl (.i k n) = false := nr rfl
theorem k_isSl_s  (x : ByteArray) : isSl (.s x) = false := nr rfl
theorem k_isSl_nil   : isSl .nil = false := nr rfl
theorem k_isSl_sl  (t : Tag) (z : Nat) (es : List (List AV)) : isSl (.sl t z es) = true := nr rfl
theorem k_isSl_rf  (pl : Pl) (y : Nat) (lo : Nat) (n : Nat) : isSl (.rf pl y lo n) = false := nr rfl
theorem k_isSl_p  (pl : Pl) : isSl (.p pl) = false := nr rfl
theorem k_isSl_pr  (cs : List AV) : isSl (.pr cs) = false := nr rfl
theorem k_isSl_pn   : isSl .pn = false := nr rfl
theorem k_isSl_fn  (f : Nat) (cs : List AV) : isSl (.fn f cs) = false := nr rfl
theorem k_isSl_fs  (cs : List AV) : isSl (.fs cs) = false := nr rfl
theorem k_isSl_agg  (cs : List AV) : isSl (.agg cs) = false := nr rfl
theorem k_isSl_tup  (cs : List AV) : isSl (.tup cs) = false := nr rfl
theorem k_isNp_u   : isNp .u = none := nr rfl
theorem k_isNp_no   : isNp .no = none := nr rfl
theorem k_isNp_ub   : isNp .ub = none := nr rfl
theorem k_isNp_b  (x : Bool) : isNp (.b x) = none := nr rfl
theorem k_isNp_i  (k : IntKind) (n : Int) : isNp (.i k n) = none := nr rfl
theorem k_isNp_s  (x : ByteArray) : isNp (.s x) = none := nr rfl
theorem k_isNp_nil   : isNp .nil = none := nr rfl
theorem k_isNp_sl  (t : Tag) (z : Nat) (es : List (List AV)) : isNp (.sl t z es) = none := nr rfl
theorem k_isNp_rf  (pl : Pl) (y : Nat) (lo : Nat) (n : Nat) : isNp (.rf pl y lo n) = none := nr rfl
theorem k_isNp_p  (pl : Pl) : isNp (.p pl) = none := nr rfl
theorem k_isNp_pr  (cs : List AV) : isNp (.pr cs) = none := nr rfl
theorem k_isNp_pn   : isNp .pn = none := nr rfl
theorem k_isNp_fn  (f : Nat) (cs : List AV) : isNp (.fn f cs) = none := nr rfl
theorem k_isNp_fs  (cs : List AV) : isNp (.fs cs) = none := nr rfl
theorem k_isNp_agg  (cs : List AV) : isNp (.agg cs) = none := nr rfl
theorem k_npP_u (md : List Md) (st : St)  : npP md st .u = none := nr rfl
theorem k_npP_no (md : List Md) (st : St)  : npP md st .no = none := nr rfl
theorem k_npP_ub (md : List Md) (st : St)  : npP md st .ub = none := nr rfl
theorem k_npP_b (md : List Md) (st : St) (x : Bool) : npP md st (.b x) = none := nr rfl
theorem k_npP_i (md : List Md) (st : St) (k : IntKind) (n : Int) : npP md st (.i k n) = none := nr rfl
theorem k_npP_s (md : List Md) (st : St) (x : ByteArray) : npP md st (.s x) = none := nr rfl
theorem k_npP_nil (md : List Md) (st : St)  : npP md st .nil = none := nr rfl
theorem k_npP_sl (md : List Md) (st : St) (t : Tag) (z : Nat) (es : List (List AV)) : npP md st (.sl t z es) = none := nr rfl
theorem k_npP_rf (md : List Md) (st : St) (pl : Pl) (y : Nat) (lo : Nat) (n : Nat) : npP md st (.rf pl y lo n) = none := nr rfl
theorem k_npP_pr (md : List Md) (st : St) (cs : List AV) : npP md st (.pr cs) = none := nr rfl
theorem k_npP_pn (md : List Md) (st : St)  : npP md st .pn = none := nr rfl
theorem k_npP_fn (md : List Md) (st : St) (f : Nat) (cs : List AV) : npP md st (.fn f cs) = none := nr rfl
theorem k_npP_fs (md : List Md) (st : St) (cs : List AV) : npP md st (.fs cs) = none := nr rfl
theorem k_npP_agg (md : List Md) (st : St) (cs : List AV) : npP md st (.agg cs) = none := nr rfl
theorem k_npP_tup (md : List Md) (st : St) (cs : List AV) : npP md st (.tup cs) = none := nr rfl
theorem k_hasSl_u   : hasSl .u = false := nr rfl
theorem k_hasSl_no   : hasSl .no = false := nr rfl
theorem k_hasSl_ub   : hasSl .ub = false := nr rfl
theorem k_hasSl_b  (x : Bool) : hasSl (.b x) = false := nr rfl
theorem k_hasSl_i  (k : IntKind) (n : Int) : hasSl (.i k n) = false := nr rfl
theorem k_hasSl_s  (x : ByteArray) : hasSl (.s x) = false := nr rfl
theorem k_hasSl_nil   : hasSl .nil = false := nr rfl
theorem k_hasSl_sl  (t : Tag) (z : Nat) (es : List (List AV)) : hasSl (.sl t z es) = true := nr rfl
theorem k_hasSl_rf  (pl : Pl) (y : Nat) (lo : Nat) (n : Nat) : hasSl (.rf pl y lo n) = false := nr rfl
theorem k_hasSl_p  (pl : Pl) : hasSl (.p pl) = false := nr rfl
theorem k_hasSl_pr  (cs : List AV) : hasSl (.pr cs) = false := nr rfl
theorem k_hasSl_pn   : hasSl .pn = false := nr rfl
theorem k_hasSl_fn  (f : Nat) (cs : List AV) : hasSl (.fn f cs) = false := nr rfl
theorem k_hasSl_fs  (cs : List AV) : hasSl (.fs cs) = false := nr rfl
theorem k_hasSl_agg  (cs : List AV) : hasSl (.agg cs) = cs.any isSl := nr rfl
theorem k_hasSl_tup  (cs : List AV) : hasSl (.tup cs) = false := nr rfl
theorem k_noRf_u   : noRf .u = true := nr rfl
theorem k_noRf_no   : noRf .no = false := nr rfl
theorem k_noRf_ub   : noRf .ub = true := nr rfl
theorem k_noRf_b  (x : Bool) : noRf (.b x) = true := nr rfl
theorem k_noRf_i  (k : IntKind) (n : Int) : noRf (.i k n) = true := nr rfl
theorem k_noRf_s  (x : ByteArray) : noRf (.s x) = true := nr rfl
theorem k_noRf_nil   : noRf .nil = true := nr rfl
theorem k_noRf_sl  (t : Tag) (z : Nat) (es : List (List AV)) : noRf (.sl t z es) = true := nr rfl
theorem k_noRf_rf  (pl : Pl) (y : Nat) (lo : Nat) (n : Nat) : noRf (.rf pl y lo n) = false := nr rfl
theorem k_noRf_p  (pl : Pl) : noRf (.p pl) = true := nr rfl
theorem k_noRf_pr  (cs : List AV) : noRf (.pr cs) = true := nr rfl
theorem k_noRf_pn   : noRf .pn = true := nr rfl
theorem k_noRf_fn  (f : Nat) (cs : List AV) : noRf (.fn f cs) = false := nr rfl
theorem k_noRf_fs  (cs : List AV) : noRf (.fs cs) = false := nr rfl
theorem k_noRf_agg  (cs : List AV) : noRf (.agg cs) = false := nr rfl
theorem k_noRf_tup  (cs : List AV) : noRf (.tup cs) = false := nr rfl
theorem k_rowOk_u   : rowOk .u = true := nr rfl
theorem k_rowOk_no   : rowOk .no = false := nr rfl
theorem k_rowOk_ub   : rowOk .ub = true := nr rfl
theorem k_rowOk_b  (x : Bool) : rowOk (.b x) = true := nr rfl
theorem k_rowOk_i  (k : IntKind) (n : Int) : rowOk (.i k n) = true := nr rfl
theorem k_rowOk_s  (x : ByteArray) : rowOk (.s x) = true := nr rfl
theorem k_rowOk_nil   : rowOk .nil = true := nr rfl
theorem k_rowOk_sl  (t : Tag) (z : Nat) (es : List (List AV)) : rowOk (.sl t z es) = true := nr rfl
theorem k_rowOk_rf  (pl : Pl) (y : Nat) (lo : Nat) (n : Nat) : rowOk (.rf pl y lo n) = false := nr rfl
theorem k_rowOk_p  (pl : Pl) : rowOk (.p pl) = false := nr rfl
theorem k_rowOk_pr  (cs : List AV) : rowOk (.pr cs) = true := nr rfl
theorem k_rowOk_pn   : rowOk .pn = true := nr rfl
theorem k_rowOk_fn  (f : Nat) (cs : List AV) : rowOk (.fn f cs) = false := nr rfl
theorem k_rowOk_fs  (cs : List AV) : rowOk (.fs cs) = false := nr rfl
theorem k_rowOk_agg  (cs : List AV) : rowOk (.agg cs) = false := nr rfl
theorem k_rowOk_tup  (cs : List AV) : rowOk (.tup cs) = false := nr rfl
theorem k_top_u   : top .u = false := nr rfl
theorem k_top_no   : top .no = false := nr rfl
theorem k_top_ub   : top .ub = true := nr rfl
theorem k_top_b  (x : Bool) : top (.b x) = true := nr rfl
theorem k_top_i  (k : IntKind) (n : Int) : top (.i k n) = true := nr rfl
theorem k_top_s  (x : ByteArray) : top (.s x) = true := nr rfl
theorem k_top_nil   : top .nil = true := nr rfl
theorem k_top_sl  (t : Tag) (z : Nat) (es : List (List AV)) : top (.sl t z es) = true := nr rfl
theorem k_top_rf  (pl : Pl) (y : Nat) (lo : Nat) (n : Nat) : top (.rf pl y lo n) = true := nr rfl
theorem k_top_p  (pl : Pl) : top (.p pl) = true := nr rfl
theorem k_top_pr  (cs : List AV) : top (.pr cs) = true := nr rfl
theorem k_top_pn   : top .pn = true := nr rfl
theorem k_top_fn  (f : Nat) (cs : List AV) : top (.fn f cs) = true := nr rfl
theorem k_top_fs  (cs : List AV) : top (.fs cs) = true := nr rfl
theorem k_top_agg  (cs : List AV) : top (.agg cs) = true := nr rfl
theorem k_top_tup  (cs : List AV) : top (.tup cs) = false := nr rfl
theorem k_isFn_u   : isFn .u = false := nr rfl
theorem k_isFn_no   : isFn .no = false := nr rfl
theorem k_isFn_ub   : isFn .ub = false := nr rfl
theorem k_isFn_b  (x : Bool) : isFn (.b x) = false := nr rfl
theorem k_isFn_i  (k : IntKind) (n : Int) : isFn (.i k n) = false := nr rfl
theorem k_isFn_s  (x : ByteArray) : isFn (.s x) = false := nr rfl
theorem k_isFn_nil   : isFn .nil = false := nr rfl
theorem k_isFn_sl  (t : Tag) (z : Nat) (es : List (List AV)) : isFn (.sl t z es) = false := nr rfl
theorem k_isFn_rf  (pl : Pl) (y : Nat) (lo : Nat) (n : Nat) : isFn (.rf pl y lo n) = false := nr rfl
theorem k_isFn_p  (pl : Pl) : isFn (.p pl) = false := nr rfl
theorem k_isFn_pr  (cs : List AV) : isFn (.pr cs) = false := nr rfl
theorem k_isFn_pn   : isFn .pn = false := nr rfl
theorem k_isFn_fn  (f : Nat) (cs : List AV) : isFn (.fn f cs) = true := nr rfl
theorem k_isFn_fs  (cs : List AV) : isFn (.fs cs) = false := nr rfl
theorem k_isFn_agg  (cs : List AV) : isFn (.agg cs) = false := nr rfl
theorem k_isFn_tup  (cs : List AV) : isFn (.tup cs) = false := nr rfl
theorem k_leafA_u   : leafA .u = false := nr rfl
theorem k_leafA_no   : leafA .no = false := nr rfl
theorem k_leafA_ub   : leafA .ub = true := nr rfl
theorem k_leafA_b  (x : Bool) : leafA (.b x) = true := nr rfl
theorem k_leafA_i  (k : IntKind) (n : Int) : leafA (.i k n) = true := nr rfl
theorem k_leafA_s  (x : ByteArray) : leafA (.s x) = true := nr rfl
theorem k_leafA_nil   : leafA .nil = true := nr rfl
theorem k_leafA_sl  (t : Tag) (z : Nat) (es : List (List AV)) : leafA (.sl t z es) = true := nr rfl
theorem k_leafA_rf  (pl : Pl) (y : Nat) (lo : Nat) (n : Nat) : leafA (.rf pl y lo n) = true := nr rfl
theorem k_leafA_p  (pl : Pl) : leafA (.p pl) = true := nr rfl
theorem k_leafA_pr  (cs : List AV) : leafA (.pr cs) = true := nr rfl
theorem k_leafA_pn   : leafA .pn = true := nr rfl
theorem k_leafA_fn  (f : Nat) (cs : List AV) : leafA (.fn f cs) = true := nr rfl
theorem k_leafA_fs  (cs : List AV) : leafA (.fs cs) = true := nr rfl
theorem k_leafA_agg  (cs : List AV) : leafA (.agg cs) = false := nr rfl
theorem k_leafA_tup  (cs : List AV) : leafA (.tup cs) = false := nr rfl
theorem k_fsV_nil (len : Nat) (st : St) (i : Nat) : fsV len st i [] = if i = len then some [] else none := nr rfl
def fsK (x : Bool) (a : AV) (r : Option (List AV)) : Option (List AV) := if x then (match r with | some l => some (a :: l) | none => none) else none
theorem k_fsK (a : AV) (l : List AV) : fsK true a (some l) = some (a :: l) := nr rfl
theorem k_fsV_cons (len : Nat) (st : St) (i j : Nat) (x : Operand) (r : List (Nat × Operand)) : fsV len st i ((j, x) :: r) = if i = j then fsK (isFn (view st x)) (view st x) (fsV len st (i + 1) r) else none := by simp only [fsV, fsK]; split <;> rfl
theorem k_cellsOf_u   : cellsOf .u = [.u] := nr rfl
theorem k_cellsOf_no   : cellsOf .no = [.no] := nr rfl
theorem k_cellsOf_ub   : cellsOf .ub = [.ub] := nr rfl
theorem k_cellsOf_b  (x : Bool) : cellsOf (.b x) = [(.b x)] := nr rfl
theorem k_cellsOf_i  (k : IntKind) (n : Int) : cellsOf (.i k n) = [(.i k n)] := nr rfl
theorem k_cellsOf_s  (x : ByteArray) : cellsOf (.s x) = [(.s x)] := nr rfl
theorem k_cellsOf_nil   : cellsOf .nil = [.nil] := nr rfl
theorem k_cellsOf_sl  (t : Tag) (z : Nat) (es : List (List AV)) : cellsOf (.sl t z es) = [(.sl t z es)] := nr rfl
theorem k_cellsOf_rf  (pl : Pl) (y : Nat) (lo : Nat) (n : Nat) : cellsOf (.rf pl y lo n) = [(.rf pl y lo n)] := nr rfl
theorem k_cellsOf_p  (pl : Pl) : cellsOf (.p pl) = [(.p pl)] := nr rfl
theorem k_cellsOf_pr  (cs : List AV) : cellsOf (.pr cs) = [(.pr cs)] := nr rfl
theorem k_cellsOf_pn   : cellsOf .pn = [.pn] := nr rfl
theorem k_cellsOf_fn  (f : Nat) (cs : List AV) : cellsOf (.fn f cs) = [(.fn f cs)] := nr rfl
theorem k_cellsOf_fs  (cs : List AV) : cellsOf (.fs cs) = [(.fs cs)] := nr rfl
theorem k_cellsOf_agg  (cs : List AV) : cellsOf (.agg cs) = cs := nr rfl
theorem k_cellsOf_tup  (cs : List AV) : cellsOf (.tup cs) = [(.tup cs)] := nr rfl
theorem k_plain_u   : plain .u = false := nr rfl
theorem k_plain_no   : plain .no = false := nr rfl
theorem k_plain_ub   : plain .ub = false := nr rfl
theorem k_plain_b  (x : Bool) : plain (.b x) = true := nr rfl
theorem k_plain_i  (k : IntKind) (n : Int) : plain (.i k n) = true := nr rfl
theorem k_plain_s  (x : ByteArray) : plain (.s x) = true := nr rfl
theorem k_plain_nil   : plain .nil = false := nr rfl
theorem k_plain_rf  (pl : Pl) (y : Nat) (lo : Nat) (n : Nat) : plain (.rf pl y lo n) = false := nr rfl
theorem k_plain_p  (pl : Pl) : plain (.p pl) = false := nr rfl
theorem k_plain_pr  (cs : List AV) : plain (.pr cs) = false := nr rfl
theorem k_plain_pn   : plain .pn = true := nr rfl
theorem k_plain_fn  (f : Nat) (cs : List AV) : plain (.fn f cs) = false := nr rfl
theorem k_plain_fs  (cs : List AV) : plain (.fs cs) = false := nr rfl
theorem k_plain_agg  (cs : List AV) : plain (.agg cs) = false := nr rfl
theorem k_plain_tup  (cs : List AV) : plain (.tup cs) = false := nr rfl
theorem k_plain_ro (z : Nat) (es : List (List AV)) : plain (.sl .ro z es) = true := nr rfl
theorem k_fix_u (m : Nat)  : fix m .u = .u := nr rfl
theorem k_fix_no (m : Nat)  : fix m .no = .no := nr rfl
theorem k_fix_ub (m : Nat)  : fix m .ub = .ub := nr rfl
theorem k_fix_b (m : Nat) (x : Bool) : fix m (.b x) = (.b x) := nr rfl
theorem k_fix_i (m : Nat) (k : IntKind) (n : Int) : fix m (.i k n) = (.i k n) := nr rfl
theorem k_fix_s (m : Nat) (x : ByteArray) : fix m (.s x) = (.s x) := nr rfl
theorem k_fix_sl (m : Nat) (t : Tag) (z : Nat) (es : List (List AV)) : fix m (.sl t z es) = (.sl t z es) := nr rfl
theorem k_fix_rf (m : Nat) (pl : Pl) (y : Nat) (lo : Nat) (n : Nat) : fix m (.rf pl y lo n) = (.rf pl y lo n) := nr rfl
theorem k_fix_p (m : Nat) (pl : Pl) : fix m (.p pl) = (.p pl) := nr rfl
theorem k_fix_pr (m : Nat) (cs : List AV) : fix m (.pr cs) = (.pr cs) := nr rfl
theorem k_fix_pn (m : Nat)  : fix m .pn = .pn := nr rfl
theorem k_fix_fn (m : Nat) (f : Nat) (cs : List AV) : fix m (.fn f cs) = (.fn f cs) := nr rfl
theorem k_fix_fs (m : Nat) (cs : List AV) : fix m (.fs cs) = (.fs cs) := nr rfl
theorem k_fix_agg (m : Nat) (cs : List AV) : fix m (.agg cs) = (.agg cs) := nr rfl
theorem k_fix_tup (m : Nat) (cs : List AV) : fix m (.tup cs) = (.tup cs) := nr rfl
theorem k_fix_nil0  : fix 0 .nil = .nil := nr rfl
theorem k_fix_nil (m : Nat) : fix (m + 1) .nil = .sl .mut (m + 1) [] := nr rfl
theorem k_fix_nil_1  : fix 1 .nil = .sl .mut 1 [] := nr rfl
theorem k_fix_nil_2  : fix 2 .nil = .sl .mut 2 [] := nr rfl
theorem k_fix_nil_3  : fix 3 .nil = .sl .mut 3 [] := nr rfl
theorem k_fix_nil_4  : fix 4 .nil = .sl .mut 4 [] := nr rfl
theorem k_fix_nil_5  : fix 5 .nil = .sl .mut 5 [] := nr rfl
theorem k_fix_nil_6  : fix 6 .nil = .sl .mut 6 [] := nr rfl
theorem k_fix_nil_7  : fix 7 .nil = .sl .mut 7 [] := nr rfl
theorem k_fix_nil_8  : fix 8 .nil = .sl .mut 8 [] := nr rfl
theorem k_fix_nil_9  : fix 9 .nil = .sl .mut 9 [] := nr rfl
theorem k_fix_nil_10  : fix 10 .nil = .sl .mut 10 [] := nr rfl
theorem k_fix_nil_11  : fix 11 .nil = .sl .mut 11 [] := nr rfl
theorem k_filt_u (kp kr : Pl → Bool)  : filt kp kr .u = .u := nr rfl
theorem k_filt_no (kp kr : Pl → Bool)  : filt kp kr .no = .no := nr rfl
theorem k_filt_ub (kp kr : Pl → Bool)  : filt kp kr .ub = .ub := nr rfl
theorem k_filt_b (kp kr : Pl → Bool) (x : Bool) : filt kp kr (.b x) = (.b x) := nr rfl
theorem k_filt_i (kp kr : Pl → Bool) (k : IntKind) (n : Int) : filt kp kr (.i k n) = (.i k n) := nr rfl
theorem k_filt_s (kp kr : Pl → Bool) (x : ByteArray) : filt kp kr (.s x) = (.s x) := nr rfl
theorem k_filt_nil (kp kr : Pl → Bool)  : filt kp kr .nil = .nil := nr rfl
theorem k_filt_sl (kp kr : Pl → Bool) (t : Tag) (z : Nat) (es : List (List AV)) : filt kp kr (.sl t z es) = (.sl t z es) := nr rfl
theorem k_filt_pr (kp kr : Pl → Bool) (cs : List AV) : filt kp kr (.pr cs) = (.pr cs) := nr rfl
theorem k_filt_pn (kp kr : Pl → Bool)  : filt kp kr .pn = .pn := nr rfl
theorem k_filt_fn (kp kr : Pl → Bool) (f : Nat) (cs : List AV) : filt kp kr (.fn f cs) = .fn f (filtL kp kr cs) := nr rfl
theorem k_filt_fs (kp kr : Pl → Bool) (cs : List AV) : filt kp kr (.fs cs) = .fs (filtL kp kr cs) := nr rfl
theorem k_filt_agg (kp kr : Pl → Bool) (cs : List AV) : filt kp kr (.agg cs) = .agg (filtL kp kr cs) := nr rfl
theorem k_filt_tup (kp kr : Pl → Bool) (cs : List AV) : filt kp kr (.tup cs) = .tup (filtL kp kr cs) := nr rfl
def fA (b : Bool) (a : AV) : AV := if b then a else .u
theorem k_fA_true (a : AV) : fA true a = a := nr rfl
theorem k_fA_false (a : AV) : fA false a = .u := nr rfl
theorem k_filt_p (kp kr : Pl → Bool) (q : Pl) : filt kp kr (.p q) = fA (kp q) (.p q) := nr rfl
theorem k_filt_rf (kp kr : Pl → Bool) (q : Pl) (y lo n : Nat) : filt kp kr (.rf q y lo n) = fA (kr q) (.rf q y lo n) := nr rfl
theorem k_filtL_nil (kp kr : Pl → Bool) : filtL kp kr [] = [] := nr rfl
theorem k_filtL_cons (kp kr : Pl → Bool) (a : AV) (l : List AV) : filtL kp kr (a :: l) = filt kp kr a :: filtL kp kr l := nr rfl
theorem k_takeLeaf_u (st : St)  : takeLeaf st .u = some (.u, st) := nr rfl
theorem k_takeLeaf_no (st : St)  : takeLeaf st .no = some (.no, st) := nr rfl
theorem k_takeLeaf_ub (st : St)  : takeLeaf st .ub = some (.ub, st) := nr rfl
theorem k_takeLeaf_b (st : St) (x : Bool) : takeLeaf st (.b x) = some ((.b x), st) := nr rfl
theorem k_takeLeaf_i (st : St) (k : IntKind) (n : Int) : takeLeaf st (.i k n) = some ((.i k n), st) := nr rfl
theorem k_takeLeaf_s (st : St) (x : ByteArray) : takeLeaf st (.s x) = some ((.s x), st) := nr rfl
theorem k_takeLeaf_nil (st : St)  : takeLeaf st .nil = some (.nil, st) := nr rfl
theorem k_takeLeaf_sl (st : St) (t : Tag) (z : Nat) (es : List (List AV)) : takeLeaf st (.sl t z es) = some ((.sl t z es), st) := nr rfl
theorem k_takeLeaf_rf (st : St) (pl : Pl) (y : Nat) (lo : Nat) (n : Nat) : takeLeaf st (.rf pl y lo n) = takeRf st pl y lo n := nr rfl
theorem k_takeLeaf_p (st : St) (pl : Pl) : takeLeaf st (.p pl) = some ((.p pl), st) := nr rfl
theorem k_takeLeaf_pr (st : St) (cs : List AV) : takeLeaf st (.pr cs) = some ((.pr cs), st) := nr rfl
theorem k_takeLeaf_pn (st : St)  : takeLeaf st .pn = some (.pn, st) := nr rfl
theorem k_takeLeaf_fn (st : St) (f : Nat) (cs : List AV) : takeLeaf st (.fn f cs) = some ((.fn f cs), st) := nr rfl
theorem k_takeLeaf_fs (st : St) (cs : List AV) : takeLeaf st (.fs cs) = some ((.fs cs), st) := nr rfl
theorem k_takeLeaf_agg (st : St) (cs : List AV) : takeLeaf st (.agg cs) = some ((.agg cs), st) := nr rfl
theorem k_takeLeaf_tup (st : St) (cs : List AV) : takeLeaf st (.tup cs) = none := nr rfl
theorem k_takeVal_u (st : St)  : takeVal st .u = some (.u, st) := nr rfl
theorem k_takeVal_no (st : St)  : takeVal st .no = some (.no, st) := nr rfl
theorem k_takeVal_ub (st : St)  : takeVal st .ub = some (.ub, st) := nr rfl
theorem k_takeVal_b (st : St) (x : Bool) : takeVal st (.b x) = some ((.b x), st) := nr rfl
theorem k_takeVal_i (st : St) (k : IntKind) (n : Int) : takeVal st (.i k n) = some ((.i k n), st) := nr rfl
theorem k_takeVal_s (st : St) (x : ByteArray) : takeVal st (.s x) = some ((.s x), st) := nr rfl
theorem k_takeVal_nil (st : St)  : takeVal st .nil = some (.nil, st) := nr rfl
theorem k_takeVal_sl (st : St) (t : Tag) (z : Nat) (es : List (List AV)) : takeVal st (.sl t z es) = some ((.sl t z es), st) := nr rfl
theorem k_takeVal_rf (st : St) (pl : Pl) (y : Nat) (lo : Nat) (n : Nat) : takeVal st (.rf pl y lo n) = takeRf st pl y lo n := nr rfl
theorem k_takeVal_p (st : St) (pl : Pl) : takeVal st (.p pl) = some ((.p pl), st) := nr rfl
theorem k_takeVal_pr (st : St) (cs : List AV) : takeVal st (.pr cs) = some ((.pr cs), st) := nr rfl
theorem k_takeVal_pn (st : St)  : takeVal st .pn = some (.pn, st) := nr rfl
theorem k_takeVal_fn (st : St) (f : Nat) (cs : List AV) : takeVal st (.fn f cs) = some ((.fn f cs), st) := nr rfl
theorem k_takeVal_fs (st : St) (cs : List AV) : takeVal st (.fs cs) = some ((.fs cs), st) := nr rfl
theorem k_takeVal_agg (st : St) (cs : List AV) : takeVal st (.agg cs) = if cs.any isRf then (match takeL st cs with | some (cs', st') => some (.agg cs', st') | none => none) else some (.agg cs, st) := nr rfl
theorem k_takeVal_tup (st : St) (cs : List AV) : takeVal st (.tup cs) = none := nr rfl
def aggO (x : Option (List AV × St)) : Option (AV × St) := match x with
  | some (cs, st) => some (.agg cs, st)
  | none => none
theorem k_takeVal_agg' (st : St) (cs : List AV) : takeVal st (.agg cs) = if cs.any isRf then aggO (takeL st cs) else some (.agg cs, st) := by simp only [takeVal, aggO]; split <;> cases takeL st cs <;> rfl
theorem k_isRf_u   : isRf .u = false := nr rfl
theorem k_isRf_no   : isRf .no = false := nr rfl
theorem k_isRf_ub   : isRf .ub = false := nr rfl
theorem k_isRf_b  (x : Bool) : isRf (.b x) = false := nr rfl
theorem k_isRf_i  (k : IntKind) (n : Int) : isRf (.i k n) = false := nr rfl
theorem k_isRf_s  (x : ByteArray) : isRf (.s x) = false := nr rfl
theorem k_isRf_nil   : isRf .nil = false := nr rfl
theorem k_isRf_sl  (t : Tag) (z : Nat) (es : List (List AV)) : isRf (.sl t z es) = false := nr rfl
theorem k_isRf_rf  (pl : Pl) (y : Nat) (lo : Nat) (n : Nat) : isRf (.rf pl y lo n) = true := nr rfl
theorem k_isRf_p  (pl : Pl) : isRf (.p pl) = false := nr rfl
theorem k_isRf_pr  (cs : List AV) : isRf (.pr cs) = false := nr rfl
theorem k_isRf_pn   : isRf .pn = false := nr rfl
theorem k_isRf_fn  (f : Nat) (cs : List AV) : isRf (.fn f cs) = false := nr rfl
theorem k_isRf_fs  (cs : List AV) : isRf (.fs cs) = false := nr rfl
theorem k_isRf_agg  (cs : List AV) : isRf (.agg cs) = false := nr rfl
theorem k_isRf_tup  (cs : List AV) : isRf (.tup cs) = false := nr rfl
theorem k_gone (q : Pl) : gone q = false := nr rfl
theorem k_aggO (cs : List AV) (st : St) : aggO (some (cs, st)) = some (.agg cs, st) := nr rfl
def consO (a : AV) (x : Option (List AV × St)) : Option (List AV × St) := match x with
  | some (cs, st) => some (a :: cs, st)
  | none => none
theorem k_consO (a : AV) (cs : List AV) (st : St) : consO a (some (cs, st)) = some (a :: cs, st) := nr rfl
theorem k_takeL_nil (st : St) : takeL st [] = some ([], st) := nr rfl
theorem k_takeL_cons (st : St) (a : AV) (l : List AV) : takeL st (a :: l) = bindO (takeLeaf st a) (fun y => consO (filt gone gone y.1) (takeL y.2 l)) := by simp only [takeL, bindO, consO]; cases takeLeaf st a <;> rfl
def takeA (st : St) (x : Nat) (b : Bool) (a : AV) : Option (AV × St) := if b then takeVal (clear st x) (filt (offRoot true x) (offRoot true x) a) else takeVal st a
@[congr] theorem takeA_congr {st : St} {x : Nat} {b b' : Bool} {a : AV} (h : b = b') : takeA st x b a = takeA st x b' a := by rw [h]
def takeT (st : St) (x : Nat) (a : AV) : Option (AV × St) := takeA st x (hasSl a) a
theorem k_take_tmp (st : St) (x : Nat) : take st (.tmp x) = takeT st x (st.env x) := nr rfl
theorem k_takeT_u (st : St) (x : Nat)  : takeT st x .u = some (.u, st) := nr rfl
theorem k_takeT_no (st : St) (x : Nat)  : takeT st x .no = some (.no, st) := nr rfl
theorem k_takeT_ub (st : St) (x : Nat)  : takeT st x .ub = some (.ub, st) := nr rfl
theorem k_takeT_b (st : St) (x : Nat) (y : Bool) : takeT st x (.b y) = some (.b y, st) := nr rfl
theorem k_takeT_i (st : St) (x : Nat) (k : IntKind) (n : Int) : takeT st x (.i k n) = some ((.i k n), st) := nr rfl
theorem k_takeT_s (st : St) (x : Nat) (y : ByteArray) : takeT st x (.s y) = some (.s y, st) := nr rfl
theorem k_takeT_nil (st : St) (x : Nat)  : takeT st x .nil = some (.nil, st) := nr rfl
theorem k_takeT_sl (st : St) (x : Nat) (t : Tag) (z : Nat) (es : List (List AV)) : takeT st x (.sl t z es) = some (.sl t z es, clear st x) := nr rfl
theorem k_takeT_rf (st : St) (x : Nat) (pl : Pl) (y : Nat) (lo : Nat) (n : Nat) : takeT st x (.rf pl y lo n) = takeRf st pl y lo n := nr rfl
theorem k_takeT_p (st : St) (x : Nat) (pl : Pl) : takeT st x (.p pl) = some ((.p pl), st) := nr rfl
theorem k_takeT_pr (st : St) (x : Nat) (cs : List AV) : takeT st x (.pr cs) = some ((.pr cs), st) := nr rfl
theorem k_takeT_pn (st : St) (x : Nat)  : takeT st x .pn = some (.pn, st) := nr rfl
theorem k_takeT_fn (st : St) (x : Nat) (f : Nat) (cs : List AV) : takeT st x (.fn f cs) = some ((.fn f cs), st) := nr rfl
theorem k_takeT_fs (st : St) (x : Nat) (cs : List AV) : takeT st x (.fs cs) = some ((.fs cs), st) := nr rfl
theorem k_takeT_agg (st : St) (x : Nat) (cs : List AV) : takeT st x (.agg cs) = takeA st x (cs.any isSl) (.agg cs) := nr rfl
theorem k_takeT_tup (st : St) (x : Nat) (cs : List AV) : takeT st x (.tup cs) = none := nr rfl
theorem k_takeA_true (st : St) (x : Nat) (a : AV) : takeA st x true a = takeVal (clear st x) (filt (offRoot true x) (offRoot true x) a) := nr rfl
theorem k_takeA_false (st : St) (x : Nat) (a : AV) : takeA st x false a = takeVal st a := nr rfl
theorem k_take_const (st : St) (v : Value) : take st (.const v) = some (avOf v, st) := nr rfl
theorem k_take_func (st : St) (f : Nat) : take st (.func f) = some (.fn f [], st) := nr rfl
def putK (b : Bool) (l : List (Nat × AV)) (m : List (Nat × List AV)) (d : Nat) (v : AV) : St := if b then ⟨E ((d, filt (offRoot true d) (offRoot true d) v) :: mapE (offRoot true d) (offRoot true d) l), B (mapB (offRoot true d) (offRoot true d) m)⟩ else ⟨E ((d, v) :: l), B m⟩
@[congr] theorem putK_congr {b b' : Bool} {l : List (Nat × AV)} {m : List (Nat × List AV)} {d : Nat} {v v' : AV} (h : b = b') (h' : v = v') : putK b l m d v = putK b' l m d v' := by rw [h, h']
theorem k_put (l : List (Nat × AV)) (m : List (Nat × List AV)) (d : Nat) (v : AV) : St.put ⟨E l, B m⟩ d v = putK (hasSl (E l d)) l m d v := by simp only [St.put, putK, St.dropRoot, filt_EB, upd_E]
theorem k_putK_false (l : List (Nat × AV)) (m : List (Nat × List AV)) (d : Nat) (v : AV) : putK false l m d v = ⟨E ((d, v) :: l), B m⟩ := nr rfl
theorem k_putK_true (l : List (Nat × AV)) (m : List (Nat × List AV)) (d : Nat) (v : AV) : putK true l m d v = ⟨E ((d, filt (offRoot true d) (offRoot true d) v) :: mapE (offRoot true d) (offRoot true d) l), B (mapB (offRoot true d) (offRoot true d) m)⟩ := nr rfl
theorem k_putS (st : St) (d : Nat) (v : AV) : St.put? st (some d) v = St.put st d v := nr rfl
theorem k_putN (st : St) (v : AV) : St.put? st none v = st := nr rfl
def isK (t k : Nat) : Bool := t == k
theorem k_isK (t k : Nat) : isK t k = (t == k) := nr rfl
def eK (b : Bool) (v x : AV) : AV := if b then v else x
@[congr] theorem eK_congr {b b' : Bool} {v x : AV} (h : b = b') : eK b v x = eK b' v x := by rw [h]
def eB (b : Bool) (v x : List AV) : List AV := if b then v else x
@[congr] theorem eB_congr {b b' : Bool} {v x : List AV} (h : b = b') : eB b v x = eB b' v x := by rw [h]
theorem k_eK_true (v x : AV) : eK true v x = v := nr rfl
theorem k_eK_false (v x : AV) : eK false v x = x := nr rfl
theorem k_eB_true (v x : List AV) : eB true v x = v := nr rfl
theorem k_eB_false (v x : List AV) : eB false v x = x := nr rfl
theorem k_E_cons (k : Nat) (v : AV) (r : List (Nat × AV)) (t : Nat) : E ((k, v) :: r) t = eK (isK t k) v (E r t) := by simp only [E_cons, eK, isK, beq_iff_eq]
theorem k_B_cons (k : Nat) (v : List AV) (r : List (Nat × List AV)) (t : Nat) : B ((k, v) :: r) t = eB (isK t k) v (B r t) := by simp only [B_cons, eB, isK, beq_iff_eq]
theorem k_clear (l : List (Nat × AV)) (m : List (Nat × List AV)) (x : Nat) : clear ⟨E l, B m⟩ x = ⟨E ((x, .u) :: mapE (offRoot true x) (offRoot true x) l), B (mapB (offRoot true x) (offRoot true x) m)⟩ := by simp only [clear, St.dropRoot, filt_EB, upd_E]
theorem k_env (f : Nat → AV) (g : Nat → List AV) : St.env ⟨f, g⟩ = f := nr rfl
theorem k_bx (f : Nat → AV) (g : Nat → List AV) : St.bx ⟨f, g⟩ = g := nr rfl
def newK (b : Bool) (l : List (Nat × AV)) (m : List (Nat × List AV)) (d : Nat) (cs : List AV) : St := if b then ⟨E ((d, .p ⟨false, d, [], 0⟩) :: l), B ((d, cs) :: m)⟩ else ⟨E ((d, .p ⟨false, d, [], 0⟩) :: mapE (offRoot false d) (offRoot false d) l), B ((d, filtL (offRoot false d) (offRoot false d) cs) :: mapB (offRoot false d) (offRoot false d) m)⟩
@[congr] theorem newK_congr {b b' : Bool} {l : List (Nat × AV)} {m : List (Nat × List AV)} {d : Nat} {cs cs' : List AV} (h : b = b') (h' : cs = cs') : newK b l m d cs = newK b' l m d cs' := by rw [h, h']
theorem k_newBox (l : List (Nat × AV)) (m : List (Nat × List AV)) (d : Nat) (cs : List AV) : newBox ⟨E l, B m⟩ d cs = newK (B m d).isEmpty l m d cs := by
  cases h : (B m d).isEmpty <;> simp only [newBox, newK, h, if_true, if_false, Bool.false_eq_true, St.dropRoot, filt_EB, upd_E, upd_B]
theorem k_newBoxO (st : St) (d : Nat) (c : AV) (cs : List AV) : newBoxO st d (c :: cs) = if hasSl (st.env d) = true then none else some (newBox st d (c :: cs)) := nr rfl
theorem k_newK_true (l : List (Nat × AV)) (m : List (Nat × List AV)) (d : Nat) (cs : List AV) : newK true l m d cs = ⟨E ((d, .p ⟨false, d, [], 0⟩) :: l), B ((d, cs) :: m)⟩ := nr rfl
theorem k_newK_false (l : List (Nat × AV)) (m : List (Nat × List AV)) (d : Nat) (cs : List AV) : newK false l m d cs = ⟨E ((d, .p ⟨false, d, [], 0⟩) :: mapE (offRoot false d) (offRoot false d) l), B ((d, filtL (offRoot false d) (offRoot false d) cs) :: mapB (offRoot false d) (offRoot false d) m)⟩ := nr rfl
theorem k_size_bool  : TI.size .bool = 1 := nr rfl
theorem k_ag_bool  : TI.ag .bool = false := nr rfl
theorem k_z_bool  : TI.z .bool = 0 := nr rfl
theorem k_zero_bool  : TI.zero .bool = [.b false] := nr rfl
theorem k_size_int (k : IntKind) : TI.size (.int k) = 1 := nr rfl
theorem k_ag_int (k : IntKind) : TI.ag (.int k) = false := nr rfl
theorem k_z_int (k : IntKind) : TI.z (.int k) = 0 := nr rfl
theorem k_zero_int (k : IntKind) : TI.zero (.int k) = [.i k 0] := nr rfl
theorem k_size_str  : TI.size .str = 1 := nr rfl
theorem k_ag_str  : TI.ag .str = false := nr rfl
theorem k_z_str  : TI.z .str = 0 := nr rfl
theorem k_zero_str  : TI.zero .str = [.s ⟨#[]⟩] := nr rfl
theorem k_size_ptr  : TI.size .ptr = 1 := nr rfl
theorem k_ag_ptr  : TI.ag .ptr = false := nr rfl
theorem k_z_ptr  : TI.z .ptr = 0 := nr rfl
theorem k_zero_ptr  : TI.zero .ptr = [.pn] := nr rfl
theorem k_size_fn  : TI.size .fn = 1 := nr rfl
theorem k_ag_fn  : TI.ag .fn = false := nr rfl
theorem k_z_fn  : TI.z .fn = 0 := nr rfl
theorem k_zero_fn  : TI.zero .fn = [.u] := nr rfl
theorem k_size_slice (z b : Nat) (w : List AV) : TI.size (.slice z b w) = 1 := nr rfl
theorem k_ag_slice (z b : Nat) (w : List AV) : TI.ag (.slice z b w) = false := nr rfl
theorem k_z_slice (z b : Nat) (w : List AV) : TI.z (.slice z b w) = z := nr rfl
theorem k_zero_slice (z b : Nat) (w : List AV) : TI.zero (.slice z b w) = [.sl .mut z []] := nr rfl
theorem k_size_struct (n : Nat) (fl : List (Nat × Nat × Bool × Nat)) (w : List AV) : TI.size (.struct n fl w) = n := nr rfl
theorem k_ag_struct (n : Nat) (fl : List (Nat × Nat × Bool × Nat)) (w : List AV) : TI.ag (.struct n fl w) = true := nr rfl
theorem k_z_struct (n : Nat) (fl : List (Nat × Nat × Bool × Nat)) (w : List AV) : TI.z (.struct n fl w) = 0 := nr rfl
theorem k_zero_struct (n : Nat) (fl : List (Nat × Nat × Bool × Nat)) (w : List AV) : TI.zero (.struct n fl w) = w := nr rfl
theorem k_size_array (n z : Nat) (ag : Bool) (w : List AV) : TI.size (.array n z ag w) = n * z := nr rfl
theorem k_ag_array (n z : Nat) (ag : Bool) (w : List AV) : TI.ag (.array n z ag w) = true := nr rfl
theorem k_z_array (n z : Nat) (ag : Bool) (w : List AV) : TI.z (.array n z ag w) = 0 := nr rfl
theorem k_zero_array (n z : Nat) (ag : Bool) (w : List AV) : TI.zero (.array n z ag w) = w := nr rfl
def zK (x : Option TI) : Nat := match x with
  | some ti => ti.z
  | none => 0
theorem k_zOf (cx : Cx) (t : Nat) : zOf cx t = zK (cx.T t) := nr rfl
theorem k_zK_some (ti : TI) : zK (some ti) = ti.z := nr rfl
theorem k_zK_none  : zK none = 0 := nr rfl
def offV (x : Option (Nat × Nat × Bool × Nat)) (a : AV) : Option AV := match x with
  | some (off, _) => match a with
    | .p q => some (.p { q with c := q.c + off })
    | .pr q => some (.pr (q.drop off))
    | _ => none
  | none => none
theorem k_fieldOff (n : Nat) (fl : List (Nat × Nat × Bool × Nat)) (w : List AV) (f : Nat) (a : AV) : fieldOff (.struct n fl w) f a = offV (fl[f]?) a := nr rfl
theorem k_offV_p (off : Nat) (y : Nat × Bool × Nat) (e : Bool) (r : Nat) (path : List (Nat × Nat × Nat)) (c : Nat) : offV (some (off, y)) (.p ⟨e, r, path, c⟩) = some (.p ⟨e, r, path, c + off⟩) := nr rfl
theorem k_offV_pr (off : Nat) (y : Nat × Bool × Nat) (q : List AV) : offV (some (off, y)) (.pr q) = some (.pr (q.drop off)) := nr rfl
theorem k_drop_zero (l : List AV) : List.drop 0 l = l := nr rfl
theorem k_drop_succ (a : AV) (l : List AV) (n : Nat) : List.drop (n + 1) (a :: l) = List.drop n l := nr rfl
theorem k_take_zero (l : List AV) : List.take 0 l = [] := List.take_zero
theorem k_take_succ (a : AV) (l : List AV) (n : Nat) : List.take (n + 1) (a :: l) = a :: List.take n l := nr rfl
theorem k_drop_nil (n : Nat) : List.drop n ([] : List AV) = [] := List.drop_nil
def fldV (x : Option (Nat × Nat × Bool × Nat)) (cs : List AV) : Option AV := match x with
  | some (off, n, ag, _) => if off + n ≤ cs.length then some (if ag then .agg ((cs.drop off).take n) else cs.getD off .u) else none
  | none => none
theorem k_fieldV (m : Nat) (fl : List (Nat × Nat × Bool × Nat)) (w : List AV) (f : Nat) (cs : List AV) : fieldV (.struct m fl w) f (.agg cs) = fldV (fl[f]?) cs := nr rfl
def partV (ti : TI) (pl : Pl) (cells : List AV) : Option AV := if pl.c + ti.size ≤ cells.length then (if ti.ag then some (.agg (viewCells pl pl.c ((cells.drop pl.c).take ti.size))) else some (viewLeaf pl (cells.getD pl.c .u))) else none
theorem k_loadAt_p (st : St) (ti : TI) (pl : Pl) : loadAt st ti (.p pl) = bindO (node st pl) (partV ti pl) := by simp only [loadAt, bindO, partV]; cases node st pl <;> rfl
theorem k_loadAt_pr (st : St) (ti : TI) (cs : List AV) : loadAt st ti (.pr cs) = if ti.size ≤ cs.length then (if ti.ag then some (.agg (cs.take ti.size)) else some (cs.getD 0 .u)) else none := nr rfl
theorem k_node (st : St) (e : Bool) (r : Nat) (path : List (Nat × Nat × Nat)) (c : Nat) : node st ⟨e, r, path, c⟩ = nav (rootCells st e r) path := nr rfl
theorem k_canWrite (st : St) (e : Bool) (r : Nat) (path : List (Nat × Nat × Nat)) (c : Nat) : canWrite st ⟨e, r, path, c⟩ = wrt (rootCells st e r) path := nr rfl
theorem k_root_true (st : St) (r : Nat) : rootCells st true r = cellsOf (st.env r) := nr rfl
theorem k_root_false (st : St) (r : Nat) : rootCells st false r = st.bx r := nr rfl
theorem k_nav_nil (cs : List AV) : nav cs [] = some cs := nr rfl
theorem k_wrt_nil (cs : List AV) : wrt cs [] = true := nr rfl
def navK (x : Option (Tag × List AV)) (ps : List (Nat × Nat × Nat)) : Option (List AV) := match x with
  | some (_, row) => nav row ps
  | none => none
def wrtK (x : Option (Tag × List AV)) (ps : List (Nat × Nat × Nat)) : Bool := match x with
  | some (.mut, row) => wrt row ps
  | _ => false
def stepK (i z : Nat) (a : Option AV) : Option (Tag × List AV) := match a with
  | some (.sl t z' es) => if z' = z then rowK t es[i]? else none
  | _ => none
  where rowK (t : Tag) : Option (List AV) → Option (Tag × List AV)
  | some row => some (t, row)
  | none => none
theorem k_nav_cons (cs : List AV) (c i z : Nat) (ps : List (Nat × Nat × Nat)) : nav cs ((c, i, z) :: ps) = navK (stepAt cs c i z) ps := by simp only [nav, navK]; cases stepAt cs c i z <;> rfl
theorem k_navK (t : Tag) (row : List AV) (ps : List (Nat × Nat × Nat)) : navK (some (t, row)) ps = nav row ps := nr rfl
theorem k_wrt_cons (cs : List AV) (c i z : Nat) (ps : List (Nat × Nat × Nat)) : wrt cs ((c, i, z) :: ps) = wrtK (stepAt cs c i z) ps := by
  simp only [wrt, wrtK]
  cases stepAt cs c i z with
  | none => rfl
  | some x => obtain ⟨t, row⟩ := x; cases t <;> rfl
theorem k_wrtK_mut (row : List AV) (ps : List (Nat × Nat × Nat)) : wrtK (some (.mut, row)) ps = wrt row ps := nr rfl
theorem k_wrtK_ro (row : List AV) (ps : List (Nat × Nat × Nat)) : wrtK (some (.ro, row)) ps = false := nr rfl
theorem k_wrtK_app (row : List AV) (ps : List (Nat × Nat × Nat)) : wrtK (some (.app, row)) ps = false := nr rfl
theorem k_stepAt (cs : List AV) (c i z : Nat) : stepAt cs c i z = stepK i z cs[c]? := by
  simp only [stepAt, stepK]
  cases cs[c]? with
  | none => rfl
  | some a =>
    cases a <;> rfl
theorem k_stepK (i : Nat) (t : Tag) (z : Nat) (es : List (List AV)) : stepK i z (some (.sl t z es)) = stepK.rowK t es[i]? := by simp only [stepK, if_true]
theorem k_rowK (t : Tag) (row : List AV) : stepK.rowK t (some row) = some (t, row) := nr rfl
theorem k_navSet_nil (cs new : List AV) : navSet cs [] new = new := nr rfl
def setK (cs : List AV) (c i : Nat) (ps : List (Nat × Nat × Nat)) (new : List AV) (a : Option AV) : List AV := match a with
  | some (.sl t z es) => cs.set c (.sl t z (es.set i (navSet (es.getD i []) ps new)))
  | _ => cs
theorem k_navSet_cons (cs : List AV) (c i z : Nat) (ps : List (Nat × Nat × Nat)) (new : List AV) : navSet cs ((c, i, z) :: ps) new = setK cs c i ps new cs[c]? := by
  simp only [navSet, setK]
  cases cs[c]? with
  | none => rfl
  | some a => cases a <;> rfl
theorem k_setK (cs : List AV) (c i : Nat) (ps : List (Nat × Nat × Nat)) (new : List AV) (t : Tag) (z : Nat) (es : List (List AV)) : setK cs c i ps new (some (.sl t z es)) = cs.set c (.sl t z (es.set i (navSet (es.getD i []) ps new))) := nr rfl
theorem k_set_zero (a b : AV) (l : List AV) : List.set (a :: l) 0 b = b :: l := nr rfl
theorem k_set_succ (a b : AV) (l : List AV) (n : Nat) : List.set (a :: l) (n + 1) b = a :: List.set l n b := nr rfl
theorem k_setNode_false (l : List (Nat × AV)) (m : List (Nat × List AV)) (r : Nat) (path : List (Nat × Nat × Nat)) (c : Nat) (new : List AV) : setNode ⟨E l, B m⟩ ⟨false, r, path, c⟩ new = ⟨E l, B ((r, navSet (B m r) path new) :: m)⟩ := by simp only [setNode, upd_B, Bool.false_eq_true, if_false]
theorem k_setNode_true (l : List (Nat × AV)) (m : List (Nat × List AV)) (r : Nat) (path : List (Nat × Nat × Nat)) (c : Nat) (new : List AV) : setNode ⟨E l, B m⟩ ⟨true, r, path, c⟩ new = ⟨E ((r, reAgg (E l r) (navSet (cellsOf (E l r)) path new)) :: l), B m⟩ := by simp only [setNode, upd_E, if_true, rootCells]
theorem k_reAgg_u  (new : List AV) : reAgg .u new = new.headD .u := nr rfl
theorem k_reAgg_no  (new : List AV) : reAgg .no new = new.headD .u := nr rfl
theorem k_reAgg_ub  (new : List AV) : reAgg .ub new = new.headD .u := nr rfl
theorem k_reAgg_b (x : Bool) (new : List AV) : reAgg (.b x) new = new.headD .u := nr rfl
theorem k_reAgg_i (k : IntKind) (n : Int) (new : List AV) : reAgg (.i k n) new = new.headD .u := nr rfl
theorem k_reAgg_s (x : ByteArray) (new : List AV) : reAgg (.s x) new = new.headD .u := nr rfl
theorem k_reAgg_nil  (new : List AV) : reAgg .nil new = new.headD .u := nr rfl
theorem k_reAgg_sl (t : Tag) (z : Nat) (es : List (List AV)) (new : List AV) : reAgg (.sl t z es) new = new.headD .u := nr rfl
theorem k_reAgg_rf (pl : Pl) (y : Nat) (lo : Nat) (n : Nat) (new : List AV) : reAgg (.rf pl y lo n) new = new.headD .u := nr rfl
theorem k_reAgg_p (pl : Pl) (new : List AV) : reAgg (.p pl) new = new.headD .u := nr rfl
theorem k_reAgg_pr (cs : List AV) (new : List AV) : reAgg (.pr cs) new = new.headD .u := nr rfl
theorem k_reAgg_pn  (new : List AV) : reAgg .pn new = new.headD .u := nr rfl
theorem k_reAgg_fn (f : Nat) (cs : List AV) (new : List AV) : reAgg (.fn f cs) new = new.headD .u := nr rfl
theorem k_reAgg_fs (cs : List AV) (new : List AV) : reAgg (.fs cs) new = new.headD .u := nr rfl
theorem k_reAgg_agg (cs : List AV) (new : List AV) : reAgg (.agg cs) new = .agg new := nr rfl
theorem k_reAgg_tup (cs : List AV) (new : List AV) : reAgg (.tup cs) new = new.headD .u := nr rfl
theorem k_headD (a : AV) (l : List AV) : List.headD (a :: l) .u = a := nr rfl
theorem k_indexAddrV (st : St) (z b : Nat) (w : List AV) (x : AV) (k : IntKind) (n : Int) : indexAddrV st (.slice z b w) x (.i k n) = indexAddr st z x n := nr rfl
def iaR (es : List (List AV)) : Option Nat → Option AV
  | some j => some (.pr (es.getD j []))
  | none => none
def iaF (es : List AV) : Option Nat → Option AV
  | some j => some (.pr [Vm.filt gone gone (es.getD j .u)])
  | none => none
def iaM (t : Tag) (pl : Pl) (z lo : Nat) (es : List (List AV)) : Option Nat → Option AV
  | some j => (match t with
    | .mut => some (.p ⟨pl.e, pl.r, pl.path ++ [(pl.c, lo + j, z)], 0⟩)
    | _ => some (.pr (stripL (es.getD (lo + j) []))))
  | none => none
def iaC (pl : Pl) (z zr lo n : Nat) (i : Int) : Option AV → Option AV
  | some (.sl t z' es) => if (z = z' ∧ zr = z) ∧ lo + n ≤ es.length then iaM t pl z lo es (idx? n i) else none
  | _ => none
def ixS (b : ByteArray) : Option Nat → Option AV
  | some j => some (.i .u8 (b.data[j]?.getD 0).toNat)
  | none => none
theorem k_iaR (es : List (List AV)) (j : Nat) : iaR es (some j) = some (.pr (es.getD j [])) := nr rfl
theorem k_iaF (es : List AV) (j : Nat) : iaF es (some j) = some (.pr [Vm.filt gone gone (es.getD j .u)]) := nr rfl
theorem k_iaM_mut (pl : Pl) (z lo : Nat) (es : List (List AV)) (j : Nat) : iaM .mut pl z lo es (some j) = some (.p ⟨pl.e, pl.r, pl.path ++ [(pl.c, lo + j, z)], 0⟩) := nr rfl
theorem k_iaM_ro (pl : Pl) (z lo : Nat) (es : List (List AV)) (j : Nat) : iaM .ro pl z lo es (some j) = some (.pr (stripL (es.getD (lo + j) []))) := nr rfl
theorem k_iaM_app (pl : Pl) (z lo : Nat) (es : List (List AV)) (j : Nat) : iaM .app pl z lo es (some j) = some (.pr (stripL (es.getD (lo + j) []))) := nr rfl
theorem k_iaC (pl : Pl) (z zr lo n : Nat) (i : Int) (t : Tag) (z' : Nat) (es : List (List AV)) : iaC pl z zr lo n i (some (.sl t z' es)) = if (z = z' ∧ zr = z) ∧ lo + n ≤ es.length then iaM t pl z lo es (idx? n i) else none := nr rfl
theorem k_ixS (b : ByteArray) (j : Nat) : ixS b (some j) = some (.i .u8 (b.data[j]?.getD 0).toNat) := nr rfl
theorem k_indexAddr_ro (st : St) (z z' : Nat) (es : List (List AV)) (i : Int) : indexAddr st z (.sl .ro z' es) i = if z = z' then iaR es (idx? es.length i) else none := by
  by_cases h : z = z'
  · simp only [indexAddr, if_pos h]; cases idx? es.length i <;> rfl
  · simp only [indexAddr, if_neg h]
theorem k_indexAddr_fs (st : St) (z : Nat) (es : List AV) (i : Int) : indexAddr st z (.fs es) i = if z = 1 then iaF es (idx? es.length i) else none := by
  by_cases h : z = 1
  · simp only [indexAddr, if_pos h]; cases idx? es.length i <;> rfl
  · simp only [indexAddr, if_neg h]
theorem k_indexAddr_rf (st : St) (z zr lo n : Nat) (pl : Pl) (i : Int) : indexAddr st z (.rf pl zr lo n) i = bindO (node st pl) (fun cells => iaC pl z zr lo n i cells[pl.c]?) := by
  simp only [indexAddr, bindO]
  cases node st pl with
  | none => rfl
  | some cells =>
    simp only
    cases cells[pl.c]? with
    | none => rfl
    | some a =>
      cases a <;> rfl
theorem k_indexV_a (m z : Nat) (ag : Bool) (w cs : List AV) (k : IntKind) (n : Int) : indexV (.array m z ag w) (.agg cs) (.i k n) = if z = 1 ∧ ag = false then arrIx m cs n else none := nr rfl
theorem k_arr5  : arrFlds 5 1 false = [(0, 1, false, 0), (1, 1, false, 0), (2, 1, false, 0), (3, 1, false, 0), (4, 1, false, 0)] := nr rfl
theorem k_indexV_s (b : ByteArray) (k : IntKind) (n : Int) : indexV .str (.s b) (.i k n) = ixS b (idx? b.size n) := by simp only [indexV, ixS]; cases idx? b.size n <;> rfl
theorem k_nilV_u   : nilV .u = none := nr rfl
theorem k_nilV_no   : nilV .no = none := nr rfl
theorem k_nilV_ub   : nilV .ub = none := nr rfl
theorem k_nilV_b  (x : Bool) : nilV (.b x) = none := nr rfl
theorem k_nilV_i  (k : IntKind) (n : Int) : nilV (.i k n) = none := nr rfl
theorem k_nilV_s  (x : ByteArray) : nilV (.s x) = none := nr rfl
theorem k_nilV_nil   : nilV .nil = none := nr rfl
theorem k_nilV_sl  (t : Tag) (z : Nat) (es : List (List AV)) : nilV (.sl t z es) = none := nr rfl
theorem k_nilV_rf  (pl : Pl) (y : Nat) (lo : Nat) (n : Nat) : nilV (.rf pl y lo n) = none := nr rfl
theorem k_nilV_p  (pl : Pl) : nilV (.p pl) = some (.p pl) := nr rfl
theorem k_nilV_pr  (cs : List AV) : nilV (.pr cs) = some (.pr cs) := nr rfl
theorem k_nilV_pn   : nilV .pn = none := nr rfl
theorem k_nilV_fn  (f : Nat) (cs : List AV) : nilV (.fn f cs) = none := nr rfl
theorem k_nilV_fs  (cs : List AV) : nilV (.fs cs) = none := nr rfl
theorem k_nilV_agg  (cs : List AV) : nilV (.agg cs) = none := nr rfl
theorem k_nilV_tup  (cs : List AV) : nilV (.tup cs) = none := nr rfl
theorem k_fnV (f : Nat) (cs xs : List AV) : fnV (.fn f cs) xs = some (f, xs ++ cs) := nr rfl
theorem k_strip_u   : strip .u = .u := nr rfl
theorem k_strip_no   : strip .no = .u := nr rfl
theorem k_strip_ub   : strip .ub = .ub := nr rfl
theorem k_strip_b  (x : Bool) : strip (.b x) = (.b x) := nr rfl
theorem k_strip_i  (k : IntKind) (n : Int) : strip (.i k n) = (.i k n) := nr rfl
theorem k_strip_s  (x : ByteArray) : strip (.s x) = (.s x) := nr rfl
theorem k_strip_nil   : strip .nil = .nil := nr rfl
theorem k_strip_sl  (t : Tag) (z : Nat) (es : List (List AV)) : strip (.sl t z es) = .sl .ro z (stripLL es) := nr rfl
theorem k_strip_rf  (pl : Pl) (y : Nat) (lo : Nat) (n : Nat) : strip (.rf pl y lo n) = .u := nr rfl
theorem k_strip_p  (pl : Pl) : strip (.p pl) = .u := nr rfl
theorem k_strip_pr  (cs : List AV) : strip (.pr cs) = (.pr cs) := nr rfl
theorem k_strip_pn   : strip .pn = .pn := nr rfl
theorem k_strip_fn  (f : Nat) (cs : List AV) : strip (.fn f cs) = .u := nr rfl
theorem k_strip_fs  (cs : List AV) : strip (.fs cs) = .u := nr rfl
theorem k_strip_agg  (cs : List AV) : strip (.agg cs) = .u := nr rfl
theorem k_strip_tup  (cs : List AV) : strip (.tup cs) = .u := nr rfl
theorem k_hasRo_u   : hasRo .u = false := nr rfl
theorem k_hasRo_no   : hasRo .no = false := nr rfl
theorem k_hasRo_ub   : hasRo .ub = false := nr rfl
theorem k_hasRo_b  (x : Bool) : hasRo (.b x) = false := nr rfl
theorem k_hasRo_i  (k : IntKind) (n : Int) : hasRo (.i k n) = false := nr rfl
theorem k_hasRo_s  (x : ByteArray) : hasRo (.s x) = false := nr rfl
theorem k_hasRo_nil   : hasRo .nil = false := nr rfl
theorem k_hasRo_rf  (pl : Pl) (y : Nat) (lo : Nat) (n : Nat) : hasRo (.rf pl y lo n) = false := nr rfl
theorem k_hasRo_p  (pl : Pl) : hasRo (.p pl) = false := nr rfl
theorem k_hasRo_pr  (cs : List AV) : hasRo (.pr cs) = true := nr rfl
theorem k_hasRo_pn   : hasRo .pn = false := nr rfl
theorem k_hasRo_fn  (f : Nat) (cs : List AV) : hasRo (.fn f cs) = true := nr rfl
theorem k_hasRo_fs  (cs : List AV) : hasRo (.fs cs) = true := nr rfl
theorem k_hasRo_agg  (cs : List AV) : hasRo (.agg cs) = hasRoL cs := nr rfl
theorem k_hasRo_tup  (cs : List AV) : hasRo (.tup cs) = hasRoL cs := nr rfl
theorem k_hasRo_ro (z : Nat) (es : List (List AV)) : hasRo (.sl .ro z es) = true := nr rfl
theorem k_hasRo_app (z : Nat) (es : List (List AV)) : hasRo (.sl .app z es) = true := nr rfl
theorem k_hasRo_mut (z : Nat) (es : List (List AV)) : hasRo (.sl .mut z es) = hasRoLL es := nr rfl
theorem k_hasRoL_nil  : hasRoL [] = false := nr rfl
theorem k_hasRoL_cons (a : AV) (l : List AV) : hasRoL (a :: l) = (hasRo a || hasRoL l) := nr rfl
theorem k_okLeaf_u   : okLeaf .u = true := nr rfl
theorem k_okLeaf_no   : okLeaf .no = false := nr rfl
theorem k_okLeaf_ub   : okLeaf .ub = true := nr rfl
theorem k_okLeaf_b  (x : Bool) : okLeaf (.b x) = true := nr rfl
theorem k_okLeaf_i  (k : IntKind) (n : Int) : okLeaf (.i k n) = true := nr rfl
theorem k_okLeaf_s  (x : ByteArray) : okLeaf (.s x) = true := nr rfl
theorem k_okLeaf_nil   : okLeaf .nil = true := nr rfl
theorem k_okLeaf_sl  (t : Tag) (z : Nat) (es : List (List AV)) : okLeaf (.sl t z es) = true := nr rfl
theorem k_okLeaf_rf  (pl : Pl) (y : Nat) (lo : Nat) (n : Nat) : okLeaf (.rf pl y lo n) = false := nr rfl
theorem k_okLeaf_p  (pl : Pl) : okLeaf (.p pl) = false := nr rfl
theorem k_okLeaf_pr  (cs : List AV) : okLeaf (.pr cs) = true := nr rfl
theorem k_okLeaf_pn   : okLeaf .pn = true := nr rfl
theorem k_okLeaf_fn  (f : Nat) (cs : List AV) : okLeaf (.fn f cs) = cs.all capLf := nr rfl
theorem k_okLeaf_fs  (cs : List AV) : okLeaf (.fs cs) = false := nr rfl
theorem k_okLeaf_agg  (cs : List AV) : okLeaf (.agg cs) = cs.all rowOk := nr rfl
theorem k_okLeaf_tup  (cs : List AV) : okLeaf (.tup cs) = false := nr rfl
theorem k_binX_u (ti0 : Option TI) (E0 : Option (List Nat)) (op0 : BinOp) (a0 : AV)  : binX ti0 E0 op0 .u a0 = bin ti0 op0 .u a0 := nr rfl
theorem k_binX_no (ti0 : Option TI) (E0 : Option (List Nat)) (op0 : BinOp) (a0 : AV)  : binX ti0 E0 op0 .no a0 = bin ti0 op0 .no a0 := nr rfl
theorem k_binX_ub (ti0 : Option TI) (E0 : Option (List Nat)) (op0 : BinOp) (a0 : AV)  : binX ti0 E0 op0 .ub a0 = bin ti0 op0 .ub a0 := nr rfl
theorem k_binX_b (ti0 : Option TI) (E0 : Option (List Nat)) (op0 : BinOp) (a0 : AV) (x : Bool) : binX ti0 E0 op0 (.b x) a0 = bin ti0 op0 (.b x) a0 := nr rfl
theorem k_binX_i (ti0 : Option TI) (E0 : Option (List Nat)) (op0 : BinOp) (a0 : AV) (k : IntKind) (n : Int) : binX ti0 E0 op0 (.i k n) a0 = bin ti0 op0 (.i k n) a0 := nr rfl
theorem k_binX_s (ti0 : Option TI) (E0 : Option (List Nat)) (op0 : BinOp) (a0 : AV) (x : ByteArray) : binX ti0 E0 op0 (.s x) a0 = bin ti0 op0 (.s x) a0 := nr rfl
theorem k_binX_nil (ti0 : Option TI) (E0 : Option (List Nat)) (op0 : BinOp) (a0 : AV)  : binX ti0 E0 op0 .nil a0 = bin ti0 op0 .nil a0 := nr rfl
theorem k_binX_sl (ti0 : Option TI) (E0 : Option (List Nat)) (op0 : BinOp) (a0 : AV) (t : Tag) (z : Nat) (es : List (List AV)) : binX ti0 E0 op0 (.sl t z es) a0 = bin ti0 op0 (.sl t z es) a0 := nr rfl
theorem k_binX_rf (ti0 : Option TI) (E0 : Option (List Nat)) (op0 : BinOp) (a0 : AV) (pl : Pl) (y : Nat) (lo : Nat) (n : Nat) : binX ti0 E0 op0 (.rf pl y lo n) a0 = bin ti0 op0 (.rf pl y lo n) a0 := nr rfl
theorem k_binX_p (ti0 : Option TI) (E0 : Option (List Nat)) (op0 : BinOp) (a0 : AV) (pl : Pl) : binX ti0 E0 op0 (.p pl) a0 = bin ti0 op0 (.p pl) a0 := nr rfl
theorem k_binX_pr (ti0 : Option TI) (E0 : Option (List Nat)) (op0 : BinOp) (a0 : AV) (cs : List AV) : binX ti0 E0 op0 (.pr cs) a0 = bin ti0 op0 (.pr cs) a0 := nr rfl
theorem k_binX_pn (ti0 : Option TI) (E0 : Option (List Nat)) (op0 : BinOp) (a0 : AV)  : binX ti0 E0 op0 .pn a0 = bin ti0 op0 .pn a0 := nr rfl
theorem k_binX_fn (ti0 : Option TI) (E0 : Option (List Nat)) (op0 : BinOp) (a0 : AV) (f : Nat) (cs : List AV) : binX ti0 E0 op0 (.fn f cs) a0 = bin ti0 op0 (.fn f cs) a0 := nr rfl
theorem k_binX_fs (ti0 : Option TI) (E0 : Option (List Nat)) (op0 : BinOp) (a0 : AV) (cs : List AV) : binX ti0 E0 op0 (.fs cs) a0 = bin ti0 op0 (.fs cs) a0 := nr rfl
theorem k_binX_tup (ti0 : Option TI) (E0 : Option (List Nat)) (op0 : BinOp) (a0 : AV) (cs : List AV) : binX ti0 E0 op0 (.tup cs) a0 = bin ti0 op0 (.tup cs) a0 := nr rfl
def eqR (op : BinOp) (e : Option Bool) : Option AV := match e with | some e => eqB op e | none => none
theorem k_binX_agg (ti0 : Option TI) (ks : List Nat) (op0 : BinOp) (a b : List AV) : binX ti0 (some ks) op0 (.agg a) (.agg b) = eqR op0 (eqCells ks a b) := by simp only [binX, binAgg, eqR]; cases eqCells ks a b <;> rfl
theorem k_eqR (op : BinOp) (e : Bool) : eqR op (some e) = eqB op e := nr rfl
def andX (p : Bool) (e : Option Bool) : Option Bool := match e with | some e => some (p && e) | none => none
theorem k_andX (p e : Bool) : andX p (some e) = some (p && e) := nr rfl
theorem k_eqCells_nil  : eqCells [] [] [] = some true := nr rfl
theorem k_eqCells_b (ks : List Nat) (x y : Bool) (a b : List AV) : eqCells (0 :: ks) (.b x :: a) (.b y :: b) = andX (x == y) (eqCells ks a b) := by simp only [eqCells, andX]; cases eqCells ks a b <;> rfl
theorem k_eqCells_i (ks : List Nat) (k : IntKind) (x y : Int) (a b : List AV) : eqCells (1 :: ks) (.i k x :: a) (.i k y :: b) = andX (x == y) (eqCells ks a b) := by simp only [eqCells, andX, if_true]; cases eqCells ks a b <;> rfl
theorem k_eqCells_s (ks : List Nat) (x y : ByteArray) (a b : List AV) : eqCells (2 :: ks) (.s x :: a) (.s y :: b) = andX (x.toList == y.toList) (eqCells ks a b) := by simp only [eqCells, andX]; cases eqCells ks a b <;> rfl
theorem k_capLf_u   : capLf .u = false := nr rfl
theorem k_capLf_no   : capLf .no = false := nr rfl
theorem k_capLf_ub   : capLf .ub = false := nr rfl
theorem k_capLf_b  (x : Bool) : capLf (.b x) = true := nr rfl
theorem k_capLf_i  (k : IntKind) (n : Int) : capLf (.i k n) = true := nr rfl
theorem k_capLf_s  (x : ByteArray) : capLf (.s x) = true := nr rfl
theorem k_capLf_nil   : capLf .nil = false := nr rfl
theorem k_capLf_rf  (pl : Pl) (y : Nat) (lo : Nat) (n : Nat) : capLf (.rf pl y lo n) = false := nr rfl
theorem k_capLf_p  (pl : Pl) : capLf (.p pl) = false := nr rfl
theorem k_capLf_pr  (cs : List AV) : capLf (.pr cs) = true := nr rfl
theorem k_capLf_pn   : capLf .pn = true := nr rfl
theorem k_capLf_fn  (f : Nat) (cs : List AV) : capLf (.fn f cs) = false := nr rfl
theorem k_capLf_fs  (cs : List AV) : capLf (.fs cs) = false := nr rfl
theorem k_capLf_agg  (cs : List AV) : capLf (.agg cs) = false := nr rfl
theorem k_capLf_tup  (cs : List AV) : capLf (.tup cs) = false := nr rfl
theorem k_capLf_ro (z : Nat) (es : List (List AV)) : capLf (.sl .ro z es) = true := nr rfl
theorem k_capOk_u   : capOk .u = capLf .u := nr rfl
theorem k_capOk_no   : capOk .no = capLf .no := nr rfl
theorem k_capOk_ub   : capOk .ub = capLf .ub := nr rfl
theorem k_capOk_b  (x : Bool) : capOk (.b x) = capLf (.b x) := nr rfl
theorem k_capOk_i  (k : IntKind) (n : Int) : capOk (.i k n) = capLf (.i k n) := nr rfl
theorem k_capOk_s  (x : ByteArray) : capOk (.s x) = capLf (.s x) := nr rfl
theorem k_capOk_nil   : capOk .nil = capLf .nil := nr rfl
theorem k_capOk_sl  (t : Tag) (z : Nat) (es : List (List AV)) : capOk (.sl t z es) = capLf (.sl t z es) := nr rfl
theorem k_capOk_rf  (pl : Pl) (y : Nat) (lo : Nat) (n : Nat) : capOk (.rf pl y lo n) = capLf (.rf pl y lo n) := nr rfl
theorem k_capOk_p  (pl : Pl) : capOk (.p pl) = capLf (.p pl) := nr rfl
theorem k_capOk_pr  (cs : List AV) : capOk (.pr cs) = capLf (.pr cs) := nr rfl
theorem k_capOk_pn   : capOk .pn = capLf .pn := nr rfl
theorem k_capOk_fn  (f : Nat) (cs : List AV) : capOk (.fn f cs) = cs.all capLf := nr rfl
theorem k_capOk_fs  (cs : List AV) : capOk (.fs cs) = capLf (.fs cs) := nr rfl
theorem k_capOk_agg  (cs : List AV) : capOk (.agg cs) = capLf (.agg cs) := nr rfl
theorem k_capOk_tup  (cs : List AV) : capOk (.tup cs) = capLf (.tup cs) := nr rfl
theorem k_frozenBox (st : St) (d : Nat) (cs : List AV) : frozenBox st d cs = if cs.all capOk = true then some (st.put d (.pr cs)) else none := nr rfl
theorem k_outLeaf_u (st : St)  : outLeaf st .u = if rowOk .u = true then some ((.u, none), st) else none := nr rfl
theorem k_outLeaf_no (st : St)  : outLeaf st .no = if rowOk .no = true then some ((.no, none), st) else none := nr rfl
theorem k_outLeaf_ub (st : St)  : outLeaf st .ub = if rowOk .ub = true then some ((.ub, none), st) else none := nr rfl
theorem k_outLeaf_b (st : St) (x : Bool) : outLeaf st (.b x) = if rowOk (.b x) = true then some (((.b x), none), st) else none := nr rfl
theorem k_outLeaf_i (st : St) (k : IntKind) (n : Int) : outLeaf st (.i k n) = if rowOk (.i k n) = true then some (((.i k n), none), st) else none := nr rfl
theorem k_outLeaf_s (st : St) (x : ByteArray) : outLeaf st (.s x) = if rowOk (.s x) = true then some (((.s x), none), st) else none := nr rfl
theorem k_outLeaf_nil (st : St)  : outLeaf st .nil = if rowOk .nil = true then some ((.nil, none), st) else none := nr rfl
theorem k_outLeaf_sl (st : St) (t : Tag) (z : Nat) (es : List (List AV)) : outLeaf st (.sl t z es) = if rowOk (.sl t z es) = true then some (((.sl t z es), none), st) else none := nr rfl
theorem k_outLeaf_p (st : St) (pl : Pl) : outLeaf st (.p pl) = if rowOk (.p pl) = true then some (((.p pl), none), st) else none := nr rfl
theorem k_outLeaf_pr (st : St) (cs : List AV) : outLeaf st (.pr cs) = if rowOk (.pr cs) = true then some (((.pr cs), none), st) else none := nr rfl
theorem k_outLeaf_pn (st : St)  : outLeaf st .pn = if rowOk .pn = true then some ((.pn, none), st) else none := nr rfl
theorem k_outLeaf_fn (st : St) (f : Nat) (cs : List AV) : outLeaf st (.fn f cs) = if rowOk (.fn f cs) = true then some (((.fn f cs), none), st) else none := nr rfl
theorem k_outLeaf_fs (st : St) (cs : List AV) : outLeaf st (.fs cs) = if rowOk (.fs cs) = true then some (((.fs cs), none), st) else none := nr rfl
theorem k_outLeaf_agg (st : St) (cs : List AV) : outLeaf st (.agg cs) = if rowOk (.agg cs) = true then some (((.agg cs), none), st) else none := nr rfl
theorem k_outLeaf_tup (st : St) (cs : List AV) : outLeaf st (.tup cs) = if rowOk (.tup cs) = true then some (((.tup cs), none), st) else none := nr rfl
theorem k_fillLeaf_u (st : St) (pl0 : Pl) (b0 : Bool)  : fillLeaf st .u (some (pl0, b0)) = some st := nr rfl
theorem k_fillLeaf_no (st : St) (pl0 : Pl) (b0 : Bool)  : fillLeaf st .no (some (pl0, b0)) = some st := nr rfl
theorem k_fillLeaf_ub (st : St) (pl0 : Pl) (b0 : Bool)  : fillLeaf st .ub (some (pl0, b0)) = some st := nr rfl
theorem k_fillLeaf_b (st : St) (pl0 : Pl) (b0 : Bool) (x : Bool) : fillLeaf st (.b x) (some (pl0, b0)) = some st := nr rfl
theorem k_fillLeaf_i (st : St) (pl0 : Pl) (b0 : Bool) (k : IntKind) (n : Int) : fillLeaf st (.i k n) (some (pl0, b0)) = some st := nr rfl
theorem k_fillLeaf_s (st : St) (pl0 : Pl) (b0 : Bool) (x : ByteArray) : fillLeaf st (.s x) (some (pl0, b0)) = some st := nr rfl
theorem k_fillLeaf_nil (st : St) (pl0 : Pl) (b0 : Bool)  : fillLeaf st .nil (some (pl0, b0)) = some st := nr rfl
theorem k_fillLeaf_rf (st : St) (pl0 : Pl) (b0 : Bool) (pl : Pl) (y : Nat) (lo : Nat) (n : Nat) : fillLeaf st (.rf pl y lo n) (some (pl0, b0)) = some st := nr rfl
theorem k_fillLeaf_p (st : St) (pl0 : Pl) (b0 : Bool) (pl : Pl) : fillLeaf st (.p pl) (some (pl0, b0)) = some st := nr rfl
theorem k_fillLeaf_pr (st : St) (pl0 : Pl) (b0 : Bool) (cs : List AV) : fillLeaf st (.pr cs) (some (pl0, b0)) = some st := nr rfl
theorem k_fillLeaf_pn (st : St) (pl0 : Pl) (b0 : Bool)  : fillLeaf st .pn (some (pl0, b0)) = some st := nr rfl
theorem k_fillLeaf_fn (st : St) (pl0 : Pl) (b0 : Bool) (f : Nat) (cs : List AV) : fillLeaf st (.fn f cs) (some (pl0, b0)) = some st := nr rfl
theorem k_fillLeaf_fs (st : St) (pl0 : Pl) (b0 : Bool) (cs : List AV) : fillLeaf st (.fs cs) (some (pl0, b0)) = some st := nr rfl
theorem k_fillLeaf_agg (st : St) (pl0 : Pl) (b0 : Bool) (cs : List AV) : fillLeaf st (.agg cs) (some (pl0, b0)) = some st := nr rfl
theorem k_fillLeaf_tup (st : St) (pl0 : Pl) (b0 : Bool) (cs : List AV) : fillLeaf st (.tup cs) (some (pl0, b0)) = some st := nr rfl
theorem k_weakLeaf_u (st : St)  : weakLeaf st .u = some st := nr rfl
theorem k_weakLeaf_no (st : St)  : weakLeaf st .no = some st := nr rfl
theorem k_weakLeaf_ub (st : St)  : weakLeaf st .ub = some st := nr rfl
theorem k_weakLeaf_b (st : St) (x : Bool) : weakLeaf st (.b x) = some st := nr rfl
theorem k_weakLeaf_i (st : St) (k : IntKind) (n : Int) : weakLeaf st (.i k n) = some st := nr rfl
theorem k_weakLeaf_s (st : St) (x : ByteArray) : weakLeaf st (.s x) = some st := nr rfl
theorem k_weakLeaf_nil (st : St)  : weakLeaf st .nil = some st := nr rfl
theorem k_weakLeaf_sl (st : St) (t : Tag) (z : Nat) (es : List (List AV)) : weakLeaf st (.sl t z es) = some st := nr rfl
theorem k_weakLeaf_p (st : St) (pl : Pl) : weakLeaf st (.p pl) = none := nr rfl
theorem k_weakLeaf_pr (st : St) (cs : List AV) : weakLeaf st (.pr cs) = some st := nr rfl
theorem k_weakLeaf_pn (st : St)  : weakLeaf st .pn = some st := nr rfl
theorem k_weakLeaf_fn (st : St) (f : Nat) (cs : List AV) : weakLeaf st (.fn f cs) = none := nr rfl
theorem k_weakLeaf_fs (st : St) (cs : List AV) : weakLeaf st (.fs cs) = none := nr rfl
theorem k_weakLeaf_agg (st : St) (cs : List AV) : weakLeaf st (.agg cs) = none := nr rfl
theorem k_weakLeaf_tup (st : St) (cs : List AV) : weakLeaf st (.tup cs) = none := nr rfl
theorem k_weakV_u (st : St) (x0 : Operand)  : weakV st x0 .u = weakLeaf st .u := nr rfl
theorem k_weakV_no (st : St) (x0 : Operand)  : weakV st x0 .no = weakLeaf st .no := nr rfl
theorem k_weakV_ub (st : St) (x0 : Operand)  : weakV st x0 .ub = weakLeaf st .ub := nr rfl
theorem k_weakV_b (st : St) (x0 : Operand) (x : Bool) : weakV st x0 (.b x) = weakLeaf st (.b x) := nr rfl
theorem k_weakV_i (st : St) (x0 : Operand) (k : IntKind) (n : Int) : weakV st x0 (.i k n) = weakLeaf st (.i k n) := nr rfl
theorem k_weakV_s (st : St) (x0 : Operand) (x : ByteArray) : weakV st x0 (.s x) = weakLeaf st (.s x) := nr rfl
theorem k_weakV_nil (st : St) (x0 : Operand)  : weakV st x0 .nil = weakLeaf st .nil := nr rfl
theorem k_weakV_sl (st : St) (x0 : Operand) (t : Tag) (z : Nat) (es : List (List AV)) : weakV st x0 (.sl t z es) = weakLeaf st (.sl t z es) := nr rfl
theorem k_weakV_rf (st : St) (x0 : Operand) (pl : Pl) (y : Nat) (lo : Nat) (n : Nat) : weakV st x0 (.rf pl y lo n) = weakLeaf st (.rf pl y lo n) := nr rfl
theorem k_weakV_p (st : St) (x0 : Operand) (pl : Pl) : weakV st x0 (.p pl) = weakLeaf st (.p pl) := nr rfl
theorem k_weakV_pr (st : St) (x0 : Operand) (cs : List AV) : weakV st x0 (.pr cs) = weakLeaf st (.pr cs) := nr rfl
theorem k_weakV_pn (st : St) (x0 : Operand)  : weakV st x0 .pn = weakLeaf st .pn := nr rfl
theorem k_weakV_fn (st : St) (x0 : Operand) (f : Nat) (cs : List AV) : weakV st x0 (.fn f cs) = weakLeaf st (.fn f cs) := nr rfl
theorem k_weakV_fs (st : St) (x0 : Operand) (cs : List AV) : weakV st x0 (.fs cs) = weakLeaf st (.fs cs) := nr rfl
theorem k_weakV_agg (st : St) (x0 : Operand) (cs : List AV) : weakV st x0 (.agg cs) = weakAgg x0 cs.length 0 st := nr rfl
theorem k_weakV_tup (st : St) (x0 : Operand) (cs : List AV) : weakV st x0 (.tup cs) = weakLeaf st (.tup cs) := nr rfl
theorem k_notAgg_u   : notAgg .u = true := nr rfl
theorem k_notAgg_no   : notAgg .no = true := nr rfl
theorem k_notAgg_ub   : notAgg .ub = true := nr rfl
theorem k_notAgg_b  (x : Bool) : notAgg (.b x) = true := nr rfl
theorem k_notAgg_i  (k : IntKind) (n : Int) : notAgg (.i k n) = true := nr rfl
theorem k_notAgg_s  (x : ByteArray) : notAgg (.s x) = true := nr rfl
theorem k_notAgg_nil   : notAgg .nil = true := nr rfl
theorem k_notAgg_sl  (t : Tag) (z : Nat) (es : List (List AV)) : notAgg (.sl t z es) = true := nr rfl
theorem k_notAgg_rf  (pl : Pl) (y : Nat) (lo : Nat) (n : Nat) : notAgg (.rf pl y lo n) = true := nr rfl
theorem k_notAgg_p  (pl : Pl) : notAgg (.p pl) = true := nr rfl
theorem k_notAgg_pr  (cs : List AV) : notAgg (.pr cs) = true := nr rfl
theorem k_notAgg_pn   : notAgg .pn = true := nr rfl
theorem k_notAgg_fn  (f : Nat) (cs : List AV) : notAgg (.fn f cs) = true := nr rfl
theorem k_notAgg_fs  (cs : List AV) : notAgg (.fs cs) = true := nr rfl
theorem k_notAgg_agg  (cs : List AV) : notAgg (.agg cs) = false := nr rfl
theorem k_notAgg_tup  (cs : List AV) : notAgg (.tup cs) = true := nr rfl
theorem k_contentsZ_u (st : St) (z : Nat)  : contentsZ st z .u = none := nr rfl
theorem k_contentsZ_no (st : St) (z : Nat)  : contentsZ st z .no = none := nr rfl
theorem k_contentsZ_ub (st : St) (z : Nat)  : contentsZ st z .ub = none := nr rfl
theorem k_contentsZ_b (st : St) (z : Nat) (x : Bool) : contentsZ st z (.b x) = none := nr rfl
theorem k_contentsZ_i (st : St) (z : Nat) (k : IntKind) (n : Int) : contentsZ st z (.i k n) = none := nr rfl
theorem k_contentsZ_s (st : St) (z : Nat) (x : ByteArray) : contentsZ st z (.s x) = none := nr rfl
theorem k_contentsZ_nil (st : St) (z : Nat)  : contentsZ st z .nil = some [] := nr rfl
theorem k_contentsZ_p (st : St) (z : Nat) (pl : Pl) : contentsZ st z (.p pl) = none := nr rfl
theorem k_contentsZ_pr (st : St) (z : Nat) (cs : List AV) : contentsZ st z (.pr cs) = none := nr rfl
theorem k_contentsZ_pn (st : St) (z : Nat)  : contentsZ st z .pn = none := nr rfl
theorem k_contentsZ_fn (st : St) (z : Nat) (f : Nat) (cs : List AV) : contentsZ st z (.fn f cs) = none := nr rfl
theorem k_contentsZ_fs (st : St) (z : Nat) (cs : List AV) : contentsZ st z (.fs cs) = none := nr rfl
theorem k_contentsZ_agg (st : St) (z : Nat) (cs : List AV) : contentsZ st z (.agg cs) = none := nr rfl
theorem k_contentsZ_tup (st : St) (z : Nat) (cs : List AV) : contentsZ st z (.tup cs) = none := nr rfl
theorem k_contentsZ_sl (st : St) (z y : Nat) (t : Tag) (es : List (List AV)) : contentsZ st z (.sl t y es) = if y = z then some es else none := nr rfl
theorem k_contentsZ_rf (st : St) (z y lo n : Nat) (pl : Pl) : contentsZ st z (.rf pl y lo n) = if y = z then contents st (.rf pl y lo n) else none := nr rfl
theorem k_roArg_u (own : Bool) (av : Option (Bool × Nat)) (st : St) (d : Nat)  : roArg own av st d .u = some .u := by cases d <;> simp only [roArg]
theorem k_roArg_no (own : Bool) (av : Option (Bool × Nat)) (st : St) (d : Nat)  : roArg own av st d .no = none := by cases d <;> simp only [roArg]
theorem k_roArg_ub (own : Bool) (av : Option (Bool × Nat)) (st : St) (d : Nat)  : roArg own av st d .ub = some .ub := by cases d <;> simp only [roArg]
theorem k_roArg_b (own : Bool) (av : Option (Bool × Nat)) (st : St) (d : Nat) (x : Bool) : roArg own av st d (.b x) = some (.b x) := by cases d <;> simp only [roArg]
theorem k_roArg_i (own : Bool) (av : Option (Bool × Nat)) (st : St) (d : Nat) (k : IntKind) (n : Int) : roArg own av st d (.i k n) = some (.i k n) := by cases d <;> simp only [roArg]
theorem k_roArg_s (own : Bool) (av : Option (Bool × Nat)) (st : St) (d : Nat) (x : ByteArray) : roArg own av st d (.s x) = some (.s x) := by cases d <;> simp only [roArg]
theorem k_roArg_nil (own : Bool) (av : Option (Bool × Nat)) (st : St) (d : Nat)  : roArg own av st d .nil = some .nil := by cases d <;> simp only [roArg]
theorem k_roArg_sl (own : Bool) (av : Option (Bool × Nat)) (st : St) (d : Nat) (t : Tag) (z : Nat) (es : List (List AV)) : roArg own av st d (.sl t z es) = some (.sl .ro z (stripLL es)) := by cases d <;> simp only [roArg]
theorem k_roArg_pr (own : Bool) (av : Option (Bool × Nat)) (st : St) (d : Nat) (cs : List AV) : roArg own av st d (.pr cs) = some (.pr cs) := by cases d <;> simp only [roArg]
theorem k_roArg_pn (own : Bool) (av : Option (Bool × Nat)) (st : St) (d : Nat)  : roArg own av st d .pn = some .pn := by cases d <;> simp only [roArg]
theorem k_roArg_agg (own : Bool) (av : Option (Bool × Nat)) (st : St) (d : Nat) (cs : List AV) : roArg own av st d (.agg cs) = none := by cases d <;> simp only [roArg]
theorem k_roArg_tup (own : Bool) (av : Option (Bool × Nat)) (st : St) (d : Nat) (cs : List AV) : roArg own av st d (.tup cs) = none := by cases d <;> simp only [roArg]
def prO (x : Option (List AV)) : Option AV := match x with
  | some cs => some (.pr cs)
  | none => none
def agO (x : Option (List AV)) : Option AV := match x with
  | some cs => some (.agg cs)
  | none => none
def fnO (f : Nat) (x : Option (List AV)) : Option AV := match x with
  | some cs => some (.fn f cs)
  | none => none
def fsO (x : Option (List AV)) : Option AV := match x with
  | some cs => some (.fs cs)
  | none => none
def coO (a : Option AV) (x : Option (List AV)) : Option (List AV) := match a, x with
  | some a, some l => some (a :: l)
  | _, _ => none
theorem k_roTop_u (own : Bool) (av : Option (Bool × Nat)) (st : St)  : roTop own av st .u = roArg own av st 8 .u := nr rfl
theorem k_roTop_no (own : Bool) (av : Option (Bool × Nat)) (st : St)  : roTop own av st .no = roArg own av st 8 .no := nr rfl
theorem k_roTop_ub (own : Bool) (av : Option (Bool × Nat)) (st : St)  : roTop own av st .ub = roArg own av st 8 .ub := nr rfl
theorem k_roTop_b (own : Bool) (av : Option (Bool × Nat)) (st : St) (x : Bool) : roTop own av st (.b x) = roArg own av st 8 (.b x) := nr rfl
theorem k_roTop_i (own : Bool) (av : Option (Bool × Nat)) (st : St) (k : IntKind) (n : Int) : roTop own av st (.i k n) = roArg own av st 8 (.i k n) := nr rfl
theorem k_roTop_s (own : Bool) (av : Option (Bool × Nat)) (st : St) (x : ByteArray) : roTop own av st (.s x) = roArg own av st 8 (.s x) := nr rfl
theorem k_roTop_nil (own : Bool) (av : Option (Bool × Nat)) (st : St)  : roTop own av st .nil = roArg own av st 8 .nil := nr rfl
theorem k_roTop_sl (own : Bool) (av : Option (Bool × Nat)) (st : St) (t : Tag) (z : Nat) (es : List (List AV)) : roTop own av st (.sl t z es) = roArg own av st 8 (.sl t z es) := nr rfl
theorem k_roTop_rf (own : Bool) (av : Option (Bool × Nat)) (st : St) (pl : Pl) (y : Nat) (lo : Nat) (n : Nat) : roTop own av st (.rf pl y lo n) = roArg own av st 8 (.rf pl y lo n) := nr rfl
theorem k_roTop_p (own : Bool) (av : Option (Bool × Nat)) (st : St) (pl : Pl) : roTop own av st (.p pl) = roArg own av st 8 (.p pl) := nr rfl
theorem k_roTop_pr (own : Bool) (av : Option (Bool × Nat)) (st : St) (cs : List AV) : roTop own av st (.pr cs) = roArg own av st 8 (.pr cs) := nr rfl
theorem k_roTop_pn (own : Bool) (av : Option (Bool × Nat)) (st : St)  : roTop own av st .pn = roArg own av st 8 .pn := nr rfl
theorem k_roTop_fn (own : Bool) (av : Option (Bool × Nat)) (st : St) (f : Nat) (cs : List AV) : roTop own av st (.fn f cs) = roArg own av st 8 (.fn f cs) := nr rfl
theorem k_roTop_fs (own : Bool) (av : Option (Bool × Nat)) (st : St) (cs : List AV) : roTop own av st (.fs cs) = roArg own av st 8 (.fs cs) := nr rfl
theorem k_roTop_agg (own : Bool) (av : Option (Bool × Nat)) (st : St) (cs : List AV) : roTop own av st (.agg cs) = agO (roArgL own av st 8 cs) := by simp only [roTop, agO]; cases roArgL own av st 8 cs <;> rfl
theorem k_roTop_tup (own : Bool) (av : Option (Bool × Nat)) (st : St) (cs : List AV) : roTop own av st (.tup cs) = roArg own av st 8 (.tup cs) := nr rfl
theorem k_prO (cs : List AV) : prO (some cs) = some (.pr cs) := nr rfl
theorem k_agO (cs : List AV) : agO (some cs) = some (.agg cs) := nr rfl
theorem k_fnO (f : Nat) (cs : List AV) : fnO f (some cs) = some (.fn f cs) := nr rfl
theorem k_fsO (cs : List AV) : fsO (some cs) = some (.fs cs) := nr rfl
theorem k_coO (a : AV) (l : List AV) : coO (some a) (some l) = some (a :: l) := nr rfl
theorem k_roArg_p1 (own : Bool) (av : Option (Bool × Nat)) (st : St) (pl : Pl) : roArg own av st 1 (.p pl) = if (own && avoids av pl && canWrite st pl) = true then prO (bindO (node st pl) (fun cells => roArgL own av st 0 (cells.drop pl.c))) else none := by
  simp only [roArg, bindO, prO]
  cases node st pl with
  | none => rfl
  | some cells => simp only []; cases roArgL own av st 0 (cells.drop pl.c) <;> rfl
theorem k_roArg_fs1 (own : Bool) (av : Option (Bool × Nat)) (st : St) (cs : List AV) : roArg own av st 1 (.fs cs) = fsO (roArgL own av st 0 cs) := by
  simp only [roArg, fsO]; cases roArgL own av st 0 cs <;> rfl
theorem k_roArg_fn1 (own : Bool) (av : Option (Bool × Nat)) (st : St) (f : Nat) (cs : List AV) : roArg own av st 1 (.fn f cs) = fnO f (roArgL own av st 0 cs) := by
  simp only [roArg, fnO]; cases roArgL own av st 0 cs <;> rfl
theorem k_roArg_p2 (own : Bool) (av : Option (Bool × Nat)) (st : St) (pl : Pl) : roArg own av st 2 (.p pl) = if (own && avoids av pl && canWrite st pl) = true then prO (bindO (node st pl) (fun cells => roArgL own av st 1 (cells.drop pl.c))) else none := by
  simp only [roArg, bindO, prO]
  cases node st pl with
  | none => rfl
  | some cells => simp only []; cases roArgL own av st 1 (cells.drop pl.c) <;> rfl
theorem k_roArg_fs2 (own : Bool) (av : Option (Bool × Nat)) (st : St) (cs : List AV) : roArg own av st 2 (.fs cs) = fsO (roArgL own av st 1 cs) := by
  simp only [roArg, fsO]; cases roArgL own av st 1 cs <;> rfl
theorem k_roArg_fn2 (own : Bool) (av : Option (Bool × Nat)) (st : St) (f : Nat) (cs : List AV) : roArg own av st 2 (.fn f cs) = fnO f (roArgL own av st 1 cs) := by
  simp only [roArg, fnO]; cases roArgL own av st 1 cs <;> rfl
theorem k_roArg_p3 (own : Bool) (av : Option (Bool × Nat)) (st : St) (pl : Pl) : roArg own av st 3 (.p pl) = if (own && avoids av pl && canWrite st pl) = true then prO (bindO (node st pl) (fun cells => roArgL own av st 2 (cells.drop pl.c))) else none := by
  simp only [roArg, bindO, prO]
  cases node st pl with
  | none => rfl
  | some cells => simp only []; cases roArgL own av st 2 (cells.drop pl.c) <;> rfl
theorem k_roArg_fs3 (own : Bool) (av : Option (Bool × Nat)) (st : St) (cs : List AV) : roArg own av st 3 (.fs cs) = fsO (roArgL own av st 2 cs) := by
  simp only [roArg, fsO]; cases roArgL own av st 2 cs <;> rfl
theorem k_roArg_fn3 (own : Bool) (av : Option (Bool × Nat)) (st : St) (f : Nat) (cs : List AV) : roArg own av st 3 (.fn f cs) = fnO f (roArgL own av st 2 cs) := by
  simp only [roArg, fnO]; cases roArgL own av st 2 cs <;> rfl
theorem k_roArg_p4 (own : Bool) (av : Option (Bool × Nat)) (st : St) (pl : Pl) : roArg own av st 4 (.p pl) = if (own && avoids av pl && canWrite st pl) = true then prO (bindO (node st pl) (fun cells => roArgL own av st 3 (cells.drop pl.c))) else none := by
  simp only [roArg, bindO, prO]
  cases node st pl with
  | none => rfl
  | some cells => simp only []; cases roArgL own av st 3 (cells.drop pl.c) <;> rfl
theorem k_roArg_fs4 (own : Bool) (av : Option (Bool × Nat)) (st : St) (cs : List AV) : roArg own av st 4 (.fs cs) = fsO (roArgL own av st 3 cs) := by
  simp only [roArg, fsO]; cases roArgL own av st 3 cs <;> rfl
theorem k_roArg_fn4 (own : Bool) (av : Option (Bool × Nat)) (st : St) (f : Nat) (cs : List AV) : roArg own av st 4 (.fn f cs) = fnO f (roArgL own av st 3 cs) := by
  simp only [roArg, fnO]; cases roArgL own av st 3 cs <;> rfl
theorem k_roArg_p5 (own : Bool) (av : Option (Bool × Nat)) (st : St) (pl : Pl) : roArg own av st 5 (.p pl) = if (own && avoids av pl && canWrite st pl) = true then prO (bindO (node st pl) (fun cells => roArgL own av st 4 (cells.drop pl.c))) else none := by
  simp only [roArg, bindO, prO]
  cases node st pl with
  | none => rfl
  | some cells => simp only []; cases roArgL own av st 4 (cells.drop pl.c) <;> rfl
theorem k_roArg_fs5 (own : Bool) (av : Option (Bool × Nat)) (st : St) (cs : List AV) : roArg own av st 5 (.fs cs) = fsO (roArgL own av st 4 cs) := by
  simp only [roArg, fsO]; cases roArgL own av st 4 cs <;> rfl
theorem k_roArg_fn5 (own : Bool) (av : Option (Bool × Nat)) (st : St) (f : Nat) (cs : List AV) : roArg own av st 5 (.fn f cs) = fnO f (roArgL own av st 4 cs) := by
  simp only [roArg, fnO]; cases roArgL own av st 4 cs <;> rfl
theorem k_roArg_p6 (own : Bool) (av : Option (Bool × Nat)) (st : St) (pl : Pl) : roArg own av st 6 (.p pl) = if (own && avoids av pl && canWrite st pl) = true then prO (bindO (node st pl) (fun cells => roArgL own av st 5 (cells.drop pl.c))) else none := by
  simp only [roArg, bindO, prO]
  cases node st pl with
  | none => rfl
  | some cells => simp only []; cases roArgL own av st 5 (cells.drop pl.c) <;> rfl
theorem k_roArg_fs6 (own : Bool) (av : Option (Bool × Nat)) (st : St) (cs : List AV) : roArg own av st 6 (.fs cs) = fsO (roArgL own av st 5 cs) := by
  simp only [roArg, fsO]; cases roArgL own av st 5 cs <;> rfl
theorem k_roArg_fn6 (own : Bool) (av : Option (Bool × Nat)) (st : St) (f : Nat) (cs : List AV) : roArg own av st 6 (.fn f cs) = fnO f (roArgL own av st 5 cs) := by
  simp only [roArg, fnO]; cases roArgL own av st 5 cs <;> rfl
theorem k_roArg_p7 (own : Bool) (av : Option (Bool × Nat)) (st : St) (pl : Pl) : roArg own av st 7 (.p pl) = if (own && avoids av pl && canWrite st pl) = true then prO (bindO (node st pl) (fun cells => roArgL own av st 6 (cells.drop pl.c))) else none := by
  simp only [roArg, bindO, prO]
  cases node st pl with
  | none => rfl
  | some cells => simp only []; cases roArgL own av st 6 (cells.drop pl.c) <;> rfl
theorem k_roArg_fs7 (own : Bool) (av : Option (Bool × Nat)) (st : St) (cs : List AV) : roArg own av st 7 (.fs cs) = fsO (roArgL own av st 6 cs) := by
  simp only [roArg, fsO]; cases roArgL own av st 6 cs <;> rfl
theorem k_roArg_fn7 (own : Bool) (av : Option (Bool × Nat)) (st : St) (f : Nat) (cs : List AV) : roArg own av st 7 (.fn f cs) = fnO f (roArgL own av st 6 cs) := by
  simp only [roArg, fnO]; cases roArgL own av st 6 cs <;> rfl
theorem k_roArg_p8 (own : Bool) (av : Option (Bool × Nat)) (st : St) (pl : Pl) : roArg own av st 8 (.p pl) = if (own && avoids av pl && canWrite st pl) = true then prO (bindO (node st pl) (fun cells => roArgL own av st 7 (cells.drop pl.c))) else none := by
  simp only [roArg, bindO, prO]
  cases node st pl with
  | none => rfl
  | some cells => simp only []; cases roArgL own av st 7 (cells.drop pl.c) <;> rfl
theorem k_roArg_fs8 (own : Bool) (av : Option (Bool × Nat)) (st : St) (cs : List AV) : roArg own av st 8 (.fs cs) = fsO (roArgL own av st 7 cs) := by
  simp only [roArg, fsO]; cases roArgL own av st 7 cs <;> rfl
theorem k_roArg_fn8 (own : Bool) (av : Option (Bool × Nat)) (st : St) (f : Nat) (cs : List AV) : roArg own av st 8 (.fn f cs) = fnO f (roArgL own av st 7 cs) := by
  simp only [roArg, fnO]; cases roArgL own av st 7 cs <;> rfl
theorem k_roArgL_nil (own : Bool) (av : Option (Bool × Nat)) (st : St) (d : Nat) : roArgL own av st d [] = some [] := by simp only [roArgL]
theorem k_roArgL_cons (own : Bool) (av : Option (Bool × Nat)) (st : St) (d : Nat) (a : AV) (l : List AV) : roArgL own av st d (a :: l) = coO (roArg own av st d a) (roArgL own av st d l) := by
  simp only [roArgL, coO]
  cases roArg own av st d a with
  | none => rfl
  | some a' => simp only []; cases roArgL own av st d l <;> rfl
def ownT (own : Bool) : Tag → Bool
  | .mut => own
  | _ => true
def subO (own : Bool) (y lo n : Nat) (a : Option AV) : Option AV := match a with
  | some (.sl t z es) => if (lo + n ≤ es.length ∧ y = z) ∧ ownT own t = true then some (.sl .ro y (stripLL ((es.drop lo).take n))) else none
  | _ => none
theorem k_ownT_mut (own : Bool) : ownT own .mut = own := nr rfl
theorem k_ownT_ro (own : Bool) : ownT own .ro = true := nr rfl
theorem k_ownT_app (own : Bool) : ownT own .app = true := nr rfl
theorem k_roArg_rf (own : Bool) (av : Option (Bool × Nat)) (st : St) (d : Nat) (pl : Pl) (y lo n : Nat) : roArg own av st d (.rf pl y lo n) = if avoids av pl = true then bindO (node st pl) (fun cells => subO own y lo n cells[pl.c]?) else none := by
  cases d <;> (simp only [roArg, bindO, subO]; split <;> (try rfl); cases node st pl with
    | none => rfl
    | some cells => simp only []; cases cells[pl.c]? with
      | none => rfl
      | some a => cases a <;> (try rfl); rename_i t z es; cases t <;> cases own <;> simp [ownT])
theorem k_contents_u (st : St)  : contents st .u = none := nr rfl
theorem k_contents_no (st : St)  : contents st .no = none := nr rfl
theorem k_contents_ub (st : St)  : contents st .ub = none := nr rfl
theorem k_contents_b (st : St) (x : Bool) : contents st (.b x) = none := nr rfl
theorem k_contents_i (st : St) (k : IntKind) (n : Int) : contents st (.i k n) = none := nr rfl
theorem k_contents_s (st : St) (x : ByteArray) : contents st (.s x) = none := nr rfl
theorem k_contents_nil (st : St)  : contents st .nil = some [] := nr rfl
theorem k_contents_sl (st : St) (t : Tag) (z : Nat) (es : List (List AV)) : contents st (.sl t z es) = some es := nr rfl
theorem k_contents_p (st : St) (pl : Pl) : contents st (.p pl) = none := nr rfl
theorem k_contents_pr (st : St) (cs : List AV) : contents st (.pr cs) = none := nr rfl
theorem k_contents_pn (st : St)  : contents st .pn = none := nr rfl
theorem k_contents_fn (st : St) (f : Nat) (cs : List AV) : contents st (.fn f cs) = none := nr rfl
theorem k_contents_fs (st : St) (cs : List AV) : contents st (.fs cs) = none := nr rfl
theorem k_contents_agg (st : St) (cs : List AV) : contents st (.agg cs) = none := nr rfl
theorem k_contents_tup (st : St) (cs : List AV) : contents st (.tup cs) = none := nr rfl
theorem k_lenT_s (st : St) (x : ByteArray) : lenT st .str (.s x) = some x.size := nr rfl
theorem k_notInt_s  : notInt .str = true := nr rfl
theorem k_notInt_sl (z b : Nat) (zero : List AV) : notInt (.slice z b zero) = true := nr rfl
theorem k_lenT_sl (st : St) (z b : Nat) (zero : List AV) (a : AV) : lenT st (.slice z b zero) a = lenOf st a := nr rfl
theorem k_sliceT_s (b : ByteArray) (lo hi : Option AV) : sliceT .str (.s b) lo hi = sliceOp (.s b) lo hi := nr rfl
theorem k_sliceT_sl (b : Nat) (zero : List AV) (t : Tag) (z : Nat) (es : List (List AV)) (lo hi : Option AV) : sliceT (.slice z b zero) (.sl t z es) lo hi = sliceOp (.sl t z es) lo hi := by simp only [sliceT, if_true]
theorem k_sliceT_rf (b : Nat) (zero : List AV) (z : Nat) (pl : Pl) (o n : Nat) (lo hi : Option AV) : sliceT (.slice z b zero) (.rf pl z o n) lo hi = sliceOp (.rf pl z o n) lo hi := by simp only [sliceT, if_true]
theorem k_lenOf_u (st : St)  : lenOf st .u = none := nr rfl
theorem k_lenOf_no (st : St)  : lenOf st .no = none := nr rfl
theorem k_lenOf_ub (st : St)  : lenOf st .ub = none := nr rfl
theorem k_lenOf_b (st : St) (x : Bool) : lenOf st (.b x) = none := nr rfl
theorem k_lenOf_i (st : St) (k : IntKind) (n : Int) : lenOf st (.i k n) = none := nr rfl
theorem k_lenOf_s (st : St) (x : ByteArray) : lenOf st (.s x) = none := nr rfl
theorem k_lenOf_nil (st : St)  : lenOf st .nil = some 0 := nr rfl
theorem k_lenOf_sl (st : St) (t : Tag) (z : Nat) (es : List (List AV)) : lenOf st (.sl t z es) = some es.length := nr rfl
theorem k_lenOf_p (st : St) (pl : Pl) : lenOf st (.p pl) = none := nr rfl
theorem k_lenOf_pr (st : St) (cs : List AV) : lenOf st (.pr cs) = none := nr rfl
theorem k_lenOf_pn (st : St)  : lenOf st .pn = none := nr rfl
theorem k_lenOf_fn (st : St) (f : Nat) (cs : List AV) : lenOf st (.fn f cs) = none := nr rfl
theorem k_lenOf_fs (st : St) (cs : List AV) : lenOf st (.fs cs) = some cs.length := nr rfl
theorem k_lenOf_agg (st : St) (cs : List AV) : lenOf st (.agg cs) = none := nr rfl
theorem k_lenOf_tup (st : St) (cs : List AV) : lenOf st (.tup cs) = none := nr rfl
def lenR (y n lo : Nat) (a : Option AV) : Option Nat := match a with
  | some (.sl _ z es) => if lo + n ≤ es.length ∧ y = z then some ((es.drop lo).take n).length else none
  | _ => none
def conR (y n lo : Nat) (a : Option AV) : Option (List (List AV)) := match a with
  | some (.sl _ z es) => if lo + n ≤ es.length ∧ y = z then some ((es.drop lo).take n) else none
  | _ => none
theorem k_contents_rf (st : St) (pl : Pl) (y lo n : Nat) : contents st (.rf pl y lo n) = bindO (node st pl) (fun cells => conR y n lo cells[pl.c]?) := by simp only [contents, bindO, conR]; cases node st pl <;> rfl
theorem k_lenOf_rf (st : St) (pl : Pl) (y lo n : Nat) : lenOf st (.rf pl y lo n) = bindO (node st pl) (fun cells => lenR y n lo cells[pl.c]?) := by
  simp only [lenOf, contents, bindO, lenR]
  cases node st pl with
  | none => rfl
  | some cells =>
    simp only []
    cases cells[pl.c]? with
    | none => rfl
    | some a =>
      cases a <;> try rfl
      rename_i t z es
      simp only []
      by_cases h : lo + n ≤ es.length ∧ y = z
      · simp only [if_pos h]
      · simp only [if_neg h]
theorem k_bin_i (ti : Option TI) (op : BinOp) (k : IntKind) (a b : Int) : bin ti op (.i k a) (.i k b) = binI op k a b := by simp only [bin, if_true]
theorem k_bin_s (ti : Option TI) (op : BinOp) (a b : ByteArray) : bin ti op (.s a) (.s b) = binS op a b := nr rfl
theorem k_bin_b (op : BinOp) (a b : Bool) : bin (some .bool) op (.b a) (.b b) = eqB op (a == b) := nr rfl
theorem k_bin_p (op : BinOp) (q : Pl) : bin (some .ptr) op (.p q) .pn = eqB op false := nr rfl
theorem k_bin_pr (op : BinOp) (q : List AV) : bin (some .ptr) op (.pr q) .pn = eqB op false := nr rfl
theorem k_bin_pn (op : BinOp) : bin (some .ptr) op .pn .pn = eqB op true := nr rfl
theorem k_binI_add (k : IntKind) (a b : Int) : binI .add k a b = some (.i k (k.wrap (a + b))) := nr rfl
theorem k_binI_sub (k : IntKind) (a b : Int) : binI .sub k a b = some (.i k (k.wrap (a - b))) := nr rfl
theorem k_binI_mul (k : IntKind) (a b : Int) : binI .mul k a b = some (.i k (k.wrap (a * b))) := nr rfl
theorem k_binI_eql (k : IntKind) (a b : Int) : binI .eql k a b = some (.b (a == b)) := nr rfl
theorem k_binI_neq (k : IntKind) (a b : Int) : binI .neq k a b = some (.b (a != b)) := nr rfl
theorem k_binI_lss (k : IntKind) (a b : Int) : binI .lss k a b = some (.b (decide (a < b))) := nr rfl
theorem k_binI_leq (k : IntKind) (a b : Int) : binI .leq k a b = some (.b (decide (a ≤ b))) := nr rfl
theorem k_binI_gtr (k : IntKind) (a b : Int) : binI .gtr k a b = some (.b (decide (a > b))) := nr rfl
theorem k_binI_geq (k : IntKind) (a b : Int) : binI .geq k a b = some (.b (decide (a ≥ b))) := nr rfl
theorem k_binI_quo (k : IntKind) (a b : Int) : binI .quo k a b = if b = 0 then none else some (.i k (k.wrap (a.tdiv b))) := nr rfl
theorem k_binI_rem (k : IntKind) (a b : Int) : binI .rem k a b = if b = 0 then none else some (.i k (a.tmod b)) := nr rfl
theorem k_binS_eql (a b : ByteArray) : binS .eql a b = some (.b (a.toList == b.toList)) := nr rfl
theorem k_binS_neq (a b : ByteArray) : binS .neq a b = some (.b !(a.toList == b.toList)) := nr rfl
theorem k_binS_lss (a b : ByteArray) : binS .lss a b = some (.b (Op.bytesLess a.toList b.toList)) := nr rfl
theorem k_binS_add (a b : ByteArray) : binS .add a b = if a.size + b.size ≤ 9223372036854775807 then some (.s (a ++ b)) else none := nr rfl
def andO (e : Bool) (x : Option Bool) : Option Bool := match x with
  | some y => some (e && y)
  | none => none
theorem k_andO (e y : Bool) : andO e (some y) = some (e && y) := nr rfl
theorem k_un_not (x : Bool) : unV .not (.b x) = some (.b !x) := nr rfl
theorem k_un_neg (k : IntKind) (n : Int) : unV .neg (.i k n) = some (.i k (k.wrap (0 - n))) := nr rfl
theorem k_av_b (x : Bool) : avOf (.bool x) = .b x := nr rfl
theorem k_av_i (k : IntKind) (n : Int) : avOf (.int k n) = .i k n := nr rfl
theorem k_av_s (x : ByteArray) : avOf (.string x) = .s x := nr rfl
theorem k_av_nil  : avOf (.slice none 0 0) = .nil := nr rfl
theorem k_av_pn  : avOf (.pointer none) = .pn := nr rfl
theorem k_bin_slnil (T : Option TI) (op : BinOp) (t : Tag) (z : Nat) (es : List (List AV)) : bin T op (.sl t z es) .nil = nilCmp T op es.length := nr rfl
theorem k_bin_rfnil (T : Option TI) (op : BinOp) (q : Pl) (z lo n : Nat) : bin T op (.rf q z lo n) .nil = nilCmp T op n := nr rfl
theorem k_nilCmp_eql (z b : Nat) (ze : List AV) (n : Nat) : nilCmp (some (.slice z b ze)) .eql n = if 0 < n then some (.b false) else some .ub := nr rfl
theorem k_nilCmp_neq (z b : Nat) (ze : List AV) (n : Nat) : nilCmp (some (.slice z b ze)) .neq n = if 0 < n then some (.b true) else some .ub := nr rfl
def extK (f : Nat → AV) (g : Nat → List AV) (t j : Nat) (a : AV) : Option (AV × St) := match a with
  | .tup vs => match vs[j]? with
    | some v => some (v, ⟨upd f t (.tup (vs.set j .u)), g⟩)
    | none => none
  | _ => none
def extO (f : Nat → AV) (g : Nat → List AV) (t j : Nat) (vs : List AV) (x : Option AV) : Option (AV × St) := match x with
  | some v => some (v, ⟨upd f t (.tup (vs.set j .u)), g⟩)
  | none => none
theorem k_extract (f : Nat → AV) (g : Nat → List AV) (t j : Nat) : extractV ⟨f, g⟩ (.tmp t) j = extK f g t j (f t) := by simp only [extractV, extK]; cases f t <;> rfl
theorem k_extK (f : Nat → AV) (g : Nat → List AV) (t j : Nat) (vs : List AV) : extK f g t j (.tup vs) = extO f g t j vs vs[j]? := by simp only [extK, extO]
theorem k_extO (f : Nat → AV) (g : Nat → List AV) (t j : Nat) (vs : List AV) (v : AV) : extO f g t j vs (some v) = some (v, ⟨upd f t (.tup (vs.set j .u)), g⟩) := nr rfl
attribute [go_sem ↓] evN_skip evN_seq evN_cond evN_ret evN_region conN_true conN_false evCode_skip evCode_exit evCode_ret evCode_region evCode_draw evPlan_done evPlan_take evPlan_one evPlan_alt evCode_seq evCode_block evCode_cond evCode_loop evalOps_nil evalOps_cons evalOps_cons' opS_plain opS_guard guardS_tt guardS_ff guardS_tf guardS_ft guardS_no bindO_some seqE_nor seqE_ret seqE_ex guardD_some condE_true condE_false dstAt_zero dstAt_succ pickO_true pickO_false op_move op_assign op_pick op_alloc op_box op_load op_store op_nilCheck op_fieldAddr op_field op_indexAddr op_index op_bin op_un op_convert op_slice op_makeFunc op_extract op_build op_buildSlice op_makeSlice op_len op_append op_clear op_min op_max op_call doCall_O argVs_O callWk_O callWk_T callO_K rwK_none rwK_some callM_ro k_eK_true k_eK_false k_eB_true k_eB_false
attribute [go_sem] convS_int convS_str convS_sl bytesV_s isU8 moveT_tmp moveE_tup putN_none putN_some isNp_np isNp_nil isNp_two finX_some finX_none finN_eq npOut_nil npOut_tmp npOut_cell npOut_two npP_p weakW_nil weakW_t weakW_f weakC_mut weakC_app weakC_ro weakC_u conN_true conN_false conN_ub both?_self rwP_p callW_O rwA_agg rwR_eq callW2_O othRo_zero othRo_succ weakAll_nil weakAll_ro weakAll_rw weakAll_mv weakArg_V weakAgg_zero weakG_agg weakAgg_succ weakLeaf_rf weakO_some weakN_mut weakN_ro weakN_app outArgs_nil consY_eq outArgs_mv outArgs_ro outArg_A outA1_eq outA2_eq outA_agg outA_rf outA_sl outA_nil outAgg_zero outP_eq outG_agg outAgg_succ outC_mut outLeaf_rf clrC_mut clearV_rf okPl_none okPl_true okN_some okPl_false fillAll_nil fillAll_none fillAll_some fillAll_end fillLeaves_nil fillLeaves_cons fillLeaf_none fillT_u fillLeaf_true fillC_u fillLeaf_false getOp_zero getOp_succ takeK_true same?_self stepOp_plain stepOp_guard stepD_some stepG_tt stepG_ff stepG_tf stepG_ft stepG_no stepG_b stU skS resL_cell isPure lateOp growOp growFn callM_O rwIx_nil rwIx_ro rwIx_mv rwIx_rw inArgs_nil inArgs_cons inArg_ro inArg_mv inArg_rw inO_some ans1_eq ansK finish_O finB_eq resL_nil resL_cons resC_eq trim? trim_EB inE guardS_b opU skU bindO_some bindO_none bindO_ite seqE_nor seqE_ret seqE_ex seqE_none seqE_ite guardS_tt guardS_ff guardS_tf guardS_ft guardS_no guardD_some condE_true condE_false condE_b pickO_true pickO_false pickO_b norS_some norS_none norS_ite blkE_nor blkE_ret blkE_ex blkE_none blkE_ite finE_nor finE_ret finE_none finE_ite dstAt_zero dstAt_succ jA_self jA_b jA_i jA_s jA_sl jA_agg jL_self jL sameLen jE jB keysE keysB join_st join_ex
  k_viewLeaf_u k_viewLeaf_no k_viewLeaf_ub k_viewLeaf_b k_viewLeaf_i k_viewLeaf_s k_viewLeaf_nil k_viewLeaf_rf k_viewLeaf_p k_viewLeaf_pr k_viewLeaf_pn k_viewLeaf_fn k_viewLeaf_fs k_viewLeaf_agg k_viewLeaf_tup k_viewLeaf_app k_viewLeaf_mut k_viewLeaf_ro k_viewTmp k_viewC k_viewF k_viewA_u k_viewA_no k_viewA_ub k_viewA_i k_viewA_nil k_viewA_rf k_viewA_p k_viewA_pr k_viewA_pn k_viewA_fn k_viewA_fs k_viewA_agg k_viewA_tup k_viewA_b k_viewA_s k_viewA_app k_viewA_mut k_viewA_ro k_viewCells_nil k_viewCells_cons k_isSl_u k_isSl_no k_isSl_ub k_isSl_b k_isSl_i k_isSl_s k_isSl_nil k_isSl_sl k_isSl_rf k_isSl_p k_isSl_pr k_isSl_pn k_isSl_fn k_isSl_fs k_isSl_agg k_isSl_tup k_isNp_u k_isNp_no k_isNp_ub k_isNp_b k_isNp_i k_isNp_s k_isNp_nil k_isNp_sl k_isNp_rf k_isNp_p k_isNp_pr k_isNp_pn k_isNp_fn k_isNp_fs k_isNp_agg k_npP_u k_npP_no k_npP_ub k_npP_b k_npP_i k_npP_s k_npP_nil k_npP_sl k_npP_rf k_npP_pr k_npP_pn k_npP_fn k_npP_fs k_npP_agg k_npP_tup k_hasSl_u k_hasSl_no k_hasSl_ub k_hasSl_b k_hasSl_i k_hasSl_s k_hasSl_nil k_hasSl_sl k_hasSl_rf k_hasSl_p k_hasSl_pr k_hasSl_pn k_hasSl_fn k_hasSl_fs k_hasSl_agg k_hasSl_tup k_noRf_u k_noRf_no k_noRf_ub k_noRf_b k_noRf_i k_noRf_s k_noRf_nil k_noRf_sl k_noRf_rf k_noRf_p k_noRf_pr k_noRf_pn k_noRf_fn k_noRf_fs k_noRf_agg k_noRf_tup k_rowOk_u k_rowOk_no k_rowOk_ub k_rowOk_b k_rowOk_i k_rowOk_s k_rowOk_nil k_rowOk_sl k_rowOk_rf k_rowOk_p k_rowOk_pr k_rowOk_pn k_rowOk_fn k_rowOk_fs k_rowOk_agg k_rowOk_tup k_top_u k_top_no k_top_ub k_top_b k_top_i k_top_s k_top_nil k_top_sl k_top_rf k_top_p k_top_pr k_top_pn k_top_fn k_top_fs k_top_agg k_top_tup k_isFn_u k_isFn_no k_isFn_ub k_isFn_b k_isFn_i k_isFn_s k_isFn_nil k_isFn_sl k_isFn_rf k_isFn_p k_isFn_pr k_isFn_pn k_isFn_fn k_isFn_fs k_isFn_agg k_isFn_tup k_leafA_u k_leafA_no k_leafA_ub k_leafA_b k_leafA_i k_leafA_s k_leafA_nil k_leafA_sl k_leafA_rf k_leafA_p k_leafA_pr k_leafA_pn k_leafA_fn k_leafA_fs k_leafA_agg k_leafA_tup k_fsV_nil k_fsK k_fsV_cons k_cellsOf_u k_cellsOf_no k_cellsOf_ub k_cellsOf_b k_cellsOf_i k_cellsOf_s k_cellsOf_nil k_cellsOf_sl k_cellsOf_rf k_cellsOf_p k_cellsOf_pr k_cellsOf_pn k_cellsOf_fn k_cellsOf_fs k_cellsOf_agg k_cellsOf_tup k_plain_u k_plain_no k_plain_ub k_plain_b k_plain_i k_plain_s k_plain_nil k_plain_rf k_plain_p k_plain_pr k_plain_pn k_plain_fn k_plain_fs k_plain_agg k_plain_tup k_plain_ro k_fix_u k_fix_no k_fix_ub k_fix_b k_fix_i k_fix_s k_fix_sl k_fix_rf k_fix_p k_fix_pr k_fix_pn k_fix_fn k_fix_fs k_fix_agg k_fix_tup k_fix_nil0 k_fix_nil k_fix_nil_1 k_fix_nil_2 k_fix_nil_3 k_fix_nil_4 k_fix_nil_5 k_fix_nil_6 k_fix_nil_7 k_fix_nil_8 k_fix_nil_9 k_fix_nil_10 k_fix_nil_11 k_filt_u k_filt_no k_filt_ub k_filt_b k_filt_i k_filt_s k_filt_nil k_filt_sl k_filt_pr k_filt_pn k_filt_fn k_filt_fs k_filt_agg k_filt_tup k_fA_true k_fA_false k_filt_p k_filt_rf k_filtL_nil k_filtL_cons k_takeLeaf_u k_takeLeaf_no k_takeLeaf_ub k_takeLeaf_b k_takeLeaf_i k_takeLeaf_s k_takeLeaf_nil k_takeLeaf_sl k_takeLeaf_rf k_takeLeaf_p k_takeLeaf_pr k_takeLeaf_pn k_takeLeaf_fn k_takeLeaf_fs k_takeLeaf_agg k_takeLeaf_tup k_takeVal_u k_takeVal_no k_takeVal_ub k_takeVal_b k_takeVal_i k_takeVal_s k_takeVal_nil k_takeVal_sl k_takeVal_rf k_takeVal_p k_takeVal_pr k_takeVal_pn k_takeVal_fn k_takeVal_fs k_takeVal_tup k_takeVal_agg' k_isRf_u k_isRf_no k_isRf_ub k_isRf_b k_isRf_i k_isRf_s k_isRf_nil k_isRf_sl k_isRf_rf k_isRf_p k_isRf_pr k_isRf_pn k_isRf_fn k_isRf_fs k_isRf_agg k_isRf_tup k_gone k_aggO k_consO k_takeL_nil k_takeL_cons k_take_tmp k_takeT_u k_takeT_no k_takeT_ub k_takeT_b k_takeT_i k_takeT_s k_takeT_nil k_takeT_sl k_takeT_rf k_takeT_p k_takeT_pr k_takeT_pn k_takeT_fn k_takeT_fs k_takeT_agg k_takeT_tup k_takeA_true k_takeA_false k_take_const k_take_func k_put k_putK_false k_putK_true k_putS k_putN k_isK k_eK_true k_eK_false k_eB_true k_eB_false k_E_cons k_B_cons E_nil B_nil upd_E upd_B filt_EB mapE mapB pickE pickB keep_some keep_none entry_eq entE entB k_clear k_env k_bx k_newBox k_newBoxO k_newK_true k_newK_false k_size_bool k_ag_bool k_z_bool k_zero_bool k_size_int k_ag_int k_z_int k_zero_int k_size_str k_ag_str k_z_str k_zero_str k_size_ptr k_ag_ptr k_z_ptr k_zero_ptr k_size_fn k_ag_fn k_z_fn k_zero_fn k_size_slice k_ag_slice k_z_slice k_zero_slice k_size_struct k_ag_struct k_z_struct k_zero_struct k_size_array k_ag_array k_z_array k_zero_array k_zOf k_zK_some k_zK_none k_fieldOff k_offV_p k_offV_pr k_drop_zero k_drop_succ k_take_zero k_take_succ k_drop_nil k_fieldV fldV k_loadAt_p k_loadAt_pr partV k_node k_canWrite k_root_true k_root_false k_nav_nil k_wrt_nil k_nav_cons k_navK k_wrt_cons k_wrtK_mut k_wrtK_ro k_wrtK_app k_stepAt k_stepK k_rowK k_navSet_nil k_navSet_cons k_setK k_set_zero k_set_succ k_setNode_false k_setNode_true k_reAgg_u k_reAgg_no k_reAgg_ub k_reAgg_b k_reAgg_i k_reAgg_s k_reAgg_nil k_reAgg_sl k_reAgg_rf k_reAgg_p k_reAgg_pr k_reAgg_pn k_reAgg_fn k_reAgg_fs k_reAgg_agg k_reAgg_tup k_headD St.cut keepP keepR through samePath offRoot within setCells storeAt takeRf bound sliceOp buildV buildSliceV viewParts sliceParts fillL boxV appendTo appendV doAppend appendBy appendStr appendRest appendOwn makeV convV fixL fixC avoids isRoMd rwB outL outLen one eqB stripL stripLL whole Md.isMv Md.isRw k_indexAddrV k_iaR k_iaF k_iaM_mut k_iaM_ro k_iaM_app k_iaC k_ixS k_indexAddr_ro k_indexAddr_fs k_indexAddr_rf k_indexV_a k_arr5 k_indexV_s k_nilV_u k_nilV_no k_nilV_ub k_nilV_b k_nilV_i k_nilV_s k_nilV_nil k_nilV_sl k_nilV_rf k_nilV_p k_nilV_pr k_nilV_pn k_nilV_fn k_nilV_fs k_nilV_agg k_nilV_tup k_fnV k_strip_u k_strip_no k_strip_ub k_strip_b k_strip_i k_strip_s k_strip_nil k_strip_sl k_strip_rf k_strip_p k_strip_pr k_strip_pn k_strip_fn k_strip_fs k_strip_agg k_strip_tup k_hasRo_u k_hasRo_no k_hasRo_ub k_hasRo_b k_hasRo_i k_hasRo_s k_hasRo_nil k_hasRo_rf k_hasRo_p k_hasRo_pr k_hasRo_pn k_hasRo_fn k_hasRo_fs k_hasRo_agg k_hasRo_tup k_hasRo_ro k_hasRo_app k_hasRo_mut k_hasRoL_nil k_hasRoL_cons k_okLeaf_u k_okLeaf_no k_okLeaf_ub k_okLeaf_b k_okLeaf_i k_okLeaf_s k_okLeaf_nil k_okLeaf_sl k_okLeaf_rf k_okLeaf_p k_okLeaf_pr k_okLeaf_pn k_okLeaf_fn k_okLeaf_fs k_okLeaf_agg k_okLeaf_tup k_binX_u k_binX_no k_binX_ub k_binX_b k_binX_i k_binX_s k_binX_nil k_binX_sl k_binX_rf k_binX_p k_binX_pr k_binX_pn k_binX_fn k_binX_fs k_binX_tup k_binX_agg k_eqR k_andX k_eqCells_nil k_eqCells_b k_eqCells_i k_eqCells_s k_capLf_u k_capLf_no k_capLf_ub k_capLf_b k_capLf_i k_capLf_s k_capLf_nil k_capLf_rf k_capLf_p k_capLf_pr k_capLf_pn k_capLf_fn k_capLf_fs k_capLf_agg k_capLf_tup k_capLf_ro k_capOk_u k_capOk_no k_capOk_ub k_capOk_b k_capOk_i k_capOk_s k_capOk_nil k_capOk_sl k_capOk_rf k_capOk_p k_capOk_pr k_capOk_pn k_capOk_fn k_capOk_fs k_capOk_agg k_capOk_tup k_frozenBox k_outLeaf_u k_outLeaf_no k_outLeaf_ub k_outLeaf_b k_outLeaf_i k_outLeaf_s k_outLeaf_nil k_outLeaf_sl k_outLeaf_p k_outLeaf_pr k_outLeaf_pn k_outLeaf_fn k_outLeaf_fs k_outLeaf_agg k_outLeaf_tup k_fillLeaf_u k_fillLeaf_no k_fillLeaf_ub k_fillLeaf_b k_fillLeaf_i k_fillLeaf_s k_fillLeaf_nil k_fillLeaf_rf k_fillLeaf_p k_fillLeaf_pr k_fillLeaf_pn k_fillLeaf_fn k_fillLeaf_fs k_fillLeaf_agg k_fillLeaf_tup k_weakLeaf_u k_weakLeaf_no k_weakLeaf_ub k_weakLeaf_b k_weakLeaf_i k_weakLeaf_s k_weakLeaf_nil k_weakLeaf_sl k_weakLeaf_p k_weakLeaf_pr k_weakLeaf_pn k_weakLeaf_fn k_weakLeaf_fs k_weakLeaf_agg k_weakLeaf_tup k_weakV_u k_weakV_no k_weakV_ub k_weakV_b k_weakV_i k_weakV_s k_weakV_nil k_weakV_sl k_weakV_rf k_weakV_p k_weakV_pr k_weakV_pn k_weakV_fn k_weakV_fs k_weakV_agg k_weakV_tup k_notAgg_u k_notAgg_no k_notAgg_ub k_notAgg_b k_notAgg_i k_notAgg_s k_notAgg_nil k_notAgg_sl k_notAgg_rf k_notAgg_p k_notAgg_pr k_notAgg_pn k_notAgg_fn k_notAgg_fs k_notAgg_agg k_notAgg_tup k_contentsZ_u k_contentsZ_no k_contentsZ_ub k_contentsZ_b k_contentsZ_i k_contentsZ_s k_contentsZ_nil k_contentsZ_p k_contentsZ_pr k_contentsZ_pn k_contentsZ_fn k_contentsZ_fs k_contentsZ_agg k_contentsZ_tup k_contentsZ_sl k_contentsZ_rf k_roArg_u k_roArg_no k_roArg_ub k_roArg_b k_roArg_i k_roArg_s k_roArg_nil k_roArg_sl k_roArg_pr k_roArg_pn k_roArg_agg k_roArg_tup k_roTop_u k_roTop_no k_roTop_ub k_roTop_b k_roTop_i k_roTop_s k_roTop_nil k_roTop_sl k_roTop_rf k_roTop_p k_roTop_pr k_roTop_pn k_roTop_fn k_roTop_fs k_roTop_agg k_roTop_tup k_prO k_agO k_fnO k_fsO k_coO k_roArg_p1 k_roArg_fs1 k_roArg_fn1 k_roArg_p2 k_roArg_fs2 k_roArg_fn2 k_roArg_p3 k_roArg_fs3 k_roArg_fn3 k_roArg_p4 k_roArg_fs4 k_roArg_fn4 k_roArg_p5 k_roArg_fs5 k_roArg_fn5 k_roArg_p6 k_roArg_fs6 k_roArg_fn6 k_roArg_p7 k_roArg_fs7 k_roArg_fn7 k_roArg_p8 k_roArg_fs8 k_roArg_fn8 k_roArgL_nil k_roArgL_cons k_ownT_mut k_ownT_ro k_ownT_app k_roArg_rf subO k_contents_u k_contents_no k_contents_ub k_contents_b k_contents_i k_contents_s k_contents_nil k_contents_sl k_contents_p k_contents_pr k_contents_pn k_contents_fn k_contents_fs k_contents_agg k_contents_tup k_lenT_s k_notInt_s k_notInt_sl k_lenT_sl k_sliceT_s k_sliceT_sl k_sliceT_rf k_lenOf_u k_lenOf_no k_lenOf_ub k_lenOf_b k_lenOf_i k_lenOf_s k_lenOf_nil k_lenOf_sl k_lenOf_p k_lenOf_pr k_lenOf_pn k_lenOf_fn k_lenOf_fs k_lenOf_agg k_lenOf_tup k_contents_rf k_lenOf_rf lenR conR k_bin_i k_bin_s k_bin_b k_bin_p k_bin_pr k_bin_pn k_binI_add k_binI_sub k_binI_mul k_binI_eql k_binI_neq k_binI_lss k_binI_leq k_binI_gtr k_binI_geq k_binI_quo k_binI_rem k_binS_eql k_binS_neq k_binS_lss k_binS_add k_andO k_un_not k_un_neg k_av_b k_av_i k_av_s k_av_nil k_av_pn k_bin_slnil k_bin_rfnil k_nilCmp_eql k_nilCmp_neq k_extract k_extK k_extO
end Go.Vm
