/- A part of a reflected evaluator of the program's code, and the proof that what it computes is what the machine does. -/
import Derived.Test.YtnbhkifknleipaaGreatDoorVa
import Derived.Attr
set_option linter.unusedVariables false
set_option linter.unusedSimpArgs false
set_option autoImplicit false
namespace Go.Vm
theorem nr {α : Sort _} {a b : α} (h : a = b) : a = b:=h
def E : List (Nat × AV) → Nat → AV
 | [],_=>.u
 | (k,v) :: r,t=>if t = k then v else E r t
def B : List (Nat × List AV) → Nat → List AV
 | [],_=>[]
 | (k,v) :: r,t=>if t = k then v else B r t
theorem E_nil (t : Nat) : E [] t = .u:=nr rfl
theorem E_cons (k : Nat) (v : AV) (r : List (Nat × AV)) (t : Nat) : E ((k,v) :: r) t = if t = k then v else E r t:=nr rfl
theorem B_nil (t : Nat) : B [] t = []:=nr rfl
theorem B_cons (k : Nat) (v : List AV) (r : List (Nat × List AV)) (t : Nat) : B ((k,v) :: r) t = if t = k then v else B r t:=nr rfl
theorem upd_E (l : List (Nat × AV)) (t : Nat) (v : AV) : upd (E l) t v = E ((t,v) :: l):=by funext x; simp [upd,E_cons]
theorem upd_B (l : List (Nat × List AV)) (t : Nat) (v : List AV) : upd (B l) t v = B ((t,v) :: l):=by funext x; simp [upd,B_cons]
def mapE (kp kr : Pl → Bool) : List (Nat × AV) → List (Nat × AV)
 | []=>[]
 | (k,v) :: r=>(k,filt kp kr v) :: mapE kp kr r
def mapB (kp kr : Pl → Bool) : List (Nat × List AV) → List (Nat × List AV)
 | []=>[]
 | (k,v) :: r=>(k,filtL kp kr v) :: mapB kp kr r
theorem filt_EB (l : List (Nat × AV)) (m : List (Nat × List AV)) (kp kr : Pl → Bool) : St.filt ⟨E l,B m⟩ kp kr = ⟨E (mapE kp kr l),B (mapB kp kr m)⟩:=by
 simp only [St.filt,St.mk.injEq]
 constructor
 ·funext t
  induction l with
  | nil=>rfl
  | cons x r ih=>obtain ⟨k,v⟩:=x; simp only [mapE,E_cons]; split <;> simp_all
 ·funext t
  induction m with
  | nil=>rfl
  | cons x r ih=>obtain ⟨k,v⟩:=x; simp only [mapB,B_cons]; split <;> simp_all
def pickE (f : Nat → AV) : List Nat → List (Nat × AV)
 | []=>[]
 | k :: r=>(k,f k) :: pickE f r
def pickB (f : Nat → List AV) : List Nat → List (Nat × List AV)
 | []=>[]
 | k :: r=>(k,f k) :: pickB f r
theorem keep_some (ks bs : List Nat) (st : St) : keep (some (ks,bs)) st = ⟨E (pickE (st.filt (within ks bs) (within ks bs)).env ks),B (pickB (st.filt (within ks bs) (within ks bs)).bx bs)⟩:=by
 simp only [keep,St.mk.injEq]
 generalize st.filt (within ks bs) (within ks bs) = s
 constructor
 ·funext t
  induction ks with
  | nil=>rfl
  | cons k r ih =>
   simp only [pickE,E_cons,List.contains_cons]
   by_cases h : t = k
   ·subst h; simp
   ·simp [h,← ih]
 ·funext t
  induction bs with
  | nil=>rfl
  | cons k r ih =>
   simp only [pickB,B_cons,List.contains_cons]
   by_cases h : t = k
   ·subst h; simp
   ·simp [h,← ih]
theorem keep_none (st : St) : keep none st = st:=nr rfl
theorem trim_EB (ks : List Nat) (l : List (Nat × AV)) (m : List (Nat × List AV)) : trim ks ⟨E l,B m⟩ = ⟨E (pickE (E (mapE (inE ks) (inE ks) l)) ks),B (mapB (inE ks) (inE ks) m)⟩:=by
 simp only [trim,filt_EB,St.mk.injEq,and_true]
 generalize E (mapE (inE ks) (inE ks) l) = s
 funext t
 induction ks with
 | nil=>rfl
 | cons k r ih =>
  simp only [pickE,E_cons,List.contains_cons]
  by_cases h : t = k
  ·subst h; simp
  ·simp [h,← ih]
variable {R : Type}
def bindO {α : Type} (x : Option α) (k : α → Option R) : Option R:=match x with
 | some a=>k a
 | none=>none
theorem bindO_some {α : Type} (a : α) (k : α → Option R) : bindO (some a) k = k a:=nr rfl
theorem bindO_none {α : Type} (k : α → Option R) : bindO none k = none:=nr rfl
@[congr] theorem bindO_congr {α : Type} {x y : Option α} {k : α → Option R} (h : x = y) : bindO x k = bindO y k:=by rw [h]
theorem bindO_ite {α : Type} (c : Prop) [Decidable c] (x y : Option α) (k : α → Option R) : bindO (if c then x else y) k = if c then bindO x k else bindO y k:=by split <;> rfl
theorem bindV_O {α β : Type} (x : Option α) (f : α → Option β) : bindV x f = bindO x f:=by cases x <;> rfl
@[congr] theorem evalOps_congr {cx : Cx} {ops : List Oper} {cs : List (Option (List Nat))} {st st' : St} {l : List Oper} (h : st = st') : evalOps cx ops cs st l = evalOps cx ops cs st' l:=by rw [h]
@[congr] theorem evalOp_congr {cx : Cx} {st st' : St} {o : Oper} (h : st = st') : evalOp cx st o = evalOp cx st' o:=by rw [h]
@[congr] theorem evCode_congr {cx : Cx} {blk : Nat} {c : Code} {st st' : St} (h : st = st') : evCode cx blk c st = evCode cx blk c st':=by rw [h]
def upE (st : St) (d : Nat) (v : AV) : St:=⟨upd st.env d v,st.bx⟩
theorem upE_self (st : St) (d : Nat) : upE st d (st.env d) = st:=by
 have : upd st.env d (st.env d) = st.env:=by funext x; unfold upd; split <;> simp_all
 simp only [upE,this]
def guardK (a : AV) (x y z xs ys : Option St) : Option St:=match a with
 | .b true=>x
 | .b false=>y
 | .no=>z
 | _=>none
def guardD (d : Option Nat) (k : Nat → Option St) : Option St:=match d with
 | some d=>k d
 | none=>none
@[congr] theorem guardK_congr {a a' : AV} {x y z xs ys : Option St} (h : a = a') : guardK a x y z xs ys = guardK a' x y z xs ys:=by rw [h]
@[congr] theorem guardD_congr {d d' : Option Nat} {k : Nat → Option St} (h : d = d') : guardD d k = guardD d' k:=by rw [h]
theorem guardD_some (d : Nat) (k : Nat → Option St) : guardD (some d) k = k d:=nr rfl
@[congr] theorem dstAt_congr {l : List Oper} {n : Nat} : dstAt l n = dstAt l n:=rfl
theorem dstAt_zero (d op t pos aft g r) : dstAt (⟨d,op,t,pos,aft,g⟩ :: r) 0 = d:=nr rfl
theorem dstAt_succ (o : Oper) (r : List Oper) (n : Nat) : dstAt (o :: r) (n + 1) = dstAt r n:=nr rfl
def opS (cx : Cx) (ops : List Oper) (cs : List (Option (List Nat))) (st : St) (o : Oper) (r : List Oper) : Option St:=match wanted ops st o with
 | some true=>bindO (evalOp cx st o) (fun st'=>evalOps cx ops cs st' r)
 | some false=>evalOps cx ops cs (st.put? o.dst .no) r
 | none=>none
@[congr] theorem opS_congr {cx : Cx} {ops : List Oper} {cs : List (Option (List Nat))} {st st' : St} {o : Oper} {r : List Oper} (h : st = st') : opS cx ops cs st o r = opS cx ops cs st' o r:=by rw [h]
theorem evalOps_nil (cx : Cx) (ops : List Oper) (cs : List (Option (List Nat))) (st : St) : evalOps cx ops cs st [] = some st:=by simp only [evalOps]
theorem evalOps_cons (cx : Cx) (ops : List Oper) (c : Option (List Nat)) (cs : List (Option (List Nat))) (st : St) (o : Oper) (r : List Oper) : evalOps cx ops (c :: cs) st (o :: r) = opS cx ops cs (trim? c st) o r:=by
 simp only [evalOps,opS,hd?,List.tail_cons,bindO]
 cases wanted ops (trim? c st) o with
 | none=>rfl
 | some b =>
  cases b <;> try rfl
  simp only []; cases evalOp cx (trim? c st) o <;> rfl
theorem evalOps_cons' (cx : Cx) (ops : List Oper) (st : St) (o : Oper) (r : List Oper) : evalOps cx ops [] st (o :: r) = opS cx ops [] st o r:=by
 simp only [evalOps,opS,hd?,List.tail_nil,bindO,trim?]
 cases wanted ops st o with
 | none=>rfl
 | some b =>
  cases b <;> try rfl
  simp only []; cases evalOp cx st o <;> rfl
section
variable (cx : Cx) (ops : List Oper) (cs : List (Option (List Nat))) (st : St) (d : Option Nat) (op : Op) (t : TypeId) (pos : String) (aft : Array Edge) (j : Nat) (r : List Oper)
theorem opS_plain : opS cx ops cs st ⟨d,op,t,pos,aft,none⟩ r = bindO (evalOp cx st ⟨d,op,t,pos,aft,none⟩) (fun st'=>evalOps cx ops cs st' r):=nr rfl
def guardS (cx : Cx) (ops : List Oper) (cs : List (Option (List Nat))) (st : St) (o : Oper) (r : List Oper) (want : Bool) (g : Nat) (a : AV) : Option St:=match a with
 | .b b=>if b = want then bindO (evalOp cx st o) (fun st'=>evalOps cx ops cs st' r) else evalOps cx ops cs (st.put? o.dst .no) r
 | .no=>evalOps cx ops cs (st.put? o.dst .no) r
 | _=>none
@[congr] theorem guardS_congr {cx : Cx} {ops : List Oper} {cs : List (Option (List Nat))} {st : St} {o : Oper} {r : List Oper} {want : Bool} {g : Nat} {a a' : AV} (h : a = a') : guardS cx ops cs st o r want g a = guardS cx ops cs st o r want g a':=by rw [h]
theorem opS_guard (want : Bool) : opS cx ops cs st ⟨d,op,t,pos,aft,some (j,want)⟩ r = guardD (dstAt ops j) (fun g=>guardS cx ops cs st ⟨d,op,t,pos,aft,some (j,want)⟩ r want g (st.env g)):=by
 simp only [opS,wanted,guardD]
 cases dstAt ops j with
 | none=>rfl
 | some g =>
  simp only [guardS]
  cases st.env g with
  | b b=>cases b <;> cases want <;> rfl
  | _=>rfl
end
section
variable (cx : Cx) (ops : List Oper) (cs : List (Option (List Nat))) (st : St) (o : Oper) (r : List Oper) (g : Nat)
theorem guardS_tt : guardS cx ops cs st o r true g (.b true) = bindO (evalOp cx st o) (fun st'=>evalOps cx ops cs st' r):=nr rfl
theorem guardS_ff : guardS cx ops cs st o r false g (.b false) = bindO (evalOp cx st o) (fun st'=>evalOps cx ops cs st' r):=nr rfl
theorem guardS_tf : guardS cx ops cs st o r true g (.b false) = evalOps cx ops cs (st.put? o.dst .no) r:=nr rfl
theorem guardS_ft : guardS cx ops cs st o r false g (.b true) = evalOps cx ops cs (st.put? o.dst .no) r:=nr rfl
theorem guardS_no (want : Bool) : guardS cx ops cs st o r want g .no = evalOps cx ops cs (st.put? o.dst .no) r:=nr rfl
def opU (cx : Cx) (ops : List Oper) (cs : List (Option (List Nat))) (st : St) (o : Oper) (r : List Oper) : Option St:=bindO (evalOp cx st o) (fun st'=>evalOps cx ops cs st' r)
def skU (cx : Cx) (ops : List Oper) (cs : List (Option (List Nat))) (st : St) (o : Oper) (r : List Oper) : Option St:=evalOps cx ops cs (st.put? o.dst .no) r
@[congr] theorem opU_congr {cx : Cx} {ops : List Oper} {cs : List (Option (List Nat))} {st st' : St} {o : Oper} {r : List Oper} (h : st = st') : opU cx ops cs st o r = opU cx ops cs st' o r:=by rw [h]
@[congr] theorem skU_congr {cx : Cx} {ops : List Oper} {cs : List (Option (List Nat))} {st st' : St} {o : Oper} {r : List Oper} (h : st = st') : skU cx ops cs st o r = skU cx ops cs st' o r:=by rw [h]
end
theorem guardS_b (cx : Cx) (ops : List Oper) (cs : List (Option (List Nat))) (l : List (Nat × AV)) (m : List (Nat × List AV)) (o : Oper) (r : List Oper) (g : Nat) (want b : Bool) (h : E l g = .b b) :
  guardS cx ops cs ⟨E l,B m⟩ o r want g (.b b) =
   if b = true then (if want = true then opU cx ops cs ⟨E ((g,.b true) :: l),B m⟩ o r else skU cx ops cs ⟨E ((g,.b true) :: l),B m⟩ o r)
   else (if want = true then skU cx ops cs ⟨E ((g,.b false) :: l),B m⟩ o r else opU cx ops cs ⟨E ((g,.b false) :: l),B m⟩ o r):=by
 have hs : (⟨E ((g,.b b) :: l),B m⟩ : St) = ⟨E l,B m⟩:=by
  have:=upE_self ⟨E l,B m⟩ g
  simp only [upE,upd_E,h] at this
  exact this
 cases b <;> cases want <;> simp only [guardS,opU,skU,hs,if_true,if_false,Bool.false_eq_true,reduceCtorEq]
def jA (c : Prop) [Decidable c] (a b : AV) : AV:=if c then a else b
section
variable (c : Prop) [Decidable c]
theorem jA_self (a : AV) : jA c a a = a:=by unfold jA; split <;> rfl
theorem jA_b (x y : Bool) : jA c (.b x) (.b y) = .b (if c then x else y):=by unfold jA; split <;> rfl
theorem jA_i (k : IntKind) (x y : Int) : jA c (.i k x) (.i k y) = .i k (if c then x else y):=by unfold jA; split <;> rfl
theorem jA_s (x y : ByteArray) : jA c (.s x) (.s y) = .s (if c then x else y):=by unfold jA; split <;> rfl
theorem jA_sl (t : Tag) (z : Nat) (x y : List (List AV)) : jA c (.sl t z x) (.sl t z y) = .sl t z (if c then x else y):=by unfold jA; split <;> rfl
def jL (c : Prop) [Decidable c] : List AV → List AV → List AV
 | a :: l,b :: r=>jA c a b :: jL c l r
 | _,_=>[]
def sameLen : List AV → List AV → Bool
 | _ :: l,_ :: r=>sameLen l r
 | [],[]=>true
 | _,_=>false
theorem jL_eq : ∀ (x y : List AV),sameLen x y = true → (if c then x else y) = jL c x y
 | [],[],_=>by simp [jL]
 | a :: l,b :: r,h=>by
  have ih:=jL_eq l r (by simpa [sameLen] using h)
  simp only [jL,jA,← ih]
  split <;> rfl
 | [],_ :: _,h=>by simp [sameLen] at h
 | _ :: _,[],h=>by simp [sameLen] at h
theorem jA_agg (x y : List AV) (h : sameLen x y = true) : jA c (.agg x) (.agg y) = .agg (jL c x y):=by rw [← jL_eq c x y h]; unfold jA; split <;> rfl
theorem jL_self (x : List AV) : jL c x x = x:=by
 rw [← jL_eq c x x (by induction x <;> simp_all [sameLen])]; simp
def jE (c : Prop) [Decidable c] : List (Nat × AV) → List (Nat × AV) → List (Nat × AV)
 | (k,a) :: l,(_,b) :: r=>(k,jA c a b) :: jE c l r
 | _,_=>[]
def jB (c : Prop) [Decidable c] : List (Nat × List AV) → List (Nat × List AV) → List (Nat × List AV)
 | (k,a) :: l,(_,b) :: r=>(k,jL c a b) :: jB c l r
 | _,_=>[]
def keysE : List (Nat × AV) → List (Nat × AV) → Bool
 | (k,_) :: l,(k',_) :: r=>k == k' && keysE l r
 | [],[]=>true
 | _,_=>false
def keysB : List (Nat × List AV) → List (Nat × List AV) → Bool
 | (k,a) :: l,(k',b) :: r=>k == k' && (sameLen a b && keysB l r)
 | [],[]=>true
 | _,_=>false
theorem jE_eq : ∀ (x y : List (Nat × AV)),keysE x y = true → (if c then E x else E y) = E (jE c x y)
 | [],[],_=>by simp [jE]
 | (k,a) :: l,(k',b) :: r,h=>by
  simp only [keysE,Bool.and_eq_true,beq_iff_eq] at h
  obtain ⟨rfl,h⟩:=h
  have ih:=jE_eq l r h
  funext t
  have ih':=congrFun ih t
  simp only [jE,jA]
  rw [E_cons,← ih']
  split <;> simp only [E_cons]
 | [],_ :: _,h=>by simp [keysE] at h
 | _ :: _,[],h=>by simp [keysE] at h
theorem jB_eq : ∀ (x y : List (Nat × List AV)),keysB x y = true → (if c then B x else B y) = B (jB c x y)
 | [],[],_=>by simp [jB]
 | (k,a) :: l,(k',b) :: r,h=>by
  simp only [keysB,Bool.and_eq_true,beq_iff_eq] at h
  obtain ⟨rfl,h1,h⟩:=h
  have ih:=jB_eq l r h
  funext t
  have ih':=congrFun ih t
  simp only [jB]
  rw [B_cons,← ih',← jL_eq c a b h1]
  split <;> simp only [B_cons]
 | [],_ :: _,h=>by simp [keysB] at h
 | _ :: _,[],h=>by simp [keysB] at h
theorem join_st (x y : List (Nat × AV)) (m n : List (Nat × List AV)) (h : keysE x y = true) (h' : keysB m n = true) : (if c then some (⟨E x,B m⟩ : St) else some ⟨E y,B n⟩) = some ⟨E (jE c x y),B (jB c m n)⟩:=by
 rw [← jE_eq c x y h,← jB_eq c m n h']; split <;> rfl
theorem join_ex (e : Ex) (x y : List (Nat × AV)) (m n : List (Nat × List AV)) (h : keysE x y = true) (h' : keysB m n = true) : (if c then some (e,(⟨E x,B m⟩ : St)) else some (e,⟨E y,B n⟩)) = some (e,⟨E (jE c x y),B (jB c m n)⟩):=by
 rw [← jE_eq c x y h,← jB_eq c m n h']; split <;> rfl
end
theorem evCode_skip (cx : Cx) (blk : Nat) (st : St) : evCode cx blk .skip st = some (.nor,st):=nr rfl
theorem evCode_exit (cx : Cx) (blk id : Nat) (st : St) : evCode cx blk (.exit id) st = some (.ex id,keep (cx.out id) st):=nr rfl
theorem evCode_ret (cx : Cx) (blk : Nat) (st : St) : evCode cx blk .ret st = some (.ret,keep cx.rets st):=nr rfl
def norS (x : Option St) : Option (Ex × St):=match x with
 | some s=>some (.nor,s)
 | none=>none
theorem norS_some (s : St) : norS (some s) = some (.nor,s):=nr rfl
theorem norS_none : norS none = none:=nr rfl
theorem norS_ite (c : Prop) [Decidable c] (x y : Option St) : norS (if c then x else y) = if c then norS x else norS y:=by split <;> rfl
theorem evCode_region (cx : Cx) (blk id : Nat) (l : List Oper) (st : St) : evCode cx blk (.region id (List.toArray l) false) st = norS (bindO (evalOps cx l (cx.cuts id) st l) (fun s=>weakW (keep (cx.rg id) s) (cx.ws id))):=by
 simp only [evCode,bindO,norS,norV,Bool.false_eq_true,if_false]
 cases evalOps cx l (cx.cuts id) st l <;> rfl
theorem evCode_draw (cx : Cx) (blk id : Nat) (l : List Oper) (st : St) : evCode cx blk (.region id (List.toArray l) true) st = norS (bindO (bindO (cx.plan id) (fun p=>evPlan cx id l p st)) (fun s=>weakW s (cx.ws id))):=by
 simp only [evCode,if_true,norS,norV,bindV_O]
 cases cx.plan id with
 | none=>rfl
 | some p=>simp only [bindO]; cases evPlan cx id l p st <;> rfl
@[congr] theorem weakW_congr {st st' : St} {l l' : List (Bool × Nat × Nat)} (h : st = st') (h2 : l = l') : weakW st l = weakW st' l':=by rw [h,h2]
theorem weakW_nil (st : St) : weakW st [] = some st:=nr rfl
theorem weakW_t (st : St) (r c : Nat) (l : List (Bool × Nat × Nat)) : weakW st ((true,r,c) :: l) = bindO (weakArg st (.tmp r)) (fun s=>weakW s l):=by simp only [weakW,bindV_O]
def weakC (st : St) (b c : Nat) : Option AV → Option St
 | some (.sl .mut z es)=>weakLeaf st (.rf ⟨false,b,[],c⟩ z 0 es.length)
 | _=>some st
theorem weakC_mut (st : St) (b c z : Nat) (es : List (List AV)) : weakC st b c (some (.sl .mut z es)) = weakLeaf st (.rf ⟨false,b,[],c⟩ z 0 es.length):=nr rfl
theorem weakC_app (st : St) (b c z : Nat) (es : List (List AV)) : weakC st b c (some (.sl .app z es)) = some st:=nr rfl
theorem weakC_ro (st : St) (b c z : Nat) (es : List (List AV)) : weakC st b c (some (.sl .ro z es)) = some st:=nr rfl
theorem weakC_u (st : St) (b c : Nat) : weakC st b c (some .u) = some st:=nr rfl
theorem weakW_f (st : St) (r c : Nat) (l : List (Bool × Nat × Nat)) : weakW st ((false,r,c) :: l) = bindO (weakC st r c (st.bx r)[c]?) (fun s=>weakW s l):=by simp only [weakW,weakAt,weakC,bindV_O]; rfl
theorem evPlan_done (cx : Cx) (id : Nat) (ops : List Oper) (st : St) : evPlan cx id ops .done st = some (keep (cx.rg id) st):=nr rfl
theorem evPlan_take (cx : Cx) (id : Nat) (ops : List Oper) (i : Nat) (p : Plan) (st : St) : evPlan cx id ops (.take i p) st = bindO (getOp ops i) (fun o=>takeK (isPure o.op) (bindO (stepOp cx ops st o) (fun s=>evPlan cx id ops p s))):=by
 simp only [evPlan,bindV_O]
theorem evPlan_one (cx : Cx) (id : Nat) (ops : List Oper) (i : Nat) (p : Plan) (st : St) : evPlan cx id ops (.one i p) st = bindO (getOp ops i) (fun o=>takeK (lateOp cx o.op || growOp cx st o.op) (bindO (stepOp cx ops st o) (fun s=>evPlan cx id ops p s))):=by
 simp only [evPlan,bindV_O]
theorem evPlan_alt (cx : Cx) (id : Nat) (ops : List Oper) (i : Nat) (p q : Plan) (st : St) : evPlan cx id ops (.alt i p q) st = same? (evPlan cx id ops (.one i p) st) (evPlan cx id ops q st):=nr rfl
theorem getOp_zero (o : Oper) (r : List Oper) : getOp (o :: r) 0 = some o:=nr rfl
theorem getOp_succ (o : Oper) (r : List Oper) (n : Nat) : getOp (o :: r) (n + 1) = getOp r n:=nr rfl
theorem takeK_true (x : Option St) : takeK true x = x:=nr rfl
@[congr] theorem takeK_congr {p p' : Bool} {x : Option St} (h : p = p') : takeK p x = takeK p' x:=by rw [h]
theorem same?_self (x : Option St) : same? x x = x:=by unfold same?; rw [if_pos rfl]
theorem stepOp_plain (cx : Cx) (ops : List Oper) (st : St) (d : Option Nat) (op : Op) (t : TypeId) (pos : String) (aft : Array Edge) : stepOp cx ops st ⟨d,op,t,pos,aft,none⟩ = evalOp cx st ⟨d,op,t,pos,aft,none⟩:=nr rfl
def stepG (cx : Cx) (ops : List Oper) (st : St) (o : Oper) (want : Bool) (g : Nat) (a : AV) : Option St:=match a with
 | .b b=>if b = want then evalOp cx st o else some (st.put? o.dst .no)
 | .no=>some (st.put? o.dst .no)
 | _=>none
@[congr] theorem stepG_congr {cx : Cx} {ops : List Oper} {st : St} {o : Oper} {want : Bool} {g : Nat} {a a' : AV} (h : a = a') : stepG cx ops st o want g a = stepG cx ops st o want g a':=by rw [h]
def stepD (cx : Cx) (ops : List Oper) (st : St) (o : Oper) (want : Bool) (d : Option Nat) : Option St:=match d with
 | some d=>stepG cx ops st o want d (st.env d)
 | none=>none
theorem stepD_some (cx : Cx) (ops : List Oper) (st : St) (o : Oper) (want : Bool) (d : Nat) : stepD cx ops st o want (some d) = stepG cx ops st o want d (st.env d):=nr rfl
theorem stepG_tt (cx : Cx) (ops : List Oper) (st : St) (o : Oper) (g : Nat) : stepG cx ops st o true g (.b true) = evalOp cx st o:=nr rfl
theorem stepG_ff (cx : Cx) (ops : List Oper) (st : St) (o : Oper) (g : Nat) : stepG cx ops st o false g (.b false) = evalOp cx st o:=nr rfl
theorem stepG_tf (cx : Cx) (ops : List Oper) (st : St) (o : Oper) (g : Nat) : stepG cx ops st o true g (.b false) = some (st.put? o.dst .no):=nr rfl
theorem stepG_ft (cx : Cx) (ops : List Oper) (st : St) (o : Oper) (g : Nat) : stepG cx ops st o false g (.b true) = some (st.put? o.dst .no):=nr rfl
theorem stepG_no (cx : Cx) (ops : List Oper) (st : St) (o : Oper) (want : Bool) (g : Nat) : stepG cx ops st o want g .no = some (st.put? o.dst .no):=nr rfl
def stU (cx : Cx) (st : St) (o : Oper) : Option St:=evalOp cx st o
def skS (st : St) (o : Oper) : Option St:=some (st.put? o.dst .no)
@[congr] theorem stU_congr {cx : Cx} {st st' : St} {o : Oper} (h : st = st') : stU cx st o = stU cx st' o:=by rw [h]
@[congr] theorem skS_congr {st st' : St} {o : Oper} (h : st = st') : skS st o = skS st' o:=by rw [h]
theorem stepG_b (cx : Cx) (ops : List Oper) (l : List (Nat × AV)) (m : List (Nat × List AV)) (o : Oper) (want : Bool) (g : Nat) (b : Bool) (h : E l g = .b b) :
  stepG cx ops ⟨E l,B m⟩ o want g (.b b) =
   if b = true then (if want = true then stU cx ⟨E ((g,.b true) :: l),B m⟩ o else skS ⟨E ((g,.b true) :: l),B m⟩ o)
   else (if want = true then skS ⟨E ((g,.b false) :: l),B m⟩ o else stU cx ⟨E ((g,.b false) :: l),B m⟩ o):=by
 have hs : (⟨E ((g,.b b) :: l),B m⟩ : St) = ⟨E l,B m⟩:=by
  have:=upE_self ⟨E l,B m⟩ g
  simp only [upE,upd_E,h] at this
  exact this
 cases b <;> cases want <;> simp only [stepG,stU,skS,hs,if_true,if_false,Bool.false_eq_true,reduceCtorEq]
theorem stepOp_guard (cx : Cx) (ops : List Oper) (st : St) (d : Option Nat) (op : Op) (t : TypeId) (pos : String) (aft : Array Edge) (j : Nat) (want : Bool) : stepOp cx ops st ⟨d,op,t,pos,aft,some (j,want)⟩ = stepD cx ops st ⟨d,op,t,pos,aft,some (j,want)⟩ want (dstAt ops j):=by
 unfold stepOp wanted stepD stepG
 simp only
 cases dstAt ops j with
 | none=>rfl
 | some d =>
  simp only
  cases st.env d with
  | b b =>
   cases b <;> cases want <;> rfl
  | _=>rfl
def seqE (x : Option (Ex × St)) (k : St → Option (Ex × St)) : Option (Ex × St):=match x with
 | some (.nor,st)=>k st
 | some (.ex j,st)=>some (.ex j,st)
 | some (.ret,st)=>some (.ret,st)
 | none=>none
@[congr] theorem seqE_congr {x y : Option (Ex × St)} {k : St → Option (Ex × St)} (h : x = y) : seqE x k = seqE y k:=by rw [h]
theorem seqE_nor (st : St) (k : St → Option (Ex × St)) : seqE (some (.nor,st)) k = k st:=nr rfl
theorem seqE_ret (st : St) (k : St → Option (Ex × St)) : seqE (some (.ret,st)) k = some (.ret,st):=nr rfl
theorem seqE_ex (j : Nat) (st : St) (k : St → Option (Ex × St)) : seqE (some (.ex j,st)) k = some (.ex j,st):=nr rfl
theorem seqE_none (k : St → Option (Ex × St)) : seqE none k = none:=nr rfl
theorem seqE_ite (c : Prop) [Decidable c] (x y : Option (Ex × St)) (k : St → Option (Ex × St)) : seqE (if c then x else y) k = if c then seqE x k else seqE y k:=by split <;> rfl
theorem evCode_seq (cx : Cx) (blk : Nat) (a b : Code) (st : St) : evCode cx blk (.seq a b) st = seqE (evCode cx blk a st) (fun s=>evCode cx blk b s):=by
 simp only [evCode]
 cases evCode cx blk a st with
 | none=>rfl
 | some x=>obtain ⟨e,s⟩:=x; cases e <;> rfl
def blkE (id : Nat) (x : Option (Ex × St)) : Option (Ex × St):=match x with
 | some (.ex j,st)=>if j = id then some (.nor,st) else some (.ex j,st)
 | some (.nor,st)=>some (.nor,st)
 | some (.ret,st)=>some (.ret,st)
 | none=>none
theorem blkE_nor (id : Nat) (st : St) : blkE id (some (.nor,st)) = some (.nor,st):=nr rfl
theorem blkE_ret (id : Nat) (st : St) : blkE id (some (.ret,st)) = some (.ret,st):=nr rfl
theorem blkE_ex (id j : Nat) (st : St) : blkE id (some (.ex j,st)) = if j = id then some (.nor,st) else some (.ex j,st):=nr rfl
theorem blkE_none (id : Nat) : blkE id none = none:=nr rfl
theorem blkE_ite (id : Nat) (c : Prop) [Decidable c] (x y : Option (Ex × St)) : blkE id (if c then x else y) = if c then blkE id x else blkE id y:=by split <;> rfl
theorem evCode_block (cx : Cx) (blk id : Nat) (c : Code) (st : St) : evCode cx blk (.block id c) st = blkE id (evCode cx id c st):=by
 simp only [evCode]
 cases evCode cx id c st with
 | none=>rfl
 | some x=>obtain ⟨e,s⟩:=x; cases e <;> rfl
def condE (a : AV) (x y : Option (Ex × St)) : Option (Ex × St):=match a with
 | .b b=>if b = true then x else y
 | _=>none
@[congr] theorem condE_congr {a a' : AV} {x y : Option (Ex × St)} (h : a = a') : condE a x y = condE a' x y:=by rw [h]
theorem condE_true (x y : Option (Ex × St)) : condE (.b true) x y = x:=nr rfl
theorem condE_false (x y : Option (Ex × St)) : condE (.b false) x y = y:=nr rfl
theorem condE_b (b : Bool) (x y : Option (Ex × St)) : condE (.b b) x y = if b = true then x else y:=nr rfl
theorem evCode_cond (cx : Cx) (blk : Nat) (c : Operand) (a b : Code) (st : St) : evCode cx blk (.cond c a b) st = condE (view st c) (evCode cx blk a st) (evCode cx blk b st):=by
 simp only [evCode,condE]
 cases view st c with
 | b x=>cases x <;> rfl
 | _=>rfl
noncomputable def loopE (cx : Cx) (blk : Nat) (c : Code) (n : Nat) (st : St) : Option (Ex × St):=iter (fun st=>evCode cx blk c (keep (cx.live blk) st)) n st
@[congr] theorem loopE_congr {cx : Cx} {blk : Nat} {c : Code} {n : Nat} {st st' : St} (h : st = st') : loopE cx blk c n st = loopE cx blk c n st':=by rw [h]
theorem evCode_loop (cx : Cx) (blk : Nat) (c : Code) (st : St) : evCode cx blk (.loop c) st = loopE cx blk c cx.rounds st:=nr rfl
theorem loopE_succ (cx : Cx) (blk : Nat) (c : Code) (n : Nat) (st : St) : loopE cx blk c (n + 1) st = seqE (evCode cx blk c (keep (cx.live blk) st)) (fun s=>loopE cx blk c n s):=by
 simp only [loopE,iter]
 cases evCode cx blk c (keep (cx.live blk) st) with
 | none=>rfl
 | some x=>obtain ⟨e,s⟩:=x; cases e <;> rfl
def finE (cx : Cx) (md : List Md) (rv : List ResultVar) (x : Option (Ex × St)) : Option (AV × List AV):=match x with
 | some (.nor,st)=>finish cx md rv st
 | some (.ret,st)=>finish cx md rv st
 | _=>none
theorem finE_nor (cx : Cx) (md : List Md) (rv : List ResultVar) (st : St) : finE cx md rv (some (.nor,st)) = finish cx md rv st:=nr rfl
theorem finE_ret (cx : Cx) (md : List Md) (rv : List ResultVar) (st : St) : finE cx md rv (some (.ret,st)) = finish cx md rv st:=nr rfl
theorem finE_none (cx : Cx) (md : List Md) (rv : List ResultVar) : finE cx md rv none = none:=nr rfl
theorem finE_ite (cx : Cx) (md : List Md) (rv : List ResultVar) (c : Prop) [Decidable c] (x y : Option (Ex × St)) : finE cx md rv (if c then x else y) = if c then finE cx md rv x else finE cx md rv y:=by split <;> rfl
theorem evalFn_eq (cx : Cx) (md : List Md) (f : Func) (args : List AV) (c : Code) (rv : List ResultVar) (h : f.body = some c) (hr : f.results = rv.toArray) (hz : cx.nz = false) : evalFn cx md f args = finE cx md rv (evCode cx 0 c (entry md args)):=by
 simp only [evalFn,h,hr,evB,hz,Bool.false_eq_true,if_false]
 cases evCode cx 0 c (entry md args) with
 | none=>rfl
 | some x=>obtain ⟨e,s⟩:=x; cases e <;> rfl
theorem evalFn_eqN (cx : Cx) (md : List Md) (f : Func) (args : List AV) (c : Code) (rv : List ResultVar) (h : f.body = some c) (hr : f.results = rv.toArray) (hz : cx.nz = true) : evalFn cx md f args = finE cx md rv (evN cx c (fun s=>some (.nor,s)) (entry md args)):=by
 simp only [evalFn,h,hr,evB,hz,if_true]
 cases evN cx c (fun s=>some (.nor,s)) (entry md args) with
 | none=>rfl
 | some x=>obtain ⟨e,s⟩:=x; cases e <;> rfl
@[congr] theorem evN_congr {cx : Cx} {c : Code} {K : St → Option (Ex × St)} {st st' : St} (h : st = st') : evN cx c K st = evN cx c K st':=by rw [h]
theorem evN_skip (cx : Cx) (K : St → Option (Ex × St)) (st : St) : evN cx .skip K st = K st:=nr rfl
theorem evN_seq (cx : Cx) (a b : Code) (K : St → Option (Ex × St)) (st : St) : evN cx (.seq a b) K st = evN cx a (fun s=>evN cx b K s) st:=nr rfl
noncomputable def conN (a : AV) (x y : Option (Ex × St)) : Option (Ex × St):=match a with
 | .b true=>x
 | .b false=>y
 | .ub=>both? x y
 | _=>none
@[congr] theorem conN_congr {a a' : AV} {x y : Option (Ex × St)} (h : a = a') : conN a x y = conN a' x y:=by rw [h]
theorem conN_true (x y : Option (Ex × St)) : conN (.b true) x y = x:=nr rfl
theorem conN_false (x y : Option (Ex × St)) : conN (.b false) x y = y:=nr rfl
theorem conN_ub (x y : Option (Ex × St)) : conN .ub x y = both? x y:=nr rfl
theorem both?_self (x : Option (Ex × St)) : both? x x = x:=by unfold both?; rw [if_pos rfl]
theorem evN_cond (cx : Cx) (c : Operand) (a b : Code) (K : St → Option (Ex × St)) (st : St) : evN cx (.cond c a b) K st = conN (view st c) (evN cx a K st) (evN cx b K st):=by
 simp only [evN,conN]
 cases view st c with
 | b x=>cases x <;> rfl
 | _=>rfl
theorem evN_ret (cx : Cx) (K : St → Option (Ex × St)) (st : St) : evN cx .ret K st = some (.ret,keep cx.rets st):=nr rfl
theorem evN_region (cx : Cx) (id : Nat) (ops : Array Oper) (d : Bool) (K : St → Option (Ex × St)) (st : St) : evN cx (.region id ops d) K st = seqE (evCode cx 0 (.region id ops d) st) (fun s=>K s):=by
 simp only [evN,afterN]
 cases evCode cx 0 (.region id ops d) st with
 | none=>rfl
 | some x=>obtain ⟨e,s⟩:=x; cases e <;> rfl
def finB (md : List Md) (p : List AV × St) : Option (AV × List AV):=if (p.1.all okLeaf && (outL p.2 md 0).all okLeaf && outLen md (outL p.2 md 0)) = true then some (one p.1,outL p.2 md 0) else none
def finX (cx : Cx) (md : List Md) (rv : List ResultVar) (st : St) : Option (List AV) → Option (AV × List AV)
 | some cs=>finN md st cs
 | none=>bindO (resL cx st rv) (finB md)
theorem finish_O (cx : Cx) (md : List Md) (rv : List ResultVar) (st : St) : finish cx md rv st = finX cx md rv st (npOut md st rv):=by
 simp only [finish,finX]
 cases npOut md st rv with
 | some cs=>rfl
 | none =>
  simp only [finA,bindO]
  cases resL cx st rv <;> rfl
theorem finX_some (cx : Cx) (md : List Md) (rv : List ResultVar) (st : St) (cs : List AV) : finX cx md rv st (some cs) = finN md st cs:=nr rfl
theorem finX_none (cx : Cx) (md : List Md) (rv : List ResultVar) (st : St) : finX cx md rv st none = bindO (resL cx st rv) (finB md):=nr rfl
theorem finN_eq (md : List Md) (st : St) (cs : List AV) : finN md st cs = if (cs.all rowOk && !cs.isEmpty && (outL st md 0).all okLeaf && outLen md (outL st md 0)) = true then some (.tup [.agg cs],outL st md 0) else none:=nr rfl
theorem npOut_nil (md : List Md) (st : St) : npOut md st [] = none:=nr rfl
theorem npOut_tmp (md : List Md) (st : St) (t : Nat) : npOut md st [.tmp t] = npP md st (st.env t):=nr rfl
theorem npOut_cell (md : List Md) (st : St) (a t : Nat) : npOut md st [.cell a t] = none:=nr rfl
theorem npOut_two (md : List Md) (st : St) (a b : ResultVar) (l : List ResultVar) : npOut md st (a :: b :: l) = none:=by cases a <;> rfl
theorem npP_p (md : List Md) (st : St) (q : Pl) : npP md st (.p q) = if (!q.e && q.path.isEmpty && q.c == 0 && decide (md.length ≤ q.r)) = true then some (st.bx q.r) else none:=nr rfl
theorem finB_eq (md : List Md) (l : List AV) (st : St) : finB md (l,st) = if (l.all okLeaf && (outL st md 0).all okLeaf && outLen md (outL st md 0)) = true then some (one l,outL st md 0) else none:=nr rfl
theorem resL_nil (cx : Cx) (st : St) : resL cx st [] = some ([],st):=nr rfl
def resC (v : AV) (p : List AV × St) : Option (List AV × St):=some (v :: p.1,p.2)
theorem resC_eq (v : AV) (l : List AV) (st : St) : resC v (l,st) = some (v :: l,st):=nr rfl
theorem resL_cons (cx : Cx) (st : St) (t : Tmp) (r : List ResultVar) : resL cx st (.tmp t :: r) = bindO (take st (.tmp t)) (fun p=>bindO (resL cx p.2 r) (resC p.1)):=by
 simp only [resL,bindO]
 cases take st (.tmp t) with
 | none=>rfl
 | some p=>obtain ⟨v,s⟩:=p; simp only; cases resL cx s r <;> rfl
theorem resL_cell (cx : Cx) (st : St) (a t : Nat) (r : List ResultVar) : resL cx st (.cell a t :: r) = bindO (cx.T t) (fun ti=>bindO (loadAt st ti (view st (.tmp a))) (fun v=>bindO (takeVal st v) (fun p=>bindO (resL cx p.2 r) (resC p.1)))):=by
 simp only [resL,bindV_O,bindO]
 cases cx.T t with
 | none=>rfl
 | some ti =>
  simp only
  cases loadAt st ti (view st (.tmp a)) with
  | none=>rfl
  | some v =>
   simp only
   cases takeVal st v with
   | none=>rfl
   | some p=>obtain ⟨v,s⟩:=p; simp only; cases resL cx s r <;> rfl
def entE : List Md → List AV → Nat → List (Nat × AV)
 | .rw _ :: ms,_ :: as,j=>(j,.p ⟨false,j,[],0⟩) :: entE ms as (j + 1)
 | .ro _ :: ms,a :: as,j=>(j,a) :: entE ms as (j + 1)
 | .mv :: ms,a :: as,j=>(j,a) :: entE ms as (j + 1)
 | _,_,_=>[]
def entB : List Md → List AV → Nat → List (Nat × List AV)
 | .rw _ :: ms,a :: as,j=>(j,cellsOf a) :: entB ms as (j + 1)
 | .ro _ :: ms,_ :: as,j=>entB ms as (j + 1)
 | .mv :: ms,_ :: as,j=>entB ms as (j + 1)
 | _,_,_=>[]
theorem entry_eq (ms : List Md) (as : List AV) : entry ms as = ⟨E (entE ms as 0),B (entB ms as 0)⟩:=by
 have h1 : ∀ (ms : List Md) (as : List AV) (j t : Nat),entryEnv ms as j t = E (entE ms as j) t:=by
  intro ms
  induction ms with
  | nil=>intro as j t; cases as <;> rfl
  | cons m ms ih =>
   intro as j t
   cases as with
   | nil=>cases m <;> rfl
   | cons a as=>cases m <;> simp only [entryEnv,entE,E_cons,ih]
 have h2 : ∀ (ms : List Md) (as : List AV) (j t : Nat),entryBx ms as j t = B (entB ms as j) t:=by
  intro ms
  induction ms with
  | nil=>intro as j t; cases as <;> rfl
  | cons m ms ih =>
   intro as j t
   cases as with
   | nil=>cases m <;> rfl
   | cons a as=>cases m <;> simp only [entryBx,entB,B_cons,ih]
 simp only [entry,St.mk.injEq]
 exact ⟨funext (h1 ms as 0),funext (h2 ms as 0)⟩
section
variable (cx : Cx) (t : TypeId) (pos : String) (aft : Array Edge) (g : Option (Nat × Bool)) (st : St)
theorem setD_O (d : Nat) (x : Option AV) : setD st (some d) x = bindO x (fun v=>some (st.put d v)):=by cases x <;> rfl
theorem setV_O (d : Nat) (x : Option (AV × St)) : setV (some d) x = bindO x (fun y=>some (y.2.put d y.1)):=by cases x <;> rfl
theorem setC_O (d : Option Nat) (x : Option (AV × St)) : setC d x = bindO x (fun y=>putN d y.2 y.1 (isNp y.1)):=by cases x <;> rfl
theorem putN_none (d : Option Nat) (st : St) (r : AV) : putN d st r none = some (st.put? d r):=nr rfl
theorem putN_some (d : Nat) (st : St) (r : AV) (cs : List AV) : putN (some d) st r (some cs) = newBoxO st d cs:=nr rfl
theorem isNp_np (cs : List AV) : isNp (.tup [.agg cs]) = some cs:=nr rfl
theorem isNp_nil : isNp (.tup []) = none:=nr rfl
theorem isNp_two (a b : AV) (l : List AV) : isNp (.tup (a :: b :: l)) = none:=by cases a <;> rfl
def moveE (st : St) (t : Nat) : AV → Option (AV × St)
 | .tup (v :: vs)=>some (.tup (v :: vs),⟨upd st.env t .u,st.bx⟩)
 | _=>none
theorem moveE_tup (st : St) (t : Nat) (v : AV) (vs : List AV) : moveE st t (.tup (v :: vs)) = some (.tup (v :: vs),⟨upd st.env t .u,st.bx⟩):=nr rfl
theorem moveT_tmp (st : St) (t : Nat) : moveT st (.tmp t) = moveE st t (st.env t):=by
 simp only [moveT,moveE]
 cases st.env t with
 | tup vs=>cases vs <;> rfl
 | _=>rfl
theorem op_move (d : Nat) (x : Operand) : evalOp cx st ⟨some d,.move x,t,pos,aft,g⟩ = if cx.al.contains d = true then bindO (moveT st x) (fun y=>some (y.2.put d y.1)) else some (st.put d (fix (zOf cx t) (view st x))):=by
 simp only [evalOp,alD,setV_O,St.put?]
theorem op_assign (d : Nat) (x : Operand) : evalOp cx st ⟨some d,.assign x,t,pos,aft,g⟩ =
  if cx.al.contains d = true then some (st.put d (fix (zOf cx t) (view st x))) else bindO (take st x) (fun y=>some (y.2.put d (fix (zOf cx t) y.1))):=by
 simp only [evalOp,bindV_O,bindO_some]
def pickO (st : St) (d : Nat) (a x y : AV) : Option St:=match a with
 | .b b=>if b = true then some (st.put d x) else some (st.put d y)
 | _=>none
@[congr] theorem pickO_congr {st : St} {d : Nat} {a a' x y : AV} (h : a = a') : pickO st d a x y = pickO st d a' x y:=by rw [h]
theorem pickO_true (d : Nat) (x y : AV) : pickO st d (.b true) x y = some (st.put d x):=nr rfl
theorem pickO_false (d : Nat) (x y : AV) : pickO st d (.b false) x y = some (st.put d y):=nr rfl
theorem pickO_b (d : Nat) (b : Bool) (x y : AV) : pickO st d (.b b) x y = if b = true then some (st.put d x) else some (st.put d y):=nr rfl
theorem op_pick (d : Nat) (c x y : Operand) : evalOp cx st ⟨some d,.pick c x y,t,pos,aft,g⟩ = pickO st d (view st c) (view st x) (view st y):=by
 simp only [evalOp,pickO,St.put?]
 cases view st c with
 | b x=>cases x <;> rfl
 | _=>rfl
theorem op_alloc (d : Nat) (t' : TypeId) : evalOp cx st ⟨some d,.alloc t',t,pos,aft,g⟩ = bindO (cx.T t') (fun ti=>newBoxO st d ti.zero):=bindV_O _ _
theorem op_box (d : Nat) (t' : TypeId) (x : Operand) : evalOp cx st ⟨some d,.box t' x,t,pos,aft,g⟩ = bindO (cx.T t') (fun ti=>if cx.fz.contains d = true then bindO (boxV ti (fix ti.z (view st x))) (fun cs=>frozenBox st d cs) else if cx.al.contains d = true then bindO (boxV ti (fix ti.z (view st x))) (fun cs=>newBoxO st d cs) else bindO (take st x) (fun y=>bindO (boxV ti (fix ti.z y.1)) fun cs=>newBoxO y.2 d cs)):=by
 simp only [evalOp,bindV_O,bindO_some]
theorem op_load (d : Nat) (t' : TypeId) (a : Operand) : evalOp cx st ⟨some d,.load t' a,t,pos,aft,g⟩ = bindO (cx.T t') (fun ti=>bindO (loadAt st ti (view st a)) (fun v=>some (st.put d v))):=by
 simp only [evalOp,bindV_O,setD_O]
theorem op_store (t' : TypeId) (a x : Operand) : evalOp cx st ⟨none,.store t' a x,t,pos,aft,g⟩ = bindO (cx.T t') (fun ti=>bindO (take st x) (fun y=>storeAt y.2 ti (view y.2 a) y.1)):=by
 simp only [evalOp,bindV_O,Option.isSome_none,Bool.false_eq_true,if_false]
theorem op_nilCheck (d : Nat) (x : Operand) : evalOp cx st ⟨some d,.nilCheck x,t,pos,aft,g⟩ = bindO (nilV (view st x)) (fun v=>some (st.put d v)):=setD_O st d _
theorem op_fieldAddr (d : Nat) (t' : TypeId) (x : Operand) (f : Nat) : evalOp cx st ⟨some d,.fieldAddr t' x f,t,pos,aft,g⟩ = bindO (cx.T t') (fun ti=>bindO (fieldOff ti f (view st x)) (fun v=>some (st.put d v))):=by
 simp only [evalOp,bindV_O,setD_O]
theorem op_field (d : Nat) (t' : TypeId) (x : Operand) (f : Nat) : evalOp cx st ⟨some d,.field t' x f,t,pos,aft,g⟩ = bindO (cx.T t') (fun ti=>bindO (fieldV ti f (view st x)) (fun v=>some (st.put d v))):=by
 simp only [evalOp,bindV_O,setD_O]
theorem op_indexAddr (d : Nat) (t' : TypeId) (x ix : Operand) : evalOp cx st ⟨some d,.indexAddr t' x ix,t,pos,aft,g⟩ = bindO (cx.T t') (fun ti=>bindO (indexAddrV st ti (view st x) (view st ix)) (fun v=>some (st.put d v))):=by
 simp only [evalOp,bindV_O,setD_O]
theorem op_index (d : Nat) (t' : TypeId) (x ix : Operand) : evalOp cx st ⟨some d,.index t' x ix,t,pos,aft,g⟩ = bindO (cx.T t') (fun ti=>bindO (indexV ti (view st x) (view st ix)) (fun v=>some (st.put d v))):=by
 simp only [evalOp,bindV_O,setD_O]
theorem op_bin (d : Nat) (op : BinOp) (xt : TypeId) (x y : Operand) (yt : TypeId) : evalOp cx st ⟨some d,.binOp op xt x y yt,t,pos,aft,g⟩ = bindO (binX (cx.T xt) (cx.eqs xt) op (view st x) (view st y)) (fun v=>some (st.put d v)):=setD_O st d _
theorem op_un (d : Nat) (op : UnOp) (xt : TypeId) (x : Operand) : evalOp cx st ⟨some d,.unOp op xt x,t,pos,aft,g⟩ = bindO (unV op (view st x)) (fun v=>some (st.put d v)):=setD_O st d _
theorem op_convert (d : Nat) (a b : TypeId) (x : Operand) : evalOp cx st ⟨some d,.convert a b x,t,pos,aft,g⟩ = bindO (cx.T a) (fun ta=>bindO (cx.T b) (fun tb=>bindO (convS st ta tb (view st x)) (fun v=>some (st.put d v)))):=by
 simp only [evalOp,bindV_O,setD_O]
theorem convS_int (src : TI) (k : IntKind) (a : AV) : convS st src (.int k) a = convV st src (.int k) a:=nr rfl
theorem convS_str (src : TI) (a : AV) : convS st src .str a = convV st src .str a:=nr rfl
theorem convS_sl (z n : Nat) (zero : List AV) (src : TI) (a : AV) : convS st src (.slice z n zero) a = bytesV src z zero a:=nr rfl
theorem bytesV_s (z : Nat) (zero : List AV) (b : ByteArray) : bytesV .str z zero (.s b) = if z = 1 ∧ isU8 zero = true ∧ b.size ≤ 9223372036854775807 then some (.sl .mut 1 (b.data.toList.map byteRow)) else none:=nr rfl
theorem op_slice (d : Nat) (xt : TypeId) (x : Operand) (lo hi : Option Operand) : evalOp cx st ⟨some d,.slice xt x lo hi none,t,pos,aft,g⟩ = bindO (cx.T xt) (fun ti=>bindO (sliceT ti (view st x) (lo.map (view st)) (hi.map (view st))) (fun v=>some (st.put d v))):=by
 simp only [evalOp,bindV_O,setD_O]
theorem op_makeFunc (d f : Nat) (caps : List Operand) : evalOp cx st ⟨some d,.makeFunc (.func f) (List.toArray []) (List.toArray caps),t,pos,aft,g⟩ = if (caps.map (view st)).all leafA = true then some (st.put d (.fn f (caps.map (view st)))) else none:=by
 simp only [evalOp,List.isEmpty_toArray,List.isEmpty_nil,Bool.true_and]; rfl
theorem op_extract (d : Nat) (x : Operand) (j : Nat) : evalOp cx st ⟨some d,.extract x j,t,pos,aft,g⟩ = bindO (extractV st x j) (fun y=>some (y.2.put d y.1)):=setV_O d _
theorem op_build (d : Nat) (t' : TypeId) (parts : List (Nat × Operand)) : evalOp cx st ⟨some d,.build t' (List.toArray parts),t,pos,aft,g⟩ = bindO (cx.T t') (fun ti=>bindO (buildV ti st parts) (fun v=>some (st.put d v))):=by
 simp only [evalOp,bindV_O,setD_O]
theorem op_buildSlice (d : Nat) (t' : TypeId) (len : Nat) (parts : List (Nat × Operand)) : evalOp cx st ⟨some d,.buildSlice t' len (List.toArray parts),t,pos,aft,g⟩ = bindO (cx.T t') (fun ti=>bindO (buildSliceV ti st len parts) (fun y=>some (y.2.put d y.1))):=by
 simp only [evalOp,bindV_O,setV_O,St.put?]
theorem op_makeSlice (d : Nat) (t' : TypeId) (l c : Operand) : evalOp cx st ⟨some d,.makeSlice t' l c,t,pos,aft,g⟩ = bindO (cx.T t') (fun ti=>bindO (makeV ti (view st l) (view st c)) (fun v=>some (st.put d v))):=by
 simp only [evalOp,bindV_O,setD_O]
theorem op_len (d : Nat) (x : Operand) (tx : TypeId) (ts : List TypeId) : evalOp cx st ⟨some d,.call { callee:=.builtin .len,args:=List.toArray [x],argTypes:=List.toArray (tx :: ts) },t,pos,aft,g⟩ = bindO (cx.T tx) (fun ti=>bindO (lenT st ti (view st x)) (fun n=>some (st.put d (.i .i64 n)))):=by
 simp only [evalOp,evalCall,bindV_O]; rfl
theorem op_append (d : Nat) (x y : Operand) (tx ty : TypeId) : evalOp cx st ⟨some d,.call { callee:=.builtin .append,args:=List.toArray [x,y],argTypes:=List.toArray [tx,ty] },t,pos,aft,g⟩ = bindO (cx.T tx) (fun ti=>bindO (cx.T ty) (fun tj=>if notInt tj = true then bindO (appendV ti st x y) (fun y=>some (y.2.put d y.1)) else none)):=by
 simp only [evalOp,evalCall,bindV_O,setV_O]
theorem op_clear (x : Operand) (tx : TypeId) : evalOp cx st ⟨none,.call { callee:=.builtin .clear,args:=List.toArray [x],argTypes:=List.toArray [tx] },t,pos,aft,g⟩ = bindO (cx.T tx) (fun ti=>clearV ti st (view st x)):=by
 simp only [evalOp,evalCall,bindV_O,noD]
theorem op_min (d : Nat) (xs : List Operand) (at_ : Array TypeId) : evalOp cx st ⟨some d,.call { callee:=.builtin .min,args:=List.toArray xs,argTypes:=at_ },t,pos,aft,g⟩ = bindO (minL (fun a b=>if b < a then b else a) (xs.map (view st))) (fun v=>some (st.put d v)):=by
 simp only [evalOp,evalCall,setD_O]
theorem op_max (d : Nat) (xs : List Operand) (at_ : Array TypeId) : evalOp cx st ⟨some d,.call { callee:=.builtin .max,args:=List.toArray xs,argTypes:=at_ },t,pos,aft,g⟩ = bindO (minL (fun a b=>if b > a then b else a) (xs.map (view st))) (fun v=>some (st.put d v)):=by
 simp only [evalOp,evalCall,setD_O]
theorem op_call (d : Option Nat) (f : Operand) (args : List Operand) (ats : List TypeId) : evalOp cx st ⟨d,.call { callee:=.value f,args:=List.toArray args,argTypes:=List.toArray ats },t,pos,aft,g⟩ =
  bindO (doCall cx st f ats args) (fun y=>putN d y.2 y.1 (isNp y.1)):=by
 simp only [evalOp,evalCall,setC_O]
theorem doCall_O (f : Operand) (ts : List TypeId) (xs : List Operand) : doCall cx st f ts xs = bindO (argVs cx st f ts xs) (fun p=>bindO (cx.fns p.1) (fun fs=>callWk cx st p.1 fs f ts xs)):=by
 simp only [doCall,bindO]
 cases argVs cx st f ts xs with
 | none=>rfl
 | some p=>obtain ⟨g,as⟩:=p; simp only; cases cx.fns g <;> rfl
theorem argVs_O (f : Operand) (ts : List TypeId) (xs : List Operand) : argVs cx st f ts xs = fnV (view st f) (fixL cx ts xs (xs.map (view st))):=nr rfl
theorem callWk_O (g : Nat) (md : List Md) (F : List AV → Option (AV × List AV)) (f : Operand) (ts : List TypeId) (xs : List Operand) : callWk cx st g ⟨md,F,false⟩ f ts xs = callO cx st g ⟨md,F,false⟩ f ts xs:=nr rfl
theorem callWk_T (g : Nat) (md : List Md) (F : List AV → Option (AV × List AV)) (f : Operand) (ts : List TypeId) (xs : List Operand) : callWk cx st g ⟨md,F,true⟩ f ts xs = bindO (weakAll st md xs) (fun s=>callO cx s g ⟨md,F,true⟩ f ts xs):=by
 simp only [callWk,if_true,bindO]
 cases weakAll st md xs <;> rfl
def rwK (cx : Cx) (st : St) (g : Nat) (fs : FS) (f : Operand) (ts : List TypeId) (xs : List Operand) : Option (Nat × Nat) → Option (AV × St)
 | some (k,n)=>callW cx st g fs k n f ts xs
 | none=>callM cx st g fs f ts xs
theorem callO_K (g : Nat) (md : List Md) (F : List AV → Option (AV × List AV)) (b : Bool) (f : Operand) (ts : List TypeId) (xs : List Operand) : callO cx st g ⟨md,F,b⟩ f ts xs = rwK cx st g ⟨md,F,b⟩ f ts xs (rwIx 0 md):=by
 unfold callO rwK
 simp only
 cases rwIx 0 md with
 | none=>rfl
 | some p=>rfl
theorem rwK_some (g : Nat) (fs : FS) (f : Operand) (ts : List TypeId) (xs : List Operand) (k n : Nat) : rwK cx st g fs f ts xs (some (k,n)) = callW cx st g fs k n f ts xs:=nr rfl
theorem rwK_none (g : Nat) (fs : FS) (f : Operand) (ts : List TypeId) (xs : List Operand) : rwK cx st g fs f ts xs none = callM cx st g fs f ts xs:=nr rfl
theorem rwIx_nil (k : Nat) : rwIx k [] = none:=nr rfl
theorem rwIx_ro (k n : Nat) (ms : List Md) : rwIx k (.ro n :: ms) = rwIx (k + 1) ms:=nr rfl
theorem rwIx_mv (k : Nat) (ms : List Md) : rwIx k (.mv :: ms) = rwIx (k + 1) ms:=nr rfl
theorem rwIx_rw (k n : Nat) (ms : List Md) : rwIx k (.rw n :: ms) = some (k,n):=nr rfl
def inO (a : Option AV) (l : Option (List AV)) : Option (List AV):=match a,l with
 | some a,some l=>some (a :: l)
 | _,_=>none
theorem inO_some (a : AV) (l : List AV) : inO (some a) (some l) = some (a :: l):=nr rfl
theorem inArgs_nil (own : Bool) (av : Option (Bool × Nat)) (ys : List (AV × List (Option (Pl × Bool)))) : inArgs own av st [] [] ys = some []:=nr rfl
theorem inArgs_cons (own : Bool) (av : Option (Bool × Nat)) (m : Md) (ms : List Md) (a : AV) (as : List AV) (ys : List (AV × List (Option (Pl × Bool)))) : inArgs own av st (m :: ms) (a :: as) ys = inO (inArg own av st m a (ys.headD (.u,[]))) (inArgs own av st ms as ys.tail):=by
 simp only [inArgs,inO]
 cases inArg own av st m a (ys.headD (.u,[])) with
 | none=>rfl
 | some b=>simp only; cases inArgs own av st ms as ys.tail <;> rfl
theorem inArg_ro (own : Bool) (av : Option (Bool × Nat)) (n : Nat) (a : AV) (y : AV × List (Option (Pl × Bool))) : inArg own av st (.ro n) a y = roTop own av st a:=nr rfl
theorem inArg_mv (own : Bool) (av : Option (Bool × Nat)) (a : AV) (x : AV) (l : List (Option (Pl × Bool))) : inArg own av st .mv a (x,l) = some x:=nr rfl
def rwB (n : Nat) (pl : Pl) (w : Bool) (cells : List AV) : Option AV:=if (w && decide (pl.c + n ≤ cells.length) && ((cells.drop pl.c).take n).all rowOk) = true then some (.agg ((cells.drop pl.c).take n)) else none
theorem inArg_rw (own : Bool) (av : Option (Bool × Nat)) (n : Nat) (pl : Pl) (y : AV × List (Option (Pl × Bool))) : inArg own av st (.rw n) (.p pl) y = bindO (node st pl) (rwB n pl (canWrite st pl)):=by
 simp only [inArg,bindO,rwB]
 cases node st pl <;> rfl
def rwP (cx : Cx) (st : St) (fs : FS) (as : List AV) (k n : Nat) : Option AV → Option (AV × St)
 | some (.p pl)=>callW2 cx st fs as k n pl
 | _=>none
theorem rwP_p (fs : FS) (as : List AV) (k n : Nat) (pl : Pl) : rwP cx st fs as k n (some (.p pl)) = callW2 cx st fs as k n pl:=nr rfl
theorem callW_O (g : Nat) (fs : FS) (k n : Nat) (f : Operand) (ts : List TypeId) (xs : List Operand) : callW cx st g fs k n f ts xs = bindO (argVs cx st f ts xs) (fun p=>if p.1 = g ∧ othRo k fs.md = true then rwP cx st fs p.2 k n p.2[k]? else none):=by
 simp only [callW,bindO]
 cases argVs cx st f ts xs with
 | none=>rfl
 | some p =>
  obtain ⟨g',as⟩:=p
  simp only
  split
  ·cases as[k]? with
   | none=>rfl
   | some a=>cases a <;> rfl
  ·rfl
def rwA (st : St) (pl : Pl) (n : Nat) (r : AV) : Option AV → Option (AV × St)
 | some (.agg cs)=>bindO (node st pl) (fun cells=>some (r,(setNode st pl (cells.take pl.c ++ cs ++ cells.drop (pl.c + n))).cut pl n))
 | _=>none
theorem rwA_agg (pl : Pl) (n : Nat) (r : AV) (cs : List AV) : rwA st pl n r (some (.agg cs)) = bindO (node st pl) (fun cells=>some (r,(setNode st pl (cells.take pl.c ++ cs ++ cells.drop (pl.c + n))).cut pl n)):=nr rfl
def rwR (st : St) (pl : Pl) (k n : Nat) (p : AV × List AV) : Option (AV × St):=rwA st pl n p.1 p.2[k]?
theorem rwR_eq (pl : Pl) (k n : Nat) (r : AV) (os : List AV) : rwR st pl k n (r,os) = rwA st pl n r os[k]?:=nr rfl
theorem callW2_O (md : List Md) (F : List AV → Option (AV × List AV)) (b : Bool) (as : List AV) (k n : Nat) (pl : Pl) : callW2 cx st ⟨md,F,b⟩ as k n pl = bindO (inArgs (!b) (some (pl.e,pl.r)) st md as []) (fun bs=>bindO (F bs) (rwR st pl k n)):=by
 simp only [callW2,bindO,rwR]
 cases inArgs (!b) (some (pl.e,pl.r)) st md as [] with
 | none=>rfl
 | some bs =>
  simp only
  cases F bs with
  | none=>rfl
  | some p =>
   obtain ⟨r,os⟩:=p
   simp only [rwA]
   cases os[k]? with
   | none=>rfl
   | some a =>
    cases a <;> try rfl
    simp only [bindO]
    cases node st pl <;> rfl
theorem othRo_zero (m : Md) (ms : List Md) : othRo 0 (m :: ms) = ms.all isRoMd:=nr rfl
theorem othRo_succ (k n : Nat) (ms : List Md) : othRo (k + 1) (.ro n :: ms) = othRo k ms:=nr rfl
theorem weakAll_nil (xs : List Operand) : weakAll st [] xs = some st:=by cases xs <;> rfl
theorem weakAll_ro (n : Nat) (ms : List Md) (x : Operand) (xs : List Operand) : weakAll st (.ro n :: ms) (x :: xs) = bindO (weakArg st x) (fun s=>weakAll s ms xs):=by
 simp only [weakAll,bindO]; cases weakArg st x <;> rfl
theorem weakAll_rw (n : Nat) (ms : List Md) (x : Operand) (xs : List Operand) : weakAll st (.rw n :: ms) (x :: xs) = weakAll st ms xs:=by simp only [weakAll]
theorem weakAll_mv (ms : List Md) (x : Operand) (xs : List Operand) : weakAll st (.mv :: ms) (x :: xs) = weakAll st ms xs:=by simp only [weakAll]
def weakV (st : St) (x : Operand) : AV → Option St
 | .agg cs=>weakAgg x cs.length 0 st
 | a=>weakLeaf st a
theorem weakArg_V (x : Operand) : weakArg st x = weakV st x (view st x):=by simp only [weakArg,weakV]; cases view st x <;> rfl
theorem weakAgg_zero (x : Operand) (j : Nat) : weakAgg x 0 j st = some st:=nr rfl
def weakG (x : Operand) (n j : Nat) (st : St) : AV → Option St
 | .agg cs=>bindO cs[j]? (fun a=>bindO (weakLeaf st a) (fun s=>weakAgg x n (j + 1) s))
 | _=>none
theorem weakG_agg (x : Operand) (n j : Nat) (cs : List AV) : weakG x n j st (.agg cs) = bindO cs[j]? (fun a=>bindO (weakLeaf st a) (fun s=>weakAgg x n (j + 1) s)):=nr rfl
theorem weakAgg_succ (x : Operand) (n j : Nat) : weakAgg x (n + 1) j st = weakG x n j st (view st x):=by
 simp only [weakAgg,weakG]
 cases view st x with
 | agg cs =>
  simp only [bindO]
  cases cs[j]? with
  | none=>rfl
  | some a=>simp only; cases weakLeaf st a <;> rfl
 | _=>rfl
def weakN (st : St) (pl : Pl) (z' : Nat) (cells : List AV) : Option AV → Option St
 | some (.sl .mut z es)=>if z' = z then (if canWrite st pl then some ((setNode st pl (cells.set pl.c (.sl .app z (stripLL es)))).filt (keepP pl.e pl.r pl.path pl.c 1) (keepP pl.e pl.r pl.path pl.c 1)) else none) else none
 | _=>some st
def weakO (st : St) (pl : Pl) (z' : Nat) : Option (List AV) → Option St
 | some cells=>weakN st pl z' cells cells[pl.c]?
 | none=>some st
theorem weakLeaf_rf (pl : Pl) (z' lo n : Nat) : weakLeaf st (.rf pl z' lo n) = weakO st pl z' (node st pl):=by
 simp only [weakLeaf,weakO]
 cases node st pl with
 | none=>rfl
 | some cells=>rfl
theorem weakO_some (pl : Pl) (z' : Nat) (cells : List AV) : weakO st pl z' (some cells) = weakN st pl z' cells cells[pl.c]?:=nr rfl
theorem weakN_mut (pl : Pl) (z' : Nat) (cells : List AV) (z : Nat) (es : List (List AV)) : weakN st pl z' cells (some (.sl .mut z es)) = if z' = z then (if canWrite st pl = true then some ((setNode st pl (cells.set pl.c (.sl .app z (stripLL es)))).filt (keepP pl.e pl.r pl.path pl.c 1) (keepP pl.e pl.r pl.path pl.c 1)) else none) else none:=nr rfl
theorem weakN_ro (pl : Pl) (z' : Nat) (cells : List AV) (z : Nat) (es : List (List AV)) : weakN st pl z' cells (some (.sl .ro z es)) = some st:=nr rfl
theorem weakN_app (pl : Pl) (z' : Nat) (cells : List AV) (z : Nat) (es : List (List AV)) : weakN st pl z' cells (some (.sl .app z es)) = some st:=nr rfl
def ansK (ys : List (AV × List (Option (Pl × Bool)))) (st : St) (p : AV × List AV) : Option (AV × St):=bindO (fillAll st p.2 ys) (fun s=>some (p.1,s))
theorem callM_O (g : Nat) (md : List Md) (F : List AV → Option (AV × List AV)) (b : Bool) (f : Operand) (ts : List TypeId) (xs : List Operand) : callM cx st g ⟨md,F,b⟩ f ts xs = bindO (outArgs cx st md ts xs) (fun p=>bindO (argVs cx p.2 f ts xs) (fun q=>if q.1 = g ∧ (p.1.all fun y=>y.2.all (okPl p.2)) = true then bindO (inArgs (!b) none p.2 md q.2 p.1) (fun bs=>bindO (F bs) (ansK p.1 p.2)) else none)):=by
 simp only [callM,bindO,ansK]
 cases outArgs cx st md ts xs with
 | none=>rfl
 | some p =>
  obtain ⟨ys,s⟩:=p
  simp only
  cases argVs cx s f ts xs with
  | none=>rfl
  | some q =>
   obtain ⟨g',as⟩:=q
   simp only [callM2]
   split
   ·cases inArgs (!b) none s md as ys with
    | none=>rfl
    | some bs =>
     simp only
     cases F bs with
     | none=>rfl
     | some r =>
      obtain ⟨v,os⟩:=r
      simp only
      cases fillAll s os ys <;> rfl
   ·rfl
theorem outArgs_nil (ts : List TypeId) (xs : List Operand) : outArgs cx st [] ts xs = some ([],st):=by cases ts <;> cases xs <;> rfl
def consY (y : AV × List (Option (Pl × Bool))) (q : List (AV × List (Option (Pl × Bool))) × St) : Option (List (AV × List (Option (Pl × Bool))) × St):=some (y :: q.1,q.2)
theorem consY_eq (y : AV × List (Option (Pl × Bool))) (l : List (AV × List (Option (Pl × Bool)))) (s : St) : consY y (l,s) = some (y :: l,s):=nr rfl
theorem outArgs_mv (ms : List Md) (t : TypeId) (ts : List TypeId) (x : Operand) (xs : List Operand) : outArgs cx st (.mv :: ms) (t :: ts) (x :: xs) = bindO (outArg (zOf cx t) st x) (fun p=>bindO (outArgs cx p.2 ms ts xs) (consY p.1)):=by
 simp only [outArgs,Md.isMv,if_true,bindO,consY]
 cases outArg (zOf cx t) st x with
 | none=>rfl
 | some p=>obtain ⟨y,s⟩:=p; simp only; cases outArgs cx s ms ts xs <;> rfl
theorem outArgs_ro (n : Nat) (ms : List Md) (t : TypeId) (ts : List TypeId) (x : Operand) (xs : List Operand) : outArgs cx st (.ro n :: ms) (t :: ts) (x :: xs) = bindO (outArgs cx st ms ts xs) (consY (.u,[])):=by
 simp only [outArgs,Md.isMv,Bool.false_eq_true,if_false,bindO,consY]
 cases outArgs cx st ms ts xs <;> rfl
def outA (z : Nat) (st : St) (x : Operand) : AV → Option ((AV × List (Option (Pl × Bool))) × St)
 | .agg cs=>match outAgg x cs.length 0 st with
  | some (ys,st')=>some ((.agg ys.1,ys.2),st')
  | none=>none
 | a=>match outLeaf st (fix z a) with
  | some (y,st')=>some ((y.1,[y.2]),st')
  | none=>none
theorem outArg_A (z : Nat) (x : Operand) : outArg z st x = outA z st x (view st x):=by
 simp only [outArg,outA]
 cases view st x <;> rfl
def outA1 (p : (List AV × List (Option (Pl × Bool))) × St) : Option ((AV × List (Option (Pl × Bool))) × St):=some ((.agg p.1.1,p.1.2),p.2)
theorem outA1_eq (l : List AV) (r : List (Option (Pl × Bool))) (s : St) : outA1 ((l,r),s) = some ((.agg l,r),s):=nr rfl
def outA2 (p : (AV × Option (Pl × Bool)) × St) : Option ((AV × List (Option (Pl × Bool))) × St):=some ((p.1.1,[p.1.2]),p.2)
theorem outA2_eq (a : AV) (r : Option (Pl × Bool)) (s : St) : outA2 ((a,r),s) = some ((a,[r]),s):=nr rfl
theorem outA_agg (z : Nat) (x : Operand) (cs : List AV) : outA z st x (.agg cs) = bindO (outAgg x cs.length 0 st) outA1:=by
 simp only [outA,bindO,outA1]
 cases outAgg x cs.length 0 st <;> rfl
theorem outA_rf (z : Nat) (x : Operand) (pl : Pl) (y lo n : Nat) : outA z st x (.rf pl y lo n) = bindO (outLeaf st (.rf pl y lo n)) outA2:=by
 simp only [outA,fix,bindO,outA2]
 cases outLeaf st (.rf pl y lo n) <;> rfl
theorem outA_sl (z : Nat) (x : Operand) (t : Tag) (y : Nat) (es : List (List AV)) : outA z st x (.sl t y es) = bindO (outLeaf st (.sl t y es)) outA2:=by
 simp only [outA,fix,bindO,outA2]
 cases outLeaf st (.sl t y es) <;> rfl
theorem outA_nil (z : Nat) (x : Operand) : outA z st x .nil = bindO (outLeaf st (fix z .nil)) outA2:=by
 simp only [outA,bindO,outA2]
 cases outLeaf st (fix z .nil) <;> rfl
theorem outAgg_zero (x : Operand) (j : Nat) : outAgg x 0 j st = some (([],[]),st):=nr rfl
def outP (y : AV × Option (Pl × Bool)) (q : (List AV × List (Option (Pl × Bool))) × St) : Option ((List AV × List (Option (Pl × Bool))) × St):=some ((y.1 :: q.1.1,y.2 :: q.1.2),q.2)
theorem outP_eq (a : AV) (r : Option (Pl × Bool)) (l : List AV) (rs : List (Option (Pl × Bool))) (s : St) : outP (a,r) ((l,rs),s) = some ((a :: l,r :: rs),s):=nr rfl
def outG (x : Operand) (n j : Nat) (st : St) : AV → Option ((List AV × List (Option (Pl × Bool))) × St)
 | .agg cs=>bindO cs[j]? (fun a=>bindO (outLeaf st a) (fun p=>bindO (outAgg x n (j + 1) p.2) (outP p.1)))
 | _=>none
theorem outG_agg (x : Operand) (n j : Nat) (cs : List AV) : outG x n j st (.agg cs) = bindO cs[j]? (fun a=>bindO (outLeaf st a) (fun p=>bindO (outAgg x n (j + 1) p.2) (outP p.1))):=nr rfl
theorem outAgg_succ (x : Operand) (n j : Nat) : outAgg x (n + 1) j st = outG x n j st (view st x):=by
 simp only [outAgg,outG]
 cases view st x with
 | agg cs =>
  simp only [bindO,outP]
  cases cs[j]? with
  | none=>rfl
  | some a =>
   simp only
   cases outLeaf st a with
   | none=>rfl
   | some p=>obtain ⟨y,s⟩:=p; simp only; cases outAgg x n (j + 1) s <;> rfl
 | _=>rfl
def outC (st : St) (pl : Pl) (z' lo n : Nat) (cells : List AV) : Option AV → Option ((AV × Option (Pl × Bool)) × St)
 | some (.sl .mut z es)=>if (lo = 0 ∧ n = es.length) ∧ z' = z then (if canWrite st pl = true then some ((.sl .mut z es,some (pl,whole st pl)),(setNode st pl (cells.set pl.c .u)).cut pl 1) else none) else none
 | _=>none
theorem outC_mut (pl : Pl) (z' lo n : Nat) (cells : List AV) (z : Nat) (es : List (List AV)) : outC st pl z' lo n cells (some (.sl .mut z es)) = if (lo = 0 ∧ n = es.length) ∧ z' = z then (if canWrite st pl = true then some ((.sl .mut z es,some (pl,whole st pl)),(setNode st pl (cells.set pl.c .u)).cut pl 1) else none) else none:=nr rfl
theorem outLeaf_rf (pl : Pl) (z' lo n : Nat) : outLeaf st (.rf pl z' lo n) = bindO (node st pl) (fun cells=>outC st pl z' lo n cells cells[pl.c]?):=by
 simp only [outLeaf,bindO]
 cases node st pl with
 | none=>rfl
 | some cells=>simp only [outC]; rfl
def clrC (st : St) (z : Nat) (pl : Pl) (y lo n : Nat) (cells : List AV) : Option AV → Option St
 | some (.sl .mut z' es)=>if ((lo + n ≤ es.length ∧ z' = z) ∧ y = z) ∧ (canWrite st pl && okPl ((setNode st pl (cells.set pl.c .u)).cut pl 1) (some (pl,whole st pl))) = true then fillLeaf ((setNode st pl (cells.set pl.c .u)).cut pl 1) (.sl .mut z (clearRows z lo n es)) (some (pl,whole st pl)) else none
 | _=>none
theorem clrC_mut (z : Nat) (pl : Pl) (y lo n : Nat) (cells : List AV) (z' : Nat) (es : List (List AV)) : clrC st z pl y lo n cells (some (.sl .mut z' es)) = if ((lo + n ≤ es.length ∧ z' = z) ∧ y = z) ∧ (canWrite st pl && okPl ((setNode st pl (cells.set pl.c .u)).cut pl 1) (some (pl,whole st pl))) = true then fillLeaf ((setNode st pl (cells.set pl.c .u)).cut pl 1) (.sl .mut z (clearRows z lo n es)) (some (pl,whole st pl)) else none:=nr rfl
theorem clearV_rf (z b : Nat) (ze : List AV) (pl : Pl) (y lo n : Nat) : clearV (.slice z b ze) st (.rf pl y lo n) = bindO (node st pl) (fun cells=>clrC st z pl y lo n cells cells[pl.c]?):=by
 simp only [clearV,bindO]
 cases node st pl with
 | none=>rfl
 | some cells=>simp only [clrC]; rfl
@[congr] theorem clearV_congr {ti : TI} {a a' : AV} (h : a = a') : clearV ti st a = clearV ti st a':=by rw [h]
theorem okPl_none : okPl st none = true:=nr rfl
theorem okPl_true (pl : Pl) : okPl st (some (pl,true)) = true:=nr rfl
def okN (c : Nat) : Option (List AV) → Bool
 | some cells=>decide (c < cells.length)
 | none=>false
theorem okN_some (c : Nat) (cells : List AV) : okN c (some cells) = decide (c < cells.length):=nr rfl
theorem okPl_false (pl : Pl) : okPl st (some (pl,false)) = ((!pl.e || top (st.env pl.r)) && okN pl.c (node st pl)):=nr rfl
theorem fillAll_nil (ys : List (AV × List (Option (Pl × Bool)))) : fillAll st [] ys = some st:=by cases ys <;> rfl
theorem fillAll_none (o : AV) (os : List AV) (a : AV) (ys : List (AV × List (Option (Pl × Bool)))) : fillAll st (o :: os) ((a,[]) :: ys) = fillAll st os ys:=nr rfl
theorem fillAll_some (o : AV) (os : List AV) (a : AV) (p : Option (Pl × Bool)) (ps : List (Option (Pl × Bool))) (ys : List (AV × List (Option (Pl × Bool)))) : fillAll st (o :: os) ((a,p :: ps) :: ys) = bindO (fillLeaves st (cellsOf o) (p :: ps)) (fun s=>fillAll s os ys):=by
 simp only [fillAll,bindO]
 cases fillLeaves st (cellsOf o) (p :: ps) <;> rfl
theorem fillAll_end (os : List AV) : fillAll st os [] = some st:=by cases os <;> rfl
theorem fillLeaves_nil : fillLeaves st [] [] = some st:=nr rfl
theorem fillLeaves_cons (a : AV) (as : List AV) (p : Option (Pl × Bool)) (ps : List (Option (Pl × Bool))) : fillLeaves st (a :: as) (p :: ps) = bindO (fillLeaf st a p) (fun s=>fillLeaves s as ps):=by
 simp only [fillLeaves,bindO]
 cases fillLeaf st a p <;> rfl
theorem fillLeaf_none (a : AV) : fillLeaf st a none = some st:=nr rfl
def fillT (st : St) (r : Nat) (a : AV) : AV → Option St
 | .u=>some (st.put r a)
 | _=>none
theorem fillT_u (r : Nat) (a : AV) : fillT st r a .u = some (st.put r a):=nr rfl
theorem fillLeaf_true (pl : Pl) (t : Tag) (z : Nat) (es : List (List AV)) : fillLeaf st (.sl t z es) (some (pl,true)) = fillT st pl.r (.sl t z es) (st.env pl.r):=by
 simp only [fillLeaf,fillT]
 cases st.env pl.r <;> rfl
def fillC (st : St) (pl : Pl) (a : AV) (cells : List AV) : Option AV → Option St
 | some .u=>if (canWrite st pl && (!pl.e || top (st.env pl.r))) = true then some (setNode st pl (cells.set pl.c a)) else none
 | _=>none
theorem fillC_u (pl : Pl) (a : AV) (cells : List AV) : fillC st pl a cells (some .u) = if (canWrite st pl && (!pl.e || top (st.env pl.r))) = true then some (setNode st pl (cells.set pl.c a)) else none:=nr rfl
theorem fillLeaf_false (pl : Pl) (t : Tag) (z : Nat) (es : List (List AV)) : fillLeaf st (.sl t z es) (some (pl,false)) = bindO (node st pl) (fun cells=>fillC st pl (.sl t z es) cells cells[pl.c]?):=by
 simp only [fillLeaf,bindO]
 cases node st pl with
 | none=>rfl
 | some cells =>
  simp only [fillC]
  cases cells[pl.c]? with
  | none=>rfl
  | some a=>cases a <;> rfl
def ans1 (st : St) (p : AV × List AV) : Option (AV × St):=some (p.1,st)
theorem ans1_eq (v : AV) (os : List AV) : ans1 st (v,os) = some (v,st):=nr rfl
theorem callM_ro (g : Nat) (md : List Md) (F : List AV → Option (AV × List AV)) (b : Bool) (f : Operand) (ts : List TypeId) (xs : List Operand) (h : md.all isRoMd = true) :
  callM cx st g ⟨md,F,b⟩ f ts xs = bindO (argVs cx st f ts xs) (fun q=>if q.1 = g then bindO (inArgs (!b) none st md q.2 []) (fun bs=>bindO (F bs) (ans1 st)) else none):=by
 have h1 : ∀ (ms : List Md) (ts : List TypeId) (xs : List Operand),ms.all isRoMd = true → ∃ ys,outArgs cx st ms ts xs = some (ys,st) ∧ ∀ y ∈ ys,y = (AV.u,[]):=by
  intro ms
  induction ms with
  | nil=>intro ts xs _; exact ⟨[],by simp [outArgs],by simp⟩
  | cons m ms ih =>
   intro ts xs hm
   simp only [List.all_cons,Bool.and_eq_true] at hm
   cases ts with
   | nil=>exact ⟨[],by simp [outArgs],by simp⟩
   | cons t ts =>
    cases xs with
    | nil=>exact ⟨[],by simp [outArgs],by simp⟩
    | cons x xs =>
     obtain ⟨ys,e1,e2⟩:=ih ts xs hm.2
     have : m.isMv = false:=by cases m <;> first | rfl | cases hm.1
     exact ⟨(.u,[]) :: ys,by simp only [outArgs,this,Bool.false_eq_true,if_false,e1],by simpa using e2⟩
 obtain ⟨ys,e1,e2⟩:=h1 md ts xs h
 have h2 : ∀ (ms : List Md) (as : List AV) (ys : List (AV × List (Option (Pl × Bool)))),ms.all isRoMd = true → (∀ y ∈ ys,y = (AV.u,[])) → inArgs (!b) none st ms as ys = inArgs (!b) none st ms as []:=by
  intro ms
  induction ms with
  | nil=>intro as ys _ _; cases as <;> rfl
  | cons m ms ih =>
   intro as ys hm hy
   simp only [List.all_cons,Bool.and_eq_true] at hm
   cases as with
   | nil=>rfl
   | cons a as =>
    cases m with
    | ro n =>
     simp only [inArgs,inArg,List.tail_nil]
     rw [ih as ys.tail hm.2 (fun y hy'=>hy y (List.mem_of_mem_tail hy'))]
    | _=>cases hm.1
 have h3 : ∀ (os : List AV) (ys : List (AV × List (Option (Pl × Bool)))),(∀ y ∈ ys,y = (AV.u,[])) → fillAll st os ys = some st:=by
  intro os
  induction os with
  | nil=>intro ys _; cases ys <;> rfl
  | cons o os ih =>
   intro ys hy
   cases ys with
   | nil=>rfl
   | cons y ys =>
    have:=hy y (by simp)
    subst this
    simp only [fillAll]
    exact ih ys (fun y hy'=>hy y (by simp [hy']))
 have h4 : (ys.all fun y=>y.2.all (okPl st)) = true:=by
  rw [List.all_eq_true]
  intro y hy
  rw [e2 y hy]; rfl
 rw [callM_O,e1]
 simp only [bindO_some,h4,and_true]
 congr 1
 funext q
 split
 ·rw [h2 md q.2 ys h e2]
  congr 1
  funext bs
  congr 1
  funext p
  simp only [ansK,ans1,h3 p.2 ys e2,bindO_some]
 ·rfl
end
end Go.Vm
set_option autoImplicit true
set_option relaxedAutoImplicit true
namespace Go.Vm
theorem k0 : viewLeaf q .u = .u:=nr rfl
theorem k1 : viewLeaf q .no = .no:=nr rfl
theorem k2 : viewLeaf q .ub = .ub:=nr rfl
theorem k3 : viewLeaf q (.b x) = (.b x):=nr rfl
theorem k4 : viewLeaf q (.i k n) = (.i k n):=nr rfl
theorem k5 : viewLeaf q (.s x) = (.s x):=nr rfl
theorem k6 : viewLeaf q .nil = .nil:=nr rfl
theorem k7 : viewLeaf q (.rf pl y lo n) = (.rf pl y lo n):=nr rfl
theorem k8 : viewLeaf q (.p pl) = (.p pl):=nr rfl
theorem k9 : viewLeaf q (.pr cs) = (.pr cs):=nr rfl
theorem k10 : viewLeaf q .pn = .pn:=nr rfl
theorem k11 : viewLeaf q (.fn f cs) = (.fn f cs):=nr rfl
theorem k12 : viewLeaf q (.fs cs) = (.fs cs):=nr rfl
theorem k13 : viewLeaf q (.agg cs) = (.agg cs):=nr rfl
theorem k14 : viewLeaf q (.tup cs) = (.tup cs):=nr rfl
theorem k15 : viewLeaf q (.sl .app z es) = .rf q z 0 es.length:=nr rfl
theorem k16 : viewLeaf q (.sl .mut z es) = .rf q z 0 es.length:=nr rfl
theorem k17 : viewLeaf q (.sl .ro z es) = .sl .ro z es:=nr rfl
def viewA (x : Nat) (a : AV) : AV:=match a with
 | .agg cs=>.agg (viewCells ⟨true,x,[],0⟩ 0 cs)
 | .tup _=>.u
 | a=>viewLeaf ⟨true,x,[],0⟩ a
theorem k18 : view st (.tmp x) = viewA x (st.env x):=nr rfl
theorem k19 : view st (.const v) = avOf v:=nr rfl
theorem k20 : view st (.func f) = .fn f []:=nr rfl
theorem k21 : viewA x .u = .u:=nr rfl
theorem k22 : viewA x .no = .no:=nr rfl
theorem k23 : viewA x .ub = .ub:=nr rfl
theorem k24 : viewA x (.i k n) = (.i k n):=nr rfl
theorem k25 : viewA x .nil = .nil:=nr rfl
theorem k26 : viewA x (.rf pl y lo n) = (.rf pl y lo n):=nr rfl
theorem k27 : viewA x (.p pl) = (.p pl):=nr rfl
theorem k28 : viewA x (.pr cs) = (.pr cs):=nr rfl
theorem k29 : viewA x .pn = .pn:=nr rfl
theorem k30 : viewA x (.fn f cs) = (.fn f cs):=nr rfl
theorem k31 : viewA x (.fs cs) = (.fs cs):=nr rfl
theorem k32 : viewA x (.agg cs) = .agg (viewCells ⟨true,x,[],0⟩ 0 cs):=nr rfl
theorem k33 : viewA x (.tup cs) = .u:=nr rfl
theorem k34 : viewA x (.b y) = .b y:=nr rfl
theorem k35 : viewA x (.s y) = .s y:=nr rfl
theorem k36 : viewA x (.sl .app z es) = .rf ⟨true,x,[],0⟩ z 0 es.length:=nr rfl
theorem k37 : viewA x (.sl .mut z es) = .rf ⟨true,x,[],0⟩ z 0 es.length:=nr rfl
theorem k38 : viewA x (.sl .ro z es) = .sl .ro z es:=nr rfl
theorem k39 : viewCells q j [] = []:=nr rfl
theorem k40 : viewCells q j (a :: l) = viewLeaf { q with c:=j } a :: viewCells q (j + 1) l:=nr rfl
theorem k41 : isSl .u = false:=nr rfl
theorem k42 : isSl .no = false:=nr rfl
theorem k43 : isSl .ub = false:=nr rfl
theorem k44 : isSl (.b x) = false:=nr rfl
theorem k45 : isSl (.i k n) = false:=nr rfl
theorem k46 : isSl (.s x) = false:=nr rfl
theorem k47 : isSl .nil = false:=nr rfl
theorem k48 : isSl (.sl t z es) = true:=nr rfl
theorem k49 : isSl (.rf pl y lo n) = false:=nr rfl
theorem k50 : isSl (.p pl) = false:=nr rfl
theorem k51 : isSl (.pr cs) = false:=nr rfl
theorem k52 : isSl .pn = false:=nr rfl
theorem k53 : isSl (.fn f cs) = false:=nr rfl
theorem k54 : isSl (.fs cs) = false:=nr rfl
theorem k55 : isSl (.agg cs) = false:=nr rfl
theorem k56 : isSl (.tup cs) = false:=nr rfl
theorem k57 : isNp .u = none:=nr rfl
theorem k58 : isNp .no = none:=nr rfl
theorem k59 : isNp .ub = none:=nr rfl
theorem k60 : isNp (.b x) = none:=nr rfl
theorem k61 : isNp (.i k n) = none:=nr rfl
theorem k62 : isNp (.s x) = none:=nr rfl
theorem k63 : isNp .nil = none:=nr rfl
theorem k64 : isNp (.sl t z es) = none:=nr rfl
theorem k65 : isNp (.rf pl y lo n) = none:=nr rfl
theorem k66 : isNp (.p pl) = none:=nr rfl
theorem k67 : isNp (.pr cs) = none:=nr rfl
theorem k68 : isNp .pn = none:=nr rfl
theorem k69 : isNp (.fn f cs) = none:=nr rfl
theorem k70 : isNp (.fs cs) = none:=nr rfl
theorem k71 : isNp (.agg cs) = none:=nr rfl
theorem k72 : npP md st .u = none:=nr rfl
theorem k73 : npP md st .no = none:=nr rfl
theorem k74 : npP md st .ub = none:=nr rfl
theorem k75 : npP md st (.b x) = none:=nr rfl
theorem k76 : npP md st (.i k n) = none:=nr rfl
theorem k77 : npP md st (.s x) = none:=nr rfl
theorem k78 : npP md st .nil = none:=nr rfl
theorem k79 : npP md st (.sl t z es) = none:=nr rfl
theorem k80 : npP md st (.rf pl y lo n) = none:=nr rfl
theorem k81 : npP md st (.pr cs) = none:=nr rfl
theorem k82 : npP md st .pn = none:=nr rfl
theorem k83 : npP md st (.fn f cs) = none:=nr rfl
theorem k84 : npP md st (.fs cs) = none:=nr rfl
theorem k85 : npP md st (.agg cs) = none:=nr rfl
theorem k86 : npP md st (.tup cs) = none:=nr rfl
theorem k87 : hasSl .u = false:=nr rfl
theorem k88 : hasSl .no = false:=nr rfl
theorem k89 : hasSl .ub = false:=nr rfl
theorem k90 : hasSl (.b x) = false:=nr rfl
theorem k91 : hasSl (.i k n) = false:=nr rfl
theorem k92 : hasSl (.s x) = false:=nr rfl
theorem k93 : hasSl .nil = false:=nr rfl
theorem k94 : hasSl (.sl t z es) = true:=nr rfl
theorem k95 : hasSl (.rf pl y lo n) = false:=nr rfl
theorem k96 : hasSl (.p pl) = false:=nr rfl
theorem k97 : hasSl (.pr cs) = false:=nr rfl
theorem k98 : hasSl .pn = false:=nr rfl
theorem k99 : hasSl (.fn f cs) = false:=nr rfl
theorem k100 : hasSl (.fs cs) = false:=nr rfl
theorem k101 : hasSl (.agg cs) = cs.any isSl:=nr rfl
theorem k102 : hasSl (.tup cs) = false:=nr rfl
theorem k103 : noRf .u = true:=nr rfl
theorem k104 : noRf .no = false:=nr rfl
theorem k105 : noRf .ub = true:=nr rfl
theorem k106 : noRf (.b x) = true:=nr rfl
theorem k107 : noRf (.i k n) = true:=nr rfl
theorem k108 : noRf (.s x) = true:=nr rfl
theorem k109 : noRf .nil = true:=nr rfl
theorem k110 : noRf (.sl t z es) = true:=nr rfl
theorem k111 : noRf (.rf pl y lo n) = false:=nr rfl
theorem k112 : noRf (.p pl) = true:=nr rfl
theorem k113 : noRf (.pr cs) = true:=nr rfl
theorem k114 : noRf .pn = true:=nr rfl
theorem k115 : noRf (.fn f cs) = false:=nr rfl
theorem k116 : noRf (.fs cs) = false:=nr rfl
theorem k117 : noRf (.agg cs) = false:=nr rfl
theorem k118 : noRf (.tup cs) = false:=nr rfl
theorem k119 : rowOk .u = true:=nr rfl
theorem k120 : rowOk .no = false:=nr rfl
theorem k121 : rowOk .ub = true:=nr rfl
theorem k122 : rowOk (.b x) = true:=nr rfl
theorem k123 : rowOk (.i k n) = true:=nr rfl
theorem k124 : rowOk (.s x) = true:=nr rfl
theorem k125 : rowOk .nil = true:=nr rfl
theorem k126 : rowOk (.sl t z es) = true:=nr rfl
theorem k127 : rowOk (.rf pl y lo n) = false:=nr rfl
theorem k128 : rowOk (.p pl) = false:=nr rfl
theorem k129 : rowOk (.pr cs) = true:=nr rfl
theorem k130 : rowOk .pn = true:=nr rfl
theorem k131 : rowOk (.fn f cs) = false:=nr rfl
theorem k132 : rowOk (.fs cs) = false:=nr rfl
theorem k133 : rowOk (.agg cs) = false:=nr rfl
theorem k134 : rowOk (.tup cs) = false:=nr rfl
theorem k135 : top .u = false:=nr rfl
theorem k136 : top .no = false:=nr rfl
theorem k137 : top .ub = true:=nr rfl
theorem k138 : top (.b x) = true:=nr rfl
theorem k139 : top (.i k n) = true:=nr rfl
theorem k140 : top (.s x) = true:=nr rfl
theorem k141 : top .nil = true:=nr rfl
theorem k142 : top (.sl t z es) = true:=nr rfl
theorem k143 : top (.rf pl y lo n) = true:=nr rfl
theorem k144 : top (.p pl) = true:=nr rfl
theorem k145 : top (.pr cs) = true:=nr rfl
theorem k146 : top .pn = true:=nr rfl
theorem k147 : top (.fn f cs) = true:=nr rfl
theorem k148 : top (.fs cs) = true:=nr rfl
theorem k149 : top (.agg cs) = true:=nr rfl
theorem k150 : top (.tup cs) = false:=nr rfl
theorem k151 : isFn .u = false:=nr rfl
theorem k152 : isFn .no = false:=nr rfl
theorem k153 : isFn .ub = false:=nr rfl
theorem k154 : isFn (.b x) = false:=nr rfl
theorem k155 : isFn (.i k n) = false:=nr rfl
theorem k156 : isFn (.s x) = false:=nr rfl
theorem k157 : isFn .nil = false:=nr rfl
theorem k158 : isFn (.sl t z es) = false:=nr rfl
theorem k159 : isFn (.rf pl y lo n) = false:=nr rfl
theorem k160 : isFn (.p pl) = false:=nr rfl
theorem k161 : isFn (.pr cs) = false:=nr rfl
theorem k162 : isFn .pn = false:=nr rfl
theorem k163 : isFn (.fn f cs) = true:=nr rfl
theorem k164 : isFn (.fs cs) = false:=nr rfl
theorem k165 : isFn (.agg cs) = false:=nr rfl
theorem k166 : isFn (.tup cs) = false:=nr rfl
theorem k167 : leafA .u = false:=nr rfl
theorem k168 : leafA .no = false:=nr rfl
theorem k169 : leafA .ub = true:=nr rfl
theorem k170 : leafA (.b x) = true:=nr rfl
theorem k171 : leafA (.i k n) = true:=nr rfl
theorem k172 : leafA (.s x) = true:=nr rfl
theorem k173 : leafA .nil = true:=nr rfl
theorem k174 : leafA (.sl t z es) = true:=nr rfl
theorem k175 : leafA (.rf pl y lo n) = true:=nr rfl
theorem k176 : leafA (.p pl) = true:=nr rfl
theorem k177 : leafA (.pr cs) = true:=nr rfl
theorem k178 : leafA .pn = true:=nr rfl
theorem k179 : leafA (.fn f cs) = true:=nr rfl
theorem k180 : leafA (.fs cs) = true:=nr rfl
theorem k181 : leafA (.agg cs) = false:=nr rfl
theorem k182 : leafA (.tup cs) = false:=nr rfl
theorem k183 : fsV len st i [] = if i = len then some [] else none:=nr rfl
def fsK (x : Bool) (a : AV) (r : Option (List AV)) : Option (List AV):=if x then (match r with | some l=>some (a :: l) | none=>none) else none
theorem k184 : fsK true a (some l) = some (a :: l):=nr rfl
theorem k185 : fsV len st i ((j,x) :: r) = if i = j then fsK (isFn (view st x)) (view st x) (fsV len st (i + 1) r) else none:=by simp only [fsV,fsK]; split <;> rfl
theorem k186 : cellsOf .u = [.u]:=nr rfl
theorem k187 : cellsOf .no = [.no]:=nr rfl
theorem k188 : cellsOf .ub = [.ub]:=nr rfl
theorem k189 : cellsOf (.b x) = [(.b x)]:=nr rfl
theorem k190 : cellsOf (.i k n) = [(.i k n)]:=nr rfl
theorem k191 : cellsOf (.s x) = [(.s x)]:=nr rfl
theorem k192 : cellsOf .nil = [.nil]:=nr rfl
theorem k193 : cellsOf (.sl t z es) = [(.sl t z es)]:=nr rfl
theorem k194 : cellsOf (.rf pl y lo n) = [(.rf pl y lo n)]:=nr rfl
theorem k195 : cellsOf (.p pl) = [(.p pl)]:=nr rfl
theorem k196 : cellsOf (.pr cs) = [(.pr cs)]:=nr rfl
theorem k197 : cellsOf .pn = [.pn]:=nr rfl
theorem k198 : cellsOf (.fn f cs) = [(.fn f cs)]:=nr rfl
theorem k199 : cellsOf (.fs cs) = [(.fs cs)]:=nr rfl
theorem k200 : cellsOf (.agg cs) = cs:=nr rfl
theorem k201 : cellsOf (.tup cs) = [(.tup cs)]:=nr rfl
theorem k202 : plain .u = false:=nr rfl
theorem k203 : plain .no = false:=nr rfl
theorem k204 : plain .ub = false:=nr rfl
theorem k205 : plain (.b x) = true:=nr rfl
theorem k206 : plain (.i k n) = true:=nr rfl
theorem k207 : plain (.s x) = true:=nr rfl
theorem k208 : plain .nil = false:=nr rfl
theorem k209 : plain (.rf pl y lo n) = false:=nr rfl
theorem k210 : plain (.p pl) = false:=nr rfl
theorem k211 : plain (.pr cs) = false:=nr rfl
theorem k212 : plain .pn = true:=nr rfl
theorem k213 : plain (.fn f cs) = false:=nr rfl
theorem k214 : plain (.fs cs) = false:=nr rfl
theorem k215 : plain (.agg cs) = false:=nr rfl
theorem k216 : plain (.tup cs) = false:=nr rfl
theorem k217 : plain (.sl .ro z es) = true:=nr rfl
theorem k218 : fix m .u = .u:=nr rfl
theorem k219 : fix m .no = .no:=nr rfl
theorem k220 : fix m .ub = .ub:=nr rfl
theorem k221 : fix m (.b x) = (.b x):=nr rfl
theorem k222 : fix m (.i k n) = (.i k n):=nr rfl
theorem k223 : fix m (.s x) = (.s x):=nr rfl
theorem k224 : fix m (.sl t z es) = (.sl t z es):=nr rfl
theorem k225 : fix m (.rf pl y lo n) = (.rf pl y lo n):=nr rfl
theorem k226 : fix m (.p pl) = (.p pl):=nr rfl
theorem k227 : fix m (.pr cs) = (.pr cs):=nr rfl
theorem k228 : fix m .pn = .pn:=nr rfl
theorem k229 : fix m (.fn f cs) = (.fn f cs):=nr rfl
theorem k230 : fix m (.fs cs) = (.fs cs):=nr rfl
theorem k231 : fix m (.agg cs) = (.agg cs):=nr rfl
theorem k232 : fix m (.tup cs) = (.tup cs):=nr rfl
theorem k233 : fix 0 .nil = .nil:=nr rfl
theorem k234 : fix (m + 1) .nil = .sl .mut (m + 1) []:=nr rfl
theorem k235 : fix 1 .nil = .sl .mut 1 []:=nr rfl
theorem k236 : fix 2 .nil = .sl .mut 2 []:=nr rfl
theorem k237 : fix 3 .nil = .sl .mut 3 []:=nr rfl
theorem k238 : fix 4 .nil = .sl .mut 4 []:=nr rfl
theorem k239 : fix 5 .nil = .sl .mut 5 []:=nr rfl
theorem k240 : fix 6 .nil = .sl .mut 6 []:=nr rfl
theorem k241 : fix 7 .nil = .sl .mut 7 []:=nr rfl
theorem k242 : fix 8 .nil = .sl .mut 8 []:=nr rfl
theorem k243 : fix 9 .nil = .sl .mut 9 []:=nr rfl
theorem k244 : fix 10 .nil = .sl .mut 10 []:=nr rfl
theorem k245 : fix 11 .nil = .sl .mut 11 []:=nr rfl
theorem k246 : filt kp kr .u = .u:=nr rfl
theorem k247 : filt kp kr .no = .no:=nr rfl
theorem k248 : filt kp kr .ub = .ub:=nr rfl
theorem k249 : filt kp kr (.b x) = (.b x):=nr rfl
theorem k250 : filt kp kr (.i k n) = (.i k n):=nr rfl
theorem k251 : filt kp kr (.s x) = (.s x):=nr rfl
theorem k252 : filt kp kr .nil = .nil:=nr rfl
theorem k253 : filt kp kr (.sl t z es) = (.sl t z es):=nr rfl
theorem k254 : filt kp kr (.pr cs) = (.pr cs):=nr rfl
theorem k255 : filt kp kr .pn = .pn:=nr rfl
theorem k256 : filt kp kr (.fn f cs) = .fn f (filtL kp kr cs):=nr rfl
theorem k257 : filt kp kr (.fs cs) = .fs (filtL kp kr cs):=nr rfl
theorem k258 : filt kp kr (.agg cs) = .agg (filtL kp kr cs):=nr rfl
theorem k259 : filt kp kr (.tup cs) = .tup (filtL kp kr cs):=nr rfl
def fA (b : Bool) (a : AV) : AV:=if b then a else .u
theorem k260 : fA true a = a:=nr rfl
theorem k261 : fA false a = .u:=nr rfl
theorem k262 : filt kp kr (.p q) = fA (kp q) (.p q):=nr rfl
theorem k263 : filt kp kr (.rf q y lo n) = fA (kr q) (.rf q y lo n):=nr rfl
theorem k264 : filtL kp kr [] = []:=nr rfl
theorem k265 : filtL kp kr (a :: l) = filt kp kr a :: filtL kp kr l:=nr rfl
theorem k266 : takeLeaf st .u = some (.u,st):=nr rfl
theorem k267 : takeLeaf st .no = some (.no,st):=nr rfl
theorem k268 : takeLeaf st .ub = some (.ub,st):=nr rfl
theorem k269 : takeLeaf st (.b x) = some ((.b x),st):=nr rfl
theorem k270 : takeLeaf st (.i k n) = some ((.i k n),st):=nr rfl
theorem k271 : takeLeaf st (.s x) = some ((.s x),st):=nr rfl
theorem k272 : takeLeaf st .nil = some (.nil,st):=nr rfl
theorem k273 : takeLeaf st (.sl t z es) = some ((.sl t z es),st):=nr rfl
theorem k274 : takeLeaf st (.rf pl y lo n) = takeRf st pl y lo n:=nr rfl
theorem k275 : takeLeaf st (.p pl) = some ((.p pl),st):=nr rfl
theorem k276 : takeLeaf st (.pr cs) = some ((.pr cs),st):=nr rfl
theorem k277 : takeLeaf st .pn = some (.pn,st):=nr rfl
theorem k278 : takeLeaf st (.fn f cs) = some ((.fn f cs),st):=nr rfl
theorem k279 : takeLeaf st (.fs cs) = some ((.fs cs),st):=nr rfl
theorem k280 : takeLeaf st (.agg cs) = some ((.agg cs),st):=nr rfl
theorem k281 : takeLeaf st (.tup cs) = none:=nr rfl
theorem k282 : takeVal st .u = some (.u,st):=nr rfl
theorem k283 : takeVal st .no = some (.no,st):=nr rfl
theorem k284 : takeVal st .ub = some (.ub,st):=nr rfl
theorem k285 : takeVal st (.b x) = some ((.b x),st):=nr rfl
theorem k286 : takeVal st (.i k n) = some ((.i k n),st):=nr rfl
theorem k287 : takeVal st (.s x) = some ((.s x),st):=nr rfl
theorem k288 : takeVal st .nil = some (.nil,st):=nr rfl
theorem k289 : takeVal st (.sl t z es) = some ((.sl t z es),st):=nr rfl
theorem k290 : takeVal st (.rf pl y lo n) = takeRf st pl y lo n:=nr rfl
theorem k291 : takeVal st (.p pl) = some ((.p pl),st):=nr rfl
theorem k292 : takeVal st (.pr cs) = some ((.pr cs),st):=nr rfl
theorem k293 : takeVal st .pn = some (.pn,st):=nr rfl
theorem k294 : takeVal st (.fn f cs) = some ((.fn f cs),st):=nr rfl
theorem k295 : takeVal st (.fs cs) = some ((.fs cs),st):=nr rfl
theorem k297 : takeVal st (.tup cs) = none:=nr rfl
def aggO (x : Option (List AV × St)) : Option (AV × St):=match x with
 | some (cs,st)=>some (.agg cs,st)
 | none=>none
theorem k298 : takeVal st (.agg cs) = if cs.any isRf then aggO (takeL st cs) else some (.agg cs,st):=by simp only [takeVal,aggO]; split <;> cases takeL st cs <;> rfl
theorem k299 : isRf .u = false:=nr rfl
theorem k300 : isRf .no = false:=nr rfl
theorem k301 : isRf .ub = false:=nr rfl
theorem k302 : isRf (.b x) = false:=nr rfl
theorem k303 : isRf (.i k n) = false:=nr rfl
theorem k304 : isRf (.s x) = false:=nr rfl
theorem k305 : isRf .nil = false:=nr rfl
theorem k306 : isRf (.sl t z es) = false:=nr rfl
theorem k307 : isRf (.rf pl y lo n) = true:=nr rfl
theorem k308 : isRf (.p pl) = false:=nr rfl
theorem k309 : isRf (.pr cs) = false:=nr rfl
theorem k310 : isRf .pn = false:=nr rfl
theorem k311 : isRf (.fn f cs) = false:=nr rfl
theorem k312 : isRf (.fs cs) = false:=nr rfl
theorem k313 : isRf (.agg cs) = false:=nr rfl
theorem k314 : isRf (.tup cs) = false:=nr rfl
theorem k315 : gone q = false:=nr rfl
theorem k316 : aggO (some (cs,st)) = some (.agg cs,st):=nr rfl
def consO (a : AV) (x : Option (List AV × St)) : Option (List AV × St):=match x with
 | some (cs,st)=>some (a :: cs,st)
 | none=>none
theorem k317 : consO a (some (cs,st)) = some (a :: cs,st):=nr rfl
theorem k318 : takeL st [] = some ([],st):=nr rfl
theorem k319 : takeL st (a :: l) = bindO (takeLeaf st a) (fun y=>consO (filt gone gone y.1) (takeL y.2 l)):=by simp only [takeL,bindO,consO]; cases takeLeaf st a <;> rfl
def takeA (st : St) (x : Nat) (b : Bool) (a : AV) : Option (AV × St):=if b then takeVal (clear st x) (filt (offRoot true x) (offRoot true x) a) else takeVal st a
@[congr] theorem takeA_congr {st : St} {x : Nat} {b b' : Bool} {a : AV} (h : b = b') : takeA st x b a = takeA st x b' a:=by rw [h]
def takeT (st : St) (x : Nat) (a : AV) : Option (AV × St):=takeA st x (hasSl a) a
theorem k320 : take st (.tmp x) = takeT st x (st.env x):=nr rfl
theorem k321 : takeT st x .u = some (.u,st):=nr rfl
theorem k322 : takeT st x .no = some (.no,st):=nr rfl
theorem k323 : takeT st x .ub = some (.ub,st):=nr rfl
theorem k324 : takeT st x (.b y) = some (.b y,st):=nr rfl
theorem k325 : takeT st x (.i k n) = some ((.i k n),st):=nr rfl
theorem k326 : takeT st x (.s y) = some (.s y,st):=nr rfl
theorem k327 : takeT st x .nil = some (.nil,st):=nr rfl
theorem k328 : takeT st x (.sl t z es) = some (.sl t z es,clear st x):=nr rfl
theorem k329 : takeT st x (.rf pl y lo n) = takeRf st pl y lo n:=nr rfl
theorem k330 : takeT st x (.p pl) = some ((.p pl),st):=nr rfl
theorem k331 : takeT st x (.pr cs) = some ((.pr cs),st):=nr rfl
theorem k332 : takeT st x .pn = some (.pn,st):=nr rfl
theorem k333 : takeT st x (.fn f cs) = some ((.fn f cs),st):=nr rfl
theorem k334 : takeT st x (.fs cs) = some ((.fs cs),st):=nr rfl
theorem k335 : takeT st x (.agg cs) = takeA st x (cs.any isSl) (.agg cs):=nr rfl
theorem k336 : takeT st x (.tup cs) = none:=nr rfl
theorem k337 : takeA st x true a = takeVal (clear st x) (filt (offRoot true x) (offRoot true x) a):=nr rfl
theorem k338 : takeA st x false a = takeVal st a:=nr rfl
theorem k339 : take st (.const v) = some (avOf v,st):=nr rfl
theorem k340 : take st (.func f) = some (.fn f [],st):=nr rfl
def putK (b : Bool) (l : List (Nat × AV)) (m : List (Nat × List AV)) (d : Nat) (v : AV) : St:=if b then ⟨E ((d,filt (offRoot true d) (offRoot true d) v) :: mapE (offRoot true d) (offRoot true d) l),B (mapB (offRoot true d) (offRoot true d) m)⟩ else ⟨E ((d,v) :: l),B m⟩
@[congr] theorem putK_congr {b b' : Bool} {l : List (Nat × AV)} {m : List (Nat × List AV)} {d : Nat} {v v' : AV} (h : b = b') (h' : v = v') : putK b l m d v = putK b' l m d v':=by rw [h,h']
theorem k341 : St.put ⟨E l,B m⟩ d v = putK (hasSl (E l d)) l m d v:=by simp only [St.put,putK,St.dropRoot,filt_EB,upd_E]
theorem k342 : putK false l m d v = ⟨E ((d,v) :: l),B m⟩:=nr rfl
theorem k343 : putK true l m d v = ⟨E ((d,filt (offRoot true d) (offRoot true d) v) :: mapE (offRoot true d) (offRoot true d) l),B (mapB (offRoot true d) (offRoot true d) m)⟩:=nr rfl
theorem k344 : St.put? st (some d) v = St.put st d v:=nr rfl
theorem k345 : St.put? st none v = st:=nr rfl
def isK (t k : Nat) : Bool:=t == k
theorem k346 : isK t k = (t == k):=nr rfl
def eK (b : Bool) (v x : AV) : AV:=if b then v else x
@[congr] theorem eK_congr {b b' : Bool} {v x : AV} (h : b = b') : eK b v x = eK b' v x:=by rw [h]
def eB (b : Bool) (v x : List AV) : List AV:=if b then v else x
@[congr] theorem eB_congr {b b' : Bool} {v x : List AV} (h : b = b') : eB b v x = eB b' v x:=by rw [h]
theorem k347 : eK true v x = v:=nr rfl
theorem k348 : eK false v x = x:=nr rfl
theorem k349 : eB true v x = v:=nr rfl
theorem k350 : eB false v x = x:=nr rfl
theorem k351 : E ((k,v) :: r) t = eK (isK t k) v (E r t):=by simp only [E_cons,eK,isK,beq_iff_eq]
theorem k352 : B ((k,v) :: r) t = eB (isK t k) v (B r t):=by simp only [B_cons,eB,isK,beq_iff_eq]
theorem k353 : clear ⟨E l,B m⟩ x = ⟨E ((x,.u) :: mapE (offRoot true x) (offRoot true x) l),B (mapB (offRoot true x) (offRoot true x) m)⟩:=by simp only [clear,St.dropRoot,filt_EB,upd_E]
theorem k354 : St.env ⟨f,g⟩ = f:=nr rfl
theorem k355 : St.bx ⟨f,g⟩ = g:=nr rfl
def newK (b : Bool) (l : List (Nat × AV)) (m : List (Nat × List AV)) (d : Nat) (cs : List AV) : St:=if b then ⟨E ((d,.p ⟨false,d,[],0⟩) :: l),B ((d,cs) :: m)⟩ else ⟨E ((d,.p ⟨false,d,[],0⟩) :: mapE (offRoot false d) (offRoot false d) l),B ((d,filtL (offRoot false d) (offRoot false d) cs) :: mapB (offRoot false d) (offRoot false d) m)⟩
@[congr] theorem newK_congr {b b' : Bool} {l : List (Nat × AV)} {m : List (Nat × List AV)} {d : Nat} {cs cs' : List AV} (h : b = b') (h' : cs = cs') : newK b l m d cs = newK b' l m d cs':=by rw [h,h']
theorem k356 : newBox ⟨E l,B m⟩ d cs = newK (B m d).isEmpty l m d cs:=by
 cases h : (B m d).isEmpty <;> simp only [newBox,newK,h,if_true,if_false,Bool.false_eq_true,St.dropRoot,filt_EB,upd_E,upd_B]
theorem k357 : newBoxO st d (c :: cs) = if hasSl (st.env d) = true then none else some (newBox st d (c :: cs)):=nr rfl
theorem k358 : newK true l m d cs = ⟨E ((d,.p ⟨false,d,[],0⟩) :: l),B ((d,cs) :: m)⟩:=nr rfl
theorem k359 : newK false l m d cs = ⟨E ((d,.p ⟨false,d,[],0⟩) :: mapE (offRoot false d) (offRoot false d) l),B ((d,filtL (offRoot false d) (offRoot false d) cs) :: mapB (offRoot false d) (offRoot false d) m)⟩:=nr rfl
theorem k360 : TI.size .bool = 1:=nr rfl
theorem k361 : TI.ag .bool = false:=nr rfl
theorem k362 : TI.z .bool = 0:=nr rfl
theorem k363 : TI.zero .bool = [.b false]:=nr rfl
theorem k364 : TI.size (.int k) = 1:=nr rfl
theorem k365 : TI.ag (.int k) = false:=nr rfl
theorem k366 : TI.z (.int k) = 0:=nr rfl
theorem k367 : TI.zero (.int k) = [.i k 0]:=nr rfl
theorem k368 : TI.size .str = 1:=nr rfl
theorem k369 : TI.ag .str = false:=nr rfl
theorem k370 : TI.z .str = 0:=nr rfl
theorem k371 : TI.zero .str = [.s ⟨#[]⟩]:=nr rfl
theorem k372 : TI.size .ptr = 1:=nr rfl
theorem k373 : TI.ag .ptr = false:=nr rfl
theorem k374 : TI.z .ptr = 0:=nr rfl
theorem k375 : TI.zero .ptr = [.pn]:=nr rfl
theorem k376 : TI.size .fn = 1:=nr rfl
theorem k377 : TI.ag .fn = false:=nr rfl
theorem k378 : TI.z .fn = 0:=nr rfl
theorem k379 : TI.zero .fn = [.u]:=nr rfl
theorem k380 : TI.size (.slice z b w) = 1:=nr rfl
theorem k381 : TI.ag (.slice z b w) = false:=nr rfl
theorem k382 : TI.z (.slice z b w) = z:=nr rfl
theorem k383 : TI.zero (.slice z b w) = [.sl .mut z []]:=nr rfl
theorem k384 : TI.size (.struct n fl w) = n:=nr rfl
theorem k385 : TI.ag (.struct n fl w) = true:=nr rfl
theorem k386 : TI.z (.struct n fl w) = 0:=nr rfl
theorem k387 : TI.zero (.struct n fl w) = w:=nr rfl
theorem k388 : TI.size (.array n z ag w) = n * z:=nr rfl
theorem k389 : TI.ag (.array n z ag w) = true:=nr rfl
theorem k390 : TI.z (.array n z ag w) = 0:=nr rfl
theorem k391 : TI.zero (.array n z ag w) = w:=nr rfl
def zK (x : Option TI) : Nat:=match x with
 | some ti=>ti.z
 | none=>0
theorem k392 : zOf cx t = zK (cx.T t):=nr rfl
theorem k393 : zK (some ti) = ti.z:=nr rfl
theorem k394 : zK none = 0:=nr rfl
def offV (x : Option (Nat × Nat × Bool × Nat)) (a : AV) : Option AV:=match x with
 | some (off,_)=>match a with
  | .p q=>some (.p { q with c:=q.c + off })
  | .pr q=>some (.pr (q.drop off))
  | _=>none
 | none=>none
theorem k395 : fieldOff (.struct n fl w) f a = offV (fl[f]?) a:=nr rfl
theorem k396 : offV (some (off,y)) (.p ⟨e,r,path,c⟩) = some (.p ⟨e,r,path,c + off⟩):=nr rfl
theorem k397 : offV (some (off,y)) (.pr q) = some (.pr (q.drop off)):=nr rfl
theorem k398 : List.drop 0 l = l:=nr rfl
theorem k399 : List.drop (n + 1) (a :: l) = List.drop n l:=nr rfl
theorem k400 : List.take 0 l = []:=List.take_zero
theorem k401 : List.take (n + 1) (a :: l) = a :: List.take n l:=nr rfl
theorem k402 : List.drop n ([] : List AV) = []:=List.drop_nil
def fldV (x : Option (Nat × Nat × Bool × Nat)) (cs : List AV) : Option AV:=match x with
 | some (off,n,ag,_)=>if off + n ≤ cs.length then some (if ag then .agg ((cs.drop off).take n) else cs.getD off .u) else none
 | none=>none
theorem k403 : fieldV (.struct m fl w) f (.agg cs) = fldV (fl[f]?) cs:=nr rfl
def partV (ti : TI) (pl : Pl) (cells : List AV) : Option AV:=if pl.c + ti.size ≤ cells.length then (if ti.ag then some (.agg (viewCells pl pl.c ((cells.drop pl.c).take ti.size))) else some (viewLeaf pl (cells.getD pl.c .u))) else none
theorem k404 : loadAt st ti (.p pl) = bindO (node st pl) (partV ti pl):=by simp only [loadAt,bindO,partV]; cases node st pl <;> rfl
theorem k405 : loadAt st ti (.pr cs) = if ti.size ≤ cs.length then (if ti.ag then some (.agg (cs.take ti.size)) else some (cs.getD 0 .u)) else none:=nr rfl
theorem k406 : node st ⟨e,r,path,c⟩ = nav (rootCells st e r) path:=nr rfl
theorem k407 : canWrite st ⟨e,r,path,c⟩ = wrt (rootCells st e r) path:=nr rfl
theorem k408 : rootCells st true r = cellsOf (st.env r):=nr rfl
theorem k409 : rootCells st false r = st.bx r:=nr rfl
theorem k410 : nav cs [] = some cs:=nr rfl
theorem k411 : wrt cs [] = true:=nr rfl
def navK (x : Option (Tag × List AV)) (ps : List (Nat × Nat × Nat)) : Option (List AV):=match x with
 | some (_,row)=>nav row ps
 | none=>none
def wrtK (x : Option (Tag × List AV)) (ps : List (Nat × Nat × Nat)) : Bool:=match x with
 | some (.mut,row)=>wrt row ps
 | _=>false
def stepK (i z : Nat) (a : Option AV) : Option (Tag × List AV):=match a with
 | some (.sl t z' es)=>if z' = z then rowK t es[i]? else none
 | _=>none
 where rowK (t : Tag) : Option (List AV) → Option (Tag × List AV)
 | some row=>some (t,row)
 | none=>none
theorem k412 : nav cs ((c,i,z) :: ps) = navK (stepAt cs c i z) ps:=by simp only [nav,navK]; cases stepAt cs c i z <;> rfl
theorem k413 : navK (some (t,row)) ps = nav row ps:=nr rfl
theorem k414 : wrt cs ((c,i,z) :: ps) = wrtK (stepAt cs c i z) ps:=by
 simp only [wrt,wrtK]
 cases stepAt cs c i z with
 | none=>rfl
 | some x=>obtain ⟨t,row⟩:=x; cases t <;> rfl
theorem k415 : wrtK (some (.mut,row)) ps = wrt row ps:=nr rfl
theorem k416 : wrtK (some (.ro,row)) ps = false:=nr rfl
theorem k417 : wrtK (some (.app,row)) ps = false:=nr rfl
theorem k418 : stepAt cs c i z = stepK i z cs[c]?:=by
 simp only [stepAt,stepK]
 cases cs[c]? with
 | none=>rfl
 | some a =>
  cases a <;> rfl
theorem k419 : stepK i z (some (.sl t z es)) = stepK.rowK t es[i]?:=by simp only [stepK,if_true]
theorem k420 : stepK.rowK t (some row) = some (t,row):=nr rfl
theorem k421 : navSet cs [] new = new:=nr rfl
def setK (cs : List AV) (c i : Nat) (ps : List (Nat × Nat × Nat)) (new : List AV) (a : Option AV) : List AV:=match a with
 | some (.sl t z es)=>cs.set c (.sl t z (es.set i (navSet (es.getD i []) ps new)))
 | _=>cs
theorem k422 : navSet cs ((c,i,z) :: ps) new = setK cs c i ps new cs[c]?:=by
 simp only [navSet,setK]
 cases cs[c]? with
 | none=>rfl
 | some a=>cases a <;> rfl
theorem k423 : setK cs c i ps new (some (.sl t z es)) = cs.set c (.sl t z (es.set i (navSet (es.getD i []) ps new))):=nr rfl
theorem k424 : List.set (a :: l) 0 b = b :: l:=nr rfl
theorem k425 : List.set (a :: l) (n + 1) b = a :: List.set l n b:=nr rfl
theorem k426 : setNode ⟨E l,B m⟩ ⟨false,r,path,c⟩ new = ⟨E l,B ((r,navSet (B m r) path new) :: m)⟩:=by simp only [setNode,upd_B,Bool.false_eq_true,if_false]
theorem k427 : setNode ⟨E l,B m⟩ ⟨true,r,path,c⟩ new = ⟨E ((r,reAgg (E l r) (navSet (cellsOf (E l r)) path new)) :: l),B m⟩:=by simp only [setNode,upd_E,if_true,rootCells]
theorem k428 : reAgg .u new = new.headD .u:=nr rfl
theorem k429 : reAgg .no new = new.headD .u:=nr rfl
theorem k430 : reAgg .ub new = new.headD .u:=nr rfl
theorem k431 : reAgg (.b x) new = new.headD .u:=nr rfl
theorem k432 : reAgg (.i k n) new = new.headD .u:=nr rfl
theorem k433 : reAgg (.s x) new = new.headD .u:=nr rfl
theorem k434 : reAgg .nil new = new.headD .u:=nr rfl
theorem k435 : reAgg (.sl t z es) new = new.headD .u:=nr rfl
theorem k436 : reAgg (.rf pl y lo n) new = new.headD .u:=nr rfl
theorem k437 : reAgg (.p pl) new = new.headD .u:=nr rfl
theorem k438 : reAgg (.pr cs) new = new.headD .u:=nr rfl
theorem k439 : reAgg .pn new = new.headD .u:=nr rfl
theorem k440 : reAgg (.fn f cs) new = new.headD .u:=nr rfl
theorem k441 : reAgg (.fs cs) new = new.headD .u:=nr rfl
theorem k442 : reAgg (.agg cs) new = .agg new:=nr rfl
theorem k443 : reAgg (.tup cs) new = new.headD .u:=nr rfl
theorem k444 : List.headD (a :: l) AV.u = a:=nr rfl
theorem k445 : indexAddrV st (.slice z b w) x (.i k n) = indexAddr st z x n:=nr rfl
def iaR (es : List (List AV)) : Option Nat → Option AV
 | some j=>some (.pr (es.getD j []))
 | none=>none
def iaF (es : List AV) : Option Nat → Option AV
 | some j=>some (.pr [Vm.filt gone gone (es.getD j .u)])
 | none=>none
def iaM (t : Tag) (pl : Pl) (z lo : Nat) (es : List (List AV)) : Option Nat → Option AV
 | some j=>(match t with
  | .mut=>some (.p ⟨pl.e,pl.r,pl.path ++ [(pl.c,lo + j,z)],0⟩)
  | _=>some (.pr (stripL (es.getD (lo + j) []))))
 | none=>none
def iaC (pl : Pl) (z zr lo n : Nat) (i : Int) : Option AV → Option AV
 | some (.sl t z' es)=>if (z = z' ∧ zr = z) ∧ lo + n ≤ es.length then iaM t pl z lo es (idx? n i) else none
 | _=>none
def ixS (b : ByteArray) : Option Nat → Option AV
 | some j=>some (.i .u8 (b.data[j]?.getD 0).toNat)
 | none=>none
theorem k446 : iaR es (some j) = some (.pr (es.getD j [])):=nr rfl
theorem k447 : iaF es (some j) = some (.pr [Vm.filt gone gone (es.getD j .u)]):=nr rfl
theorem k448 : iaM .mut pl z lo es (some j) = some (.p ⟨pl.e,pl.r,pl.path ++ [(pl.c,lo + j,z)],0⟩):=nr rfl
theorem k449 : iaM .ro pl z lo es (some j) = some (.pr (stripL (es.getD (lo + j) []))):=nr rfl
theorem k450 : iaM .app pl z lo es (some j) = some (.pr (stripL (es.getD (lo + j) []))):=nr rfl
theorem k451 : iaC pl z zr lo n i (some (.sl t z' es)) = if (z = z' ∧ zr = z) ∧ lo + n ≤ es.length then iaM t pl z lo es (idx? n i) else none:=nr rfl
theorem k452 : ixS b (some j) = some (.i .u8 (b.data[j]?.getD 0).toNat):=nr rfl
theorem k453 : indexAddr st z (.sl .ro z' es) i = if z = z' then iaR es (idx? es.length i) else none:=by
 by_cases h : z = z'
 ·simp only [indexAddr,if_pos h]; cases idx? es.length i <;> rfl
 ·simp only [indexAddr,if_neg h]
theorem k454 : indexAddr st z (.fs es) i = if z = 1 then iaF es (idx? es.length i) else none:=by
 by_cases h : z = 1
 ·simp only [indexAddr,if_pos h]; cases idx? es.length i <;> rfl
 ·simp only [indexAddr,if_neg h]
theorem k455 : indexAddr st z (.rf pl zr lo n) i = bindO (node st pl) (fun cells=>iaC pl z zr lo n i cells[pl.c]?):=by
 simp only [indexAddr,bindO]
 cases node st pl with
 | none=>rfl
 | some cells =>
  simp only
  cases cells[pl.c]? with
  | none=>rfl
  | some a =>
   cases a <;> rfl
theorem k456 : indexV (.array m z ag w) (.agg cs) (.i k n) = if z = 1 ∧ ag = false then arrIx m cs n else none:=nr rfl
theorem k457 : arrFlds 5 1 false = [(0,1,false,0),(1,1,false,0),(2,1,false,0),(3,1,false,0),(4,1,false,0)]:=nr rfl
theorem k458 : indexV .str (.s b) (.i k n) = ixS b (idx? b.size n):=by simp only [indexV,ixS]; cases idx? b.size n <;> rfl
theorem k459 : nilV .u = none:=nr rfl
theorem k460 : nilV .no = none:=nr rfl
theorem k461 : nilV .ub = none:=nr rfl
theorem k462 : nilV (.b x) = none:=nr rfl
theorem k463 : nilV (.i k n) = none:=nr rfl
theorem k464 : nilV (.s x) = none:=nr rfl
theorem k465 : nilV .nil = none:=nr rfl
theorem k466 : nilV (.sl t z es) = none:=nr rfl
theorem k467 : nilV (.rf pl y lo n) = none:=nr rfl
theorem k468 : nilV (.p pl) = some (.p pl):=nr rfl
theorem k469 : nilV (.pr cs) = some (.pr cs):=nr rfl
theorem k470 : nilV .pn = none:=nr rfl
theorem k471 : nilV (.fn f cs) = none:=nr rfl
theorem k472 : nilV (.fs cs) = none:=nr rfl
theorem k473 : nilV (.agg cs) = none:=nr rfl
theorem k474 : nilV (.tup cs) = none:=nr rfl
theorem k_fnV (f : Nat) (cs xs : List AV) : fnV (.fn f cs) xs = some (f,xs ++ cs):=nr rfl
theorem k475 : strip .u = .u:=nr rfl
theorem k476 : strip .no = .u:=nr rfl
theorem k477 : strip .ub = .ub:=nr rfl
theorem k478 : strip (.b x) = (.b x):=nr rfl
theorem k479 : strip (.i k n) = (.i k n):=nr rfl
theorem k480 : strip (.s x) = (.s x):=nr rfl
theorem k481 : strip .nil = .nil:=nr rfl
theorem k482 : strip (.sl t z es) = .sl .ro z (stripLL es):=nr rfl
theorem k483 : strip (.rf pl y lo n) = .u:=nr rfl
theorem k484 : strip (.p pl) = .u:=nr rfl
theorem k485 : strip (.pr cs) = (.pr cs):=nr rfl
theorem k486 : strip .pn = .pn:=nr rfl
theorem k487 : strip (.fn f cs) = .u:=nr rfl
theorem k488 : strip (.fs cs) = .u:=nr rfl
theorem k489 : strip (.agg cs) = .u:=nr rfl
theorem k490 : strip (.tup cs) = .u:=nr rfl
theorem k491 : hasRo .u = false:=nr rfl
theorem k492 : hasRo .no = false:=nr rfl
theorem k493 : hasRo .ub = false:=nr rfl
theorem k494 : hasRo (.b x) = false:=nr rfl
theorem k495 : hasRo (.i k n) = false:=nr rfl
theorem k496 : hasRo (.s x) = false:=nr rfl
theorem k497 : hasRo .nil = false:=nr rfl
theorem k498 : hasRo (.rf pl y lo n) = false:=nr rfl
theorem k499 : hasRo (.p pl) = false:=nr rfl
theorem k500 : hasRo (.pr cs) = true:=nr rfl
theorem k501 : hasRo .pn = false:=nr rfl
theorem k502 : hasRo (.fn f cs) = true:=nr rfl
theorem k503 : hasRo (.fs cs) = true:=nr rfl
theorem k504 : hasRo (.agg cs) = hasRoL cs:=nr rfl
theorem k505 : hasRo (.tup cs) = hasRoL cs:=nr rfl
theorem k506 : hasRo (.sl .ro z es) = true:=nr rfl
theorem k507 : hasRo (.sl .app z es) = true:=nr rfl
theorem k508 : hasRo (.sl .mut z es) = hasRoLL es:=nr rfl
theorem k509 : hasRoL [] = false:=nr rfl
theorem k510 : hasRoL (a :: l) = (hasRo a || hasRoL l):=nr rfl
theorem k511 : okLeaf .u = true:=nr rfl
theorem k512 : okLeaf .no = false:=nr rfl
theorem k513 : okLeaf .ub = true:=nr rfl
theorem k514 : okLeaf (.b x) = true:=nr rfl
theorem k515 : okLeaf (.i k n) = true:=nr rfl
theorem k516 : okLeaf (.s x) = true:=nr rfl
theorem k517 : okLeaf .nil = true:=nr rfl
theorem k518 : okLeaf (.sl t z es) = true:=nr rfl
theorem k519 : okLeaf (.rf pl y lo n) = false:=nr rfl
theorem k520 : okLeaf (.p pl) = false:=nr rfl
theorem k521 : okLeaf (.pr cs) = true:=nr rfl
theorem k522 : okLeaf .pn = true:=nr rfl
theorem k523 : okLeaf (.fn f cs) = cs.all capLf:=nr rfl
theorem k524 : okLeaf (.fs cs) = false:=nr rfl
theorem k525 : okLeaf (.agg cs) = cs.all rowOk:=nr rfl
theorem k526 : okLeaf (.tup cs) = false:=nr rfl
theorem k527 : binX ti0 E0 op0 .u a0 = bin ti0 op0 .u a0:=nr rfl
theorem k528 : binX ti0 E0 op0 .no a0 = bin ti0 op0 .no a0:=nr rfl
theorem k529 : binX ti0 E0 op0 .ub a0 = bin ti0 op0 .ub a0:=nr rfl
theorem k530 : binX ti0 E0 op0 (.b x) a0 = bin ti0 op0 (.b x) a0:=nr rfl
theorem k531 : binX ti0 E0 op0 (.i k n) a0 = bin ti0 op0 (.i k n) a0:=nr rfl
theorem k532 : binX ti0 E0 op0 (.s x) a0 = bin ti0 op0 (.s x) a0:=nr rfl
theorem k533 : binX ti0 E0 op0 .nil a0 = bin ti0 op0 .nil a0:=nr rfl
theorem k534 : binX ti0 E0 op0 (.sl t z es) a0 = bin ti0 op0 (.sl t z es) a0:=nr rfl
theorem k535 : binX ti0 E0 op0 (.rf pl y lo n) a0 = bin ti0 op0 (.rf pl y lo n) a0:=nr rfl
theorem k536 : binX ti0 E0 op0 (.p pl) a0 = bin ti0 op0 (.p pl) a0:=nr rfl
theorem k537 : binX ti0 E0 op0 (.pr cs) a0 = bin ti0 op0 (.pr cs) a0:=nr rfl
theorem k538 : binX ti0 E0 op0 .pn a0 = bin ti0 op0 .pn a0:=nr rfl
theorem k539 : binX ti0 E0 op0 (.fn f cs) a0 = bin ti0 op0 (.fn f cs) a0:=nr rfl
theorem k540 : binX ti0 E0 op0 (.fs cs) a0 = bin ti0 op0 (.fs cs) a0:=nr rfl
theorem k541 : binX ti0 E0 op0 (.tup cs) a0 = bin ti0 op0 (.tup cs) a0:=nr rfl
def eqR (op : BinOp) (e : Option Bool) : Option AV:=match e with | some e=>eqB op e | none=>none
theorem k542 : binX ti0 (some ks) op0 (.agg a) (.agg b) = eqR op0 (eqCells ks a b):=by simp only [binX,binAgg,eqR]; cases eqCells ks a b <;> rfl
theorem k543 : eqR op (some e) = eqB op e:=nr rfl
def andX (p : Bool) (e : Option Bool) : Option Bool:=match e with | some e=>some (p && e) | none=>none
theorem k544 : andX p (some e) = some (p && e):=nr rfl
theorem k545 : eqCells [] [] [] = some true:=nr rfl
theorem k546 : eqCells (0 :: ks) (.b x :: a) (.b y :: b) = andX (x == y) (eqCells ks a b):=by simp only [eqCells,andX]; cases eqCells ks a b <;> rfl
theorem k547 : eqCells (1 :: ks) (.i k x :: a) (.i k y :: b) = andX (x == y) (eqCells ks a b):=by simp only [eqCells,andX,if_true]; cases eqCells ks a b <;> rfl
theorem k548 : eqCells (2 :: ks) (.s x :: a) (.s y :: b) = andX (x.toList == y.toList) (eqCells ks a b):=by simp only [eqCells,andX]; cases eqCells ks a b <;> rfl
theorem k549 : capLf .u = false:=nr rfl
theorem k550 : capLf .no = false:=nr rfl
theorem k551 : capLf .ub = false:=nr rfl
theorem k552 : capLf (.b x) = true:=nr rfl
theorem k553 : capLf (.i k n) = true:=nr rfl
theorem k554 : capLf (.s x) = true:=nr rfl
theorem k555 : capLf .nil = false:=nr rfl
theorem k556 : capLf (.rf pl y lo n) = false:=nr rfl
theorem k557 : capLf (.p pl) = false:=nr rfl
theorem k558 : capLf (.pr cs) = true:=nr rfl
theorem k559 : capLf .pn = true:=nr rfl
theorem k560 : capLf (.fn f cs) = false:=nr rfl
theorem k561 : capLf (.fs cs) = false:=nr rfl
theorem k562 : capLf (.agg cs) = false:=nr rfl
theorem k563 : capLf (.tup cs) = false:=nr rfl
theorem k564 : capLf (.sl .ro z es) = true:=nr rfl
theorem k565 : capOk .u = capLf .u:=nr rfl
theorem k566 : capOk .no = capLf .no:=nr rfl
theorem k567 : capOk .ub = capLf .ub:=nr rfl
theorem k568 : capOk (.b x) = capLf (.b x):=nr rfl
theorem k569 : capOk (.i k n) = capLf (.i k n):=nr rfl
theorem k570 : capOk (.s x) = capLf (.s x):=nr rfl
theorem k571 : capOk .nil = capLf .nil:=nr rfl
theorem k572 : capOk (.sl t z es) = capLf (.sl t z es):=nr rfl
theorem k573 : capOk (.rf pl y lo n) = capLf (.rf pl y lo n):=nr rfl
theorem k574 : capOk (.p pl) = capLf (.p pl):=nr rfl
theorem k575 : capOk (.pr cs) = capLf (.pr cs):=nr rfl
theorem k576 : capOk .pn = capLf .pn:=nr rfl
theorem k577 : capOk (.fn f cs) = cs.all capLf:=nr rfl
theorem k578 : capOk (.fs cs) = capLf (.fs cs):=nr rfl
theorem k579 : capOk (.agg cs) = capLf (.agg cs):=nr rfl
theorem k580 : capOk (.tup cs) = capLf (.tup cs):=nr rfl
theorem k581 : frozenBox st d cs = if cs.all capOk = true then some (st.put d (.pr cs)) else none:=nr rfl
theorem k582 : outLeaf st .u = if rowOk .u = true then some ((.u,none),st) else none:=nr rfl
theorem k583 : outLeaf st .no = if rowOk .no = true then some ((.no,none),st) else none:=nr rfl
theorem k584 : outLeaf st .ub = if rowOk .ub = true then some ((.ub,none),st) else none:=nr rfl
theorem k585 : outLeaf st (.b x) = if rowOk (.b x) = true then some (((.b x),none),st) else none:=nr rfl
theorem k586 : outLeaf st (.i k n) = if rowOk (.i k n) = true then some (((.i k n),none),st) else none:=nr rfl
theorem k587 : outLeaf st (.s x) = if rowOk (.s x) = true then some (((.s x),none),st) else none:=nr rfl
theorem k588 : outLeaf st .nil = if rowOk .nil = true then some ((.nil,none),st) else none:=nr rfl
theorem k589 : outLeaf st (.sl t z es) = if rowOk (.sl t z es) = true then some (((.sl t z es),none),st) else none:=nr rfl
theorem k590 : outLeaf st (.p pl) = if rowOk (.p pl) = true then some (((.p pl),none),st) else none:=nr rfl
theorem k591 : outLeaf st (.pr cs) = if rowOk (.pr cs) = true then some (((.pr cs),none),st) else none:=nr rfl
theorem k592 : outLeaf st .pn = if rowOk .pn = true then some ((.pn,none),st) else none:=nr rfl
theorem k593 : outLeaf st (.fn f cs) = if rowOk (.fn f cs) = true then some (((.fn f cs),none),st) else none:=nr rfl
theorem k594 : outLeaf st (.fs cs) = if rowOk (.fs cs) = true then some (((.fs cs),none),st) else none:=nr rfl
theorem k595 : outLeaf st (.agg cs) = if rowOk (.agg cs) = true then some (((.agg cs),none),st) else none:=nr rfl
theorem k596 : outLeaf st (.tup cs) = if rowOk (.tup cs) = true then some (((.tup cs),none),st) else none:=nr rfl
theorem k597 : fillLeaf st .u (some (pl0,b0)) = some st:=nr rfl
theorem k598 : fillLeaf st .no (some (pl0,b0)) = some st:=nr rfl
theorem k599 : fillLeaf st .ub (some (pl0,b0)) = some st:=nr rfl
theorem k600 : fillLeaf st (.b x) (some (pl0,b0)) = some st:=nr rfl
theorem k601 : fillLeaf st (.i k n) (some (pl0,b0)) = some st:=nr rfl
theorem k602 : fillLeaf st (.s x) (some (pl0,b0)) = some st:=nr rfl
theorem k603 : fillLeaf st .nil (some (pl0,b0)) = some st:=nr rfl
theorem k604 : fillLeaf st (.rf pl y lo n) (some (pl0,b0)) = some st:=nr rfl
theorem k605 : fillLeaf st (.p pl) (some (pl0,b0)) = some st:=nr rfl
theorem k606 : fillLeaf st (.pr cs) (some (pl0,b0)) = some st:=nr rfl
theorem k607 : fillLeaf st .pn (some (pl0,b0)) = some st:=nr rfl
theorem k608 : fillLeaf st (.fn f cs) (some (pl0,b0)) = some st:=nr rfl
theorem k609 : fillLeaf st (.fs cs) (some (pl0,b0)) = some st:=nr rfl
theorem k610 : fillLeaf st (.agg cs) (some (pl0,b0)) = some st:=nr rfl
theorem k611 : fillLeaf st (.tup cs) (some (pl0,b0)) = some st:=nr rfl
theorem k612 : weakLeaf st .u = some st:=nr rfl
theorem k613 : weakLeaf st .no = some st:=nr rfl
theorem k614 : weakLeaf st .ub = some st:=nr rfl
theorem k615 : weakLeaf st (.b x) = some st:=nr rfl
theorem k616 : weakLeaf st (.i k n) = some st:=nr rfl
theorem k617 : weakLeaf st (.s x) = some st:=nr rfl
theorem k618 : weakLeaf st .nil = some st:=nr rfl
theorem k619 : weakLeaf st (.sl t z es) = some st:=nr rfl
theorem k620 : weakLeaf st (.p pl) = none:=nr rfl
theorem k621 : weakLeaf st (.pr cs) = some st:=nr rfl
theorem k622 : weakLeaf st .pn = some st:=nr rfl
theorem k623 : weakLeaf st (.fn f cs) = none:=nr rfl
theorem k624 : weakLeaf st (.fs cs) = none:=nr rfl
theorem k625 : weakLeaf st (.agg cs) = none:=nr rfl
theorem k626 : weakLeaf st (.tup cs) = none:=nr rfl
theorem k627 : weakV st x0 .u = weakLeaf st .u:=nr rfl
theorem k628 : weakV st x0 .no = weakLeaf st .no:=nr rfl
theorem k629 : weakV st x0 .ub = weakLeaf st .ub:=nr rfl
theorem k630 : weakV st x0 (.b x) = weakLeaf st (.b x):=nr rfl
theorem k631 : weakV st x0 (.i k n) = weakLeaf st (.i k n):=nr rfl
theorem k632 : weakV st x0 (.s x) = weakLeaf st (.s x):=nr rfl
theorem k633 : weakV st x0 .nil = weakLeaf st .nil:=nr rfl
theorem k634 : weakV st x0 (.sl t z es) = weakLeaf st (.sl t z es):=nr rfl
theorem k635 : weakV st x0 (.rf pl y lo n) = weakLeaf st (.rf pl y lo n):=nr rfl
theorem k636 : weakV st x0 (.p pl) = weakLeaf st (.p pl):=nr rfl
theorem k637 : weakV st x0 (.pr cs) = weakLeaf st (.pr cs):=nr rfl
theorem k638 : weakV st x0 .pn = weakLeaf st .pn:=nr rfl
theorem k639 : weakV st x0 (.fn f cs) = weakLeaf st (.fn f cs):=nr rfl
theorem k640 : weakV st x0 (.fs cs) = weakLeaf st (.fs cs):=nr rfl
theorem k641 : weakV st x0 (.agg cs) = weakAgg x0 cs.length 0 st:=nr rfl
theorem k642 : weakV st x0 (.tup cs) = weakLeaf st (.tup cs):=nr rfl
theorem k643 : notAgg .u = true:=nr rfl
theorem k644 : notAgg .no = true:=nr rfl
theorem k645 : notAgg .ub = true:=nr rfl
theorem k646 : notAgg (.b x) = true:=nr rfl
theorem k647 : notAgg (.i k n) = true:=nr rfl
theorem k648 : notAgg (.s x) = true:=nr rfl
theorem k649 : notAgg .nil = true:=nr rfl
theorem k650 : notAgg (.sl t z es) = true:=nr rfl
theorem k651 : notAgg (.rf pl y lo n) = true:=nr rfl
theorem k652 : notAgg (.p pl) = true:=nr rfl
theorem k653 : notAgg (.pr cs) = true:=nr rfl
theorem k654 : notAgg .pn = true:=nr rfl
theorem k655 : notAgg (.fn f cs) = true:=nr rfl
theorem k656 : notAgg (.fs cs) = true:=nr rfl
theorem k657 : notAgg (.agg cs) = false:=nr rfl
theorem k658 : notAgg (.tup cs) = true:=nr rfl
theorem k659 : contentsZ st z .u = none:=nr rfl
theorem k660 : contentsZ st z .no = none:=nr rfl
theorem k661 : contentsZ st z .ub = none:=nr rfl
theorem k662 : contentsZ st z (.b x) = none:=nr rfl
theorem k663 : contentsZ st z (.i k n) = none:=nr rfl
theorem k664 : contentsZ st z (.s x) = none:=nr rfl
theorem k665 : contentsZ st z .nil = some []:=nr rfl
theorem k666 : contentsZ st z (.p pl) = none:=nr rfl
theorem k667 : contentsZ st z (.pr cs) = none:=nr rfl
theorem k668 : contentsZ st z .pn = none:=nr rfl
theorem k669 : contentsZ st z (.fn f cs) = none:=nr rfl
theorem k670 : contentsZ st z (.fs cs) = none:=nr rfl
theorem k671 : contentsZ st z (.agg cs) = none:=nr rfl
theorem k672 : contentsZ st z (.tup cs) = none:=nr rfl
theorem k673 : contentsZ st z (.sl t y es) = if y = z then some es else none:=nr rfl
theorem k674 : contentsZ st z (.rf pl y lo n) = if y = z then contents st (.rf pl y lo n) else none:=nr rfl
theorem k675 : roArg ow av st d .u = some .u:=by cases d <;> simp only [roArg]
theorem k676 : roArg ow av st d .no = none:=by cases d <;> simp only [roArg]
theorem k677 : roArg ow av st d .ub = some .ub:=by cases d <;> simp only [roArg]
theorem k678 : roArg ow av st d (.b x) = some (.b x):=by cases d <;> simp only [roArg]
theorem k679 : roArg ow av st d (.i k n) = some (.i k n):=by cases d <;> simp only [roArg]
theorem k680 : roArg ow av st d (.s x) = some (.s x):=by cases d <;> simp only [roArg]
theorem k681 : roArg ow av st d .nil = some .nil:=by cases d <;> simp only [roArg]
theorem k682 : roArg ow av st d (.sl t z es) = some (.sl .ro z (stripLL es)):=by cases d <;> simp only [roArg]
theorem k683 : roArg ow av st d (.pr cs) = some (.pr cs):=by cases d <;> simp only [roArg]
theorem k684 : roArg ow av st d .pn = some .pn:=by cases d <;> simp only [roArg]
theorem k685 : roArg ow av st d (.agg cs) = none:=by cases d <;> simp only [roArg]
theorem k686 : roArg ow av st d (.tup cs) = none:=by cases d <;> simp only [roArg]
def prO (x : Option (List AV)) : Option AV:=match x with
 | some cs=>some (.pr cs)
 | none=>none
def agO (x : Option (List AV)) : Option AV:=match x with
 | some cs=>some (.agg cs)
 | none=>none
def fnO (f : Nat) (x : Option (List AV)) : Option AV:=match x with
 | some cs=>some (.fn f cs)
 | none=>none
def fsO (x : Option (List AV)) : Option AV:=match x with
 | some cs=>some (.fs cs)
 | none=>none
def coO (a : Option AV) (x : Option (List AV)) : Option (List AV):=match a,x with
 | some a,some l=>some (a :: l)
 | _,_=>none
theorem k687 : roTop ow av st .u = roArg ow av st 8 .u:=nr rfl
theorem k688 : roTop ow av st .no = roArg ow av st 8 .no:=nr rfl
theorem k689 : roTop ow av st .ub = roArg ow av st 8 .ub:=nr rfl
theorem k690 : roTop ow av st (.b x) = roArg ow av st 8 (.b x):=nr rfl
theorem k691 : roTop ow av st (.i k n) = roArg ow av st 8 (.i k n):=nr rfl
theorem k692 : roTop ow av st (.s x) = roArg ow av st 8 (.s x):=nr rfl
theorem k693 : roTop ow av st .nil = roArg ow av st 8 .nil:=nr rfl
theorem k694 : roTop ow av st (.sl t z es) = roArg ow av st 8 (.sl t z es):=nr rfl
theorem k695 : roTop ow av st (.rf pl y lo n) = roArg ow av st 8 (.rf pl y lo n):=nr rfl
theorem k696 : roTop ow av st (.p pl) = roArg ow av st 8 (.p pl):=nr rfl
theorem k697 : roTop ow av st (.pr cs) = roArg ow av st 8 (.pr cs):=nr rfl
theorem k698 : roTop ow av st .pn = roArg ow av st 8 .pn:=nr rfl
theorem k699 : roTop ow av st (.fn f cs) = roArg ow av st 8 (.fn f cs):=nr rfl
theorem k700 : roTop ow av st (.fs cs) = roArg ow av st 8 (.fs cs):=nr rfl
theorem k701 : roTop ow av st (.agg cs) = agO (roArgL ow av st 8 cs):=by simp only [roTop,agO]; cases roArgL ow av st 8 cs <;> rfl
theorem k702 : roTop ow av st (.tup cs) = roArg ow av st 8 (.tup cs):=nr rfl
theorem k703 : prO (some cs) = some (.pr cs):=nr rfl
theorem k704 : agO (some cs) = some (.agg cs):=nr rfl
theorem k705 : fnO f (some cs) = some (.fn f cs):=nr rfl
theorem k706 : fsO (some cs) = some (.fs cs):=nr rfl
theorem k707 : coO (some a) (some l) = some (a :: l):=nr rfl
theorem k708 : roArg ow av st 1 (.p pl) = if (ow && avoids av pl && canWrite st pl) = true then prO (bindO (node st pl) (fun cells=>roArgL ow av st 0 (cells.drop pl.c))) else none:=by
 simp only [roArg,bindO,prO]
 cases node st pl with
 | none=>rfl
 | some cells=>simp only []; cases roArgL ow av st 0 (cells.drop pl.c) <;> rfl
theorem k709 : roArg ow av st 1 (.fs cs) = fsO (roArgL ow av st 0 cs):=by
 simp only [roArg,fsO]; cases roArgL ow av st 0 cs <;> rfl
theorem k710 : roArg ow av st 1 (.fn f cs) = fnO f (roArgL ow av st 0 cs):=by
 simp only [roArg,fnO]; cases roArgL ow av st 0 cs <;> rfl
theorem k711 : roArg ow av st 2 (.p pl) = if (ow && avoids av pl && canWrite st pl) = true then prO (bindO (node st pl) (fun cells=>roArgL ow av st 1 (cells.drop pl.c))) else none:=by
 simp only [roArg,bindO,prO]
 cases node st pl with
 | none=>rfl
 | some cells=>simp only []; cases roArgL ow av st 1 (cells.drop pl.c) <;> rfl
theorem k712 : roArg ow av st 2 (.fs cs) = fsO (roArgL ow av st 1 cs):=by
 simp only [roArg,fsO]; cases roArgL ow av st 1 cs <;> rfl
theorem k713 : roArg ow av st 2 (.fn f cs) = fnO f (roArgL ow av st 1 cs):=by
 simp only [roArg,fnO]; cases roArgL ow av st 1 cs <;> rfl
theorem k714 : roArg ow av st 3 (.p pl) = if (ow && avoids av pl && canWrite st pl) = true then prO (bindO (node st pl) (fun cells=>roArgL ow av st 2 (cells.drop pl.c))) else none:=by
 simp only [roArg,bindO,prO]
 cases node st pl with
 | none=>rfl
 | some cells=>simp only []; cases roArgL ow av st 2 (cells.drop pl.c) <;> rfl
theorem k715 : roArg ow av st 3 (.fs cs) = fsO (roArgL ow av st 2 cs):=by
 simp only [roArg,fsO]; cases roArgL ow av st 2 cs <;> rfl
theorem k716 : roArg ow av st 3 (.fn f cs) = fnO f (roArgL ow av st 2 cs):=by
 simp only [roArg,fnO]; cases roArgL ow av st 2 cs <;> rfl
theorem k717 : roArg ow av st 4 (.p pl) = if (ow && avoids av pl && canWrite st pl) = true then prO (bindO (node st pl) (fun cells=>roArgL ow av st 3 (cells.drop pl.c))) else none:=by
 simp only [roArg,bindO,prO]
 cases node st pl with
 | none=>rfl
 | some cells=>simp only []; cases roArgL ow av st 3 (cells.drop pl.c) <;> rfl
theorem k718 : roArg ow av st 4 (.fs cs) = fsO (roArgL ow av st 3 cs):=by
 simp only [roArg,fsO]; cases roArgL ow av st 3 cs <;> rfl
theorem k719 : roArg ow av st 4 (.fn f cs) = fnO f (roArgL ow av st 3 cs):=by
 simp only [roArg,fnO]; cases roArgL ow av st 3 cs <;> rfl
theorem k720 : roArg ow av st 5 (.p pl) = if (ow && avoids av pl && canWrite st pl) = true then prO (bindO (node st pl) (fun cells=>roArgL ow av st 4 (cells.drop pl.c))) else none:=by
 simp only [roArg,bindO,prO]
 cases node st pl with
 | none=>rfl
 | some cells=>simp only []; cases roArgL ow av st 4 (cells.drop pl.c) <;> rfl
theorem k721 : roArg ow av st 5 (.fs cs) = fsO (roArgL ow av st 4 cs):=by
 simp only [roArg,fsO]; cases roArgL ow av st 4 cs <;> rfl
theorem k722 : roArg ow av st 5 (.fn f cs) = fnO f (roArgL ow av st 4 cs):=by
 simp only [roArg,fnO]; cases roArgL ow av st 4 cs <;> rfl
theorem k723 : roArg ow av st 6 (.p pl) = if (ow && avoids av pl && canWrite st pl) = true then prO (bindO (node st pl) (fun cells=>roArgL ow av st 5 (cells.drop pl.c))) else none:=by
 simp only [roArg,bindO,prO]
 cases node st pl with
 | none=>rfl
 | some cells=>simp only []; cases roArgL ow av st 5 (cells.drop pl.c) <;> rfl
theorem k724 : roArg ow av st 6 (.fs cs) = fsO (roArgL ow av st 5 cs):=by
 simp only [roArg,fsO]; cases roArgL ow av st 5 cs <;> rfl
theorem k725 : roArg ow av st 6 (.fn f cs) = fnO f (roArgL ow av st 5 cs):=by
 simp only [roArg,fnO]; cases roArgL ow av st 5 cs <;> rfl
theorem k726 : roArg ow av st 7 (.p pl) = if (ow && avoids av pl && canWrite st pl) = true then prO (bindO (node st pl) (fun cells=>roArgL ow av st 6 (cells.drop pl.c))) else none:=by
 simp only [roArg,bindO,prO]
 cases node st pl with
 | none=>rfl
 | some cells=>simp only []; cases roArgL ow av st 6 (cells.drop pl.c) <;> rfl
theorem k727 : roArg ow av st 7 (.fs cs) = fsO (roArgL ow av st 6 cs):=by
 simp only [roArg,fsO]; cases roArgL ow av st 6 cs <;> rfl
theorem k728 : roArg ow av st 7 (.fn f cs) = fnO f (roArgL ow av st 6 cs):=by
 simp only [roArg,fnO]; cases roArgL ow av st 6 cs <;> rfl
theorem k729 : roArg ow av st 8 (.p pl) = if (ow && avoids av pl && canWrite st pl) = true then prO (bindO (node st pl) (fun cells=>roArgL ow av st 7 (cells.drop pl.c))) else none:=by
 simp only [roArg,bindO,prO]
 cases node st pl with
 | none=>rfl
 | some cells=>simp only []; cases roArgL ow av st 7 (cells.drop pl.c) <;> rfl
theorem k730 : roArg ow av st 8 (.fs cs) = fsO (roArgL ow av st 7 cs):=by
 simp only [roArg,fsO]; cases roArgL ow av st 7 cs <;> rfl
theorem k731 : roArg ow av st 8 (.fn f cs) = fnO f (roArgL ow av st 7 cs):=by
 simp only [roArg,fnO]; cases roArgL ow av st 7 cs <;> rfl
theorem k732 : roArgL ow av st d [] = some []:=by simp only [roArgL]
theorem k733 : roArgL ow av st d (a :: l) = coO (roArg ow av st d a) (roArgL ow av st d l):=by
 simp only [roArgL,coO]
 cases roArg ow av st d a with
 | none=>rfl
 | some a'=>simp only []; cases roArgL ow av st d l <;> rfl
def ownT (ow : Bool) : Tag → Bool
 | .mut=>ow
 | _=>true
def subO (ow : Bool) (y lo n : Nat) (a : Option AV) : Option AV:=match a with
 | some (.sl t z es)=>if (lo + n ≤ es.length ∧ y = z) ∧ ownT ow t = true then some (.sl .ro y (stripLL ((es.drop lo).take n))) else none
 | _=>none
theorem k734 : ownT ow .mut = ow:=nr rfl
theorem k735 : ownT ow .ro = true:=nr rfl
theorem k736 : ownT ow .app = true:=nr rfl
theorem k737 : roArg ow av st d (.rf pl y lo n) = if avoids av pl = true then bindO (node st pl) (fun cells=>subO ow y lo n cells[pl.c]?) else none:=by
 cases d <;> (simp only [roArg,bindO,subO]; split <;> (try rfl); cases node st pl with
  | none=>rfl
  | some cells=>simp only []; cases cells[pl.c]? with
   | none=>rfl
   | some a=>cases a <;> (try rfl); rename_i t z es; cases t <;> cases ow <;> simp [ownT])
theorem k738 : contents st .u = none:=nr rfl
theorem k739 : contents st .no = none:=nr rfl
theorem k740 : contents st .ub = none:=nr rfl
theorem k741 : contents st (.b x) = none:=nr rfl
theorem k742 : contents st (.i k n) = none:=nr rfl
theorem k743 : contents st (.s x) = none:=nr rfl
theorem k744 : contents st .nil = some []:=nr rfl
theorem k745 : contents st (.sl t z es) = some es:=nr rfl
theorem k746 : contents st (.p pl) = none:=nr rfl
theorem k747 : contents st (.pr cs) = none:=nr rfl
theorem k748 : contents st .pn = none:=nr rfl
theorem k749 : contents st (.fn f cs) = none:=nr rfl
theorem k750 : contents st (.fs cs) = none:=nr rfl
theorem k751 : contents st (.agg cs) = none:=nr rfl
theorem k752 : contents st (.tup cs) = none:=nr rfl
theorem k753 : lenT st .str (.s x) = some x.size:=nr rfl
theorem k754 : notInt .str = true:=nr rfl
theorem k755 : notInt (.slice z b zero) = true:=nr rfl
theorem k756 : lenT st (.slice z b zero) a = lenOf st a:=nr rfl
theorem k757 : sliceT .str (.s b) lo hi = sliceOp (.s b) lo hi:=nr rfl
theorem k758 : sliceT (.slice z b zero) (.sl t z es) lo hi = sliceOp (.sl t z es) lo hi:=by simp only [sliceT,if_true]
theorem k759 : sliceT (.slice z b zero) (.rf pl z o n) lo hi = sliceOp (.rf pl z o n) lo hi:=by simp only [sliceT,if_true]
theorem k760 : lenOf st .u = none:=nr rfl
theorem k761 : lenOf st .no = none:=nr rfl
theorem k762 : lenOf st .ub = none:=nr rfl
theorem k763 : lenOf st (.b x) = none:=nr rfl
theorem k764 : lenOf st (.i k n) = none:=nr rfl
theorem k765 : lenOf st (.s x) = none:=nr rfl
theorem k766 : lenOf st .nil = some 0:=nr rfl
theorem k767 : lenOf st (.sl t z es) = some es.length:=nr rfl
theorem k768 : lenOf st (.p pl) = none:=nr rfl
theorem k769 : lenOf st (.pr cs) = none:=nr rfl
theorem k770 : lenOf st .pn = none:=nr rfl
theorem k771 : lenOf st (.fn f cs) = none:=nr rfl
theorem k772 : lenOf st (.fs cs) = some cs.length:=nr rfl
theorem k773 : lenOf st (.agg cs) = none:=nr rfl
theorem k774 : lenOf st (.tup cs) = none:=nr rfl
def lenR (y n lo : Nat) (a : Option AV) : Option Nat:=match a with
 | some (.sl _ z es)=>if lo + n ≤ es.length ∧ y = z then some ((es.drop lo).take n).length else none
 | _=>none
def conR (y n lo : Nat) (a : Option AV) : Option (List (List AV)):=match a with
 | some (.sl _ z es)=>if lo + n ≤ es.length ∧ y = z then some ((es.drop lo).take n) else none
 | _=>none
theorem k775 : contents st (.rf pl y lo n) = bindO (node st pl) (fun cells=>conR y n lo cells[pl.c]?):=by simp only [contents,bindO,conR]; cases node st pl <;> rfl
theorem k776 : lenOf st (.rf pl y lo n) = bindO (node st pl) (fun cells=>lenR y n lo cells[pl.c]?):=by
 simp only [lenOf,contents,bindO,lenR]
 cases node st pl with
 | none=>rfl
 | some cells =>
  simp only []
  cases cells[pl.c]? with
  | none=>rfl
  | some a =>
   cases a <;> try rfl
   rename_i t z es
   simp only []
   by_cases h : lo + n ≤ es.length ∧ y = z
   ·simp only [if_pos h]
   ·simp only [if_neg h]
theorem k777 : bin ti op (.i k a) (.i k b) = binI op k a b:=by simp only [bin,if_true]
theorem k778 : bin ti op (.s a) (.s b) = binS op a b:=nr rfl
theorem k779 : bin (some .bool) op (.b a) (.b b) = eqB op (a == b):=nr rfl
theorem k780 : bin (some .ptr) op (.p q) .pn = eqB op false:=nr rfl
theorem k781 : bin (some .ptr) op (.pr q) .pn = eqB op false:=nr rfl
theorem k782 : bin (some .ptr) op .pn .pn = eqB op true:=nr rfl
theorem k783 : binI .add k a b = some (.i k (k.wrap (a + b))):=nr rfl
theorem k784 : binI .sub k a b = some (.i k (k.wrap (a - b))):=nr rfl
theorem k785 : binI .mul k a b = some (.i k (k.wrap (a * b))):=nr rfl
theorem k786 : binI .eql k a b = some (.b (a == b)):=nr rfl
theorem k787 : binI .neq k a b = some (.b (a != b)):=nr rfl
theorem k788 : binI .lss k a b = some (.b (decide (a < b))):=nr rfl
theorem k789 : binI .leq k a b = some (.b (decide (a ≤ b))):=nr rfl
theorem k790 : binI .gtr k a b = some (.b (decide (a > b))):=nr rfl
theorem k791 : binI .geq k a b = some (.b (decide (a ≥ b))):=nr rfl
theorem k792 : binI .quo k a b = if b = 0 then none else some (.i k (k.wrap (a.tdiv b))):=nr rfl
theorem k793 : binI .rem k a b = if b = 0 then none else some (.i k (a.tmod b)):=nr rfl
theorem k794 : binS .eql a b = some (.b (a.toList == b.toList)):=nr rfl
theorem k795 : binS .neq a b = some (.b !(a.toList == b.toList)):=nr rfl
theorem k796 : binS .lss a b = some (.b (Op.bytesLess a.toList b.toList)):=nr rfl
theorem k797 : binS .add a b = if a.size + b.size ≤ 9223372036854775807 then some (.s (a ++ b)) else none:=nr rfl
def andO (e : Bool) (x : Option Bool) : Option Bool:=match x with
 | some y=>some (e && y)
 | none=>none
theorem k798 : andO e (some y) = some (e && y):=nr rfl
theorem k799 : unV .not (.b x) = some (.b !x):=nr rfl
theorem k800 : unV .neg (.i k n) = some (.i k (k.wrap (0 - n))):=nr rfl
theorem k801 : avOf (.bool x) = .b x:=nr rfl
theorem k802 : avOf (.int k n) = .i k n:=nr rfl
theorem k803 : avOf (.string x) = .s x:=nr rfl
theorem k804 : avOf (.slice none 0 0) = .nil:=nr rfl
theorem k805 : avOf (.pointer none) = .pn:=nr rfl
theorem k806 : bin T op (.sl t z es) .nil = nilCmp T op es.length:=nr rfl
theorem k807 : bin T op (.rf q z lo n) .nil = nilCmp T op n:=nr rfl
theorem k808 : nilCmp (some (.slice z b ze)) .eql n = if 0 < n then some (.b false) else some .ub:=nr rfl
theorem k809 : nilCmp (some (.slice z b ze)) .neq n = if 0 < n then some (.b true) else some .ub:=nr rfl
def extK (f : Nat → AV) (g : Nat → List AV) (t j : Nat) (a : AV) : Option (AV × St):=match a with
 | .tup vs=>match vs[j]? with
  | some v=>some (v,⟨upd f t (.tup (vs.set j .u)),g⟩)
  | none=>none
 | _=>none
def extO (f : Nat → AV) (g : Nat → List AV) (t j : Nat) (vs : List AV) (x : Option AV) : Option (AV × St):=match x with
 | some v=>some (v,⟨upd f t (.tup (vs.set j .u)),g⟩)
 | none=>none
theorem k810 : extractV ⟨f,g⟩ (.tmp t) j = extK f g t j (f t):=by simp only [extractV,extK]; cases f t <;> rfl
theorem k811 : extK f g t j (.tup vs) = extO f g t j vs vs[j]?:=by simp only [extK,extO]
theorem k812 : extO f g t j vs (some v) = some (v,⟨upd f t (.tup (vs.set j .u)),g⟩):=nr rfl
attribute [go_sem ↓] evN_skip evN_seq evN_cond evN_ret evN_region conN_true conN_false evCode_skip evCode_exit evCode_ret evCode_region evCode_draw evPlan_done evPlan_take evPlan_one evPlan_alt evCode_seq evCode_block evCode_cond evCode_loop evalOps_nil evalOps_cons evalOps_cons' opS_plain opS_guard guardS_tt guardS_ff guardS_tf guardS_ft guardS_no bindO_some seqE_nor seqE_ret seqE_ex guardD_some condE_true condE_false dstAt_zero dstAt_succ pickO_true pickO_false op_move op_assign op_pick op_alloc op_box op_load op_store op_nilCheck op_fieldAddr op_field op_indexAddr op_index op_bin op_un op_convert op_slice op_makeFunc op_extract op_build op_buildSlice op_makeSlice op_len op_append op_clear op_min op_max op_call doCall_O argVs_O callWk_O callWk_T callO_K rwK_none rwK_some callM_ro k347 k348 k349 k350
attribute [go_sem] convS_int convS_str convS_sl bytesV_s isU8 moveT_tmp moveE_tup putN_none putN_some isNp_np isNp_nil isNp_two finX_some finX_none finN_eq npOut_nil npOut_tmp npOut_cell npOut_two npP_p weakW_nil weakW_t weakW_f weakC_mut weakC_app weakC_ro weakC_u conN_true conN_false conN_ub both?_self rwP_p callW_O rwA_agg rwR_eq callW2_O othRo_zero othRo_succ weakAll_nil weakAll_ro weakAll_rw weakAll_mv weakArg_V weakAgg_zero weakG_agg weakAgg_succ weakLeaf_rf weakO_some weakN_mut weakN_ro weakN_app outArgs_nil consY_eq outArgs_mv outArgs_ro outArg_A outA1_eq outA2_eq outA_agg outA_rf outA_sl outA_nil outAgg_zero outP_eq outG_agg outAgg_succ outC_mut outLeaf_rf clrC_mut clearV_rf okPl_none okPl_true okN_some okPl_false fillAll_nil fillAll_none fillAll_some fillAll_end fillLeaves_nil fillLeaves_cons fillLeaf_none fillT_u fillLeaf_true fillC_u fillLeaf_false getOp_zero getOp_succ takeK_true same?_self stepOp_plain stepOp_guard stepD_some stepG_tt stepG_ff stepG_tf stepG_ft stepG_no stepG_b stU skS resL_cell isPure lateOp growOp growFn callM_O rwIx_nil rwIx_ro rwIx_mv rwIx_rw inArgs_nil inArgs_cons inArg_ro inArg_mv inArg_rw inO_some ans1_eq ansK finish_O finB_eq resL_nil resL_cons resC_eq trim? trim_EB inE guardS_b opU skU bindO_some bindO_none bindO_ite seqE_nor seqE_ret seqE_ex seqE_none seqE_ite guardS_tt guardS_ff guardS_tf guardS_ft guardS_no guardD_some condE_true condE_false condE_b pickO_true pickO_false pickO_b norS_some norS_none norS_ite blkE_nor blkE_ret blkE_ex blkE_none blkE_ite finE_nor finE_ret finE_none finE_ite dstAt_zero dstAt_succ jA_self jA_b jA_i jA_s jA_sl jA_agg jL_self jL sameLen jE jB keysE keysB join_st join_ex
 k0 k1 k2 k3 k4 k5 k6 k7 k8 k9 k10 k11 k12 k13 k14 k15 k16 k17 k18 k19 k20 k21 k22 k23 k24 k25 k26 k27 k28 k29 k30 k31 k32 k33 k34 k35 k36 k37 k38 k39 k40 k41 k42 k43 k44 k45 k46 k47 k48 k49 k50 k51 k52 k53 k54 k55 k56 k57 k58 k59 k60 k61 k62 k63 k64 k65 k66 k67 k68 k69 k70 k71 k72 k73 k74 k75 k76 k77 k78 k79 k80 k81 k82 k83 k84 k85 k86 k87 k88 k89 k90 k91 k92 k93 k94 k95 k96 k97 k98 k99 k100 k101 k102 k103 k104 k105 k106 k107 k108 k109 k110 k111 k112 k113 k114 k115 k116 k117 k118 k119 k120 k121 k122 k123 k124 k125 k126 k127 k128 k129 k130 k131 k132 k133 k134 k135 k136 k137 k138 k139 k140 k141 k142 k143 k144 k145 k146 k147 k148 k149 k150 k151 k152 k153 k154 k155 k156 k157 k158 k159 k160 k161 k162 k163 k164 k165 k166 k167 k168 k169 k170 k171 k172 k173 k174 k175 k176 k177 k178 k179 k180 k181 k182 k183 k184 k185 k186 k187 k188 k189 k190 k191 k192 k193 k194 k195 k196 k197 k198 k199 k200 k201 k202 k203 k204 k205 k206 k207 k208 k209 k210 k211 k212 k213 k214 k215 k216 k217 k218 k219 k220 k221 k222 k223 k224 k225 k226 k227 k228 k229 k230 k231 k232 k233 k234 k235 k236 k237 k238 k239 k240 k241 k242 k243 k244 k245 k246 k247 k248 k249 k250 k251 k252 k253 k254 k255 k256 k257 k258 k259 k260 k261 k262 k263 k264 k265 k266 k267 k268 k269 k270 k271 k272 k273 k274 k275 k276 k277 k278 k279 k280 k281 k282 k283 k284 k285 k286 k287 k288 k289 k290 k291 k292 k293 k294 k295 k297 k298 k299 k300 k301 k302 k303 k304 k305 k306 k307 k308 k309 k310 k311 k312 k313 k314 k315 k316 k317 k318 k319 k320 k321 k322 k323 k324 k325 k326 k327 k328 k329 k330 k331 k332 k333 k334 k335 k336 k337 k338 k339 k340 k341 k342 k343 k344 k345 k346 k347 k348 k349 k350 k351 k352 E_nil B_nil upd_E upd_B filt_EB mapE mapB pickE pickB keep_some keep_none entry_eq entE entB k353 k354 k355 k356 k357 k358 k359 k360 k361 k362 k363 k364 k365 k366 k367 k368 k369 k370 k371 k372 k373 k374 k375 k376 k377 k378 k379 k380 k381 k382 k383 k384 k385 k386 k387 k388 k389 k390 k391 k392 k393 k394 k395 k396 k397 k398 k399 k400 k401 k402 k403 fldV k404 k405 partV k406 k407 k408 k409 k410 k411 k412 k413 k414 k415 k416 k417 k418 k419 k420 k421 k422 k423 k424 k425 k426 k427 k428 k429 k430 k431 k432 k433 k434 k435 k436 k437 k438 k439 k440 k441 k442 k443 k444 St.cut keepP keepR through samePath offRoot within setCells storeAt takeRf bound sliceOp buildV buildSliceV viewParts sliceParts fillL boxV appendTo appendV doAppend appendBy appendStr appendRest appendOwn makeV convV fixL fixC avoids isRoMd rwB outL outLen one eqB stripL stripLL whole Md.isMv Md.isRw k445 k446 k447 k448 k449 k450 k451 k452 k453 k454 k455 k456 k457 k458 k459 k460 k461 k462 k463 k464 k465 k466 k467 k468 k469 k470 k471 k472 k473 k474 k_fnV k475 k476 k477 k478 k479 k480 k481 k482 k483 k484 k485 k486 k487 k488 k489 k490 k491 k492 k493 k494 k495 k496 k497 k498 k499 k500 k501 k502 k503 k504 k505 k506 k507 k508 k509 k510 k511 k512 k513 k514 k515 k516 k517 k518 k519 k520 k521 k522 k523 k524 k525 k526 k527 k528 k529 k530 k531 k532 k533 k534 k535 k536 k537 k538 k539 k540 k541 k542 k543 k544 k545 k546 k547 k548 k549 k550 k551 k552 k553 k554 k555 k556 k557 k558 k559 k560 k561 k562 k563 k564 k565 k566 k567 k568 k569 k570 k571 k572 k573 k574 k575 k576 k577 k578 k579 k580 k581 k582 k583 k584 k585 k586 k587 k588 k589 k590 k591 k592 k593 k594 k595 k596 k597 k598 k599 k600 k601 k602 k603 k604 k605 k606 k607 k608 k609 k610 k611 k612 k613 k614 k615 k616 k617 k618 k619 k620 k621 k622 k623 k624 k625 k626 k627 k628 k629 k630 k631 k632 k633 k634 k635 k636 k637 k638 k639 k640 k641 k642 k643 k644 k645 k646 k647 k648 k649 k650 k651 k652 k653 k654 k655 k656 k657 k658 k659 k660 k661 k662 k663 k664 k665 k666 k667 k668 k669 k670 k671 k672 k673 k674 k675 k676 k677 k678 k679 k680 k681 k682 k683 k684 k685 k686 k687 k688 k689 k690 k691 k692 k693 k694 k695 k696 k697 k698 k699 k700 k701 k702 k703 k704 k705 k706 k707 k708 k709 k710 k711 k712 k713 k714 k715 k716 k717 k718 k719 k720 k721 k722 k723 k724 k725 k726 k727 k728 k729 k730 k731 k732 k733 k734 k735 k736 k737 subO k738 k739 k740 k741 k742 k743 k744 k745 k746 k747 k748 k749 k750 k751 k752 k753 k754 k755 k756 k757 k758 k759 k760 k761 k762 k763 k764 k765 k766 k767 k768 k769 k770 k771 k772 k773 k774 k775 k776 lenR conR k777 k778 k779 k780 k781 k782 k783 k784 k785 k786 k787 k788 k789 k790 k791 k792 k793 k794 k795 k796 k797 k798 k799 k800 k801 k802 k803 k804 k805 k806 k807 k808 k809 k810 k811 k812
end Go.Vm
