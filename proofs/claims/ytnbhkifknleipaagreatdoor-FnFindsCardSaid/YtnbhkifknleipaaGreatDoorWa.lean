/- Functions of the program, walked by the evaluator. -/
import Derived.Test.YtnbhkifknleipaaGreatDoorVf
import Derived.Test.YtnbhkifknleipaaGreatDoorVe
import Derived.Laws.Strings
import Derived.ChangeShapes
import Derived.ChangeArms
import Derived.Deep.Slices
import Derived.RowKit
import Derived.Below
import Derived.Lib.Bytealg
import Derived.Laws.Externs
import Derived.WalkKit
import Derived.Lib.SlTrimSet
import Derived.Lib.LaidTab
import Derived.Lib.ItoaNum
import Derived.Lib.AppendIntMem
set_option linter.unusedVariables false
set_option linter.unusedSimpArgs false
set_option autoImplicit false
namespace Go.Vm
theorem fixL_rounds {cx : Cx} {n : Nat} : fixL { cx with rounds:=n } = fixL cx:=by
 funext ts xs as
 induction ts generalizing xs as with
 | nil=>rfl
 | cons t ts ih=>cases xs with
  | nil=>rfl
  | cons x xs=>cases as with
   | nil=>rfl
   | cons a as=>simp only [fixL,ih]; cases x <;> rfl
theorem outArgs_rounds {cx : Cx} {n : Nat} : outArgs { cx with rounds:=n } = outArgs cx:=by
 funext st ms ts xs
 induction ms generalizing st ts xs with
 | nil=>rfl
 | cons m ms ih=>cases ts with
  | nil=>rfl
  | cons t ts=>cases xs with
   | nil=>rfl
   | cons x xs=>simp only [outArgs,ih]; rfl
theorem evalOp_rounds {cx : Cx} {n : Nat} (st : St) (o : Oper) : evalOp { cx with rounds:=n } st o = evalOp cx st o:=by
 have h : ∀ d c,evalCall { cx with rounds:=n } st d c = evalCall cx st d c:=fun d c=>by
  have h2 : ∀ f ts xs,doCall { cx with rounds:=n } st f ts xs = doCall cx st f ts xs:=fun f ts xs=>by
   have h3 : ∀ st,argVs { cx with rounds:=n } st f ts xs = argVs cx st f ts xs:=fun st=>by simp only [argVs,fixL_rounds]
   have h4 : ∀ st g fs k m,callW { cx with rounds:=n } st g fs k m f ts xs = callW cx st g fs k m f ts xs:=fun st g fs k m=>by simp only [callW,h3]; rfl
   have h5 : ∀ st g fs,callM { cx with rounds:=n } st g fs f ts xs = callM cx st g fs f ts xs:=fun st g fs=>by simp only [callM,h3,outArgs_rounds]
   have h6 : ∀ st g fs,callO { cx with rounds:=n } st g fs f ts xs = callO cx st g fs f ts xs:=fun st g fs=>by simp only [callO,h4,h5]
   simp only [doCall,h3,callWk,h6]
  simp only [evalCall,h2]
 simp only [evalOp,h]
 rfl
theorem stepOp_rounds {cx : Cx} {n : Nat} (ops : List Oper) (st : St) (o : Oper) : stepOp { cx with rounds:=n } ops st o = stepOp cx ops st o:=by simp only [stepOp,evalOp_rounds]
theorem evalOps_rounds {cx : Cx} {n : Nat} {ops : List Oper} : ∀ (l : List Oper) (cs : List (Option (List Nat))) (st : St),evalOps { cx with rounds:=n } ops cs st l = evalOps cx ops cs st l
 | [],_,_=>rfl
 | o :: l,cs,st=>by
  simp only [evalOps,evalOp_rounds,evalOps_rounds l]
theorem evPlan_rounds {cx : Cx} {id n : Nat} {ops : List Oper} : ∀ (p : Plan) (st : St),evPlan { cx with rounds:=n } id ops p st = evPlan cx id ops p st
 | .done,_=>rfl
 | .take i p,st=>by
  simp only [evPlan,stepOp_rounds,evPlan_rounds p]
 | .one i p,st=>by
  have h2 : ∀ o,lateOp { cx with rounds:=n } o = lateOp cx o:=fun _=>rfl
  have h3 : ∀ s o,growOp { cx with rounds:=n } s o = growOp cx s o:=fun _ _=>rfl
  simp only [evPlan,stepOp_rounds,h2,h3,evPlan_rounds p]
 | .alt i p q,st=>by
  have h2 : ∀ o,lateOp { cx with rounds:=n } o = lateOp cx o:=fun _=>rfl
  have h3 : ∀ s o,growOp { cx with rounds:=n } s o = growOp cx s o:=fun _ _=>rfl
  simp only [evPlan,stepOp_rounds,h2,h3,evPlan_rounds p,evPlan_rounds q]
theorem iter_mono {f g : St → Option (Ex × St)} (h : ∀ s r,f s = some r → g s = some r) : ∀ (n m : Nat) (s : St) (r : Ex × St),n ≤ m → iter f n s = some r → iter g m s = some r
 | 0,_,_,_,_,hr=>by cases hr
 | n + 1,0,_,_,hm,_=>by omega
 | n + 1,m + 1,s,r,hm,hr=>by
  simp only [iter] at hr ⊢
  cases hf : f s with
  | none=>rw [hf] at hr; cases hr
  | some p =>
   obtain ⟨e,s'⟩:=p
   rw [hf] at hr
   rw [h s _ hf]
   cases e with
   | nor=>exact iter_mono h n m s' r (by omega) hr
   | _=>exact hr
theorem evCode_mono {cx : Cx} {n m : Nat} (hnm : n ≤ m) : ∀ (c : Code) (blk : Nat) (st : St) (r : Ex × St),evCode { cx with rounds:=n } blk c st = some r → evCode { cx with rounds:=m } blk c st = some r:=by
 intro c
 induction c with
 | region id ops draw =>
  intro blk st r h
  simp only [evCode,evalOps_rounds,evPlan_rounds] at h ⊢
  exact h
 | seq a b iha ihb =>
  intro blk st r h
  simp only [evCode] at h ⊢
  cases ha : evCode { cx with rounds:=n } blk a st with
  | none=>rw [ha] at h; cases h
  | some p =>
   obtain ⟨e,s⟩:=p
   rw [ha] at h
   rw [iha blk st _ ha]
   cases e with
   | nor=>exact ihb blk s r h
   | _=>exact h
 | cond c a b iha ihb =>
  intro blk st r h
  simp only [evCode] at h ⊢
  split at h
  ·exact iha blk st r h
  ·exact ihb blk st r h
  ·cases h
 | block id c ih =>
  intro blk st r h
  simp only [evCode] at h ⊢
  cases hc : evCode { cx with rounds:=n } id c st with
  | none=>rw [hc] at h; cases h
  | some p=>rw [hc] at h; rw [ih id st _ hc]; exact h
 | loop c ih =>
  intro blk st r h
  simp only [evCode] at h ⊢
  exact iter_mono (fun s r hs=>ih blk _ r hs) n m st r hnm h
 | _=>intro blk st r h; exact h
theorem evN_mono {cx : Cx} {n m : Nat} (hnm : n ≤ m) : ∀ (c : Code) (K K' : St → Option (Ex × St)) (_ : ∀ s r,K s = some r → K' s = some r) (st : St) (r : Ex × St),evN { cx with rounds:=n } c K st = some r → evN { cx with rounds:=m } c K' st = some r:=by
 have other : ∀ (c : Code) (K K' : St → Option (Ex × St)) (_ : ∀ s r,K s = some r → K' s = some r) (st : St) (r : Ex × St),afterN (evCode { cx with rounds:=n } 0 c st) K = some r → afterN (evCode { cx with rounds:=m } 0 c st) K' = some r:=by
  intro c K K' hK st r h
  cases hc : evCode { cx with rounds:=n } 0 c st with
  | none=>rw [hc] at h; cases h
  | some p =>
   rw [hc] at h
   rw [evCode_mono hnm c 0 st _ hc]
   obtain ⟨e,s⟩:=p
   cases e with
   | nor=>exact hK s r h
   | _=>exact h
 intro c
 induction c with
 | skip=>intro K K' hK st r h; exact hK st r h
 | seq a b iha ihb=>intro K K' hK st r h; exact iha _ _ (fun s r hs=>ihb K K' hK s r hs) st r h
 | cond c a b iha ihb =>
  intro K K' hK st r h
  simp only [evN] at h ⊢
  split at h
  ·exact iha K K' hK st r h
  ·exact ihb K K' hK st r h
  ·unfold both? at h ⊢
   split at h
   ·rename_i he
    have h1:=iha K K' hK st r h
    have h2:=ihb K K' hK st r (he ▸ h)
    rw [if_pos (h1.trans h2.symm)]
    exact h1
   ·cases h
  ·cases h
 | _=>intro K K' hK st r h; exact other _ K K' hK st r h
theorem evalFn_mono {cx : Cx} {md : List Md} {f : Func} {as : List AV} {r : AV × List AV} {n m : Nat} (hnm : n ≤ m) (h : evalFn { cx with rounds:=n } md f as = some r) : evalFn { cx with rounds:=m } md f as = some r:=by
 unfold evalFn at h ⊢
 cases hb : f.body with
 | none=>rw [hb] at h; cases h
 | some c =>
  rw [hb] at h
  simp only at h ⊢
  have hB : ∀ r,evB { cx with rounds:=n } c (entry md as) = some r → evB { cx with rounds:=m } c (entry md as) = some r:=by
   intro r hr
   unfold evB at hr ⊢
   by_cases hz : cx.nz = true
   ·rw [if_pos (show ({ cx with rounds:=n } : Cx).nz = true from hz)] at hr
    rw [if_pos (show ({ cx with rounds:=m } : Cx).nz = true from hz)]
    exact evN_mono hnm c _ _ (fun _ _ h=>h) _ r hr
   ·rw [if_neg (show ¬ ({ cx with rounds:=n } : Cx).nz = true from hz)] at hr
    rw [if_neg (show ¬ ({ cx with rounds:=m } : Cx).nz = true from hz)]
    exact evCode_mono hnm c 0 _ r hr
  cases hc : evB { cx with rounds:=n } c (entry md as) with
  | none=>rw [hc] at h; cases h
  | some p =>
   rw [hc] at h
   rw [hB _ hc]
   have hres : ∀ (l : List ResultVar) (st : St),resL { cx with rounds:=n } st l = resL { cx with rounds:=m } st l:=by
    intro l
    induction l with
    | nil=>intro st; rfl
    | cons x l ih=>intro st; cases x <;> simp only [resL,ih]
   have hfin : ∀ st,finish { cx with rounds:=n } md f.results.toList st = finish { cx with rounds:=m } md f.results.toList st:=fun st=>by simp only [finish,finA,hres]
   obtain ⟨e,s⟩:=p
   cases e <;> simp only [hfin] at h ⊢ <;> exact h
def okRes (wk : Bool) (r : AV) (os : List AV) : Bool:=wk || (!hasRo r && os.all fun o=>!hasRo o)
noncomputable def FR (cx : Cx) (md : List Md) (wk : Bool) (f : Func) (as : List AV) : Option (AV × List AV) :=
 open Classical in if h : ∃ (r : AV × List AV) (n : Nat),evalFn { cx with rounds:=n } md f as = some r ∧ okRes wk r.1 r.2 = true then some h.choose else none
theorem FR_eq {cx : Cx} {md : List Md} {wk : Bool} {f : Func} {as : List AV} {r : AV × List AV} {n : Nat} (h : evalFn { cx with rounds:=n } md f as = some r) (hr : okRes wk r.1 r.2 = true) : FR cx md wk f as = some r:=by
 have hx : ∃ (r : AV × List AV) (n : Nat),evalFn { cx with rounds:=n } md f as = some r ∧ okRes wk r.1 r.2 = true:=⟨r,n,h,hr⟩
 unfold FR
 rw [dif_pos hx]
 obtain ⟨m,h1,h2⟩:=hx.choose_spec
 have a1:=evalFn_mono (Nat.le_max_left n m) h
 have a2:=evalFn_mono (Nat.le_max_right n m) h1
 exact a2.symm.trans a1
theorem FR_inv {cx : Cx} {md : List Md} {wk : Bool} {f : Func} {as : List AV} {r : AV × List AV} (h : FR cx md wk f as = some r) : ∃ n,evalFn { cx with rounds:=n } md f as = some r ∧ okRes wk r.1 r.2 = true:=by
 unfold FR at h
 split at h
 ·rename_i hx
  obtain ⟨m,h1,h2⟩:=hx.choose_spec
  injection h with h
  rw [← h]
  exact ⟨m,h1,h2⟩
 ·cases h
structure SP (P : Program) [HasTb P] where
 g : Nat
 fs : FS
 ok : VSpec P g fs
def SP.F {P : Program} [HasTb P] (s : SP P) : List AV → Option (AV × List AV):=s.fs.F
def fnsS {P : Program} [HasTb P] : List (SP P) → Nat → Option FS
 | [],_=>none
 | s :: l,g=>if g = s.g then some s.fs else fnsS l g
@[go_sem] theorem fnsS_nil {P : Program} [HasTb P] (g : Nat) : fnsS ([] : List (SP P)) g = none:=nr rfl
@[go_sem] theorem fnsS_cons {P : Program} [HasTb P] (s : SP P) (l : List (SP P)) (g : Nat) : fnsS (s :: l) g = if g = s.g then some s.fs else fnsS l g:=nr rfl
theorem fnsS_ok {P : Program} [HasTb P] : ∀ (l : List (SP P)) (g : Nat) (fs : FS),fnsS l g = some fs → VSpec P g fs
 | [],g,fs,h=>by cases h
 | s :: l,g,fs,h=>by
  simp only [fnsS] at h
  split at h
  ·rename_i hg
   injection h with h
   subst h hg
   exact s.ok
  ·exact fnsS_ok l g fs h
def asc {α : Type} : List (Nat × α) → Nat → Option α
 | [],_=>none
 | (k,a) :: l,n=>if n = k then some a else asc l n
@[go_sem] theorem asc_nil {α : Type} (n : Nat) : asc ([] : List (Nat × α)) n = none:=nr rfl
@[go_sem] theorem asc_cons {α : Type} (k : Nat) (a : α) (l : List (Nat × α)) (n : Nat) : asc ((k,a) :: l) n = if n = k then some a else asc l n:=nr rfl
def ascD {α : Type} : List (Nat × List α) → Nat → List α
 | [],_=>[]
 | (k,a) :: l,n=>if n = k then a else ascD l n
@[go_sem] theorem ascD_nil {α : Type} (n : Nat) : ascD ([] : List (Nat × List α)) n = []:=nr rfl
@[go_sem] theorem ascD_cons {α : Type} (k : Nat) (a : List α) (l : List (Nat × List α)) (n : Nat) : ascD ((k,a) :: l) n = if n = k then a else ascD l n:=nr rfl
abbrev LV:=List (Nat × List Nat × List Nat)
structure FD where
 md : List Md
 wk : Bool:=false
 rg : LV:=[]
 lv : LV:=[]
 out : LV:=[]
 rets : Option (List Nat × List Nat):=none
 al : List Nat:=[]
 plan : List (Nat × Plan):=[]
 fz : List Nat:=[]
 nz : Bool:=false
 ws : List (Nat × List (Bool × Nat × Nat)):=[]
structure TyOf (P : Program) where
 T : TypeId → Option TI
 Q : TypeId → Option (List Nat)
 ok : ∀ cx : Cx,cx.T = T → cx.eqs = Q → CxOk P cx
 wide : P.follows .mixedOrders = true
def mkCx {P : Program} [HasTb P] (ty : TyOf P) (tab : List (SP P)) (d : FD) (n : Nat) : Cx :=
 { T:=ty.T,fns:=fnsS tab,cuts:=fun _=>[],rg:=asc d.rg,live:=asc d.lv,out:=asc d.out,rets:=d.rets,al:=d.al,plan:=asc d.plan,fz:=d.fz,eqs:=ty.Q,rounds:=n,nz:=d.nz,ws:=ascD d.ws }
def npOf (md : List Md) (j : Nat) : Bool:=match md[j]? with
 | some m=>!isRoMd m
 | none=>false
def ckS {P : Program} [HasTb P] (ty : TyOf P) (tab : List (SP P)) (d : FD) (f : Func) : Bool:=match f.body with
 | some c=>(!(f.name == "runtime.NumGoroutine")) && codeOk (mkCx ty tab d 0) (npOf d.md) f.ntmps c && decide (d.md.length ≤ f.ntmps) && mdPos d.md
 | none=>false
theorem mkS_ok {P : Program} [HasTb P] (ty : TyOf P) (g : Nat) (f : Func) (tab : List (SP P)) (d : FD) (hf : P.funcs[g]? = some f) (hk : ckS ty tab d f = true) : VSpec P g ⟨d.md,FR (mkCx ty tab d 0) d.md d.wk f,d.wk⟩:=by
 unfold ckS at hk
 cases hb : f.body with
 | none=>rw [hb] at hk; cases hk
 | some c =>
  rw [hb] at hk
  simp only [Bool.and_eq_true,Bool.not_eq_true',decide_eq_true_eq] at hk
  obtain ⟨⟨⟨h1,h2⟩,h3⟩,h4⟩:=hk
  refine fn_spec (cx:=mkCx ty tab d 0) (c:=c) ty.wide (ty.ok _ rfl rfl) (fnsS_ok tab) hf h1 hb (npOf d.md) (fun j m hj hm=>?_) h2 h3 h4 (fun as r os h _ _=>?_) (fun hw as r os h=>?_)
  ·simp only [npOf,hj,hm,Bool.not_false]
  ·obtain ⟨n,h5,_⟩:=FR_inv h
   exact ⟨n,h5⟩
  ·obtain ⟨n,_,h6⟩:=FR_inv h
   have hw' : d.wk = false:=hw
   simp only [okRes,hw',Bool.false_or,Bool.and_eq_true,Bool.not_eq_true',List.all_eq_true] at h6
   exact ⟨h6.1,fun o ho=>by simpa using h6.2 o ho⟩
noncomputable def mkS {P : Program} [HasTb P] (ty : TyOf P) (g : Nat) (f : Func) (tab : List (SP P)) (d : FD) (hf : P.funcs[g]? = some f) (hk : ckS ty tab d f = true) : SP P:=⟨g,⟨d.md,FR (mkCx ty tab d 0) d.md d.wk f,d.wk⟩,mkS_ok ty g f tab d hf hk⟩
theorem mkS_eq {P : Program} [HasTb P] {ty : TyOf P} {f : Func} {tab : List (SP P)} {d : FD} {as : List AV} {r : AV} {os : List AV} {c : Code} {rv : List ResultVar} (n : Nat) (hb : f.body = some c) (hr : f.results = rv.toArray)
  (h : ∀ cx : Cx,(cx.T = ty.T ∧ cx.fns = fnsS tab ∧ cx.rg = asc d.rg ∧ cx.live = asc d.lv ∧ cx.out = asc d.out ∧ cx.rets = d.rets ∧ cx.al = d.al ∧ cx.plan = asc d.plan ∧ cx.fz = d.fz ∧ cx.eqs = ty.Q ∧ cx.rounds = n ∧ cx.ws = ascD d.ws ∧ ∀ k,cx.cuts k = []) → finE cx d.md rv (evCode cx 0 c (entry d.md as)) = some (r,os)) (hw : okRes d.wk r os = true) (hz : d.nz = false:=by rfl) : FR (mkCx ty tab d 0) d.md d.wk f as = some (r,os):=by
 refine FR_eq (n:=n) ?_ hw
 rw [evalFn_eq _ _ f _ c rv hb hr hz]
 exact h _ ⟨rfl,rfl,rfl,rfl,rfl,rfl,rfl,rfl,rfl,rfl,rfl,rfl,fun _=>rfl⟩
theorem mkS_eqN {P : Program} [HasTb P] {ty : TyOf P} {f : Func} {tab : List (SP P)} {d : FD} {as : List AV} {r : AV} {os : List AV} {c : Code} {rv : List ResultVar} (n : Nat) (hb : f.body = some c) (hr : f.results = rv.toArray)
  (h : ∀ cx : Cx,(cx.T = ty.T ∧ cx.fns = fnsS tab ∧ cx.rg = asc d.rg ∧ cx.live = asc d.lv ∧ cx.out = asc d.out ∧ cx.rets = d.rets ∧ cx.al = d.al ∧ cx.plan = asc d.plan ∧ cx.fz = d.fz ∧ cx.eqs = ty.Q ∧ cx.rounds = n ∧ cx.ws = ascD d.ws ∧ ∀ k,cx.cuts k = []) → finE cx d.md rv (evN cx c (fun s=>some (.nor,s)) (entry d.md as)) = some (r,os)) (hw : okRes d.wk r os = true) (hz : d.nz = true:=by rfl) : FR (mkCx ty tab d 0) d.md d.wk f as = some (r,os):=by
 refine FR_eq (n:=n) ?_ hw
 rw [evalFn_eqN _ _ f _ c rv hb hr hz]
 exact h _ ⟨rfl,rfl,rfl,rfl,rfl,rfl,rfl,rfl,rfl,rfl,rfl,rfl,fun _=>rfl⟩
def loopsOf : Code → List Code
 | .loop c=>c :: loopsOf c
 | .seq a b=>loopsOf a ++ loopsOf b
 | .cond _ a b=>loopsOf a ++ loopsOf b
 | .block _ c=>loopsOf c
 | _=>[]
def loopN (f : Func) (i : Nat) : Code:=match f.body with
 | some b=>((loopsOf b)[i]?).getD .skip
 | none=>.skip
theorem loopN_eq (f : Func) (i : Nat) (b c : Code) (hb : f.body = some b) (hl : (loopsOf b)[i]? = some c) : loopN f i = c:=by simp only [loopN,hb,hl,Option.getD_some]
theorem loop_gen {σ : Type} {cx : Cx} {blk : Nat} {body : Code} (S : σ → St) (I : σ → Prop) (μ : σ → Nat) (Q : σ → Option (Ex × St) → Prop)
  (h : ∀ s,I s → (∀ G,Q s (seqE (evCode cx blk body (S s)) G)) ∨ ∃ st' s',keep (cx.live blk) st' = S s' ∧ I s' ∧ μ s' < μ s ∧ (∀ r,Q s' r → Q s r) ∧ ∀ G,seqE (evCode cx blk body (S s)) G = G st') :
  ∀ (N : Nat) (s : σ),I s → μ s < N → ∀ st,keep (cx.live blk) st = S s → Q s (loopE cx blk body N st):=by
 intro N
 induction N with
 | zero=>intro s hI hN; omega
 | succ N ih =>
  intro s hI hN st hst
  rw [loopE_succ,hst]
  rcases h s hI with h1 | ⟨st',s',h1,h2,h3,h4,h5⟩
  ·exact h1 _
  ·rw [h5]
   exact h4 _ (ih s' h2 (by omega) st' h1)
def runS {α σ : Type} (c : α → σ → Bool) (g : α → σ → σ) : List α → σ → σ ⊕ (α × σ)
 | [],s=>.inl s
 | x :: xs,s=>if c x s = true then .inr (x,s) else runS c g xs (g x s)
theorem runS_cons {α σ : Type} (c : α → σ → Bool) (g : α → σ → σ) (x : α) (xs : List α) (s : σ) : runS c g (x :: xs) s = if c x s = true then .inr (x,s) else runS c g xs (g x s):=rfl
theorem runS_fold {α σ : Type} (g : α → σ → σ) : ∀ (xs : List α) (s : σ),runS (fun _ _=>false) g xs s = .inl (xs.foldl (fun s x=>g x s) s)
 | [],s=>rfl
 | x :: xs,s=>by simp only [runS,Bool.false_eq_true,if_false,List.foldl_cons]; exact runS_fold g xs _
theorem loop_list {α σ : Type} {cx : Cx} {blk : Nat} {body : Code} (xs : List α) (S : Nat → σ → St) (X : σ → St) (c : α → σ → Bool) (g : α → σ → σ) (R : α → σ → Ex × St) (I : Nat → σ → Prop)
  (hend : ∀ s,I xs.length s → ∀ G,seqE (evCode cx blk body (S xs.length s)) G = some (.ex blk,X s))
  (hstep : ∀ k (hk : k < xs.length) s,I k s → (c xs[k] s = true ∧ ∀ G,seqE (evCode cx blk body (S k s)) G = some (R xs[k] s)) ∨ (c xs[k] s = false ∧ I (k + 1) (g xs[k] s) ∧ ∃ st',(∀ G,seqE (evCode cx blk body (S k s)) G = G st') ∧ keep (cx.live blk) st' = S (k + 1) (g xs[k] s)))
  (s : σ) (hI : I 0 s) (N : Nat) (hN : xs.length + 1 ≤ N) :
  ∃ r,(∀ st,keep (cx.live blk) st = S 0 s → loopE cx blk body N st = r) ∧ ((∃ s',runS c g xs s = .inl s' ∧ I xs.length s' ∧ r = some (.ex blk,X s')) ∨ ∃ x s',runS c g xs s = .inr (x,s') ∧ r = some (R x s')):=by
 obtain ⟨M,rfl⟩ : ∃ M,N = M + 1:=⟨N - 1,by omega⟩
 have key : ∀ (k : Nat) (s : σ) (M : Nat),k ≤ xs.length → I k s → xs.length - k ≤ M → (∃ s',runS c g (xs.drop k) s = .inl s' ∧ I xs.length s' ∧ seqE (evCode cx blk body (S k s)) (fun s=>loopE cx blk body M s) = some (.ex blk,X s')) ∨ ∃ x s',runS c g (xs.drop k) s = .inr (x,s') ∧ seqE (evCode cx blk body (S k s)) (fun s=>loopE cx blk body M s) = some (R x s'):=by
  intro k s M
  induction M generalizing k s with
  | zero =>
   intro hk hI hM
   obtain rfl : k = xs.length:=by omega
   exact .inl ⟨s,by rw [List.drop_length]; rfl,hI,hend s hI _⟩
  | succ M ih =>
   intro hk hI hM
   by_cases he : k = xs.length
   ·subst he
    exact .inl ⟨s,by rw [List.drop_length]; rfl,hI,hend s hI _⟩
   ·have hlt : k < xs.length:=by omega
    rcases hstep k hlt s hI with ⟨h1,h2⟩ | ⟨h1,h2,st',h4,h3⟩
    ·exact .inr ⟨xs[k],s,by rw [List.drop_eq_getElem_cons hlt,runS_cons,if_pos h1],h2 _⟩
    ·rw [h4,loopE_succ,h3,List.drop_eq_getElem_cons hlt,runS_cons,if_neg (by simp [h1])]
     exact ih (k + 1) _ (by omega) h2 (by omega)
 exact ⟨_,fun st hst=>by rw [loopE_succ,hst],key 0 s M (Nat.zero_le _) hI (by omega)⟩
theorem loop_fold {α σ : Type} {cx : Cx} {blk : Nat} {body : Code} (xs : List α) (S : Nat → σ → St) (X : σ → St) (g : α → σ → σ) (I : Nat → σ → Prop)
  (hend : ∀ s,I xs.length s → ∀ G,seqE (evCode cx blk body (S xs.length s)) G = some (.ex blk,X s))
  (hstep : ∀ k (hk : k < xs.length) s,I k s → I (k + 1) (g xs[k] s) ∧ ∃ st',(∀ G,seqE (evCode cx blk body (S k s)) G = G st') ∧ keep (cx.live blk) st' = S (k + 1) (g xs[k] s))
  (s : σ) (hI : I 0 s) (N : Nat) (hN : xs.length + 1 ≤ N) :
  I xs.length (xs.foldl (fun s x=>g x s) s) ∧ ∀ st,keep (cx.live blk) st = S 0 s → loopE cx blk body N st = some (.ex blk,X (xs.foldl (fun s x=>g x s) s)):=by
 obtain ⟨r,h1,h⟩:=loop_list (cx:=cx) (blk:=blk) (body:=body) xs S X (fun _ _=>false) g (fun _ s=>(.ret,X s)) I hend (fun k hk s hI=>.inr ⟨rfl,hstep k hk s hI⟩) s hI N hN
 rw [runS_fold] at h
 rcases h with ⟨s',h2,h3,h4⟩ | ⟨x,s',h2,h3⟩
 ·injection h2 with h2
  subst h2
  exact ⟨h3,fun st hst=>by rw [h1 st hst,h4]⟩
 ·cases h2
theorem loop_srch {α σ : Type} {cx : Cx} {blk : Nat} {body : Code} (xs : List α) (S : Nat → σ → St) (X : σ → St) (c : α → σ → Bool) (g : α → σ → σ) (R : α → σ → Ex × St) (I : Nat → σ → Prop)
  (hend : ∀ s,I xs.length s → ∀ G,seqE (evCode cx blk body (S xs.length s)) G = some (.ex blk,X s))
  (hstep : ∀ k (hk : k < xs.length) s,I k s → ∃ (C : Prop) (_ : Decidable C) (st' : St),(∀ G,seqE (evCode cx blk body (S k s)) G = if C then some (R xs[k] s) else G st') ∧ (C ↔ c xs[k] s = true) ∧ (c xs[k] s = false → I (k + 1) (g xs[k] s) ∧ keep (cx.live blk) st' = S (k + 1) (g xs[k] s)))
  (s : σ) (hI : I 0 s) (N : Nat) (hN : xs.length + 1 ≤ N) :
  ∃ r,(∀ st,keep (cx.live blk) st = S 0 s → loopE cx blk body N st = r) ∧ ((∃ s',runS c g xs s = .inl s' ∧ I xs.length s' ∧ r = some (.ex blk,X s')) ∨ ∃ x s',runS c g xs s = .inr (x,s') ∧ r = some (R x s')):=by
 refine loop_list xs S X c g R I hend (fun k hk s hI=>?_) s hI N hN
 obtain ⟨C,_,st',h1,h2,h3⟩:=hstep k hk s hI
 cases hc : c xs[k] s with
 | true=>exact .inl ⟨rfl,fun G=>(h1 G).trans (if_pos (h2.2 hc))⟩
 | false =>
  obtain ⟨h4,h5⟩:=h3 hc
  exact .inr ⟨rfl,h4,st',fun G=>(h1 G).trans (if_neg (fun hC=>by rw [h2.1 hC] at hc; cases hc)),h5⟩
theorem runS_any {α : Type} {p : α → Bool} : ∀ {xs : List α} {u u' : Unit},runS (fun x _=>p x) (fun _ _=>()) xs u = .inl u' → xs.any p = false
 | [],_,_,_=>rfl
 | x :: xs,u,u',h=>by
  rw [runS_cons] at h
  split at h
  ·cases h
  ·rename_i hc
   rw [List.any_cons,runS_any h]
   simpa using hc
theorem runS_found {α : Type} {p : α → Bool} : ∀ {xs : List α} {u : Unit} {q : α × Unit},runS (fun x _=>p x) (fun _ _=>()) xs u = .inr q → xs.any p = true ∧ p q.1 = true ∧ xs.find? p = some q.1
 | [],_,_,h=>by cases h
 | x :: xs,u,q,h=>by
  rw [runS_cons] at h
  split at h
  ·rename_i hc
   injection h with h
   subst h
   exact ⟨by simp [hc],hc,by simp [hc]⟩
  ·rename_i hc
   obtain ⟨h1,h2,h3⟩:=runS_found h
   exact ⟨by simp [h1],h2,by simp [hc,h3]⟩
def idxP {α : Type} (p : α → Bool) : List α → Nat → Int
 | [],_=>-1
 | x :: xs,k=>if p x = true then (k : Int) else idxP p xs (k + 1)
theorem runS_idx {α : Type} {p : α → Bool} : ∀ {xs : List α} {k k' : Nat},runS (fun x _=>p x) (fun _ k=>k + 1) xs k = .inl k' → idxP p xs k = -1
 | [],_,_,_=>rfl
 | x :: xs,k,k',h=>by
  rw [runS_cons] at h
  split at h
  ·cases h
  ·rename_i hc
   rw [idxP,if_neg hc,runS_idx h]
theorem runS_idx' {α : Type} {p : α → Bool} : ∀ {xs : List α} {k : Nat} {q : α × Nat},runS (fun x _=>p x) (fun _ k=>k + 1) xs k = .inr q → idxP p xs k = (q.2 : Int)
 | [],_,_,h=>by cases h
 | x :: xs,k,q,h=>by
  rw [runS_cons] at h
  split at h
  ·rename_i hc
   injection h with h
   subst h
   rw [idxP,if_pos hc]
  ·rename_i hc
   rw [idxP,if_neg hc,runS_idx' h]
theorem idxP_any {α : Type} {p : α → Bool} : ∀ (xs : List α) (k : Nat),decide (0 ≤ idxP p xs k) = xs.any p
 | [],_=>by simp [idxP]
 | x :: xs,k=>by
  rw [idxP,List.any_cons]
  cases hc : p x with
  | true=>simp
  | false=>simpa using idxP_any xs (k + 1)
end Go.Vm
set_option autoImplicit false
namespace Go.Vm
@[go_sem] theorem cast0 : ((0 : Nat) : Int) = 0:=nr rfl
@[go_sem] theorem cast1 : ((1 : Nat) : Int) = 1:=nr rfl
theorem map_gdA {α : Type} (f : α → AV) (xs : List α) (k : Nat) (h : k < xs.length) : (xs.map f).getD k .u = f xs[k]:=by simp [List.getD,h]
@[go_sem] theorem av_nilFunc : avOf .nilFunc = .u:=nr rfl
theorem wrap_id {k : Int} (h0 : -9223372036854775808 ≤ k) (h : k ≤ 9223372036854775807) : (IntKind.i64).wrap k = k:=by
 simp [IntKind.wrap,IntKind.bits,IntKind.signed]
 omega
theorem wrap_nat1 {k : Nat} (h : k < 9223372036854775807) : (IntKind.i64).wrap ((k : Int) + 1) = ((k + 1 : Nat) : Int):=by
 rw [wrap_id (by omega) (by omega)]; rfl
theorem idx_nt (n k : Nat) (h : k < n) : idx? n (k : Int) = some k:=by
 simp only [idx?]
 rw [if_pos ⟨by omega,by omega⟩]; rfl
theorem map_gd {α : Type} (f : α → List AV) (xs : List α) (k : Nat) (h : k < xs.length) : (xs.map f).getD k [] = f xs[k]:=by simp [List.getD,h]
theorem gd_map {α : Type} (f : α → List AV) (xs : List α) (k : Nat) (h : k < xs.length) : (xs.map f)[k]? = some (f xs[k]):=by simp [h]
@[go_sem] theorem take_mapl {α : Type} (f : α → List AV) (xs : List α) : (xs.map f).take xs.length = xs.map f:=by
 have:=List.take_length (l:=xs.map f)
 rwa [List.length_map] at this
noncomputable def eqv {α : Type} (a b : α) : Bool:=open Classical in decide (a = b)
theorem eqv_iff {α : Type} {a b : α} : eqv a b = true ↔ a = b:=by simp [eqv]
theorem eqv_self {α : Type} (a : α) : eqv a a = true:=by simp [eqv]
theorem eqv_of {α : Type} {p : Bool} {a b : α} (h : p = true ↔ a = b) : p = eqv a b:=by
 cases p with
 | true=>exact (eqv_iff.2 (h.1 rfl)).symm
 | false =>
  cases he : eqv a b with
  | false=>rfl
  | true=>exact absurd (h.2 (eqv_iff.1 he)) (by simp)
theorem eqv_int (a b : Int) : (a == b) = eqv a b:=eqv_of (by simp)
theorem eqv_intne (a b : Int) : (a != b) = !eqv a b:=by rw [bne,eqv_int]
theorem eqv_bool (a b : Bool) : (a == b) = eqv a b:=eqv_of (by simp)
theorem eqv_boolne (a b : Bool) : (a != b) = !eqv a b:=by rw [bne,eqv_bool]
theorem eqv_byte (a b : UInt8) : ((a.toNat : Int) != (b.toNat : Int)) = !eqv a b:=by
 rw [bne,eqv_of (p:=((a.toNat : Int) == (b.toNat : Int))) (a:=a) (b:=b)]
 simp only [beq_iff_eq,Int.ofNat_inj]
 exact UInt8.toNat_inj
theorem ba_ext {a b : ByteArray} (h : a.toList = b.toList) : a = b:=by
 rw [ByteArray.toList_eq,ByteArray.toList_eq] at h
 cases a; cases b
 simp only [ByteArray.mk.injEq] at h ⊢
 exact Array.ext' h
theorem eqv_bytes (a b : ByteArray) : (a.toList == b.toList) = eqv a b:=eqv_of (by
 constructor
 ·intro h; exact ba_ext (by simpa using h)
 ·rintro rfl; simp)
theorem eqv_mk (xs ys : List UInt8) : eqv (ByteArray.mk xs.toArray) (ByteArray.mk ys.toArray) = eqv xs ys:=by
 refine eqv_of ?_
 rw [eqv_iff]
 constructor
 ·intro h
  have:=congrArg (fun b=>b.data.toList) h
  simpa using this
 ·rintro rfl; rfl
theorem strOf_rows : ∀ xs : List UInt8,strOf (xs.map fun b=>[.i .u8 b.toNat]) = some xs
 | []=>rfl
 | x :: xs=>by
  simp only [List.map_cons,strOf,strOf_rows xs,Int.toNat_natCast,UInt8.ofNat_toNat]
theorem if_and' (a b : Bool) : (if a = true then b else false) = (a && b):=by cases a <;> rfl
theorem if_or' (a b : Bool) : (if a = true then true else b) = (a || b):=by cases a <;> rfl
theorem if_sb (c : Prop) [Decidable c] (x y : Bool) (l : List AV) : (if c then some (AV.b x,l) else some (AV.b y,l)) = some (AV.b (if c then x else y),l):=by split <;> rfl
@[go_sem] theorem getOp_a0 (o : Oper) (a b : List Oper) : getOp (List.append (o :: a) b) 0 = some o:=nr rfl
@[go_sem] theorem getOp_a1 (o : Oper) (a b : List Oper) (n : Nat) : getOp (List.append (o :: a) b) (n + 1) = getOp (List.append a b) n:=nr rfl
@[go_sem] theorem getOp_a2 (b : List Oper) (n : Nat) : getOp (List.append [] b) n = getOp b n:=nr rfl
@[go_sem] theorem dstAt_a0 (o : Oper) (a b : List Oper) : dstAt (List.append (o :: a) b) 0 = o.dst:=nr rfl
@[go_sem] theorem dstAt_a1 (o : Oper) (a b : List Oper) (n : Nat) : dstAt (List.append (o :: a) b) (n + 1) = dstAt (List.append a b) n:=nr rfl
@[go_sem] theorem dstAt_a2 (b : List Oper) (n : Nat) : dstAt (List.append [] b) n = dstAt b n:=nr rfl
@[go_sem] theorem evalOps_a0 (cx : Cx) (ops : List Oper) (cs : List (Option (List Nat))) (st : St) (o : Oper) (a b : List Oper) : evalOps cx ops cs st (List.append (o :: a) b) = evalOps cx ops cs st (o :: List.append a b):=nr rfl
@[go_sem] theorem evalOps_a2 (cx : Cx) (ops : List Oper) (cs : List (Option (List Nat))) (st : St) (b : List Oper) : evalOps cx ops cs st (List.append [] b) = evalOps cx ops cs st b:=nr rfl
theorem if_oret (p q : Prop) [Decidable p] [Decidable q] (s : St) (y : Option (Ex × St)) : (if p then some (Ex.ret,s) else if q then some (Ex.ret,s) else y) = if p ∨ q then some (Ex.ret,s) else y:=by by_cases h : p <;> by_cases h' : q <;> simp [h,h']
def Every {α : Type} (p : α → Prop) (xs : List α) : Prop:=∀ x ∈ xs,p x
@[go_sem] theorem take_mm {α β γ : Type} (f : β → γ) (g : α → β) (xs : List α) : List.take xs.length ((xs.map g).map f) = (xs.map g).map f:=List.take_of_length_le (by simp)
end Go.Vm
set_option autoImplicit false
namespace Go.Vm
open Go.ChangeShapes Go.WideShapes
inductive Sh
 | b | i (k : IntKind) | s | sl (r : List Sh)
def shFs (g : TypeId → Option (List Sh)) (P : Program) : List Field → Nat → Option (List Sh)
 | [],_=>some []
 | f :: r,off=>match g f.type with
  | some q=>if f.offset = off ∧ P.cellsOf f.type = q.length then (match shFs g P r (off + q.length) with
   | some l=>some (q ++ l)
   | none=>none) else none
  | none=>none
def shOf (P : Program) : Nat → TypeId → Option (List Sh)
 | 0,_=>none
 | n + 1,t=>match P.underlying t with
  | some .bool=>some [.b]
  | some (.int k)=>some [.i k]
  | some .string=>some [.s]
  | some (.slice e)=>match shOf P n e with
   | some (x :: r)=>if P.cellsOf e = (x :: r).length then some [.sl (x :: r)] else none
   | _=>none
  | some (.struct fs)=>match shFs (shOf P n) P fs.toList 0 with
   | some l=>if P.cellsOf t = l.length then some l else none
   | none=>none
  | _=>none
inductive ShOk : Sh → AV → Prop
 | b {x : Bool} : ShOk .b (.b x)
 | i {k : IntKind} {n : Int} (h : (Lit.int k n).wf = true) : ShOk (.i k) (.i k n)
 | s {x : ByteArray} (h : x.size ≤ maxLen) : ShOk .s (.s x)
 | sl {r : List Sh} {es : List (List AV)} (hl : es.length ≤ maxLen) (hz : ∀ row ∈ es,row.length = r.length) (h : ∀ row ∈ es,∀ (j : Nat) (sh : Sh) (a : AV),r[j]? = some sh → row[j]? = some a → ShOk sh a) : ShOk (.sl r) (.sl .ro r.length es)
def RowOk (r : List Sh) (row : List AV) : Prop:=row.length = r.length ∧ ∀ (j : Nat) (sh : Sh) (a : AV),r[j]? = some sh → row[j]? = some a → ShOk sh a
def allC (w : World) : CS:=fun g k=>∃ v,cellAt w g k = some v
theorem allC_lt {w : World} {g k : Nat} (h : allC w g k) : g < w.heap.size:=by
 obtain ⟨v,hv⟩:=h
 exact World.block_lt_of_cell? w ⟨g,k,none⟩ hv
def Shows (w : World) (shs : List Sh) (cs : List Value) (as : List AV) : Prop:=cs.length = shs.length ∧ RowOk shs as ∧ ∀ (j : Nat) (v : Value) (a : AV),cs[j]? = some v → as[j]? = some a → Rep w (allC w) v a nos
theorem Shows.one {w : World} {sh : Sh} {v : Value} {a : AV} (h : ShOk sh a) (hr : Rep w (allC w) v a nos) : Shows w [sh] [v] [a]:=by
 refine ⟨rfl,⟨rfl,fun j q b hs hb=>?_⟩,fun j u b hu hb=>?_⟩
 ·rcases j with _ | j
  ·simp only [List.getElem?_cons_zero,Option.some.injEq] at hs hb; subst hs hb; exact h
  ·simp at hs
 ·rcases j with _ | j
  ·simp only [List.getElem?_cons_zero,Option.some.injEq] at hu hb; subst hu hb; exact hr
  ·simp at hu
theorem getElem?_app {α : Type} {l r : List α} {j : Nat} {x : α} (h : (l ++ r)[j]? = some x) : l[j]? = some x ∨ (l.length ≤ j ∧ r[j - l.length]? = some x):=by
 by_cases hj : j < l.length
 ·rw [List.getElem?_append_left hj] at h; exact .inl h
 ·rw [List.getElem?_append_right (by omega)] at h; exact .inr ⟨by omega,h⟩
theorem Shows.app {w : World} {s1 s2 : List Sh} {c1 c2 : List Value} {a1 a2 : List AV} (h1 : Shows w s1 c1 a1) (h2 : Shows w s2 c2 a2) : Shows w (s1 ++ s2) (c1 ++ c2) (a1 ++ a2):=by
 obtain ⟨l1,⟨m1,p1⟩,q1⟩:=h1
 obtain ⟨l2,⟨m2,p2⟩,q2⟩:=h2
 refine ⟨by simp [l1,l2],⟨by simp [m1,m2],fun j q a hs ha=>?_⟩,fun j v a hv ha=>?_⟩
 ·rcases getElem?_app hs with hs | ⟨h0,hs⟩
  ·have hlt:=(List.getElem?_eq_some_iff.1 hs).1
   rw [List.getElem?_append_left (by omega)] at ha
   exact p1 j q a hs ha
  ·rw [List.getElem?_append_right (by omega),m1] at ha
   exact p2 _ q a hs ha
 ·rcases getElem?_app hv with hv | ⟨h0,hv⟩
  ·have hlt:=(List.getElem?_eq_some_iff.1 hv).1
   rw [List.getElem?_append_left (by omega)] at ha
   exact q1 j v a hv ha
  ·rw [List.getElem?_append_right (by omega),m1,← l1] at ha
   exact q2 _ v a hv ha
theorem add_of {a : Addr} (h : a.spot = none) (n : Nat) : a.add n = ⟨a.block,a.off + n,none⟩:=by
 unfold Addr.add
 split
 ·rename_i h0; subst h0; cases a; simp only at h; subst h; rfl
 ·cases a; rfl
section
variable {H : Type} {enc : TypeId × Value → H} {P : Program} {w : World}
theorem read_cells (n : Nat) : ∀ {fuel : Nat} {t : TypeId} {cs : List Value} {x : DataW H × List MemPlace} {shs : List Sh},DataW.trod enc P w 0 (fun _=>true) true fuel t cs = some x → shOf P n t = some shs → ∃ as,Shows w shs cs as:=by
 induction n with
 | zero=>intro fuel t cs x shs _ h; cases h
 | succ n ih =>
  intro fuel t cs x shs ht hs
  unfold shOf at hs
  split at hs
  ·rename_i hu
   injection hs with hs; subst hs
   obtain ⟨b,rfl,_⟩:=DataW.trod_bool hu ht
   exact ⟨_,Shows.one .b .b⟩
  ·rename_i k hu
   injection hs with hs; subst hs
   obtain ⟨m,rfl,_,hwf⟩:=DataW.trod_int hu ht
   exact ⟨_,Shows.one (.i hwf) .i⟩
  ·rename_i hu
   injection hs with hs; subst hs
   obtain ⟨s,rfl,_,hsz⟩:=DataW.trod_string hu ht
   exact ⟨_,Shows.one (.s hsz) .s⟩
  ·rename_i e hu
   split at hs
   ·rename_i x0 r hr
    split at hs
    ·rename_i hce
     injection hs with hs; subst hs
     rcases Go.Deep.open_slice hu ht with ⟨rfl,_⟩ | ⟨a,len,cap,m,n',D,Pl,rfl,_,hl,hm,hmm,_,hi⟩
     ·refine ⟨_,Shows.one (.sl (es:=[]) (Nat.zero_le _) (fun _ h=>by cases h) (fun _ h=>by cases h)) ?_⟩
      exact .sl 0 0 (fun _ _=>undef) (fun _ _=>nos) rfl (Nat.le_refl _) (by simp) (fun h=>absurd h (by omega)) (fun i row hi=>by simp at hi) (fun i row j a hi=>by simp at hi) (fun i row j a hi=>by simp at hi)
       ⟨(fun e=>by cases e),(fun e=>by cases e),(fun e=>absurd rfl e),fun _ k hk=>absurd hk (by simp)⟩ (fun _ _=>nos_sub _) (fun _ _ _ _ _=>nos_disj _) (fun e=>by cases e) (fun _ _ _=>rfl)
     ·simp only [if_true] at hmm
      subst hmm
      generalize hzz : (x0 :: r).length = z at hce
      have hz0 : 0 < z:=by rw [← hzz]; simp
      rw [hce] at hi
      have hsp : 0 < m → a.spot = none:=by
       intro h0
       obtain ⟨cs',h1,_⟩:=hi 0 h0
       obtain ⟨_,h3,h4⟩:=World.cells?_some h1
       have:=h4 0 hz0
       rw [List.getElem?_eq_getElem (by omega),Nat.zero_mul] at this
       unfold World.cell? at this
       simp only [Addr.add,if_true] at this
       split at this
       ·cases hs : a.spot with
        | none=>rfl
        | some q=>rw [hs] at this; simp at this
       ·cases this
      have hrow : ∀ i,i < len → ∃ p : List Value × List AV,(∀ j,j < z → cellAt w a.block (a.off + (i * z + j)) = p.1[j]?) ∧ Shows w (x0 :: r) p.1 p.2:=by
       intro i hil
       obtain ⟨cs',h1,h2⟩:=hi i (by omega)
       obtain ⟨as,h3⟩:=ih h2 hr
       obtain ⟨_,_,h6⟩:=World.cells?_some h1
       refine ⟨(cs',as),fun j hj=>?_,h3⟩
       have:=h6 j hj
       rw [Go.Deep.add_add,add_of (hsp (by omega))] at this
       exact this
      obtain ⟨f,hf⟩:=Go.Deep.choose_lt hrow
      let es : List (List AV):=(List.range len).map fun i=>(f i).2
      have hes : ∀ (i : Nat) (row : List AV),es[i]? = some row → i < len ∧ row = (f i).2:=by
       intro i row h
       have hlt : i < len:=Decidable.byContradiction fun hn=>by
        rw [List.getElem?_eq_none (by simp only [es,List.length_map,List.length_range]; omega)] at h
        cases h
       simp only [es,List.getElem?_map,List.getElem?_range hlt,Option.map_some,Option.some.injEq] at h
       exact ⟨hlt,h.symm⟩
      have hmem : ∀ row ∈ es,∃ i,i < len ∧ row = (f i).2:=by
       intro row h
       obtain ⟨i,h⟩:=List.getElem?_of_mem h
       exact ⟨i,hes i row h⟩
      have hcell : ∀ i j,i < len → j < z → cellAt w a.block (a.off + (i * z + j)) = some ((f i).1.getD j undef):=by
       intro i j h1 h2
       obtain ⟨q1,q2,_⟩:=hf i h1
       rw [q1 j h2,List.getD_eq_getElem?_getD,List.getElem?_eq_getElem (by rw [q2,hzz]; exact h2)]
       rfl
      refine ⟨_,Shows.one (.sl (es:=es) (by simp only [es,List.length_map,List.length_range]; omega) (fun row h=>?_) (fun row h=>?_)) ?_⟩
      ·obtain ⟨i,h1,rfl⟩:=hmem row h
       exact (hf i h1).2.2.1.1
      ·obtain ⟨i,h1,rfl⟩:=hmem row h
       exact (hf i h1).2.2.1.2
      ·rw [hzz]
       have hM : maxLen = 9223372036854775807:=rfl
       refine .sl a.block a.off (fun i j=>(f i).1.getD j undef) (fun _ _=>nos) (by simp [es]) hl (by omega) (fun h0=>?_) (fun i row h=>?_) (fun i row j b h hj=>?_) (fun i row j b h hj=>?_)
        ⟨(fun e=>by cases e),(fun e=>by cases e),(fun e=>absurd rfl e),fun _ k hk=>?_⟩ (fun _ _=>nos_sub _) (fun _ _ _ _ _=>nos_disj _) (fun e=>by cases e) (fun _ _ _=>rfl)
       ·have:=hsp h0
        cases a; simp only at this; subst this; rfl
       ·obtain ⟨h1,rfl⟩:=hes i row h
        rw [← hzz]; exact (hf i h1).2.2.1.1
       ·obtain ⟨h1,rfl⟩:=hes i row h
        have hlt:=(List.getElem?_eq_some_iff.1 hj).1
        rw [(hf i h1).2.2.1.1,hzz] at hlt
        exact hcell i j h1 hlt
       ·obtain ⟨h1,rfl⟩:=hes i row h
        have hlt:=(List.getElem?_eq_some_iff.1 hj).1
        obtain ⟨_,q2,q3,q4⟩:=hf i h1
        rw [q3.1] at hlt
        refine q4 j _ b ?_ hj
        rw [List.getD_eq_getElem?_getD,List.getElem?_eq_getElem (by rw [q2]; exact hlt)]
        rfl
       ·have h1 : k / z < len:=by rw [Nat.div_lt_iff_lt_mul hz0]; exact hk
        have h2 : k % z < z:=Nat.mod_lt _ hz0
        have:=hcell (k / z) (k % z) h1 h2
        rw [Nat.mul_comm,Nat.div_add_mod] at this
        exact ⟨_,this⟩
    ·cases hs
   ·cases hs
  ·rename_i fs hu
   obtain ⟨xs,n',rfl,_,hlen,hxl,hi⟩:=DataW.trod_struct hu ht
   split at hs
   ·rename_i l hl
    split at hs
    ·rename_i hcl
     injection hs with hs; subst hs
     have key : ∀ (fl : List Field) (off : Nat) (l : List Sh),shFs (shOf P n) P fl off = some l → (∀ f ∈ fl,∃ y,DataW.trod enc P w 0 (fun _=>true) true n' f.type ((cs.drop f.offset).take (P.cellsOf f.type)) = some y) → ∃ as,Shows w l ((cs.drop off).take l.length) as:=by
      intro fl
      induction fl with
      | nil =>
       intro off l h _
       injection h with h; subst h
       exact ⟨[],by simp,⟨rfl,fun j q a h=>by simp at h⟩,fun j v a h=>by simp at h⟩
      | cons f fl ihf =>
       intro off l h hy
       unfold shFs at h
       split at h
       ·rename_i s hfs
        split at h
        ·rename_i hc
         obtain ⟨rfl,hc2⟩:=hc
         split at h
         ·rename_i l' hl'
          injection h with h; subst h
          obtain ⟨y,hyy⟩:=hy f (by simp)
          obtain ⟨a1,h1⟩:=ih hyy hfs
          obtain ⟨a2,h2⟩:=ihf _ _ hl' (fun g hg=>hy g (by simp [hg]))
          refine ⟨a1 ++ a2,?_⟩
          have e : (cs.drop f.offset).take (s ++ l').length = (cs.drop f.offset).take (P.cellsOf f.type) ++ (cs.drop (f.offset + s.length)).take l'.length:=by
           rw [List.length_append,List.take_add,List.drop_drop,hc2]
          rw [e]
          exact h1.app h2
         ·cases h
        ·cases h
       ·cases h
     obtain ⟨as,h⟩:=key fs.toList 0 l hl (fun f hf=>by
      obtain ⟨i,hi'⟩:=List.getElem?_of_mem hf
      have hi2 : fs[i]? = some f:=by simpa using hi'
      have:=hi i f hi2
      have hlt : i < fs.size:=(Array.getElem?_eq_some_iff.1 hi2).1
      rw [List.getElem?_eq_getElem (by omega)] at this
      exact ⟨_,this⟩)
     rw [List.drop_zero,List.take_of_length_le (by omega)] at h
     exact ⟨as,h⟩
    ·cases hs
   ·cases hs
  ·cases hs
end
theorem RowOk.cons {sh : Sh} {r : List Sh} {row : List AV} (h : RowOk (sh :: r) row) : ∃ a row',row = a :: row' ∧ ShOk sh a ∧ RowOk r row':=by
 obtain ⟨h1,h2⟩:=h
 cases row with
 | nil=>simp at h1
 | cons a row=>exact ⟨a,row,rfl,h2 0 sh a rfl rfl,by simpa using h1,fun j q b hs hb=>h2 (j + 1) q b (by simpa using hs) (by simpa using hb)⟩
theorem RowOk.nil {row : List AV} (h : RowOk [] row) : row = []:=List.length_eq_zero_iff.1 h.1
theorem ShOk.bool {a : AV} (h : ShOk .b a) : ∃ x : Bool,a = .b x ∧ True:=by cases h; exact ⟨_,rfl,trivial⟩
theorem ShOk.int {a : AV} (h : ShOk (.i .i64) a) : ∃ x : Int,a = .i .i64 x ∧ (-9223372036854775808 ≤ x ∧ x ≤ 9223372036854775807):=by
 cases h with
 | i h =>
  refine ⟨_,rfl,?_⟩
  simp only [Lit.wf,Bool.and_eq_true,decide_eq_true_eq,IntKind.min,IntKind.max,IntKind.signed,IntKind.bits] at h
  simpa using h
theorem ShOk.byte {a : AV} (h : ShOk (.i .u8) a) : ∃ x : UInt8,a = .i .u8 x.toNat ∧ True:=by
 cases h with
 | @i _ n h =>
  simp only [Lit.wf,Bool.and_eq_true,IntKind.min,IntKind.max,IntKind.signed,IntKind.bits] at h
  have h1 : 0 ≤ n:=by simpa using h.1
  have h2 : n ≤ 255:=by simpa using h.2
  refine ⟨UInt8.ofNat n.toNat,?_,trivial⟩
  congr 1
  have : (UInt8.ofNat n.toNat).toNat = n.toNat % 256:=UInt8.toNat_ofNat'
  omega
theorem ShOk.str {a : AV} (h : ShOk .s a) : ∃ x : ByteArray,a = .s x ∧ x.size ≤ 9223372036854775807:=by cases h with | s h=>exact ⟨_,rfl,h⟩
theorem ShOk.list {α : Type} {r : List Sh} {f : α → List AV} {ok : α → Prop} (hf : ∀ row,RowOk r row → ∃ x,row = f x ∧ ok x) {a : AV} (h : ShOk (.sl r) a) : ∃ xs : List α,a = .sl .ro r.length (xs.map f) ∧ (xs.length ≤ 9223372036854775807 ∧ ∀ x ∈ xs,ok x):=by
 cases h with
 | @sl _ es hl hz h =>
  have key : ∀ es : List (List AV),(∀ row ∈ es,RowOk r row) → ∃ xs : List α,es = xs.map f ∧ ∀ x ∈ xs,ok x:=by
   intro es
   induction es with
   | nil=>intro _; exact ⟨[],rfl,fun _ h=>by cases h⟩
   | cons row es ih =>
    intro hr
    obtain ⟨x,rfl,hx⟩:=hf row (hr row (by simp))
    obtain ⟨xs,rfl,hxs⟩:=ih (fun q hq=>hr q (by simp [hq]))
    exact ⟨x :: xs,rfl,fun y hy=>(List.mem_cons.1 hy).elim (fun e=>e ▸ hx) (hxs y)⟩
  obtain ⟨xs,rfl,hxs⟩:=key es (fun row hr=>⟨hz row hr,h row hr⟩)
  have hM : maxLen = 9223372036854775807:=rfl
  exact ⟨xs,rfl,by simp only [List.length_map] at hl; omega,hxs⟩
theorem row_byte (row : List AV) (h : RowOk [.i .u8] row) : ∃ x : UInt8,row = [.i .u8 x.toNat] ∧ True:=by
 obtain ⟨a,_,rfl,h0,h⟩:=h.cons; obtain rfl:=h.nil; obtain ⟨x,rfl,_⟩:=h0.byte; exact ⟨x,rfl,trivial⟩
section
variable {H : Type} {enc : TypeId × Value → H} {P : Program} {w : World}
theorem arg_one {r : Reach} {base : Nat} {t : TypeId} {v : Value} {d : DataW H} {p : List MemPlace} (n : Nat) {u : TypeDesc} (hu : P.underlying t = some u) (hn : ∀ fs,u ≠ .struct fs) {sh : Sh} (hs : shOf P n t = some [sh]) (hval : Value.okWide P w r base t v) (hd : DataW.Trod enc P w 0 (fun _=>true) true t v d p) :
  ∃ a,ShOk sh a ∧ Cl w (allC w) v a nos:=by
 obtain ⟨fuel,hf⟩:=hd
 obtain ⟨as,h1⟩:=read_cells n hf hs
 have hc : v.cells.toList = [v]:=by
  cases n with
  | zero=>cases hs
  | succ n =>
   unfold shOf at hs
   rw [hu] at hs
   cases u with
   | bool=>obtain ⟨b,rfl⟩:=okWide_bool hu hval; rfl
   | int k=>obtain ⟨b,rfl⟩:=okWide_int hu hval; rfl
   | string=>obtain ⟨b,rfl⟩:=okWide_string hu hval; rfl
   | slice e=>obtain ⟨a,b,c,rfl⟩:=okWide_slice hu hval; rfl
   | struct fs=>exact absurd rfl (hn fs)
   | _=>cases hs
 rw [hc] at h1
 obtain ⟨_,⟨h2,h3⟩,h4⟩:=h1
 match as,h2 with
 | [a],_=>exact ⟨a,h3 0 sh a rfl rfl,.leaf (.rep (h4 0 v a rfl rfl))⟩
end
theorem below_of {w w' : World} (h : Vm.Frame w w' nos) : Go.RowKit.Below w.heap.size w w':=by
 refine ⟨h.os,h.tape,h.output,h.size,fun k hk=>?_⟩
 rcases h.block k hk with h1 | ⟨c,c',e,fr,h1,h2,h3,h4⟩
 ·exact h1
 ·rw [h1,h2]
  congr 2
  apply Array.ext_getElem?
  intro i
  exact h4 i (fun h=>h)
theorem law_true {P : Program} [HasTb P] {g : FuncId} {f : Func} {c : Code} {md : List Md} {F : List AV → Option (AV × List AV)} {wk : Bool} {W : World} {vs : List Value} {xs os : List AV} (hsp : VSpec P g ⟨md,F,wk⟩) (hro : md.all isRoMd = true) (hF : F xs = some (.b true,os)) (hl1 : vs.length = md.length) (hl2 : xs.length = md.length)
  (hargs : ∀ (j : Nat) (v : Value) (a : AV),vs[j]? = some v → xs[j]? = some a → Cl W (allC W) v a nos) (hf : P.funcs[g]? = some f) (hname : ¬ f.name = "runtime.NumGoroutine") (hb : f.body = some c) (hT : Tb P (allC W) W) :
  Calls P g vs.toArray W fun e w'=>e = .returned (.bool true) ∧ Go.RowKit.Below W.heap.size W w':=by
 have h:=hsp W (allC W) vs xs (fun _=>nos) (.b true) os hF hl1 hl2 (fun j m v a hm hv ha=>by
  have:=List.all_eq_true.1 hro m (List.mem_of_getElem? hm)
  cases m with
  | ro n=>exact hargs j v a hv ha
  | _=>cases this) (fun _ _ _=>nos_disj _) (fun _=>nos_disj _) (fun _ _ _ h=>h.elim) (fun _ _ h=>allC_lt h) hT
 rcases h with ⟨v,w',h1,_⟩ | ⟨_,h2⟩
 ·exfalso
  have : (callFunc g vs.toArray).run P W = .ok (.enter g vs.toArray) W:=by simp [callFunc,hf,hname,hb]
  rw [this] at h1
  cases h1
 ·intro cs
  obtain ⟨e,w',fr,k1,k2⟩:=h2 cs
  refine ⟨e,w',fr,?_,k2⟩
  cases e with
  | returned v =>
   obtain ⟨Im',S,Of,b,_⟩:=k1
   have hv : v = .bool true:=by
    have:=b.res
    cases this with
    | leaf h=>cases h with
     | rep h=>cases h; rfl
   exact ⟨by rw [hv],below_of (b.frame.mono (fun g k ⟨j,hb⟩=>hb))⟩
  | panicked=>exact k1.elim
  | outgrown=>exact k1.elim
theorem law_of {P : Program} [HasTb P] {s : SP P} {f : Func} {c : Code} {W : World} {vs : List Value} {xs os : List AV} (hF : s.F xs = some (.b true,os)) (hro : s.fs.md.all isRoMd = true) (hl1 : vs.length = s.fs.md.length) (hl2 : xs.length = s.fs.md.length)
  (hargs : ∀ (j : Nat) (v : Value) (a : AV),vs[j]? = some v → xs[j]? = some a → Cl W (allC W) v a nos) (hf : P.funcs[s.g]? = some f) (hname : ¬ f.name = "runtime.NumGoroutine") (hb : f.body = some c) (hT : Tb P (allC W) W) :
  Calls P s.g vs.toArray W fun e w'=>e = .returned (.bool true) ∧ Go.RowKit.Below W.heap.size W w':=law_true (md:=s.fs.md) (F:=s.fs.F) (wk:=s.fs.wk) s.ok hro hF hl1 hl2 hargs hf hname hb hT
end Go.Vm
set_option autoImplicit false
namespace Go.Vm
@[go_sem] theorem set_set' {α : Type} (l : List α) (i : Nat) (y z : α) : (l.set i y).set i z = l.set i z:=by simp
@[go_sem] theorem set_len' {α : Type} (l : List α) (i : Nat) (y : α) : (l.set i y).length = l.length:=by simp
end Go.Vm
set_option autoImplicit false
namespace Go.Vm
theorem vspec_tb {P : Program} [HasTb P] {g : FuncId} {md : List Md} {F : List AV → Option (AV × List AV)} {wk : Bool} (hro : md.all isRoMd = true)
  (h : ∀ (w : World) (Im : CS) (vs : List Value) (as : List AV) (r : AV) (os : List AV),F as = some (r,os) → vs.length = md.length → as.length = md.length →
   (∀ (j : Nat) (v : Value) (a : AV),vs[j]? = some v → as[j]? = some a → Cl w Im v a nos) → Tb P Im w →
   isNp r = none ∧ (wk = false → hasRo r = false ∧ ∀ o ∈ os,hasRo o = false) ∧ Ans P g vs.toArray w fun v w'=>Frame w w' nos ∧ Cl w' Im v r nos) : VSpec P g ⟨md,F,wk⟩:=by
 intro w Im vs as Sf r os hF hv ha harg hd hdI hin hI hT
 have hmd : ∀ (j : Nat) (m : Md),md[j]? = some m → isRoMd m = true:=fun j m hm=>List.all_eq_true.1 hro m (List.mem_of_getElem? hm)
 obtain ⟨h1,h2,h3⟩:=h w Im vs as r os hF hv ha (fun j v a hj hj'=>by
  have hlt : j < md.length:=by rw [← hv]; exact (List.getElem?_eq_some_iff.1 hj).1
  have hm:=List.getElem?_eq_getElem hlt
  have:=harg j _ v a hm hj hj'
  have h0:=hmd j _ hm
  generalize md[j] = m at this h0
  cases m with
  | ro n=>exact this
  | _=>cases h0) hT
 refine h3.mono fun v w' ⟨hfr,hc⟩=>?_
 refine ⟨Im,nos,fun _=>nos,⟨hfr.mono (nos_sub _),Sub.rfl' _,fun g k hx=>.inl hx,fun g k hx=>Nat.lt_of_lt_of_le (hI g k hx) hfr.size,?_,fun j m u o hm _ _=>?_,fun _ _ _=>nos_disj _,fun _=>nos_disj _,nos_disj _,fun _=>nos_disj _,fun _ _ hx=>hx.elim,fun _ _ _ hx=>hx.elim,fun _ _ hx=>hx.elim,fun _ _ _ hx=>hx.elim⟩,h2⟩
 ·unfold ResOk; rw [h1]; exact hc
 ·have h0:=hmd j m hm
  cases m with
  | ro n=>trivial
  | _=>cases h0
theorem vspec_of {P : Program} [HasTb P] {g : FuncId} {md : List Md} {F : List AV → Option (AV × List AV)} {wk : Bool} (hro : md.all isRoMd = true)
  (h : ∀ (w : World) (Im : CS) (vs : List Value) (as : List AV) (r : AV) (os : List AV),F as = some (r,os) → vs.length = md.length → as.length = md.length →
   (∀ (j : Nat) (v : Value) (a : AV),vs[j]? = some v → as[j]? = some a → Cl w Im v a nos) →
   isNp r = none ∧ (wk = false → hasRo r = false ∧ ∀ o ∈ os,hasRo o = false) ∧ Ans P g vs.toArray w fun v w'=>Frame w w' nos ∧ Cl w' Im v r nos) : VSpec P g ⟨md,F,wk⟩ :=
 vspec_tb hro fun w Im vs as r os hF hv ha harg _=>h w Im vs as r os hF hv ha harg
theorem Cl.str {w : World} {Im : CS} {v : Value} {x : ByteArray} {S : CS} (h : Cl w Im v (.s x) S) : v = .string x:=by
 cases h with
 | leaf h=>cases h with
  | rep h=>cases h; rfl
theorem Cl.int {w : World} {Im : CS} {v : Value} {k : IntKind} {n : Int} {S : CS} (h : Cl w Im v (.i k n) S) : v = .int k n:=by
 cases h with
 | leaf h=>cases h with
  | rep h=>cases h; rfl
theorem Cl.nil' {w : World} {Im : CS} {v : Value} {S : CS} (h : Cl w Im v .nil S) : v = .slice none 0 0:=by
 cases h with
 | leaf h=>cases h with
  | rep h=>cases h; rfl
def idxF : List AV → Option (AV × List AV)
 | [.s s,.i .u8 c]=>some (.i .i64 (Lib.indexByte s.data.toList c.toNat.toUInt8),[.u,.u])
 | _=>none
theorem idx_ok {P : Program} [HasTb P] {g : FuncId} {fn : Func} (hf : P.funcs[g]? = some fn) (hname : (fn.name == "runtime.NumGoroutine") = false) (hb : fn.body.isNone = true) (hn : Extern.findNext fn = none) (he : Extern.find fn = some Extern.BytealgIndexByte.indexByte) : VSpec P g ⟨[.ro 1,.ro 1],idxF,false⟩:=by
 refine vspec_of rfl fun w Im vs as r os hF hv ha harg=>?_
 match as,ha,hF with
 | [.s s,.i .u8 c],_,hF =>
  match vs,hv with
  | [v0,v1],_ =>
   injection hF with hF
   injection hF with h1 h2
   subst h1 h2
   refine ⟨rfl,fun _=>⟨rfl,fun o ho=>by rcases List.mem_cons.1 ho with rfl | ho; rfl; rcases List.mem_cons.1 ho with rfl | ho; rfl; cases ho⟩,?_⟩
   obtain rfl:=(harg 0 v0 _ rfl rfl).str
   obtain rfl:=(harg 1 v1 _ rfl rfl).int
   refine .inl ⟨.int .i64 (Lib.indexByte s.data.toList c.toNat.toUInt8),w,?_,Frame.refl _ _,.leaf (.rep .i)⟩
   rw [run_callFunc_extern hf hname hb hn he]
   rw [Lib.run_indexByteString]
   rfl
@[go_sem] theorem idxF_eq (s : ByteArray) (c : Int) : idxF [.s s,.i .u8 c] = some (.i .i64 (Lib.indexByte s.data.toList c.toNat.toUInt8),[.u,.u]):=nr rfl
theorem callFunc_enter {P : Program} {g : FuncId} {fn : Func} {c : Code} (hf : P.funcs[g]? = some fn) (hname : (fn.name == "runtime.NumGoroutine") = false) (hb : fn.body = some c) {args : Array Value} (w : World) : (callFunc g args).run P w = .ok (.enter g args) w:=by
 have h1 : fn.name ≠ "runtime.NumGoroutine":=by simpa using hname
 simp [callFunc,hf,h1,hb,Sem.run]
@[go_sem] theorem castN2 : ((2 : Nat) : Int) = 2:=nr rfl
@[go_sem] theorem castN3 : ((3 : Nat) : Int) = 3:=nr rfl
@[go_sem] theorem castN4 : ((4 : Nat) : Int) = 4:=nr rfl
@[go_sem] theorem castN5 : ((5 : Nat) : Int) = 5:=nr rfl
@[go_sem] theorem castN6 : ((6 : Nat) : Int) = 6:=nr rfl
@[go_sem] theorem castN7 : ((7 : Nat) : Int) = 7:=nr rfl
@[go_sem] theorem castN8 : ((8 : Nat) : Int) = 8:=nr rfl
@[go_sem] theorem idxN1_0 : idx? 1 0 = some 0:=nr rfl
@[go_sem] theorem idxN2_0 : idx? 2 0 = some 0:=nr rfl
@[go_sem] theorem idxN2_1 : idx? 2 1 = some 1:=nr rfl
@[go_sem] theorem idxN3_0 : idx? 3 0 = some 0:=nr rfl
@[go_sem] theorem idxN3_1 : idx? 3 1 = some 1:=nr rfl
@[go_sem] theorem idxN3_2 : idx? 3 2 = some 2:=nr rfl
@[go_sem] theorem idxN4_0 : idx? 4 0 = some 0:=nr rfl
@[go_sem] theorem idxN4_1 : idx? 4 1 = some 1:=nr rfl
@[go_sem] theorem idxN4_2 : idx? 4 2 = some 2:=nr rfl
@[go_sem] theorem idxN4_3 : idx? 4 3 = some 3:=nr rfl
@[go_sem] theorem idxN5_0 : idx? 5 0 = some 0:=nr rfl
@[go_sem] theorem idxN5_1 : idx? 5 1 = some 1:=nr rfl
@[go_sem] theorem idxN5_2 : idx? 5 2 = some 2:=nr rfl
@[go_sem] theorem idxN5_3 : idx? 5 3 = some 3:=nr rfl
@[go_sem] theorem idxN5_4 : idx? 5 4 = some 4:=nr rfl
@[go_sem] theorem idxN6_0 : idx? 6 0 = some 0:=nr rfl
@[go_sem] theorem idxN6_1 : idx? 6 1 = some 1:=nr rfl
@[go_sem] theorem idxN6_2 : idx? 6 2 = some 2:=nr rfl
@[go_sem] theorem idxN6_3 : idx? 6 3 = some 3:=nr rfl
@[go_sem] theorem idxN6_4 : idx? 6 4 = some 4:=nr rfl
@[go_sem] theorem idxN6_5 : idx? 6 5 = some 5:=nr rfl
@[go_sem] theorem idxN7_0 : idx? 7 0 = some 0:=nr rfl
@[go_sem] theorem idxN7_1 : idx? 7 1 = some 1:=nr rfl
@[go_sem] theorem idxN7_2 : idx? 7 2 = some 2:=nr rfl
@[go_sem] theorem idxN7_3 : idx? 7 3 = some 3:=nr rfl
@[go_sem] theorem idxN7_4 : idx? 7 4 = some 4:=nr rfl
@[go_sem] theorem idxN7_5 : idx? 7 5 = some 5:=nr rfl
@[go_sem] theorem idxN7_6 : idx? 7 6 = some 6:=nr rfl
@[go_sem] theorem idxN8_0 : idx? 8 0 = some 0:=nr rfl
@[go_sem] theorem idxN8_1 : idx? 8 1 = some 1:=nr rfl
@[go_sem] theorem idxN8_2 : idx? 8 2 = some 2:=nr rfl
@[go_sem] theorem idxN8_3 : idx? 8 3 = some 3:=nr rfl
@[go_sem] theorem idxN8_4 : idx? 8 4 = some 4:=nr rfl
@[go_sem] theorem idxN8_5 : idx? 8 5 = some 5:=nr rfl
@[go_sem] theorem idxN8_6 : idx? 8 6 = some 6:=nr rfl
@[go_sem] theorem idxN8_7 : idx? 8 7 = some 7:=nr rfl
theorem wrap_1 : (IntKind.i64).wrap 1 = 1:=rfl
theorem wrap_2 : (IntKind.i64).wrap 2 = 2:=rfl
theorem wrap_3 : (IntKind.i64).wrap 3 = 3:=rfl
theorem wrap_4 : (IntKind.i64).wrap 4 = 4:=rfl
theorem wrap_5 : (IntKind.i64).wrap 5 = 5:=rfl
theorem wrap_6 : (IntKind.i64).wrap 6 = 6:=rfl
theorem wrap_7 : (IntKind.i64).wrap 7 = 7:=rfl
theorem wrap_8 : (IntKind.i64).wrap 8 = 8:=rfl
theorem wrap_01 : (IntKind.i64).wrap (0 + 1) = 1:=rfl
theorem wrap_11 : (IntKind.i64).wrap (1 + 1) = 2:=rfl
def firstI : List Int → Int
 | []=>0
 | v :: r=>if (v != 0) = true then v else firstI r
theorem firstI_nil : firstI [] = 0:=rfl
theorem firstI_cons (v : Int) (r : List Int) : firstI (v :: r) = if (v != 0) = true then v else firstI r:=rfl
theorem wrap_0 : (IntKind.i64).wrap 0 = 0:=rfl
theorem loopE_1 (cx : Cx) (blk : Nat) (c : Code) (st : St) : loopE cx blk c 1 st = seqE (evCode cx blk c (keep (cx.live blk) st)) (fun s=>loopE cx blk c 0 s):=loopE_succ cx blk c 0 st
theorem loopE_2 (cx : Cx) (blk : Nat) (c : Code) (st : St) : loopE cx blk c 2 st = seqE (evCode cx blk c (keep (cx.live blk) st)) (fun s=>loopE cx blk c 1 s):=loopE_succ cx blk c 1 st
theorem loopE_3 (cx : Cx) (blk : Nat) (c : Code) (st : St) : loopE cx blk c 3 st = seqE (evCode cx blk c (keep (cx.live blk) st)) (fun s=>loopE cx blk c 2 s):=loopE_succ cx blk c 2 st
theorem loopE_4 (cx : Cx) (blk : Nat) (c : Code) (st : St) : loopE cx blk c 4 st = seqE (evCode cx blk c (keep (cx.live blk) st)) (fun s=>loopE cx blk c 3 s):=loopE_succ cx blk c 3 st
theorem loopE_5 (cx : Cx) (blk : Nat) (c : Code) (st : St) : loopE cx blk c 5 st = seqE (evCode cx blk c (keep (cx.live blk) st)) (fun s=>loopE cx blk c 4 s):=loopE_succ cx blk c 4 st
theorem loopE_6 (cx : Cx) (blk : Nat) (c : Code) (st : St) : loopE cx blk c 6 st = seqE (evCode cx blk c (keep (cx.live blk) st)) (fun s=>loopE cx blk c 5 s):=loopE_succ cx blk c 5 st
theorem loopE_7 (cx : Cx) (blk : Nat) (c : Code) (st : St) : loopE cx blk c 7 st = seqE (evCode cx blk c (keep (cx.live blk) st)) (fun s=>loopE cx blk c 6 s):=loopE_succ cx blk c 6 st
def growF : List AV → Option (AV × List AV)
 | [.nil,.i .i64 0]=>some (.nil,[.u,.u])
 | _=>none
@[go_sem] theorem growF_eq : growF [.nil,.i .i64 0] = some (.nil,[.u,.u]):=nr rfl
theorem frame_below {w w' : World} (h : Go.RowKit.Below w.heap.size w w') : Frame w w' nos:=let ⟨a,b,c,d,e⟩:=h; ⟨a,b,c,d,fun g hg=>.inl (e g hg)⟩
def trimF : List AV → Option (AV × List AV)
 | [.s x,.s c]=>if c.data.toList = [32,9] ∧ x.size ≤ 9223372036854775807 then some (.s ⟨(Lib.trimS x.data.toList [32,9]).toArray⟩,[.u,.u]) else none
 | _=>none
theorem trim_ok {P : Program} [HasTb P] {g : FuncId} {fn : Func} {c : Code} (hf : P.funcs[g]? = some fn) (hname : (fn.name == "runtime.NumGoroutine") = false) (hb : fn.body = some c)
  (h : ∀ (s : ByteArray) (w : World),s.size ≤ 9223372036854775807 → Calls P g #[.string s,.string ⟨#[32,9]⟩] w fun e w'=>e = .returned (.string ⟨(Lib.trimS s.data.toList [32,9]).toArray⟩) ∧ Go.RowKit.Below w.heap.size w w') : VSpec P g ⟨[.ro 1,.ro 1],trimF,false⟩:=by
 refine vspec_of rfl fun w Im vs as r os hF hv ha harg=>?_
 match as,ha,hF with
 | [.s x,.s c],_,hF =>
  match vs,hv with
  | [v0,v1],_ =>
   simp only [trimF] at hF
   split at hF
   ·rename_i hc
    injection hF with hF
    injection hF with h1 h2
    subst h1 h2
    refine ⟨rfl,fun _=>⟨rfl,fun o ho=>by rcases List.mem_cons.1 ho with rfl | ho; rfl; rcases List.mem_cons.1 ho with rfl | ho; rfl; cases ho⟩,?_⟩
    obtain rfl:=(harg 0 v0 _ rfl rfl).str
    obtain rfl:=(harg 1 v1 _ rfl rfl).str
    have hcs : c = ⟨#[32,9]⟩:=by
     cases c
     have:=hc.1
     congr 1
     exact Array.ext' this
    subst hcs
    refine .inr ⟨callFunc_enter hf hname hb w,fun cs=>?_⟩
    obtain ⟨e,w',fr,⟨k1,k2⟩,k3⟩:=h x w hc.2 cs
    subst k1
    exact ⟨.returned _,w',fr,(⟨frame_below k2,.leaf (.rep .s)⟩ : Frame w w' nos ∧ Cl w' Im (.string ⟨(Lib.trimS x.data.toList [32,9]).toArray⟩) (.s ⟨(Lib.trimS x.data.toList [32,9]).toArray⟩) nos),k3⟩
   ·cases hF
end Go.Vm
set_option autoImplicit false
namespace Go.Vm
theorem vspec_new {P : Program} [HasTb P] {g : FuncId} {md : List Md} {F : List AV → Option (AV × List AV)} {wk : Bool} (hro : md.all isRoMd = true)
  (h : ∀ (w : World) (Im : CS) (vs : List Value) (as : List AV) (r : AV) (os : List AV),F as = some (r,os) → vs.length = md.length → as.length = md.length →
   (∀ (j : Nat) (v : Value) (a : AV),vs[j]? = some v → as[j]? = some a → Cl w Im v a nos) → (∀ g k,Im g k → g < w.heap.size) →
   isNp r = none ∧ (wk = false → hasRo r = false ∧ ∀ o ∈ os,hasRo o = false) ∧ Ans P g vs.toArray w fun v w'=>Frame w w' nos ∧ ∃ S : CS,Cl w' Im v r S ∧ ∀ g k,S g k → w.heap.size ≤ g ∧ g < w'.heap.size) : VSpec P g ⟨md,F,wk⟩:=by
 intro w Im vs as Sf r os hF hv ha harg hd hdI hin hI hT
 have hmd : ∀ (j : Nat) (m : Md),md[j]? = some m → isRoMd m = true:=fun j m hm=>List.all_eq_true.1 hro m (List.mem_of_getElem? hm)
 obtain ⟨h1,h2,h3⟩:=h w Im vs as r os hF hv ha (fun j v a hj hj'=>by
  have hlt : j < md.length:=by rw [← hv]; exact (List.getElem?_eq_some_iff.1 hj).1
  have hm:=List.getElem?_eq_getElem hlt
  have:=harg j _ v a hm hj hj'
  have h0:=hmd j _ hm
  generalize md[j] = m at this h0
  cases m with
  | ro n=>exact this
  | _=>cases h0) hI
 refine h3.mono fun v w' ⟨hfr,S,hc,hS⟩=>?_
 refine ⟨Im,S,fun _=>nos,⟨hfr.mono (nos_sub _),Sub.rfl' _,fun g k hx=>.inl hx,fun g k hx=>Nat.lt_of_lt_of_le (hI g k hx) hfr.size,?_,fun j m u o hm _ _=>?_,fun _ _ _=>nos_disj _,fun _=>disj_nos _,fun b k hs hx=>?_,fun _=>nos_disj _,fun g k hs=>(hS g k hs).2,fun _ _ _ hx=>hx.elim,fun g k hs=>.inr (hS g k hs).1,fun _ _ _ hx=>hx.elim⟩,h2⟩
 ·unfold ResOk; rw [h1]; exact hc
 ·have h0:=hmd j m hm
  cases m with
  | ro n=>trivial
  | _=>cases h0
 ·have:=hI b k hx
  have:=(hS b k hs).1
  omega
@[go_sem] theorem k_plain_mut (z : Nat) (es : List (List AV)) : plain (.sl .mut z es) = false:=nr rfl
@[go_sem] theorem k_plain_app (z : Nat) (es : List (List AV)) : plain (.sl .app z es) = false:=nr rfl
def growNF (z bytes : Nat) : List AV → Option (AV × List AV)
 | [.nil,.i .i64 n]=>if 0 ≤ n ∧ n * bytes ≤ 140737488355328 ∧ n ≤ 4611686018427387904 then some (.sl .mut z [],[.u,.u]) else none
 | _=>none
@[go_sem] theorem growNF_eq (z bytes : Nat) (n : Int) : growNF z bytes [.nil,.i .i64 n] = if 0 ≤ n ∧ n * bytes ≤ 140737488355328 ∧ n ≤ 4611686018427387904 then some (.sl .mut z [],[.u,.u]) else none:=nr rfl
theorem growN_ok {P : Program} [HasTb P] {g : FuncId} {fn : Func} {c : Code} (hf : P.funcs[g]? = some fn) (hname : (fn.name == "runtime.NumGoroutine") = false) (hb : fn.body = some c) {e : TypeId} {i0 : TypeInfo} {zv : Value} (hz0 : i0.zero = some zv) {z bytes : Nat} (hz : zv.cells.size = z) (hbb : i0.bytes = bytes)
  (h0 : ∀ w : World,Calls P g #[.slice none 0 0,.int .i64 0] w fun e w'=>e = .returned (.slice none 0 0) ∧ w' = w)
  (h : ∀ (n : Nat) (w : World),0 < n → n * bytes ≤ 140737488355328 → n ≤ 4611686018427387904 → Calls P g #[.slice none 0 0,.int .i64 n] w fun e' w' =>
   e' = .returned (.slice (some ⟨w.heap.size,0,none⟩) 0 (grownCap w n 0 e)) ∧ w' = w.drew.alloc (.cells (#[] ++ Builtin.zeroCells zv.cells n ++ Builtin.zeroCells zv.cells (grownCap w n 0 e - n)) e)) : VSpec P g ⟨[.ro 1,.ro 1],growNF z bytes,false⟩:=by
 refine vspec_new rfl fun w Im vs as r os hF hv ha harg hI=>?_
 match as,ha,hF with
 | [.nil,.i .i64 n],_,hF =>
  match vs,hv with
  | [v0,v1],_ =>
   simp only [growNF] at hF
   split at hF
   ·rename_i hc
    injection hF with hF
    injection hF with h1 h2
    subst h1 h2
    refine ⟨rfl,fun _=>⟨by simp [hasRo,hasRoLL],fun o ho=>by rcases List.mem_cons.1 ho with rfl | ho; rfl; rcases List.mem_cons.1 ho with rfl | ho; rfl; cases ho⟩,?_⟩
    obtain rfl:=(harg 0 v0 _ rfl rfl).nil'
    obtain rfl:=(harg 1 v1 _ rfl rfl).int
    refine .inr ⟨callFunc_enter hf hname hb w,fun cs=>?_⟩
    obtain ⟨m,rfl⟩ : ∃ m : Nat,n = (m : Int):=⟨n.toNat,by omega⟩
    rcases Nat.eq_zero_or_pos m with hm | hm
    ·subst hm
     obtain ⟨e',w',fr,⟨k1,k2⟩,k3⟩:=h0 w cs
     subst k1 k2
     exact ⟨.returned _,w',fr,⟨Frame.refl _ _,nos,.leaf (.rep (rep_empty _ _ _)),fun _ _ hx=>hx.elim⟩,k3⟩
    ·have hb1 : m * bytes ≤ 140737488355328:=by have:=hc.2.1; exact Int.ofNat_le.1 (by simpa using this)
     obtain ⟨e',w',fr,⟨k1,k2⟩,k3⟩:=h m w hm hb1 (by omega) cs
     subst k1 k2
     refine ⟨.returned _,_,fr,⟨(frame_drew w).trans (frame_alloc w.drew _),blk w.heap.size,.leaf (.rep ?_),fun g k hx=>?_⟩,k3⟩
     ·have hG : m ≤ grownCap w m 0 e:=grownCap_ge w _ _ _
      refine .sl w.heap.size 0 (fun _ _=>undef) (fun _ _=>nos) rfl (Nat.zero_le _) (by omega) (fun _=>rfl) (fun i row hi=>by simp at hi) (fun i row j a hi=>by simp at hi) (fun i row j a hi=>by simp at hi)
       (SlF.mk (fun _ k hk=>rfl) (fun he=>by cases he) (fun _ k hk=>?_) (fun he=>absurd rfl he)) (fun _ _=>nos_sub _) (fun _ _ _ _ _=>nos_disj _) (fun _ _ _ _ _ hx=>hx) (fun he=>absurd rfl he)
      have hc1:=cell_alloc w.drew (#[] ++ Builtin.zeroCells zv.cells m ++ Builtin.zeroCells zv.cells (grownCap w m 0 e - m)) e k
      have hc2:=froz_alloc w.drew (#[] ++ Builtin.zeroCells zv.cells m ++ Builtin.zeroCells zv.cells (grownCap w m 0 e - m)) e k
      rw [show w.drew.heap.size = w.heap.size from rfl] at hc1 hc2
      rw [Nat.zero_add]
      refine ⟨?_,hc2⟩
      rw [hc1]
      refine ⟨_,Array.getElem?_eq_getElem ?_⟩
      have hzs : ∀ q,(Builtin.zeroCells zv.cells q).size = q * z:=fun q=>by rw [← hz]; simp [Builtin.zeroCells]
      simp only [Array.size_append,hzs]
      have : m * z + (grownCap w m 0 e - m) * z = grownCap w m 0 e * z:=by rw [← Nat.add_mul]; congr 1; omega
      simp only [Array.size_empty]
      omega
     ·rw [show g = w.heap.size from hx]
      refine ⟨Nat.le_refl _,?_⟩
      show w.heap.size < (w.heap.push _).size
      rw [Array.size_push]
      exact Nat.lt_succ_self _
   ·cases hF
def fmtI (n : Int) : ByteArray:=⟨(Lib.itoa n).toArray⟩
def fmtF : List AV → Option (AV × List AV)
 | [.i .i64 n,.i .i64 10]=>if -9223372036854775808 ≤ n ∧ n ≤ 9223372036854775807 then some (.s (fmtI n),[.u,.u]) else none
 | _=>none
@[go_sem] theorem fmtF_eq (n : Int) : fmtF [.i .i64 n,.i .i64 10] = if -9223372036854775808 ≤ n ∧ n ≤ 9223372036854775807 then some (.s (fmtI n),[.u,.u]) else none:=nr rfl
end Go.Vm
set_option autoImplicit false
namespace Go.Vm
def lineB (p : ByteArray × ByteArray) : ByteArray:=p.1 ++ ⟨#[58,32]⟩ ++ p.2 ++ ⟨#[13,10]⟩
def packL (hs : List (ByteArray × ByteArray)) : List UInt8:=hs.flatMap fun p=>(lineB p).data.toList
theorem line_size (p : ByteArray × ByteArray) : (lineB p).size = p.1.size + p.2.size + 4:=by
 simp only [lineB,ByteArray.size_append]
 show p.1.size + 2 + p.2.size + 2 = _
 omega
theorem packL_len : ∀ (hs : List (ByteArray × ByteArray)),(∀ p ∈ hs,p.1.size ≤ 1048576 ∧ p.2.size ≤ 1048576) → (packL hs).length ≤ 2097156 * hs.length
 | [],_=>Nat.zero_le _
 | p :: hs,h=>by
  have h1:=packL_len hs (fun q hq=>h q (List.mem_cons_of_mem _ hq))
  have h2:=h p (List.mem_cons_self ..)
  have h3 : (lineB p).data.toList.length = p.1.size + p.2.size + 4:=by rw [Array.length_toList]; exact line_size _
  unfold packL at h1 ⊢
  rw [List.flatMap_cons,List.length_append,h3,List.length_cons]
  omega
theorem packL_snoc (hs : List (ByteArray × ByteArray)) (k : Nat) (h : k < hs.length) : packL (hs.take (k + 1)) = packL (hs.take k) ++ (lineB hs[k]).data.toList:=by
 unfold packL
 rw [List.take_add_one,List.getElem?_eq_getElem h,Option.toList_some,List.flatMap_append]
 simp
def strA : AV → Option ByteArray
 | .s x=>some x
 | _=>none
theorem strA_s {a : AV} {x : ByteArray} (h : strA a = some x) : a = .s x:=by
 unfold strA at h
 split at h
 ·injection h with h; subst h; rfl
 ·cases h
def pairOf : List AV → Option (ByteArray × ByteArray)
 | [a,b]=>(strA a).bind fun x=>(strA b).bind fun y=>some (x,y)
 | _=>none
theorem pairOf_get {e : List AV} {p : ByteArray × ByteArray} (h : pairOf e = some p) : e = [.s p.1,.s p.2]:=by
 match e,h with
 | [a,b],h =>
  simp only [pairOf,Option.bind_eq_some_iff] at h
  obtain ⟨x,hx,y,hy,he⟩:=h
  injection he with he
  subst he
  rw [strA_s hx,strA_s hy]
def pairsOf : List (List AV) → Option (List (ByteArray × ByteArray))
 | []=>some []
 | e :: r=>(pairOf e).bind fun p=>(pairsOf r).bind fun l=>some (p :: l)
theorem pairsOf_get : ∀ {es : List (List AV)} {hs : List (ByteArray × ByteArray)},pairsOf es = some hs → es = hs.map fun p=>[.s p.1,.s p.2]
 | [],hs,h=>by injection h with h; subst h; rfl
 | e :: r,hs,h=>by
  simp only [pairsOf,Option.bind_eq_some_iff] at h
  obtain ⟨p,hp,l,hl,he⟩:=h
  injection he with he
  subst he
  rw [pairOf_get hp,pairsOf_get hl]; rfl
def packOk (hs : List (ByteArray × ByteArray)) : Bool:=decide (hs.length ≤ 1048576) && hs.all fun p=>decide (p.1.size ≤ 1048576) && decide (p.2.size ≤ 1048576)
def packS (hs : List (ByteArray × ByteArray)) : ByteArray:=⟨(packL hs).toArray⟩
def packR : Option (List (ByteArray × ByteArray)) → Option (AV × List AV)
 | some hs=>if packOk hs = true then some (.s (packS hs),[.u]) else none
 | none=>none
def packF : List AV → Option (AV × List AV)
 | [.sl .ro 2 es]=>packR (pairsOf es)
 | _=>none
theorem pairsOf_map {α : Type} (f g : α → ByteArray) : ∀ xs : List α,pairsOf (xs.map fun x=>[.s (f x),.s (g x)]) = some (xs.map fun x=>(f x,g x))
 | []=>rfl
 | x :: xs=>by
  have h : pairOf [AV.s (f x),AV.s (g x)] = some (f x,g x):=rfl
  simp only [List.map_cons,pairsOf,pairsOf_map f g xs,h,Option.bind_some]
theorem packF_eq {α : Type} (f g : α → ByteArray) (xs : List α) (h : packOk (xs.map fun x=>(f x,g x)) = true) : packF [.sl .ro 2 (xs.map fun x=>[.s (f x),.s (g x)])] = some (.s (packS (xs.map fun x=>(f x,g x))),[.u]):=by
 show packR (pairsOf _) = _
 rw [pairsOf_map]
 exact if_pos h
theorem cell_lt {w : World} {g k : Nat} {v : Value} (h : cellAt w g k = some v) : g < w.heap.size:=by
 unfold cellAt World.cell? at h
 split at h
 ·rename_i hc; exact (Array.getElem?_eq_some_iff.1 hc).1
 ·cases h
theorem pack_ok {P : Program} [HasTb P] {g : FuncId} {fn : Func} {c : Code} (hf : P.funcs[g]? = some fn) (hname : (fn.name == "runtime.NumGoroutine") = false) (hb : fn.body = some c)
  (h : ∀ (hs : List (ByteArray × ByteArray)) (A : Option Addr) (n cap b off : Nat) (w : World),hs.length = n → (0 < n → A = some ⟨b,off,none⟩) → (0 < n → b < w.heap.size) →
   (∀ (i : Nat) (hi : i < hs.length),w.cell? ⟨b,off + i * 2,none⟩ = some (.string hs[i].1) ∧ w.cell? ⟨b,off + i * 2 + 1,none⟩ = some (.string hs[i].2)) →
   (∀ p ∈ hs,p.1.size ≤ 1048576 ∧ p.2.size ≤ 1048576) → hs.length ≤ 1048576 →
   Calls P g #[.slice A n cap] w fun e w'=>e = .returned (.string ⟨(packL hs).toArray⟩) ∧ Go.RowKit.Below w.heap.size w w') : VSpec P g ⟨[.ro 1],packF,false⟩:=by
 refine vspec_of rfl fun w Im vs as r os hF hv ha harg=>?_
 match as,ha,hF with
 | [.sl .ro 2 es],_,hF =>
  match vs,hv with
  | [v0],_ =>
   have hF : packR (pairsOf es) = some (r,os):=hF
   cases hp : pairsOf es with
   | none=>rw [hp] at hF; cases hF
   | some hs =>
    rw [hp] at hF
    have hF : (if packOk hs = true then some (AV.s (packS hs),[AV.u]) else none) = some (r,os):=hF
    split at hF
    ·rename_i hok
     injection hF with hF
     injection hF with h1 h2
     subst h1 h2
     refine ⟨rfl,fun _=>⟨rfl,fun o ho=>by rcases List.mem_cons.1 ho with rfl | ho; rfl; cases ho⟩,?_⟩
     simp only [packOk,Bool.and_eq_true,decide_eq_true_eq,List.all_eq_true] at hok
     have hes:=pairsOf_get hp
     have hc:=harg 0 v0 _ rfl rfl
     cases hc with
     | leaf hc=>cases hc with
      | rep hc=>cases hc with
       | @sl A n cap _ _ _ _ b off vs' Sf hn hcap hL hA hz hrow hin hf' hsub hd hself hnone =>
        have hlen : hs.length = n:=by rw [← hn,hes,List.length_map]
        have hget : ∀ (i : Nat) (hi : i < hs.length),es[i]? = some [.s hs[i].1,.s hs[i].2]:=fun i hi=>by rw [hes,List.getElem?_map,List.getElem?_eq_getElem hi]; rfl
        have str : ∀ {v : Value} {x : ByteArray} {S : CS},Rep w Im v (.s x) S → v = .string x:=fun hr=>by cases hr; rfl
        have c0 : ∀ (i : Nat) (hi : i < hs.length),cellAt w b (off + i * 2) = some (.string hs[i].1):=fun i hi=>by
         have e1:=hrow i _ 0 _ (hget i hi) rfl
         have e2:=str (hin i _ 0 _ (hget i hi) rfl)
         rw [e2] at e1; exact e1
        have c1 : ∀ (i : Nat) (hi : i < hs.length),cellAt w b (off + i * 2 + 1) = some (.string hs[i].2):=fun i hi=>by
         have e1:=hrow i _ 1 _ (hget i hi) rfl
         have e2:=str (hin i _ 1 _ (hget i hi) rfl)
         rw [e2] at e1; exact e1
        refine .inr ⟨callFunc_enter hf hname hb w,fun cs=>?_⟩
        obtain ⟨e,w',fr,⟨k1,k2⟩,k3⟩:=h hs A n cap b off w hlen (fun h0=>hA (by omega)) (fun h0=>cell_lt (c0 0 (by omega))) (fun i hi=>⟨c0 i hi,c1 i hi⟩) hok.2 hok.1 cs
        subst k1
        exact ⟨.returned _,w',fr,(⟨frame_below k2,.leaf (.rep .s)⟩ : Frame w w' nos ∧ Cl w' Im (.string (packS hs)) (.s (packS hs)) nos),k3⟩
    ·cases hF
end Go.Vm
set_option autoImplicit false
set_option maxRecDepth 100000
set_option maxHeartbeats 4000000
attribute [go_sem] Nat.add_zero Nat.zero_add List.contains_cons List.contains_nil List.elem_cons List.elem_nil List.length_cons List.length_nil List.map_cons List.map_nil List.all_cons List.all_nil List.any_cons List.any_nil List.getElem?_cons_zero List.getElem?_cons_succ List.getElem?_nil List.getD_cons_zero List.getD_cons_succ List.append_nil List.nil_append List.cons_append List.isEmpty_cons List.isEmpty_nil List.headD_cons List.headD_nil List.tail_cons List.tail_nil List.take_nil List.drop_nil Bool.and_true Bool.true_and Bool.or_false Bool.or_true Bool.false_or Bool.true_or Bool.not_true Bool.not_false Bool.and_false Bool.false_and Bool.false_eq_true Bool.true_eq_false Bool.and_self Bool.not_not decide_true decide_false decide_eq_true_eq beq_self_eq_true Nat.le_refl Nat.zero_le and_self true_and and_true false_and and_false or_true true_or if_true if_false Option.map_some Option.map_none Option.isSome_none Option.isSome_some eq_self_iff_true not_true_eq_false not_false_eq_true ne_eq Nat.not_lt_zero Nat.succ_ne_zero List.length_map List.set_cons_zero List.set_cons_succ gt_iff_lt ge_iff_le List.take_succ_cons List.take_zero List.drop_zero List.drop_succ_cons bne_self_eq_false
namespace Go.Vm
def rByte (b : UInt8) : List AV:=[.i .u8 b.toNat]
def rStr (s : ByteArray) : List AV:=[.s s]
def rInt (n : Int) : List AV:=[.i .i64 n]
def rBool (b : Bool) : List AV:=[.b b]
@[go_sem] theorem rByte_def (b : UInt8) : rByte b = [.i .u8 b.toNat]:=nr rfl
@[go_sem] theorem rStr_def (s : ByteArray) : rStr s = [.s s]:=nr rfl
@[go_sem] theorem rInt_def (n : Int) : rInt n = [.i .i64 n]:=nr rfl
@[go_sem] theorem rBool_def (b : Bool) : rBool b = [.b b]:=nr rfl
theorem strip_map {α : Type} {f g : α → List AV} (h : ∀ a,stripL (f a) = g a) : ∀ xs : List α,stripLL (xs.map f) = xs.map g
 | []=>rfl
 | x :: xs=>by simp only [List.map_cons,stripLL,h,strip_map h xs]
theorem noRo_map {α : Type} {f : α → List AV} (h : ∀ a,hasRoL (f a) = false) : ∀ xs : List α,hasRoLL (xs.map f) = false
 | []=>rfl
 | x :: xs=>by simp only [List.map_cons,hasRoLL,h,noRo_map h xs,Bool.or_self]
@[go_sem] theorem rByte_strip (xs : List UInt8) : stripLL (xs.map rByte) = xs.map rByte:=strip_map (fun a=>by simp only [rByte,stripL,strip]) xs
@[go_sem] theorem rStr_strip (xs : List ByteArray) : stripLL (xs.map rStr) = xs.map rStr:=strip_map (fun a=>by simp only [rStr,stripL,strip]) xs
@[go_sem] theorem rInt_strip (xs : List Int) : stripLL (xs.map rInt) = xs.map rInt:=strip_map (fun a=>by simp only [rInt,stripL,strip]) xs
@[go_sem] theorem rBool_strip (xs : List Bool) : stripLL (xs.map rBool) = xs.map rBool:=strip_map (fun a=>by simp only [rBool,stripL,strip]) xs
@[go_sem] theorem rByte_noRo (xs : List UInt8) : hasRoLL (xs.map rByte) = false:=noRo_map (fun a=>by simp only [rByte,hasRoL,hasRo,Bool.or_self]) xs
@[go_sem] theorem rStr_noRo (xs : List ByteArray) : hasRoLL (xs.map rStr) = false:=noRo_map (fun a=>by simp only [rStr,hasRoL,hasRo,Bool.or_self]) xs
@[go_sem] theorem rInt_noRo (xs : List Int) : hasRoLL (xs.map rInt) = false:=noRo_map (fun a=>by simp only [rInt,hasRoL,hasRo,Bool.or_self]) xs
@[go_sem] theorem rBool_noRo (xs : List Bool) : hasRoLL (xs.map rBool) = false:=noRo_map (fun a=>by simp only [rBool,hasRoL,hasRo,Bool.or_self]) xs
@[go_sem] theorem strOf_map (xs : List UInt8) : strOf (xs.map rByte) = some xs:=strOf_rows xs
def okByte (_ : UInt8) : Prop:=True
def okL {α : Type} (p : α → Prop) (xs : List α) : Prop:=xs.length ≤ 9223372036854775807 ∧ ∀ x ∈ xs,p x
def smStr (s : ByteArray) : Prop:=s.size ≤ 1048576
def smByte (_ : UInt8) : Prop:=True
def smInt (_ : Int) : Prop:=True
def smBool (_ : Bool) : Prop:=True
def smL {α : Type} (p : α → Prop) (xs : List α) : Prop:=xs.length ≤ 1048576 ∧ ∀ x ∈ xs,p x
theorem zip_len {α : Type} {xs ys : List α} (h : xs.length = ys.length) : (xs.zip ys).length = xs.length:=by simp [h]
theorem zip_eqv {α : Type} : ∀ {xs ys : List α} {u u' : Unit},xs.length = ys.length → runS (fun (x : α × α) (_ : Unit)=>!eqv x.1 x.2) (fun _ _=>()) (xs.zip ys) u = .inl u' → eqv xs ys = true
 | [],[],_,_,_,_=>eqv_self _
 | x :: xs,y :: ys,u,u',hl,h=>by
  simp only [List.zip_cons_cons,runS] at h
  cases hc : eqv x y with
  | false=>simp [hc] at h
  | true =>
   simp only [hc,Bool.not_true,Bool.false_eq_true,if_false] at h
   have:=eqv_iff.1 (zip_eqv (by simpa using hl) h)
   rw [eqv_iff.1 hc,this]; exact eqv_self _
theorem zip_nev {α : Type} : ∀ {xs ys : List α} {u : Unit} {p : (α × α) × Unit},xs.length = ys.length → runS (fun (x : α × α) (_ : Unit)=>!eqv x.1 x.2) (fun _ _=>()) (xs.zip ys) u = .inr p → eqv xs ys = false
 | [],[],_,_,_,h=>by simp [runS] at h
 | x :: xs,y :: ys,u,p,hl,h=>by
  simp only [List.zip_cons_cons,runS] at h
  cases he : eqv (x :: xs) (y :: ys) with
  | false=>rfl
  | true =>
   have hh:=eqv_iff.1 he
   injection hh with h1 h2
   subst h1 h2
   simp only [eqv_self,Bool.not_true,Bool.false_eq_true,if_false] at h
   have:=zip_nev rfl h
   rw [eqv_self] at this; cases this
theorem len_nev {α : Type} {xs ys : List α} (h : ¬ xs.length = ys.length) : eqv xs ys = false:=by
 cases he : eqv xs ys with
 | false=>rfl
 | true=>exact absurd (congrArg List.length (eqv_iff.1 he)) h
theorem if_i (c : Prop) [Decidable c] (k : IntKind) (x y : Int) (l : List AV) : (if c then some (AV.i k x,l) else some (AV.i k y,l)) = some (AV.i k (if c then x else y),l):=by split <;> rfl
end Go.Vm
namespace Go.Vm
structure IntResult where
 Code : Int
 Value : Int
def rIntResult (t : Tag) (a : IntResult) : List AV:=[.i .i64 a.Code,.i .i64 a.Value]
@[go_sem] theorem rIntResult_def (t : Tag) (a : IntResult) : rIntResult t a = [.i .i64 a.Code,.i .i64 a.Value]:=nr rfl
@[go_sem] theorem rIntResult_strip (t : Tag) (xs : List IntResult) : stripLL (xs.map (rIntResult t)) = xs.map (rIntResult .ro):=strip_map (fun a=>by simp only [rIntResult,stripL,strip]) xs
@[go_sem] theorem rIntResult_noRo (xs : List IntResult) : hasRoLL (xs.map (rIntResult .mut)) = false:=noRo_map (fun a=>by simp only [rIntResult,hasRoL,hasRo,Bool.or_self]) xs
@[go_sem] theorem IntResult.eta (a : IntResult) : IntResult.mk a.Code a.Value = a:=nr rfl
theorem IntResult.eqv (a b : IntResult) : Vm.eqv a b = (Vm.eqv a.Code b.Code && (Vm.eqv a.Value b.Value)):=(eqv_of (by simp only [Bool.and_eq_true,eqv_iff]; cases a; cases b; simp only [IntResult.mk.injEq,and_assoc])).symm
structure Header where
 Name : ByteArray
 Value : ByteArray
def rHeader (t : Tag) (a : Header) : List AV:=[.s a.Name,.s a.Value]
@[go_sem] theorem rHeader_def (t : Tag) (a : Header) : rHeader t a = [.s a.Name,.s a.Value]:=nr rfl
@[go_sem] theorem rHeader_strip (t : Tag) (xs : List Header) : stripLL (xs.map (rHeader t)) = xs.map (rHeader .ro):=strip_map (fun a=>by simp only [rHeader,stripL,strip]) xs
@[go_sem] theorem rHeader_noRo (xs : List Header) : hasRoLL (xs.map (rHeader .mut)) = false:=noRo_map (fun a=>by simp only [rHeader,hasRoL,hasRo,Bool.or_self]) xs
@[go_sem] theorem Header.eta (a : Header) : Header.mk a.Name a.Value = a:=nr rfl
theorem Header.eqv (a b : Header) : Vm.eqv a b = (Vm.eqv a.Name b.Name && (Vm.eqv a.Value b.Value)):=(eqv_of (by simp only [Bool.and_eq_true,eqv_iff]; cases a; cases b; simp only [Header.mk.injEq,and_assoc])).symm
def smHeader (a : Header) : Prop:=smStr a.Name ∧ smStr a.Value
structure Request where
 Method : ByteArray
 Host : ByteArray
 Path : ByteArray
 Headers : List Header
def rRequest (t : Tag) (a : Request) : List AV:=[.s a.Method,.s a.Host,.s a.Path,.sl t 2 (a.Headers.map (rHeader t))]
@[go_sem] theorem rRequest_def (t : Tag) (a : Request) : rRequest t a = [.s a.Method,.s a.Host,.s a.Path,.sl t 2 (a.Headers.map (rHeader t))]:=nr rfl
@[go_sem] theorem rRequest_strip (t : Tag) (xs : List Request) : stripLL (xs.map (rRequest t)) = xs.map (rRequest .ro):=strip_map (fun a=>by simp only [rRequest,stripL,strip,rHeader_strip]) xs
@[go_sem] theorem rRequest_noRo (xs : List Request) : hasRoLL (xs.map (rRequest .mut)) = false:=noRo_map (fun a=>by simp only [rRequest,hasRoL,hasRo,Bool.or_self,rHeader_noRo]) xs
@[go_sem] theorem Request.eta (a : Request) : Request.mk a.Method a.Host a.Path a.Headers = a:=nr rfl
theorem Request.eqv (a b : Request) : Vm.eqv a b = (Vm.eqv a.Method b.Method && (Vm.eqv a.Host b.Host && (Vm.eqv a.Path b.Path && (Vm.eqv a.Headers b.Headers)))):=(eqv_of (by simp only [Bool.and_eq_true,eqv_iff]; cases a; cases b; simp only [Request.mk.injEq,and_assoc])).symm
def smRequest (a : Request) : Prop:=smStr a.Method ∧ smStr a.Host ∧ smStr a.Path ∧ (smL smHeader) a.Headers
structure Waiter where
 Req : Int
 Head : Bool
 Due : Int
 Late : Bool
def rWaiter (t : Tag) (a : Waiter) : List AV:=[.i .i64 a.Req,.b a.Head,.i .i64 a.Due,.b a.Late]
@[go_sem] theorem rWaiter_def (t : Tag) (a : Waiter) : rWaiter t a = [.i .i64 a.Req,.b a.Head,.i .i64 a.Due,.b a.Late]:=nr rfl
@[go_sem] theorem rWaiter_strip (t : Tag) (xs : List Waiter) : stripLL (xs.map (rWaiter t)) = xs.map (rWaiter .ro):=strip_map (fun a=>by simp only [rWaiter,stripL,strip]) xs
@[go_sem] theorem rWaiter_noRo (xs : List Waiter) : hasRoLL (xs.map (rWaiter .mut)) = false:=noRo_map (fun a=>by simp only [rWaiter,hasRoL,hasRo,Bool.or_self]) xs
@[go_sem] theorem Waiter.eta (a : Waiter) : Waiter.mk a.Req a.Head a.Due a.Late = a:=nr rfl
theorem Waiter.eqv (a b : Waiter) : Vm.eqv a b = (Vm.eqv a.Req b.Req && (Vm.eqv a.Head b.Head && (Vm.eqv a.Due b.Due && (Vm.eqv a.Late b.Late)))):=(eqv_of (by simp only [Bool.and_eq_true,eqv_iff]; cases a; cases b; simp only [Waiter.mk.injEq,and_assoc])).symm
def smWaiter (a : Waiter) : Prop:=smInt a.Req ∧ smBool a.Head ∧ smInt a.Due ∧ smBool a.Late
structure Flight where
 Id : Int
 Key : ByteArray
 Back : Bool
 Out : Bool
 Due : Int
 Doomed : Bool
 Get : Request
 Waiters : List Waiter
def rFlight (t : Tag) (a : Flight) : List AV:=[.i .i64 a.Id,.s a.Key,.b a.Back,.b a.Out,.i .i64 a.Due,.b a.Doomed,.s a.Get.Method,.s a.Get.Host,.s a.Get.Path,.sl t 2 (a.Get.Headers.map (rHeader t)),.sl t 4 (a.Waiters.map (rWaiter t))]
@[go_sem] theorem rFlight_def (t : Tag) (a : Flight) : rFlight t a = [.i .i64 a.Id,.s a.Key,.b a.Back,.b a.Out,.i .i64 a.Due,.b a.Doomed,.s a.Get.Method,.s a.Get.Host,.s a.Get.Path,.sl t 2 (a.Get.Headers.map (rHeader t)),.sl t 4 (a.Waiters.map (rWaiter t))]:=nr rfl
@[go_sem] theorem rFlight_strip (t : Tag) (xs : List Flight) : stripLL (xs.map (rFlight t)) = xs.map (rFlight .ro):=strip_map (fun a=>by simp only [rFlight,stripL,strip,rHeader_strip,rWaiter_strip]) xs
@[go_sem] theorem rFlight_noRo (xs : List Flight) : hasRoLL (xs.map (rFlight .mut)) = false:=noRo_map (fun a=>by simp only [rFlight,hasRoL,hasRo,Bool.or_self,rHeader_noRo,rWaiter_noRo]) xs
@[go_sem] theorem Flight.eta (a : Flight) : Flight.mk a.Id a.Key a.Back a.Out a.Due a.Doomed a.Get a.Waiters = a:=nr rfl
theorem Flight.eqv (a b : Flight) : Vm.eqv a b = (Vm.eqv a.Id b.Id && (Vm.eqv a.Key b.Key && (Vm.eqv a.Back b.Back && (Vm.eqv a.Out b.Out && (Vm.eqv a.Due b.Due && (Vm.eqv a.Doomed b.Doomed && (Vm.eqv a.Get b.Get && (Vm.eqv a.Waiters b.Waiters)))))))):=(eqv_of (by simp only [Bool.and_eq_true,eqv_iff]; cases a; cases b; simp only [Flight.mk.injEq,and_assoc])).symm
def smFlight (a : Flight) : Prop:=smInt a.Id ∧ smStr a.Key ∧ smBool a.Back ∧ smBool a.Out ∧ smInt a.Due ∧ smBool a.Doomed ∧ smRequest a.Get ∧ (smL smWaiter) a.Waiters
structure Meta where
 At : Int
 Age : Int
 Life : Int
 Swr : Int
 Sie : Int
 Soft : Bool
 NoCache : Bool
def rMeta (t : Tag) (a : Meta) : List AV:=[.i .i64 a.At,.i .i64 a.Age,.i .i64 a.Life,.i .i64 a.Swr,.i .i64 a.Sie,.b a.Soft,.b a.NoCache]
@[go_sem] theorem rMeta_def (t : Tag) (a : Meta) : rMeta t a = [.i .i64 a.At,.i .i64 a.Age,.i .i64 a.Life,.i .i64 a.Swr,.i .i64 a.Sie,.b a.Soft,.b a.NoCache]:=nr rfl
@[go_sem] theorem rMeta_strip (t : Tag) (xs : List Meta) : stripLL (xs.map (rMeta t)) = xs.map (rMeta .ro):=strip_map (fun a=>by simp only [rMeta,stripL,strip]) xs
@[go_sem] theorem rMeta_noRo (xs : List Meta) : hasRoLL (xs.map (rMeta .mut)) = false:=noRo_map (fun a=>by simp only [rMeta,hasRoL,hasRo,Bool.or_self]) xs
@[go_sem] theorem Meta.eta (a : Meta) : Meta.mk a.At a.Age a.Life a.Swr a.Sie a.Soft a.NoCache = a:=nr rfl
theorem Meta.eqv (a b : Meta) : Vm.eqv a b = (Vm.eqv a.At b.At && (Vm.eqv a.Age b.Age && (Vm.eqv a.Life b.Life && (Vm.eqv a.Swr b.Swr && (Vm.eqv a.Sie b.Sie && (Vm.eqv a.Soft b.Soft && (Vm.eqv a.NoCache b.NoCache))))))):=(eqv_of (by simp only [Bool.and_eq_true,eqv_iff]; cases a; cases b; simp only [Meta.mk.injEq,and_assoc])).symm
def smMeta (a : Meta) : Prop:=smInt a.At ∧ smInt a.Age ∧ smInt a.Life ∧ smInt a.Swr ∧ smInt a.Sie ∧ smBool a.Soft ∧ smBool a.NoCache
structure Entry where
 Key : ByteArray
 Status : Int
 Headers : List Header
 Body : List UInt8
 Meta : Meta
 Tags : List ByteArray
 Pins : Int
def rEntry (t : Tag) (a : Entry) : List AV:=[.s a.Key,.i .i64 a.Status,.sl t 2 (a.Headers.map (rHeader t)),.sl t 1 (a.Body.map rByte),.i .i64 a.Meta.At,.i .i64 a.Meta.Age,.i .i64 a.Meta.Life,.i .i64 a.Meta.Swr,.i .i64 a.Meta.Sie,.b a.Meta.Soft,.b a.Meta.NoCache,.sl t 1 (a.Tags.map rStr),.i .i64 a.Pins]
@[go_sem] theorem rEntry_def (t : Tag) (a : Entry) : rEntry t a = [.s a.Key,.i .i64 a.Status,.sl t 2 (a.Headers.map (rHeader t)),.sl t 1 (a.Body.map rByte),.i .i64 a.Meta.At,.i .i64 a.Meta.Age,.i .i64 a.Meta.Life,.i .i64 a.Meta.Swr,.i .i64 a.Meta.Sie,.b a.Meta.Soft,.b a.Meta.NoCache,.sl t 1 (a.Tags.map rStr),.i .i64 a.Pins]:=nr rfl
@[go_sem] theorem rEntry_strip (t : Tag) (xs : List Entry) : stripLL (xs.map (rEntry t)) = xs.map (rEntry .ro):=strip_map (fun a=>by simp only [rEntry,stripL,strip,rByte_strip,rHeader_strip,rStr_strip]) xs
@[go_sem] theorem rEntry_noRo (xs : List Entry) : hasRoLL (xs.map (rEntry .mut)) = false:=noRo_map (fun a=>by simp only [rEntry,hasRoL,hasRo,Bool.or_self,rByte_noRo,rHeader_noRo,rStr_noRo]) xs
@[go_sem] theorem Entry.eta (a : Entry) : Entry.mk a.Key a.Status a.Headers a.Body a.Meta a.Tags a.Pins = a:=nr rfl
theorem Entry.eqv (a b : Entry) : Vm.eqv a b = (Vm.eqv a.Key b.Key && (Vm.eqv a.Status b.Status && (Vm.eqv a.Headers b.Headers && (Vm.eqv a.Body b.Body && (Vm.eqv a.Meta b.Meta && (Vm.eqv a.Tags b.Tags && (Vm.eqv a.Pins b.Pins))))))):=(eqv_of (by simp only [Bool.and_eq_true,eqv_iff]; cases a; cases b; simp only [Entry.mk.injEq,and_assoc])).symm
def smEntry (a : Entry) : Prop:=smStr a.Key ∧ smInt a.Status ∧ (smL smHeader) a.Headers ∧ (smL smByte) a.Body ∧ smMeta a.Meta ∧ (smL smStr) a.Tags ∧ smInt a.Pins
structure RequestResult where
 Code : Int
 Request : Request
def rRequestResult (t : Tag) (a : RequestResult) : List AV:=[.i .i64 a.Code,.s a.Request.Method,.s a.Request.Host,.s a.Request.Path,.sl t 2 (a.Request.Headers.map (rHeader t))]
@[go_sem] theorem rRequestResult_def (t : Tag) (a : RequestResult) : rRequestResult t a = [.i .i64 a.Code,.s a.Request.Method,.s a.Request.Host,.s a.Request.Path,.sl t 2 (a.Request.Headers.map (rHeader t))]:=nr rfl
@[go_sem] theorem rRequestResult_strip (t : Tag) (xs : List RequestResult) : stripLL (xs.map (rRequestResult t)) = xs.map (rRequestResult .ro):=strip_map (fun a=>by simp only [rRequestResult,stripL,strip,rHeader_strip]) xs
@[go_sem] theorem rRequestResult_noRo (xs : List RequestResult) : hasRoLL (xs.map (rRequestResult .mut)) = false:=noRo_map (fun a=>by simp only [rRequestResult,hasRoL,hasRo,Bool.or_self,rHeader_noRo]) xs
@[go_sem] theorem RequestResult.eta (a : RequestResult) : RequestResult.mk a.Code a.Request = a:=nr rfl
theorem RequestResult.eqv (a b : RequestResult) : Vm.eqv a b = (Vm.eqv a.Code b.Code && (Vm.eqv a.Request b.Request)):=(eqv_of (by simp only [Bool.and_eq_true,eqv_iff]; cases a; cases b; simp only [RequestResult.mk.injEq,and_assoc])).symm
structure Response where
 Status : Int
 Headers : List Header
 Body : List UInt8
def rResponse (t : Tag) (a : Response) : List AV:=[.i .i64 a.Status,.sl t 2 (a.Headers.map (rHeader t)),.sl t 1 (a.Body.map rByte)]
@[go_sem] theorem rResponse_def (t : Tag) (a : Response) : rResponse t a = [.i .i64 a.Status,.sl t 2 (a.Headers.map (rHeader t)),.sl t 1 (a.Body.map rByte)]:=nr rfl
@[go_sem] theorem rResponse_strip (t : Tag) (xs : List Response) : stripLL (xs.map (rResponse t)) = xs.map (rResponse .ro):=strip_map (fun a=>by simp only [rResponse,stripL,strip,rByte_strip,rHeader_strip]) xs
@[go_sem] theorem rResponse_noRo (xs : List Response) : hasRoLL (xs.map (rResponse .mut)) = false:=noRo_map (fun a=>by simp only [rResponse,hasRoL,hasRo,Bool.or_self,rByte_noRo,rHeader_noRo]) xs
@[go_sem] theorem Response.eta (a : Response) : Response.mk a.Status a.Headers a.Body = a:=nr rfl
theorem Response.eqv (a b : Response) : Vm.eqv a b = (Vm.eqv a.Status b.Status && (Vm.eqv a.Headers b.Headers && (Vm.eqv a.Body b.Body))):=(eqv_of (by simp only [Bool.and_eq_true,eqv_iff]; cases a; cases b; simp only [Response.mk.injEq,and_assoc])).symm
structure ResponseResult where
 Code : Int
 Response : Response
def rResponseResult (t : Tag) (a : ResponseResult) : List AV:=[.i .i64 a.Code,.i .i64 a.Response.Status,.sl t 2 (a.Response.Headers.map (rHeader t)),.sl t 1 (a.Response.Body.map rByte)]
@[go_sem] theorem rResponseResult_def (t : Tag) (a : ResponseResult) : rResponseResult t a = [.i .i64 a.Code,.i .i64 a.Response.Status,.sl t 2 (a.Response.Headers.map (rHeader t)),.sl t 1 (a.Response.Body.map rByte)]:=nr rfl
@[go_sem] theorem rResponseResult_strip (t : Tag) (xs : List ResponseResult) : stripLL (xs.map (rResponseResult t)) = xs.map (rResponseResult .ro):=strip_map (fun a=>by simp only [rResponseResult,stripL,strip,rByte_strip,rHeader_strip]) xs
@[go_sem] theorem rResponseResult_noRo (xs : List ResponseResult) : hasRoLL (xs.map (rResponseResult .mut)) = false:=noRo_map (fun a=>by simp only [rResponseResult,hasRoL,hasRo,Bool.or_self,rByte_noRo,rHeader_noRo]) xs
@[go_sem] theorem ResponseResult.eta (a : ResponseResult) : ResponseResult.mk a.Code a.Response = a:=nr rfl
theorem ResponseResult.eqv (a b : ResponseResult) : Vm.eqv a b = (Vm.eqv a.Code b.Code && (Vm.eqv a.Response b.Response)):=(eqv_of (by simp only [Bool.and_eq_true,eqv_iff]; cases a; cases b; simp only [ResponseResult.mk.injEq,and_assoc])).symm
structure TextResult where
 Code : Int
 Text : ByteArray
def rTextResult (t : Tag) (a : TextResult) : List AV:=[.i .i64 a.Code,.s a.Text]
@[go_sem] theorem rTextResult_def (t : Tag) (a : TextResult) : rTextResult t a = [.i .i64 a.Code,.s a.Text]:=nr rfl
@[go_sem] theorem rTextResult_strip (t : Tag) (xs : List TextResult) : stripLL (xs.map (rTextResult t)) = xs.map (rTextResult .ro):=strip_map (fun a=>by simp only [rTextResult,stripL,strip]) xs
@[go_sem] theorem rTextResult_noRo (xs : List TextResult) : hasRoLL (xs.map (rTextResult .mut)) = false:=noRo_map (fun a=>by simp only [rTextResult,hasRoL,hasRo,Bool.or_self]) xs
@[go_sem] theorem TextResult.eta (a : TextResult) : TextResult.mk a.Code a.Text = a:=nr rfl
theorem TextResult.eqv (a b : TextResult) : Vm.eqv a b = (Vm.eqv a.Code b.Code && (Vm.eqv a.Text b.Text)):=(eqv_of (by simp only [Bool.and_eq_true,eqv_iff]; cases a; cases b; simp only [TextResult.mk.injEq,and_assoc])).symm
structure Lanes where
 Slots : Int
 Cap : Int
 Time : Int
def rLanes (t : Tag) (a : Lanes) : List AV:=[.i .i64 a.Slots,.i .i64 a.Cap,.i .i64 a.Time]
@[go_sem] theorem rLanes_def (t : Tag) (a : Lanes) : rLanes t a = [.i .i64 a.Slots,.i .i64 a.Cap,.i .i64 a.Time]:=nr rfl
@[go_sem] theorem rLanes_strip (t : Tag) (xs : List Lanes) : stripLL (xs.map (rLanes t)) = xs.map (rLanes .ro):=strip_map (fun a=>by simp only [rLanes,stripL,strip]) xs
@[go_sem] theorem rLanes_noRo (xs : List Lanes) : hasRoLL (xs.map (rLanes .mut)) = false:=noRo_map (fun a=>by simp only [rLanes,hasRoL,hasRo,Bool.or_self]) xs
@[go_sem] theorem Lanes.eta (a : Lanes) : Lanes.mk a.Slots a.Cap a.Time = a:=nr rfl
theorem Lanes.eqv (a b : Lanes) : Vm.eqv a b = (Vm.eqv a.Slots b.Slots && (Vm.eqv a.Cap b.Cap && (Vm.eqv a.Time b.Time))):=(eqv_of (by simp only [Bool.and_eq_true,eqv_iff]; cases a; cases b; simp only [Lanes.mk.injEq,and_assoc])).symm
def smLanes (a : Lanes) : Prop:=smInt a.Slots ∧ smInt a.Cap ∧ smInt a.Time
structure Rules where
 Window : Int
 Min : Int
 Ratio : Int
 Cool : Int
 Quota : Int
def rRules (t : Tag) (a : Rules) : List AV:=[.i .i64 a.Window,.i .i64 a.Min,.i .i64 a.Ratio,.i .i64 a.Cool,.i .i64 a.Quota]
@[go_sem] theorem rRules_def (t : Tag) (a : Rules) : rRules t a = [.i .i64 a.Window,.i .i64 a.Min,.i .i64 a.Ratio,.i .i64 a.Cool,.i .i64 a.Quota]:=nr rfl
@[go_sem] theorem rRules_strip (t : Tag) (xs : List Rules) : stripLL (xs.map (rRules t)) = xs.map (rRules .ro):=strip_map (fun a=>by simp only [rRules,stripL,strip]) xs
@[go_sem] theorem rRules_noRo (xs : List Rules) : hasRoLL (xs.map (rRules .mut)) = false:=noRo_map (fun a=>by simp only [rRules,hasRoL,hasRo,Bool.or_self]) xs
@[go_sem] theorem Rules.eta (a : Rules) : Rules.mk a.Window a.Min a.Ratio a.Cool a.Quota = a:=nr rfl
theorem Rules.eqv (a b : Rules) : Vm.eqv a b = (Vm.eqv a.Window b.Window && (Vm.eqv a.Min b.Min && (Vm.eqv a.Ratio b.Ratio && (Vm.eqv a.Cool b.Cool && (Vm.eqv a.Quota b.Quota))))):=(eqv_of (by simp only [Bool.and_eq_true,eqv_iff]; cases a; cases b; simp only [Rules.mk.injEq,and_assoc])).symm
def smRules (a : Rules) : Prop:=smInt a.Window ∧ smInt a.Min ∧ smInt a.Ratio ∧ smInt a.Cool ∧ smInt a.Quota
structure Config where
 Budget : Int
 Guard : Int
 ObjCost : Int
 Neg : Int
 Early : Int
 FetchTime : Int
 WaitTime : Int
 WaitCap : Int
 Names : List ByteArray
 Lanes : Lanes
 Rules : Rules
def rConfig (t : Tag) (a : Config) : List AV:=[.i .i64 a.Budget,.i .i64 a.Guard,.i .i64 a.ObjCost,.i .i64 a.Neg,.i .i64 a.Early,.i .i64 a.FetchTime,.i .i64 a.WaitTime,.i .i64 a.WaitCap,.sl t 1 (a.Names.map rStr),.i .i64 a.Lanes.Slots,.i .i64 a.Lanes.Cap,.i .i64 a.Lanes.Time,.i .i64 a.Rules.Window,.i .i64 a.Rules.Min,.i .i64 a.Rules.Ratio,.i .i64 a.Rules.Cool,.i .i64 a.Rules.Quota]
@[go_sem] theorem rConfig_def (t : Tag) (a : Config) : rConfig t a = [.i .i64 a.Budget,.i .i64 a.Guard,.i .i64 a.ObjCost,.i .i64 a.Neg,.i .i64 a.Early,.i .i64 a.FetchTime,.i .i64 a.WaitTime,.i .i64 a.WaitCap,.sl t 1 (a.Names.map rStr),.i .i64 a.Lanes.Slots,.i .i64 a.Lanes.Cap,.i .i64 a.Lanes.Time,.i .i64 a.Rules.Window,.i .i64 a.Rules.Min,.i .i64 a.Rules.Ratio,.i .i64 a.Rules.Cool,.i .i64 a.Rules.Quota]:=nr rfl
@[go_sem] theorem rConfig_strip (t : Tag) (xs : List Config) : stripLL (xs.map (rConfig t)) = xs.map (rConfig .ro):=strip_map (fun a=>by simp only [rConfig,stripL,strip,rStr_strip]) xs
@[go_sem] theorem rConfig_noRo (xs : List Config) : hasRoLL (xs.map (rConfig .mut)) = false:=noRo_map (fun a=>by simp only [rConfig,hasRoL,hasRo,Bool.or_self,rStr_noRo]) xs
@[go_sem] theorem Config.eta (a : Config) : Config.mk a.Budget a.Guard a.ObjCost a.Neg a.Early a.FetchTime a.WaitTime a.WaitCap a.Names a.Lanes a.Rules = a:=nr rfl
theorem Config.eqv (a b : Config) : Vm.eqv a b = (Vm.eqv a.Budget b.Budget && (Vm.eqv a.Guard b.Guard && (Vm.eqv a.ObjCost b.ObjCost && (Vm.eqv a.Neg b.Neg && (Vm.eqv a.Early b.Early && (Vm.eqv a.FetchTime b.FetchTime && (Vm.eqv a.WaitTime b.WaitTime && (Vm.eqv a.WaitCap b.WaitCap && (Vm.eqv a.Names b.Names && (Vm.eqv a.Lanes b.Lanes && (Vm.eqv a.Rules b.Rules))))))))))):=(eqv_of (by simp only [Bool.and_eq_true,eqv_iff]; cases a; cases b; simp only [Config.mk.injEq,and_assoc])).symm
def smConfig (a : Config) : Prop:=smInt a.Budget ∧ smInt a.Guard ∧ smInt a.ObjCost ∧ smInt a.Neg ∧ smInt a.Early ∧ smInt a.FetchTime ∧ smInt a.WaitTime ∧ smInt a.WaitCap ∧ (smL smStr) a.Names ∧ smLanes a.Lanes ∧ smRules a.Rules
structure Store where
 Budget : Int
 Guard : Int
 Trial : List Entry
 Kept : List Entry
def rStore (t : Tag) (a : Store) : List AV:=[.i .i64 a.Budget,.i .i64 a.Guard,.sl t 13 (a.Trial.map (rEntry t)),.sl t 13 (a.Kept.map (rEntry t))]
@[go_sem] theorem rStore_def (t : Tag) (a : Store) : rStore t a = [.i .i64 a.Budget,.i .i64 a.Guard,.sl t 13 (a.Trial.map (rEntry t)),.sl t 13 (a.Kept.map (rEntry t))]:=nr rfl
@[go_sem] theorem rStore_strip (t : Tag) (xs : List Store) : stripLL (xs.map (rStore t)) = xs.map (rStore .ro):=strip_map (fun a=>by simp only [rStore,stripL,strip,rEntry_strip]) xs
@[go_sem] theorem rStore_noRo (xs : List Store) : hasRoLL (xs.map (rStore .mut)) = false:=noRo_map (fun a=>by simp only [rStore,hasRoL,hasRo,Bool.or_self,rEntry_noRo]) xs
@[go_sem] theorem Store.eta (a : Store) : Store.mk a.Budget a.Guard a.Trial a.Kept = a:=nr rfl
theorem Store.eqv (a b : Store) : Vm.eqv a b = (Vm.eqv a.Budget b.Budget && (Vm.eqv a.Guard b.Guard && (Vm.eqv a.Trial b.Trial && (Vm.eqv a.Kept b.Kept)))):=(eqv_of (by simp only [Bool.and_eq_true,eqv_iff]; cases a; cases b; simp only [Store.mk.injEq,and_assoc])).symm
def smStore (a : Store) : Prop:=smInt a.Budget ∧ smInt a.Guard ∧ (smL smEntry) a.Trial ∧ (smL smEntry) a.Kept
structure Wait where
 Id : Int
 Due : Int
def rWait (t : Tag) (a : Wait) : List AV:=[.i .i64 a.Id,.i .i64 a.Due]
@[go_sem] theorem rWait_def (t : Tag) (a : Wait) : rWait t a = [.i .i64 a.Id,.i .i64 a.Due]:=nr rfl
@[go_sem] theorem rWait_strip (t : Tag) (xs : List Wait) : stripLL (xs.map (rWait t)) = xs.map (rWait .ro):=strip_map (fun a=>by simp only [rWait,stripL,strip]) xs
@[go_sem] theorem rWait_noRo (xs : List Wait) : hasRoLL (xs.map (rWait .mut)) = false:=noRo_map (fun a=>by simp only [rWait,hasRoL,hasRo,Bool.or_self]) xs
@[go_sem] theorem Wait.eta (a : Wait) : Wait.mk a.Id a.Due = a:=nr rfl
theorem Wait.eqv (a b : Wait) : Vm.eqv a b = (Vm.eqv a.Id b.Id && (Vm.eqv a.Due b.Due)):=(eqv_of (by simp only [Bool.and_eq_true,eqv_iff]; cases a; cases b; simp only [Wait.mk.injEq,and_assoc])).symm
def smWait (a : Wait) : Prop:=smInt a.Id ∧ smInt a.Due
structure Bulk where
 Busy : Int
 Queue : List Wait
def rBulk (t : Tag) (a : Bulk) : List AV:=[.i .i64 a.Busy,.sl t 2 (a.Queue.map (rWait t))]
@[go_sem] theorem rBulk_def (t : Tag) (a : Bulk) : rBulk t a = [.i .i64 a.Busy,.sl t 2 (a.Queue.map (rWait t))]:=nr rfl
@[go_sem] theorem rBulk_strip (t : Tag) (xs : List Bulk) : stripLL (xs.map (rBulk t)) = xs.map (rBulk .ro):=strip_map (fun a=>by simp only [rBulk,stripL,strip,rWait_strip]) xs
@[go_sem] theorem rBulk_noRo (xs : List Bulk) : hasRoLL (xs.map (rBulk .mut)) = false:=noRo_map (fun a=>by simp only [rBulk,hasRoL,hasRo,Bool.or_self,rWait_noRo]) xs
@[go_sem] theorem Bulk.eta (a : Bulk) : Bulk.mk a.Busy a.Queue = a:=nr rfl
theorem Bulk.eqv (a b : Bulk) : Vm.eqv a b = (Vm.eqv a.Busy b.Busy && (Vm.eqv a.Queue b.Queue)):=(eqv_of (by simp only [Bool.and_eq_true,eqv_iff]; cases a; cases b; simp only [Bulk.mk.injEq,and_assoc])).symm
def smBulk (a : Bulk) : Prop:=smInt a.Busy ∧ (smL smWait) a.Queue
structure Mark where
 At : Int
 Good : Bool
def rMark (t : Tag) (a : Mark) : List AV:=[.i .i64 a.At,.b a.Good]
@[go_sem] theorem rMark_def (t : Tag) (a : Mark) : rMark t a = [.i .i64 a.At,.b a.Good]:=nr rfl
@[go_sem] theorem rMark_strip (t : Tag) (xs : List Mark) : stripLL (xs.map (rMark t)) = xs.map (rMark .ro):=strip_map (fun a=>by simp only [rMark,stripL,strip]) xs
@[go_sem] theorem rMark_noRo (xs : List Mark) : hasRoLL (xs.map (rMark .mut)) = false:=noRo_map (fun a=>by simp only [rMark,hasRoL,hasRo,Bool.or_self]) xs
@[go_sem] theorem Mark.eta (a : Mark) : Mark.mk a.At a.Good = a:=nr rfl
theorem Mark.eqv (a b : Mark) : Vm.eqv a b = (Vm.eqv a.At b.At && (Vm.eqv a.Good b.Good)):=(eqv_of (by simp only [Bool.and_eq_true,eqv_iff]; cases a; cases b; simp only [Mark.mk.injEq,and_assoc])).symm
def smMark (a : Mark) : Prop:=smInt a.At ∧ smBool a.Good
structure Breaker where
 State : Int
 Since : Int
 Out : Int
 Marks : List Mark
def rBreaker (t : Tag) (a : Breaker) : List AV:=[.i .i64 a.State,.i .i64 a.Since,.i .i64 a.Out,.sl t 2 (a.Marks.map (rMark t))]
@[go_sem] theorem rBreaker_def (t : Tag) (a : Breaker) : rBreaker t a = [.i .i64 a.State,.i .i64 a.Since,.i .i64 a.Out,.sl t 2 (a.Marks.map (rMark t))]:=nr rfl
@[go_sem] theorem rBreaker_strip (t : Tag) (xs : List Breaker) : stripLL (xs.map (rBreaker t)) = xs.map (rBreaker .ro):=strip_map (fun a=>by simp only [rBreaker,stripL,strip,rMark_strip]) xs
@[go_sem] theorem rBreaker_noRo (xs : List Breaker) : hasRoLL (xs.map (rBreaker .mut)) = false:=noRo_map (fun a=>by simp only [rBreaker,hasRoL,hasRo,Bool.or_self,rMark_noRo]) xs
@[go_sem] theorem Breaker.eta (a : Breaker) : Breaker.mk a.State a.Since a.Out a.Marks = a:=nr rfl
theorem Breaker.eqv (a b : Breaker) : Vm.eqv a b = (Vm.eqv a.State b.State && (Vm.eqv a.Since b.Since && (Vm.eqv a.Out b.Out && (Vm.eqv a.Marks b.Marks)))):=(eqv_of (by simp only [Bool.and_eq_true,eqv_iff]; cases a; cases b; simp only [Breaker.mk.injEq,and_assoc])).symm
def smBreaker (a : Breaker) : Prop:=smInt a.State ∧ smInt a.Since ∧ smInt a.Out ∧ (smL smMark) a.Marks
structure Origin where
 Host : ByteArray
 Bulk : Bulk
 Breaker : Breaker
def rOrigin (t : Tag) (a : Origin) : List AV:=[.s a.Host,.i .i64 a.Bulk.Busy,.sl t 2 (a.Bulk.Queue.map (rWait t)),.i .i64 a.Breaker.State,.i .i64 a.Breaker.Since,.i .i64 a.Breaker.Out,.sl t 2 (a.Breaker.Marks.map (rMark t))]
@[go_sem] theorem rOrigin_def (t : Tag) (a : Origin) : rOrigin t a = [.s a.Host,.i .i64 a.Bulk.Busy,.sl t 2 (a.Bulk.Queue.map (rWait t)),.i .i64 a.Breaker.State,.i .i64 a.Breaker.Since,.i .i64 a.Breaker.Out,.sl t 2 (a.Breaker.Marks.map (rMark t))]:=nr rfl
@[go_sem] theorem rOrigin_strip (t : Tag) (xs : List Origin) : stripLL (xs.map (rOrigin t)) = xs.map (rOrigin .ro):=strip_map (fun a=>by simp only [rOrigin,stripL,strip,rMark_strip,rWait_strip]) xs
@[go_sem] theorem rOrigin_noRo (xs : List Origin) : hasRoLL (xs.map (rOrigin .mut)) = false:=noRo_map (fun a=>by simp only [rOrigin,hasRoL,hasRo,Bool.or_self,rMark_noRo,rWait_noRo]) xs
@[go_sem] theorem Origin.eta (a : Origin) : Origin.mk a.Host a.Bulk a.Breaker = a:=nr rfl
theorem Origin.eqv (a b : Origin) : Vm.eqv a b = (Vm.eqv a.Host b.Host && (Vm.eqv a.Bulk b.Bulk && (Vm.eqv a.Breaker b.Breaker))):=(eqv_of (by simp only [Bool.and_eq_true,eqv_iff]; cases a; cases b; simp only [Origin.mk.injEq,and_assoc])).symm
def smOrigin (a : Origin) : Prop:=smStr a.Host ∧ smBulk a.Bulk ∧ smBreaker a.Breaker
structure Shield where
 Config : Config
 Now : Int
 Next : Int
 Store : Store
 Origins : List Origin
 Flights : List Flight
def rShield (t : Tag) (a : Shield) : List AV:=[.i .i64 a.Config.Budget,.i .i64 a.Config.Guard,.i .i64 a.Config.ObjCost,.i .i64 a.Config.Neg,.i .i64 a.Config.Early,.i .i64 a.Config.FetchTime,.i .i64 a.Config.WaitTime,.i .i64 a.Config.WaitCap,.sl t 1 (a.Config.Names.map rStr),.i .i64 a.Config.Lanes.Slots,.i .i64 a.Config.Lanes.Cap,.i .i64 a.Config.Lanes.Time,.i .i64 a.Config.Rules.Window,.i .i64 a.Config.Rules.Min,.i .i64 a.Config.Rules.Ratio,.i .i64 a.Config.Rules.Cool,.i .i64 a.Config.Rules.Quota,.i .i64 a.Now,.i .i64 a.Next,.i .i64 a.Store.Budget,.i .i64 a.Store.Guard,.sl t 13 (a.Store.Trial.map (rEntry t)),.sl t 13 (a.Store.Kept.map (rEntry t)),.sl t 7 (a.Origins.map (rOrigin t)),.sl t 11 (a.Flights.map (rFlight t))]
@[go_sem] theorem rShield_def (t : Tag) (a : Shield) : rShield t a = [.i .i64 a.Config.Budget,.i .i64 a.Config.Guard,.i .i64 a.Config.ObjCost,.i .i64 a.Config.Neg,.i .i64 a.Config.Early,.i .i64 a.Config.FetchTime,.i .i64 a.Config.WaitTime,.i .i64 a.Config.WaitCap,.sl t 1 (a.Config.Names.map rStr),.i .i64 a.Config.Lanes.Slots,.i .i64 a.Config.Lanes.Cap,.i .i64 a.Config.Lanes.Time,.i .i64 a.Config.Rules.Window,.i .i64 a.Config.Rules.Min,.i .i64 a.Config.Rules.Ratio,.i .i64 a.Config.Rules.Cool,.i .i64 a.Config.Rules.Quota,.i .i64 a.Now,.i .i64 a.Next,.i .i64 a.Store.Budget,.i .i64 a.Store.Guard,.sl t 13 (a.Store.Trial.map (rEntry t)),.sl t 13 (a.Store.Kept.map (rEntry t)),.sl t 7 (a.Origins.map (rOrigin t)),.sl t 11 (a.Flights.map (rFlight t))]:=nr rfl
@[go_sem] theorem rShield_strip (t : Tag) (xs : List Shield) : stripLL (xs.map (rShield t)) = xs.map (rShield .ro):=strip_map (fun a=>by simp only [rShield,stripL,strip,rEntry_strip,rFlight_strip,rOrigin_strip,rStr_strip]) xs
@[go_sem] theorem rShield_noRo (xs : List Shield) : hasRoLL (xs.map (rShield .mut)) = false:=noRo_map (fun a=>by simp only [rShield,hasRoL,hasRo,Bool.or_self,rEntry_noRo,rFlight_noRo,rOrigin_noRo,rStr_noRo]) xs
@[go_sem] theorem Shield.eta (a : Shield) : Shield.mk a.Config a.Now a.Next a.Store a.Origins a.Flights = a:=nr rfl
theorem Shield.eqv (a b : Shield) : Vm.eqv a b = (Vm.eqv a.Config b.Config && (Vm.eqv a.Now b.Now && (Vm.eqv a.Next b.Next && (Vm.eqv a.Store b.Store && (Vm.eqv a.Origins b.Origins && (Vm.eqv a.Flights b.Flights)))))):=(eqv_of (by simp only [Bool.and_eq_true,eqv_iff]; cases a; cases b; simp only [Shield.mk.injEq,and_assoc])).symm
def smShield (a : Shield) : Prop:=smConfig a.Config ∧ smInt a.Now ∧ smInt a.Next ∧ smStore a.Store ∧ (smL smOrigin) a.Origins ∧ (smL smFlight) a.Flights
structure ShieldResult where
 Code : Int
 Shield : Shield
def rShieldResult (t : Tag) (a : ShieldResult) : List AV:=[.i .i64 a.Code,.i .i64 a.Shield.Config.Budget,.i .i64 a.Shield.Config.Guard,.i .i64 a.Shield.Config.ObjCost,.i .i64 a.Shield.Config.Neg,.i .i64 a.Shield.Config.Early,.i .i64 a.Shield.Config.FetchTime,.i .i64 a.Shield.Config.WaitTime,.i .i64 a.Shield.Config.WaitCap,.sl t 1 (a.Shield.Config.Names.map rStr),.i .i64 a.Shield.Config.Lanes.Slots,.i .i64 a.Shield.Config.Lanes.Cap,.i .i64 a.Shield.Config.Lanes.Time,.i .i64 a.Shield.Config.Rules.Window,.i .i64 a.Shield.Config.Rules.Min,.i .i64 a.Shield.Config.Rules.Ratio,.i .i64 a.Shield.Config.Rules.Cool,.i .i64 a.Shield.Config.Rules.Quota,.i .i64 a.Shield.Now,.i .i64 a.Shield.Next,.i .i64 a.Shield.Store.Budget,.i .i64 a.Shield.Store.Guard,.sl t 13 (a.Shield.Store.Trial.map (rEntry t)),.sl t 13 (a.Shield.Store.Kept.map (rEntry t)),.sl t 7 (a.Shield.Origins.map (rOrigin t)),.sl t 11 (a.Shield.Flights.map (rFlight t))]
@[go_sem] theorem rShieldResult_def (t : Tag) (a : ShieldResult) : rShieldResult t a = [.i .i64 a.Code,.i .i64 a.Shield.Config.Budget,.i .i64 a.Shield.Config.Guard,.i .i64 a.Shield.Config.ObjCost,.i .i64 a.Shield.Config.Neg,.i .i64 a.Shield.Config.Early,.i .i64 a.Shield.Config.FetchTime,.i .i64 a.Shield.Config.WaitTime,.i .i64 a.Shield.Config.WaitCap,.sl t 1 (a.Shield.Config.Names.map rStr),.i .i64 a.Shield.Config.Lanes.Slots,.i .i64 a.Shield.Config.Lanes.Cap,.i .i64 a.Shield.Config.Lanes.Time,.i .i64 a.Shield.Config.Rules.Window,.i .i64 a.Shield.Config.Rules.Min,.i .i64 a.Shield.Config.Rules.Ratio,.i .i64 a.Shield.Config.Rules.Cool,.i .i64 a.Shield.Config.Rules.Quota,.i .i64 a.Shield.Now,.i .i64 a.Shield.Next,.i .i64 a.Shield.Store.Budget,.i .i64 a.Shield.Store.Guard,.sl t 13 (a.Shield.Store.Trial.map (rEntry t)),.sl t 13 (a.Shield.Store.Kept.map (rEntry t)),.sl t 7 (a.Shield.Origins.map (rOrigin t)),.sl t 11 (a.Shield.Flights.map (rFlight t))]:=nr rfl
@[go_sem] theorem rShieldResult_strip (t : Tag) (xs : List ShieldResult) : stripLL (xs.map (rShieldResult t)) = xs.map (rShieldResult .ro):=strip_map (fun a=>by simp only [rShieldResult,stripL,strip,rEntry_strip,rFlight_strip,rOrigin_strip,rStr_strip]) xs
@[go_sem] theorem rShieldResult_noRo (xs : List ShieldResult) : hasRoLL (xs.map (rShieldResult .mut)) = false:=noRo_map (fun a=>by simp only [rShieldResult,hasRoL,hasRo,Bool.or_self,rEntry_noRo,rFlight_noRo,rOrigin_noRo,rStr_noRo]) xs
@[go_sem] theorem ShieldResult.eta (a : ShieldResult) : ShieldResult.mk a.Code a.Shield = a:=nr rfl
theorem ShieldResult.eqv (a b : ShieldResult) : Vm.eqv a b = (Vm.eqv a.Code b.Code && (Vm.eqv a.Shield b.Shield)):=(eqv_of (by simp only [Bool.and_eq_true,eqv_iff]; cases a; cases b; simp only [ShieldResult.mk.injEq,and_assoc])).symm
structure StoreResult where
 Code : Int
 Store : Store
def rStoreResult (t : Tag) (a : StoreResult) : List AV:=[.i .i64 a.Code,.i .i64 a.Store.Budget,.i .i64 a.Store.Guard,.sl t 13 (a.Store.Trial.map (rEntry t)),.sl t 13 (a.Store.Kept.map (rEntry t))]
@[go_sem] theorem rStoreResult_def (t : Tag) (a : StoreResult) : rStoreResult t a = [.i .i64 a.Code,.i .i64 a.Store.Budget,.i .i64 a.Store.Guard,.sl t 13 (a.Store.Trial.map (rEntry t)),.sl t 13 (a.Store.Kept.map (rEntry t))]:=nr rfl
@[go_sem] theorem rStoreResult_strip (t : Tag) (xs : List StoreResult) : stripLL (xs.map (rStoreResult t)) = xs.map (rStoreResult .ro):=strip_map (fun a=>by simp only [rStoreResult,stripL,strip,rEntry_strip]) xs
@[go_sem] theorem rStoreResult_noRo (xs : List StoreResult) : hasRoLL (xs.map (rStoreResult .mut)) = false:=noRo_map (fun a=>by simp only [rStoreResult,hasRoL,hasRo,Bool.or_self,rEntry_noRo]) xs
@[go_sem] theorem StoreResult.eta (a : StoreResult) : StoreResult.mk a.Code a.Store = a:=nr rfl
theorem StoreResult.eqv (a b : StoreResult) : Vm.eqv a b = (Vm.eqv a.Code b.Code && (Vm.eqv a.Store b.Store)):=(eqv_of (by simp only [Bool.and_eq_true,eqv_iff]; cases a; cases b; simp only [StoreResult.mk.injEq,and_assoc])).symm
structure Event where
 Kind : Int
 Id : Int
 Draw : Int
 Request : Request
 Response : Response
 Text : ByteArray
 Hard : Bool
def rEvent (t : Tag) (a : Event) : List AV:=[.i .i64 a.Kind,.i .i64 a.Id,.i .i64 a.Draw,.s a.Request.Method,.s a.Request.Host,.s a.Request.Path,.sl t 2 (a.Request.Headers.map (rHeader t)),.i .i64 a.Response.Status,.sl t 2 (a.Response.Headers.map (rHeader t)),.sl t 1 (a.Response.Body.map rByte),.s a.Text,.b a.Hard]
@[go_sem] theorem rEvent_def (t : Tag) (a : Event) : rEvent t a = [.i .i64 a.Kind,.i .i64 a.Id,.i .i64 a.Draw,.s a.Request.Method,.s a.Request.Host,.s a.Request.Path,.sl t 2 (a.Request.Headers.map (rHeader t)),.i .i64 a.Response.Status,.sl t 2 (a.Response.Headers.map (rHeader t)),.sl t 1 (a.Response.Body.map rByte),.s a.Text,.b a.Hard]:=nr rfl
@[go_sem] theorem rEvent_strip (t : Tag) (xs : List Event) : stripLL (xs.map (rEvent t)) = xs.map (rEvent .ro):=strip_map (fun a=>by simp only [rEvent,stripL,strip,rByte_strip,rHeader_strip]) xs
@[go_sem] theorem rEvent_noRo (xs : List Event) : hasRoLL (xs.map (rEvent .mut)) = false:=noRo_map (fun a=>by simp only [rEvent,hasRoL,hasRo,Bool.or_self,rByte_noRo,rHeader_noRo]) xs
@[go_sem] theorem Event.eta (a : Event) : Event.mk a.Kind a.Id a.Draw a.Request a.Response a.Text a.Hard = a:=nr rfl
theorem Event.eqv (a b : Event) : Vm.eqv a b = (Vm.eqv a.Kind b.Kind && (Vm.eqv a.Id b.Id && (Vm.eqv a.Draw b.Draw && (Vm.eqv a.Request b.Request && (Vm.eqv a.Response b.Response && (Vm.eqv a.Text b.Text && (Vm.eqv a.Hard b.Hard))))))):=(eqv_of (by simp only [Bool.and_eq_true,eqv_iff]; cases a; cases b; simp only [Event.mk.injEq,and_assoc])).symm
structure EventResult where
 Code : Int
 Event : Event
def rEventResult (t : Tag) (a : EventResult) : List AV:=[.i .i64 a.Code,.i .i64 a.Event.Kind,.i .i64 a.Event.Id,.i .i64 a.Event.Draw,.s a.Event.Request.Method,.s a.Event.Request.Host,.s a.Event.Request.Path,.sl t 2 (a.Event.Request.Headers.map (rHeader t)),.i .i64 a.Event.Response.Status,.sl t 2 (a.Event.Response.Headers.map (rHeader t)),.sl t 1 (a.Event.Response.Body.map rByte),.s a.Event.Text,.b a.Event.Hard]
@[go_sem] theorem rEventResult_def (t : Tag) (a : EventResult) : rEventResult t a = [.i .i64 a.Code,.i .i64 a.Event.Kind,.i .i64 a.Event.Id,.i .i64 a.Event.Draw,.s a.Event.Request.Method,.s a.Event.Request.Host,.s a.Event.Request.Path,.sl t 2 (a.Event.Request.Headers.map (rHeader t)),.i .i64 a.Event.Response.Status,.sl t 2 (a.Event.Response.Headers.map (rHeader t)),.sl t 1 (a.Event.Response.Body.map rByte),.s a.Event.Text,.b a.Event.Hard]:=nr rfl
@[go_sem] theorem rEventResult_strip (t : Tag) (xs : List EventResult) : stripLL (xs.map (rEventResult t)) = xs.map (rEventResult .ro):=strip_map (fun a=>by simp only [rEventResult,stripL,strip,rByte_strip,rHeader_strip]) xs
@[go_sem] theorem rEventResult_noRo (xs : List EventResult) : hasRoLL (xs.map (rEventResult .mut)) = false:=noRo_map (fun a=>by simp only [rEventResult,hasRoL,hasRo,Bool.or_self,rByte_noRo,rHeader_noRo]) xs
@[go_sem] theorem EventResult.eta (a : EventResult) : EventResult.mk a.Code a.Event = a:=nr rfl
theorem EventResult.eqv (a b : EventResult) : Vm.eqv a b = (Vm.eqv a.Code b.Code && (Vm.eqv a.Event b.Event)):=(eqv_of (by simp only [Bool.and_eq_true,eqv_iff]; cases a; cases b; simp only [EventResult.mk.injEq,and_assoc])).symm
structure l1Src where
 Code : List UInt8
 At : Int
def rl1Src (t : Tag) (a : l1Src) : List AV:=[.sl t 1 (a.Code.map rByte),.i .i64 a.At]
@[go_sem] theorem rl1Src_def (t : Tag) (a : l1Src) : rl1Src t a = [.sl t 1 (a.Code.map rByte),.i .i64 a.At]:=nr rfl
@[go_sem] theorem rl1Src_strip (t : Tag) (xs : List l1Src) : stripLL (xs.map (rl1Src t)) = xs.map (rl1Src .ro):=strip_map (fun a=>by simp only [rl1Src,stripL,strip,rByte_strip]) xs
@[go_sem] theorem rl1Src_noRo (xs : List l1Src) : hasRoLL (xs.map (rl1Src .mut)) = false:=noRo_map (fun a=>by simp only [rl1Src,hasRoL,hasRo,Bool.or_self,rByte_noRo]) xs
@[go_sem] theorem l1Src.eta (a : l1Src) : l1Src.mk a.Code a.At = a:=nr rfl
theorem l1Src.eqv (a b : l1Src) : Vm.eqv a b = (Vm.eqv a.Code b.Code && (Vm.eqv a.At b.At)):=(eqv_of (by simp only [Bool.and_eq_true,eqv_iff]; cases a; cases b; simp only [l1Src.mk.injEq,and_assoc])).symm
end Go.Vm
set_option autoImplicit false
set_option maxRecDepth 100000
set_option maxHeartbeats 4000000
namespace Go.Vm
end Go.Vm
set_option autoImplicit false
set_option maxRecDepth 100000
set_option maxHeartbeats 4000000
namespace Go.Vm
end Go.Vm
