/- Functions of the program, walked by the evaluator. -/
import Derived.Test.YtbgfaonlbpkfhaaGreatDoorVf
import Derived.Test.YtbgfaonlbpkfhaaGreatDoorVe
import Derived.Laws.Strings
import Derived.ChangeShapes
import Derived.ChangeArms
import Derived.Deep.Slices
import Derived.RowKit
import Derived.Below
import Derived.Lib.Bytealg
import Derived.Laws.Externs
import Derived.WalkKit
import Derived.Lib.SlTrimSet
import Derived.Lib.LaidTab
import Derived.Lib.ItoaNum
import Derived.Lib.AppendIntMem
set_option linter.unusedVariables false
set_option linter.unusedSimpArgs false
set_option autoImplicit false
set_option linter.defProp false
namespace Go.Vm
def Xgt{cx:Cx}{n:Nat}:XeC {cx with rounds :=n}=XeC cx :=by
  funext ts xs as
  induction ts generalizing xs as with
  | nil => rfl
  | cons t ts ih => cases xs with
    | nil => rfl
    | cons x xs => cases as with
      | nil => rfl
      | cons a as => simp only[XeC,ih]; cases x<;>rfl
def Xdt{cx:Cx}{n:Nat}:Yh {cx with rounds :=n}=Yh cx :=by
  funext st ms ts xs
  induction ms generalizing st ts xs with
  | nil => rfl
  | cons m ms ih => cases ts with
    | nil => rfl
    | cons t ts => cases xs with
      | nil => rfl
      | cons x xs => simp only[Yh,ih]; rfl
def Xbo{cx:Cx}{n:Nat}(st:St)(o:Oper):Xj {cx with rounds :=n} st o=Xj cx st o :=by
  have h:∀d c,Zi {cx with rounds :=n} st d c=Zi cx st d c :=λd c => by
    have h2:∀f ts xs,XaM {cx with rounds :=n} st f ts xs=XaM cx st f ts xs :=λf ts xs => by
      have h3:∀st,UI {cx with rounds :=n} st f ts xs=UI cx st f ts xs :=λst => by simp only[UI,Xgt]
      have h4:∀st g fs k m,Xdm {cx with rounds :=n} st g fs k m f ts xs=Xdm cx st g fs k m f ts xs :=λst g fs k m => by simp only[Xdm,h3]; rfl
      have h5:∀st g fs,XcC {cx with rounds :=n} st g fs f ts xs=XcC cx st g fs f ts xs :=λst g fs => by simp only[XcC,h3,Xdt]
      have h6:∀st g fs,XcD {cx with rounds :=n} st g fs f ts xs=XcD cx st g fs f ts xs :=λst g fs => by simp only[XcD,h4,h5]
      simp only[XaM,h3,XcE,h6]
    simp only[Zi,h2]
  simp only[Xj,h]
  rfl
def UX{cx:Cx}{n:Nat}(ops:List Oper)(st:St)(o:Oper):QH {cx with rounds :=n} ops st o=QH cx ops st o :=by simp only[QH,Xbo]
def XaO{cx:Cx}{n:Nat}{ops:List Oper}:∀(l:List Oper) (cs:List (Option (List Nat))) (st:St),X2 {cx with rounds :=n} ops cs st l=X2 cx ops cs st l
  | [],_,_ => rfl
  | o :: l,cs,st => by
    simp only[X2,Xbo,XaO l]
def Qf{cx:Cx}{id n:Nat}{ops:List Oper}:∀(p:Xdh) (st:St),Y9 {cx with rounds :=n} id ops p st=Y9 cx id ops p st
  | .done,_ => rfl
  | .take i p,st => by
    simp only[Y9,UX,Qf p]
  | .one i p,st => by
    have h2:∀o,Xaj {cx with rounds :=n} o=Xaj cx o :=λ_ => rfl
    have h3:∀s o,Uw {cx with rounds :=n} s o=Uw cx s o :=λ_ _ => rfl
    simp only[Y9,UX,h2,h3,Qf p]
  | .alt i p q,st => by
    have h2:∀o,Xaj {cx with rounds :=n} o=Xaj cx o :=λ_ => rfl
    have h3:∀s o,Uw {cx with rounds :=n} s o=Uw cx s o :=λ_ _ => rfl
    simp only[Y9,UX,h2,h3,Qf p,Qf q]
def Xfo{f g:St->Option (Ex×St)}(h:∀s r,f s=some r->g s=some r):∀(n m:Nat) (s:St) (r:Ex×St),n<=m->XlC f n s=some r->XlC g m s=some r
  | 0,_,_,_,_,hr => by cases hr
  | n+1,0,_,_,hm,_ => by omega
  | n+1,m+1,s,r,hm,hr => by
    simp only[XlC] at hr ⊢
    cases hf:f s with
    | none => rw[hf] at hr; cases hr
    | some p =>
      obtain⟨e,s'⟩ :=p
      rw[hf] at hr
      rw[h s _ hf]
      cases e with
      | nor => exact Xfo h n m s' r (by omega) hr
      | _ => exact hr
def Xc4{cx:Cx}{n m:Nat}(hnm:n<=m):∀(c:Code) (blk:Nat) (st:St) (r:Ex×St),Xs {cx with rounds :=n} blk c st=some r->Xs {cx with rounds :=m} blk c st=some r :=by
  intro c
  induction c with
  | region id ops draw =>
    intro blk st r h
    simp only[Xs,XaO,Qf] at h ⊢
    exact h
  | seq a b iha ihb =>
    intro blk st r h
    simp only[Xs] at h ⊢
    cases ha:Xs {cx with rounds :=n} blk a st with
    | none => rw[ha] at h; cases h
    | some p =>
      obtain⟨e,s⟩ :=p
      rw[ha] at h
      rw[iha blk st _ ha]
      cases e with
      | nor => exact ihb blk s r h
      | _ => exact h
  | cond c a b iha ihb =>
    intro blk st r h
    simp only[Xs] at h ⊢
    split at h
    · exact iha blk st r h
    · exact ihb blk st r h
    · cases h
  | block id c ih =>
    intro blk st r h
    simp only[Xs] at h ⊢
    cases hc:Xs {cx with rounds :=n} id c st with
    | none => rw[hc] at h; cases h
    | some p => rw[hc] at h; rw[ih id st _ hc]; exact h
  | loop c ih =>
    intro blk st r h
    simp only[Xs] at h ⊢
    exact Xfo (λs r hs => ih blk _ r hs) n m st r hnm h
  | _ => intro blk st r h; exact h
def Xlk{cx:Cx}{n m:Nat}(hnm:n<=m):∀(c:Code) (K K':St->Option (Ex×St)) (_:∀s r,K s=some r->K' s=some r) (st:St) (r:Ex×St),evN {cx with rounds :=n} c K st=some r->evN {cx with rounds :=m} c K' st=some r :=by
  have other:∀(c:Code) (K K':St->Option (Ex×St)) (_:∀s r,K s=some r->K' s=some r) (st:St) (r:Ex×St),Xdz (Xs {cx with rounds :=n} 0 c st) K=some r->Xdz (Xs {cx with rounds :=m} 0 c st) K'=some r :=by
    intro c K K' hK st r h
    cases hc:Xs {cx with rounds :=n} 0 c st with
    | none => rw[hc] at h; cases h
    | some p =>
      rw[hc] at h
      rw[Xc4 hnm c 0 st _ hc]
      obtain⟨e,s⟩ :=p
      cases e with
      | nor => exact hK s r h
      | _ => exact h
  intro c
  induction c with
  | skip => intro K K' hK st r h; exact hK st r h
  | seq a b iha ihb => intro K K' hK st r h; exact iha _ _ (λs r hs => ihb K K' hK s r hs) st r h
  | cond c a b iha ihb =>
    intro K K' hK st r h
    simp only[evN] at h ⊢
    split at h
    · exact iha K K' hK st r h
    · exact ihb K K' hK st r h
    · unfold XfQ at h ⊢
      split at h
      · rename_i he
        have h1 :=iha K K' hK st r h
        have h2 :=ihb K K' hK st r (he▸h)
        rw[if_pos (h1.trans h2.symm)]
        exact h1
      · cases h
    · cases h
  | _ => intro K K' hK st r h; exact other _ K K' hK st r h
def Xc5{cx:Cx}{md:List Md}{f:Func}{as:List AV}{r:AV×List AV}{n m:Nat}(hnm:n<=m)(h:Uy {cx with rounds :=n} md f as=some r):Uy {cx with rounds :=m} md f as=some r :=by
  unfold Uy at h ⊢
  cases hb:f.body with
  | none => rw[hb] at h; cases h
  | some c =>
    rw[hb] at h
    simp only at h ⊢
    have hB:∀r,evB {cx with rounds :=n} c (Xab md as)=some r->evB {cx with rounds :=m} c (Xab md as)=some r :=by
      intro r hr
      unfold evB at hr ⊢
      by_cases hz:cx.nz=true
      · rw[if_pos (show({cx with rounds :=n}:Cx).nz=true from hz)] at hr
        rw[if_pos (show({cx with rounds :=m}:Cx).nz=true from hz)]
        exact Xlk hnm c _ _ (λ_ _ h => h) _ r hr
      · rw[if_neg (show ¬({cx with rounds :=n}:Cx).nz=true from hz)] at hr
        rw[if_neg (show ¬({cx with rounds :=m}:Cx).nz=true from hz)]
        exact Xc4 hnm c 0 _ r hr
    cases hc:evB {cx with rounds :=n} c (Xab md as) with
    | none => rw[hc] at h; cases h
    | some p =>
      rw[hc] at h
      rw[hB _ hc]
      have hres:∀(l:List ResultVar) (st:St),Xck {cx with rounds :=n} st l=Xck {cx with rounds :=m} st l :=by
        intro l
        induction l with
        | nil => intro st; rfl
        | cons x l ih => intro st; cases x<;>simp only[Xck,ih]
      have hfin:∀st,QI {cx with rounds :=n} md f.results.toList st=QI {cx with rounds :=m} md f.results.toList st :=λst => by simp only[QI,XqQ,hres]
      obtain⟨e,s⟩ :=p
      cases e<;>simp only[hfin] at h ⊢<;>exact h
def Y6(wk:Bool)(r:AV)(os:List AV):Bool :=wk||(!XD r&&os.all λo => !XD o)
noncomputable def FR(cx:Cx)(md:List Md)(wk:Bool)(f:Func)(as:List AV):Option (AV×List AV) :=
  open Classical in if h : ∃ (r : AV × List AV) (n : Nat), Uy { cx with rounds := n } md f as = some r /\ Y6 wk r.1 r.2 = true then some h.choose else none
def Xqn{cx:Cx}{md:List Md}{wk:Bool}{f:Func}{as:List AV}{r:AV×List AV}{n:Nat}(h:Uy {cx with rounds :=n} md f as=some r)(hr:Y6 wk r.1 r.2=true):FR cx md wk f as=some r :=by
  have hx:∃(r:AV×List AV) (n:Nat),Uy {cx with rounds :=n} md f as=some r/\Y6 wk r.1 r.2=true :=⟨r,n,h,hr⟩
  unfold FR
  rw[dif_pos hx]
  obtain⟨m,h1,h2⟩ :=hx.choose_spec
  have a1 :=Xc5 (Nat.le_max_left n m) h
  have a2 :=Xc5 (Nat.le_max_right n m) h1
  exact a2.symm.trans a1
def XlT{cx:Cx}{md:List Md}{wk:Bool}{f:Func}{as:List AV}{r:AV×List AV}(h:FR cx md wk f as=some r):∃n,Uy {cx with rounds :=n} md f as=some r/\Y6 wk r.1 r.2=true :=by
  unfold FR at h
  split at h
  · rename_i hx
    obtain⟨m,h1,h2⟩ :=hx.choose_spec
    injection h with h
    rw[<-h]
    exact⟨m,h1,h2⟩
  · cases h
structure SP (P:Program) [HasTb P] where
  g:Nat
  fs:FS
  ok:QF P g fs
def SP.F{P:Program}[HasTb P](s:SP P):List AV->Option (AV×List AV) :=s.fs.F
def Xll{P:Program}[HasTb P]:List (SP P)->Nat->Option FS
  | [],_ => none
  | s :: l,g => if g=s.g then some s.fs else Xll l g
@[go_sem] def XqX{P:Program}[HasTb P](g:Nat):Xll ([]:List (SP P)) g=none :=nr rfl
@[go_sem] def Xqo{P:Program}[HasTb P](s:SP P)(l:List (SP P))(g:Nat):Xll (s :: l) g=if g=s.g then some s.fs else Xll l g :=nr rfl
def Xjv{P:Program}[HasTb P]:∀(l:List (SP P)) (g:Nat) (fs:FS),Xll l g=some fs->QF P g fs
  | [],g,fs,h => by cases h
  | s :: l,g,fs,h => by
    simp only[Xll] at h
    split at h
    · rename_i hg
      injection h with h
      subst h hg
      exact s.ok
    · exact Xjv l g fs h
def asc{α:Type}:List (Nat×α)->Nat->Option α
  | [],_ => none
  | (k,a) :: l,n => if n=k then some a else asc l n
@[go_sem] def XrI{α:Type}(n:Nat):asc ([]:List (Nat×α)) n=none :=nr rfl
@[go_sem] def XqY{α:Type}(k:Nat)(a:α)(l:List (Nat×α))(n:Nat):asc ((k,a) :: l) n=if n=k then some a else asc l n :=nr rfl
def Xnv{α:Type}:List (Nat×List α)->Nat->List α
  | [],_ => []
  | (k,a) :: l,n => if n=k then a else Xnv l n
@[go_sem] def XqZ{α:Type}(n:Nat):Xnv ([]:List (Nat×List α)) n=[] :=nr rfl
@[go_sem] def Xqp{α:Type}(k:Nat)(a:List α)(l:List (Nat×List α))(n:Nat):Xnv ((k,a) :: l) n=if n=k then a else Xnv l n :=nr rfl
abbrev LV :=List (Nat×List Nat×List Nat)
structure FD where
  md:List Md
  wk:Bool :=false
  rg:LV :=[]
  lv:LV :=[]
  out:LV :=[]
  rets:Option (List Nat×List Nat) :=none
  al:List Nat :=[]
  plan:List (Nat×Xdh) :=[]
  fz:List Nat :=[]
  nz:Bool :=false
  ws:List (Nat×List (Bool×Nat×Nat)) :=[]
structure Xnw (P:Program) where
  T:TypeId->Option TI
  Q:TypeId->Option (List Nat)
  ok:∀cx:Cx,cx.T=T->cx.eqs=Q->XeQ P cx
  wide:P.follows .mixedOrders=true
def Xot{P:Program}[HasTb P](ty:Xnw P)(tab:List (SP P))(d:FD)(n:Nat):Cx :=
  {T :=ty.T,fns :=Xll tab,cuts :=λ_ => [],rg :=asc d.rg,live :=asc d.lv,out :=asc d.out,rets :=d.rets,al :=d.al,plan :=asc d.plan,fz :=d.fz,eqs :=ty.Q,rounds :=n,nz :=d.nz,ws :=Xnv d.ws}
def XrJ(md:List Md)(j:Nat):Bool :=match md[j]? with
  | some m => !ZS m
  | none => false
def ckS{P:Program}[HasTb P](ty:Xnw P)(tab:List (SP P))(d:FD)(f:Func):Bool :=match f.body with
  | some c => (!(f.name == "runtime.NumGoroutine")) && Zr (Xot ty tab d 0) (XrJ d.md) f.ntmps c && decide (d.md.length <= f.ntmps) && Xp6 d.md
  | none => false
def Xqq{P:Program}[HasTb P](ty:Xnw P)(g:Nat)(f:Func)(tab:List (SP P))(d:FD)(hf:P.funcs[g]?=some f)(hk:ckS ty tab d f=true):QF P g ⟨d.md,FR (Xot ty tab d 0) d.md d.wk f,d.wk⟩ :=by
  unfold ckS at hk
  cases hb:f.body with
  | none => rw[hb] at hk; cases hk
  | some c =>
    rw[hb] at hk
    simp only[Bool.and_eq_true,Bool.not_eq_true',decide_eq_true_eq] at hk
    obtain⟨⟨⟨h1,h2⟩,h3⟩,h4⟩ :=hk
    refine Xmv (cx :=Xot ty tab d 0) (c :=c) ty.wide (ty.ok _ rfl rfl) (Xjv tab) hf h1 hb (XrJ d.md) (λj m hj hm => ?_) h2 h3 h4 (λas r os h _ _ => ?_) (λhw as r os h => ?_)
    · simp only[XrJ,hj,hm,Bool.not_false]
    · obtain⟨n,h5,_⟩ :=XlT h
      exact⟨n,h5⟩
    · obtain⟨n,_,h6⟩ :=XlT h
      have hw':d.wk=false :=hw
      simp only[Y6,hw',Bool.false_or,Bool.and_eq_true,Bool.not_eq_true',List.all_eq_true] at h6
      exact⟨h6.1,λo ho => by simpa using h6.2 o ho⟩
noncomputable def mkS{P:Program}[HasTb P](ty:Xnw P)(g:Nat)(f:Func)(tab:List (SP P))(d:FD)(hf:P.funcs[g]?=some f)(hk:ckS ty tab d f=true):SP P :=⟨g,⟨d.md,FR (Xot ty tab d 0) d.md d.wk f,d.wk⟩,Xqq ty g f tab d hf hk⟩
def Xd{P:Program}[HasTb P]{ty:Xnw P}{f:Func}{tab:List (SP P)}{d:FD}{as:List AV}{r:AV}{os:List AV}{c:Code}{rv:List ResultVar}(n:Nat)(hb:f.body=some c)(hr:f.results=rv.toArray)
    (h:∀cx:Cx,(cx.T=ty.T/\cx.fns=Xll tab/\cx.rg=asc d.rg/\cx.live=asc d.lv/\cx.out=asc d.out/\cx.rets=d.rets/\cx.al=d.al/\cx.plan=asc d.plan/\cx.fz=d.fz/\cx.eqs=ty.Q/\cx.rounds=n/\cx.ws=Xnv d.ws/\∀k,cx.cuts k=[])->XjI cx d.md rv (Xs cx 0 c (Xab d.md as))=some (r,os)) (hw:Y6 d.wk r os=true) (hz:d.nz=false :=by rfl):FR (Xot ty tab d 0) d.md d.wk f as=some (r,os) :=by
  refine Xqn (n :=n) ?_ hw
  rw[Xi5 _ _ f _ c rv hb hr hz]
  exact h _ ⟨rfl,rfl,rfl,rfl,rfl,rfl,rfl,rfl,rfl,rfl,rfl,rfl,λ_ => rfl⟩
def XbR{P:Program}[HasTb P]{ty:Xnw P}{f:Func}{tab:List (SP P)}{d:FD}{as:List AV}{r:AV}{os:List AV}{c:Code}{rv:List ResultVar}(n:Nat)(hb:f.body=some c)(hr:f.results=rv.toArray)
    (h:∀cx:Cx,(cx.T=ty.T/\cx.fns=Xll tab/\cx.rg=asc d.rg/\cx.live=asc d.lv/\cx.out=asc d.out/\cx.rets=d.rets/\cx.al=d.al/\cx.plan=asc d.plan/\cx.fz=d.fz/\cx.eqs=ty.Q/\cx.rounds=n/\cx.ws=Xnv d.ws/\∀k,cx.cuts k=[])->XjI cx d.md rv (evN cx c (λs => some (.nor,s)) (Xab d.md as))=some (r,os)) (hw:Y6 d.wk r os=true) (hz:d.nz=true :=by rfl):FR (Xot ty tab d 0) d.md d.wk f as=some (r,os) :=by
  refine Xqn (n :=n) ?_ hw
  rw[Xhx _ _ f _ c rv hb hr hz]
  exact h _ ⟨rfl,rfl,rfl,rfl,rfl,rfl,rfl,rfl,rfl,rfl,rfl,rfl,λ_ => rfl⟩
def Xaq:Code->List Code
  | .loop c => c :: Xaq c
  | .seq a b => Xaq a++Xaq b
  | .cond _ a b => Xaq a++Xaq b
  | .block _ c => Xaq c
  | _ => []
def Yl(f:Func)(i:Nat):Code :=match f.body with
  | some b => ((Xaq b)[i]?).getD .skip
  | none => .skip
def Xn(f:Func)(i:Nat)(b c:Code)(hb:f.body=some b)(hl:(Xaq b)[i]?=some c):Yl f i=c :=by simp only[Yl,hb,hl,Option.getD_some]
def Xev{σ:Type}{cx:Cx}{blk:Nat}{body:Code}(S:σ->St)(I:σ->Prop)(μ:σ->Nat)(Q:σ->Option (Ex×St)->Prop)
    (h:∀s,I s->(∀G,Q s (Xa4 (Xs cx blk body (S s)) G))\/∃st' s',keep (cx.live blk) st'=S s'/\I s'/\μ s'<μ s/\(∀r,Q s' r->Q s r)/\∀G,Xa4 (Xs cx blk body (S s)) G=G st') :
    ∀(N:Nat) (s:σ),I s->μ s<N->∀st,keep (cx.live blk) st=S s->Q s (Qw cx blk body N st) :=by
  intro N
  induction N with
  | zero => intro s hI hN; omega
  | succ N ih =>
    intro s hI hN st hst
    rw[Zy,hst]
    rcases h s hI with h1 | ⟨st',s',h1,h2,h3,h4,h5⟩
    · exact h1 _
    · rw[h5]
      exact h4 _ (ih s' h2 (by omega) st' h1)
def Xad{α σ:Type}(c:α->σ->Bool)(g:α->σ->σ):List α->σ->σ⊕(α×σ)
  | [],s => .inl s
  | x :: xs,s => if c x s=true then .inr (x,s) else Xad c g xs (g x s)
def YO{α σ:Type}(c:α->σ->Bool)(g:α->σ->σ)(x:α)(xs:List α)(s:σ):Xad c g (x :: xs) s=if c x s=true then .inr (x,s) else Xad c g xs (g x s) :=rfl
def Xfp{α σ:Type}(g:α->σ->σ):∀(xs:List α) (s:σ),Xad (λ_ _ => false) g xs s=.inl (xs.foldl (λs x => g x s) s)
  | [],s => rfl
  | x :: xs,s => by simp only[Xad,Bool.false_eq_true,if_false,List.foldl_cons]; exact Xfp g xs _
def Zx{α σ:Type}{cx:Cx}{blk:Nat}{body:Code}(xs:List α)(S:Nat->σ->St)(X:σ->St)(c:α->σ->Bool)(g:α->σ->σ)(R:α->σ->Ex×St)(I:Nat->σ->Prop)
    (hend:∀s,I xs.length s->∀G,Xa4 (Xs cx blk body (S xs.length s)) G=some (.ex blk,X s))
    (hstep:∀k (hk:k<xs.length) s,I k s->(c xs[k] s=true/\∀G,Xa4 (Xs cx blk body (S k s)) G=some (R xs[k] s))\/(c xs[k] s=false/\I (k+1) (g xs[k] s)/\∃st',(∀G,Xa4 (Xs cx blk body (S k s)) G=G st')/\keep (cx.live blk) st'=S (k+1) (g xs[k] s)))
    (s:σ) (hI:I 0 s) (N:Nat) (hN:xs.length+1<=N) :
    ∃r,(∀st,keep (cx.live blk) st=S 0 s->Qw cx blk body N st=r)/\((∃s',Xad c g xs s=.inl s'/\I xs.length s'/\r=some (.ex blk,X s'))\/∃x s',Xad c g xs s=.inr (x,s')/\r=some (R x s')) :=by
  obtain⟨M,rfl⟩:∃M,N=M+1 :=⟨N-1,by omega⟩
  have key:∀(k:Nat) (s:σ) (M:Nat),k<=xs.length->I k s->xs.length-k<=M->(∃s',Xad c g (xs.drop k) s=.inl s'/\I xs.length s'/\Xa4 (Xs cx blk body (S k s)) (λs => Qw cx blk body M s)=some (.ex blk,X s'))\/∃x s',Xad c g (xs.drop k) s=.inr (x,s')/\Xa4 (Xs cx blk body (S k s)) (λs => Qw cx blk body M s)=some (R x s') :=by
    intro k s M
    induction M generalizing k s with
    | zero =>
      intro hk hI hM
      obtain rfl:k=xs.length :=by omega
      exact .inl ⟨s,by rw[List.drop_length]; rfl,hI,hend s hI _⟩
    | succ M ih =>
      intro hk hI hM
      by_cases he:k=xs.length
      · subst he
        exact .inl ⟨s,by rw[List.drop_length]; rfl,hI,hend s hI _⟩
      · have hlt:k<xs.length :=by omega
        rcases hstep k hlt s hI with⟨h1,h2⟩ | ⟨h1,h2,st',h4,h3⟩
        · exact .inr ⟨xs[k],s,by rw[List.drop_eq_getElem_cons hlt,YO,if_pos h1],h2 _⟩
        · rw[h4,Zy,h3,List.drop_eq_getElem_cons hlt,YO,if_neg (by simp[h1])]
          exact ih (k+1) _ (by omega) h2 (by omega)
  exact⟨_,λst hst => by rw[Zy,hst],key 0 s M (Nat.zero_le _) hI (by omega)⟩
def XY{α σ:Type}{cx:Cx}{blk:Nat}{body:Code}(xs:List α)(S:Nat->σ->St)(X:σ->St)(g:α->σ->σ)(I:Nat->σ->Prop)
    (hend:∀s,I xs.length s->∀G,Xa4 (Xs cx blk body (S xs.length s)) G=some (.ex blk,X s))
    (hstep:∀k (hk:k<xs.length) s,I k s->I (k+1) (g xs[k] s)/\∃st',(∀G,Xa4 (Xs cx blk body (S k s)) G=G st')/\keep (cx.live blk) st'=S (k+1) (g xs[k] s))
    (s:σ) (hI:I 0 s) (N:Nat) (hN:xs.length+1<=N) :
    I xs.length (xs.foldl (λs x => g x s) s)/\∀st,keep (cx.live blk) st=S 0 s->Qw cx blk body N st=some (.ex blk,X (xs.foldl (λs x => g x s) s)) :=by
  obtain⟨r,h1,h⟩ :=Zx (cx :=cx) (blk :=blk) (body :=body) xs S X (λ_ _ => false) g (λ_ s => (.ret,X s)) I hend (λk hk s hI => .inr ⟨rfl,hstep k hk s hI⟩) s hI N hN
  rw[Xfp] at h
  rcases h with⟨s',h2,h3,h4⟩ | ⟨x,s',h2,h3⟩
  · injection h2 with h2
    subst h2
    exact⟨h3,λst hst => by rw[h1 st hst,h4]⟩
  · cases h2
def Yj{α σ:Type}{cx:Cx}{blk:Nat}{body:Code}(xs:List α)(S:Nat->σ->St)(X:σ->St)(c:α->σ->Bool)(g:α->σ->σ)(R:α->σ->Ex×St)(I:Nat->σ->Prop)
    (hend:∀s,I xs.length s->∀G,Xa4 (Xs cx blk body (S xs.length s)) G=some (.ex blk,X s))
    (hstep:∀k (hk:k<xs.length) s,I k s->∃(C:Prop) (_:Decidable C) (st':St),(∀G,Xa4 (Xs cx blk body (S k s)) G=if C then some (R xs[k] s) else G st')/\(C↔c xs[k] s=true)/\(c xs[k] s=false->I (k+1) (g xs[k] s)/\keep (cx.live blk) st'=S (k+1) (g xs[k] s)))
    (s:σ) (hI:I 0 s) (N:Nat) (hN:xs.length+1<=N) :
    ∃r,(∀st,keep (cx.live blk) st=S 0 s->Qw cx blk body N st=r)/\((∃s',Xad c g xs s=.inl s'/\I xs.length s'/\r=some (.ex blk,X s'))\/∃x s',Xad c g xs s=.inr (x,s')/\r=some (R x s')) :=by
  refine Zx xs S X c g R I hend (λk hk s hI => ?_) s hI N hN
  obtain⟨C,_,st',h1,h2,h3⟩ :=hstep k hk s hI
  cases hc:c xs[k] s with
  | true => exact .inl ⟨rfl,λG => (h1 G).trans (if_pos (h2.2 hc))⟩
  | false =>
    obtain⟨h4,h5⟩ :=h3 hc
    exact .inr ⟨rfl,h4,st',λG => (h1 G).trans (if_neg (λhC => by rw[h2.1 hC] at hc; cases hc)),h5⟩
def runS_any{α:Type}{p:α->Bool}:∀{xs:List α} {u u':Unit},Xad (λx _ => p x) (λ_ _ => ()) xs u=.inl u'->xs.any p=false
  | [],_,_,_ => rfl
  | x :: xs,u,u',h => by
    rw[YO] at h
    split at h
    · cases h
    · rename_i hc
      rw[List.any_cons,runS_any h]
      simpa using hc
def Xh4{α:Type}(p:α->Bool):List α->Nat->Int
  | [],_ => -1
  | x :: xs,k => if p x=true then(k:Int) else Xh4 p xs (k+1)
def Xcr{α:Type}{p:α->Bool}:∀{xs:List α} {k k':Nat},Xad (λx _ => p x) (λ_ k => k+1) xs k=.inl k'->Xh4 p xs k =-1
  | [],_,_,_ => rfl
  | x :: xs,k,k',h => by
    rw[YO] at h
    split at h
    · cases h
    · rename_i hc
      rw[Xh4,if_neg hc,Xcr h]
def Xbp{α:Type}{p:α->Bool}:∀{xs:List α} {k:Nat} {q:α×Nat},Xad (λx _ => p x) (λ_ k => k+1) xs k=.inr q->Xh4 p xs k=(q.2:Int)
  | [],_,_,h => by cases h
  | x :: xs,k,q,h => by
    rw[YO] at h
    split at h
    · rename_i hc
      injection h with h
      subst h
      rw[Xh4,if_pos hc]
    · rename_i hc
      rw[Xh4,if_neg hc,Xbp h]
def Xbq{α:Type}{p:α->Bool}:∀(xs:List α) (k:Nat),decide (0<=Xh4 p xs k)=xs.any p
  | [],_ => by simp[Xh4]
  | x :: xs,k => by
    rw[Xh4,List.any_cons]
    cases hc:p x with
    | true => simp
    | false => simpa using Xbq xs (k+1)
end Go.Vm
set_option autoImplicit false
namespace Go.Vm
@[go_sem] def XEW:((0:Nat):Int)=0 :=nr rfl
@[go_sem] def XEX:((1:Nat):Int)=1 :=nr rfl
def map_gdA{α:Type}(f:α->AV)(xs:List α)(k:Nat)(h:k<xs.length):(xs.map f).getD k .u=f xs[k] :=by simp[List.getD,h]
@[go_sem] def Xou:Xg8 .nilFunc=.u :=nr rfl
def Xc{k:Int}(h0:-9223372036854775808<=k)(h:k<=9223372036854775807):(IntKind.i64).wrap k=k :=by
  simp[IntKind.wrap,IntKind.bits,IntKind.signed]
  omega
def Xe{k:Nat}(h:k<9223372036854775807):(IntKind.i64).wrap ((k:Int)+1)=((k+1:Nat):Int) :=by
  rw[Xc (by omega) (by omega)]; rfl
def Xp(n k:Nat)(h:k<n):Z2 n (k:Int)=some k :=by
  simp only[Z2]
  rw[if_pos ⟨by omega,by omega⟩]; rfl
def XP{α:Type}(f:α->List AV)(xs:List α)(k:Nat)(h:k<xs.length):(xs.map f).getD k []=f xs[k] :=by simp[List.getD,h]
def Xfq{α:Type}(f:α->List AV)(xs:List α)(k:Nat)(h:k<xs.length):(xs.map f)[k]?=some (f xs[k]) :=by simp[h]
@[go_sem] def Xqr{α:Type}(f:α->List AV)(xs:List α):(xs.map f).take xs.length=xs.map f :=by
  have :=List.take_length (l :=xs.map f)
  rwa [List.length_map] at this
noncomputable def eqv{α:Type}(a b:α):Bool :=open Classical in decide (a=b)
def Ys{α:Type}{a b:α}:eqv a b=true↔a=b :=by simp[eqv]
def Xbr{α:Type}(a:α):eqv a a=true :=by simp[eqv]
def ZI{α:Type}{p:Bool}{a b:α}(h:p=true↔a=b):p=eqv a b :=by
  cases p with
  | true => exact(Ys.2 (h.1 rfl)).symm
  | false =>
    cases he:eqv a b with
    | false => rfl
    | true => exact absurd (h.2 (Ys.1 he)) (by simp)
def ZA(a b:Int):(a==b)=eqv a b :=ZI (by simp)
def YI(a b:Int):(a !=b)=!eqv a b :=by rw[bne,ZA]
def Y2(a b:Bool):(a==b)=eqv a b :=ZI (by simp)
def X9(a b:Bool):(a !=b)=!eqv a b :=by rw[bne,Y2]
def XgX(a b:UInt8):((a.toNat:Int) !=(b.toNat:Int))=!eqv a b :=by
  rw[bne,ZI (p :=((a.toNat:Int)==(b.toNat:Int))) (a :=a) (b :=b)]
  simp only[beq_iff_eq,Int.ofNat_inj]
  exact UInt8.toNat_inj
def ba_ext{a b:ByteArray}(h:a.toList=b.toList):a=b :=by
  rw[ByteArray.toList_eq,ByteArray.toList_eq] at h
  cases a; cases b
  simp only[ByteArray.mk.injEq] at h ⊢
  exact Array.ext' h
def X8(a b:ByteArray):(a.toList==b.toList)=eqv a b :=ZI (by
  constructor
  · intro h; exact ba_ext (by simpa using h)
  · rintro rfl; simp)
def XdU:∀xs:List UInt8,XcG (xs.map λb => [.i .u8 b.toNat])=some xs
  | [] => rfl
  | x :: xs => by
    simp only[List.map_cons,XcG,XdU xs,Int.toNat_natCast,UInt8.ofNat_toNat]
@[go_sem] def Xq0(o:Oper)(a b:List Oper):UK (List.append (o :: a) b) 0=some o :=nr rfl
@[go_sem] def Xq1(o:Oper)(a b:List Oper)(n:Nat):UK (List.append (o :: a) b) (n+1)=UK (List.append a b) n :=nr rfl
@[go_sem] def Xq2(b:List Oper)(n:Nat):UK (List.append [] b) n=UK b n :=nr rfl
@[go_sem] def Xq3(o:Oper)(a b:List Oper):Ux (List.append (o :: a) b) 0=o.dst :=nr rfl
@[go_sem] def Xq4(o:Oper)(a b:List Oper)(n:Nat):Ux (List.append (o :: a) b) (n+1)=Ux (List.append a b) n :=nr rfl
@[go_sem] def Xq5(b:List Oper)(n:Nat):Ux (List.append [] b) n=Ux b n :=nr rfl
@[go_sem] def Xov(cx:Cx)(ops:List Oper)(cs:List (Option (List Nat)))(st:St)(o:Oper)(a b:List Oper):X2 cx ops cs st (List.append (o :: a) b)=X2 cx ops cs st (o :: List.append a b) :=nr rfl
@[go_sem] def Xow(cx:Cx)(ops:List Oper)(cs:List (Option (List Nat)))(st:St)(b:List Oper):X2 cx ops cs st (List.append [] b)=X2 cx ops cs st b :=nr rfl
def Xfr{α:Type}(p:α->Prop)(xs:List α):Prop :=∀x∈xs,p x
@[go_sem] def XrK{α β γ:Type}(f:β->γ)(g:α->β)(xs:List α):List.take xs.length ((xs.map g).map f)=(xs.map g).map f :=List.take_of_length_le (by simp)
end Go.Vm
set_option autoImplicit false
namespace Go.Vm
open Go.ChangeShapes Go.WideShapes
inductive Sh
  | b | i (k:IntKind) | s | sl (r:List Sh)
def Xq6(g:TypeId->Option (List Sh))(P:Program):List Field->Nat->Option (List Sh)
  | [],_ => some []
  | f :: r,off => match g f.type with
    | some q => if f.offset=off/\P.cellsOf f.type=q.length then(match Xq6 g P r (off+q.length) with
      | some l => some (q++l)
      | none => none) else none
    | none => none
def Xox(P:Program):Nat->TypeId->Option (List Sh)
  | 0,_ => none
  | n+1,t => match P.underlying t with
    | some .bool => some [.b]
    | some (.int k) => some [.i k]
    | some .string => some [.s]
    | some (.slice e) => match Xox P n e with
      | some (x :: r) => if P.cellsOf e=(x :: r).length then some [.sl (x :: r)] else none
      | _ => none
    | some (.struct fs) => match Xq6 (Xox P n) P fs.toList 0 with
      | some l => if P.cellsOf t=l.length then some l else none
      | none => none
    | _ => none
inductive XfG:Sh->AV->Prop
  | b {x:Bool}:XfG .b (.b x)
  | i {k:IntKind} {n:Int} (h:(Lit.int k n).wf=true):XfG (.i k) (.i k n)
  | s {x:ByteArray} (h:x.size<=maxLen):XfG .s (.s x)
  | sl {r:List Sh} {es:List (List AV)} (hl:es.length<=maxLen) (hz:∀row∈es,row.length=r.length) (h:∀row∈es,∀(j:Nat) (sh:Sh) (a:AV),r[j]?=some sh->row[j]?=some a->XfG sh a):XfG (.sl r) (.sl .ro r.length es)
def Xc6(r:List Sh)(row:List AV):Prop :=row.length=r.length/\∀(j:Nat) (sh:Sh) (a:AV),r[j]?=some sh->row[j]?=some a->XfG sh a
def XjK(w:World):CS :=λg k => ∃v,XJ w g k=some v
def Xnx{w:World}{g k:Nat}(h:XjK w g k):g<w.heap.size :=by
  obtain⟨v,hv⟩ :=h
  exact World.block_lt_of_cell? w ⟨g,k,none⟩ hv
def Xbs(w:World)(shs:List Sh)(cs:List Value)(as:List AV):Prop :=cs.length=shs.length/\Xc6 shs as/\∀(j:Nat) (v:Value) (a:AV),cs[j]?=some v->as[j]?=some a->Rep w (XjK w) v a nos
def Xbs.one{w:World}{sh:Sh}{v:Value}{a:AV}(h:XfG sh a)(hr:Rep w (XjK w) v a nos):Xbs w [sh] [v] [a] :=by
  refine⟨rfl,⟨rfl,λj q b hs hb => ?_⟩,λj u b hu hb => ?_⟩
  · rcases j with _ | j
    · simp only[List.getElem?_cons_zero,Option.some.injEq] at hs hb; subst hs hb; exact h
    · simp at hs
  · rcases j with _ | j
    · simp only[List.getElem?_cons_zero,Option.some.injEq] at hu hb; subst hu hb; exact hr
    · simp at hu
def Xcb{α:Type}{l r:List α}{j:Nat}{x:α}(h:(l++r)[j]?=some x):l[j]?=some x\/(l.length<=j/\r[j-l.length]?=some x) :=by
  by_cases hj:j<l.length
  · rw[List.getElem?_append_left hj] at h; exact .inl h
  · rw[List.getElem?_append_right (by omega)] at h; exact .inr ⟨by omega,h⟩
def Xbs.app{w:World}{s1 s2:List Sh}{c1 c2:List Value}{a1 a2:List AV}(h1:Xbs w s1 c1 a1)(h2:Xbs w s2 c2 a2):Xbs w (s1++s2) (c1++c2) (a1++a2) :=by
  obtain⟨l1,⟨m1,p1⟩,q1⟩ :=h1
  obtain⟨l2,⟨m2,p2⟩,q2⟩ :=h2
  refine⟨by simp[l1,l2],⟨by simp[m1,m2],λj q a hs ha => ?_⟩,λj v a hv ha => ?_⟩
  · rcases Xcb hs with hs | ⟨h0,hs⟩
    · have hlt :=(List.getElem?_eq_some_iff.1 hs).1
      rw[List.getElem?_append_left (by omega)] at ha
      exact p1 j q a hs ha
    · rw[List.getElem?_append_right (by omega),m1] at ha
      exact p2 _ q a hs ha
  · rcases Xcb hv with hv | ⟨h0,hv⟩
    · have hlt :=(List.getElem?_eq_some_iff.1 hv).1
      rw[List.getElem?_append_left (by omega)] at ha
      exact q1 j v a hv ha
    · rw[List.getElem?_append_right (by omega),m1,<-l1] at ha
      exact q2 _ v a hv ha
def Xqs{a:Addr}(h:a.spot=none)(n:Nat):a.add n=⟨a.block,a.off+n,none⟩ :=by
  unfold Addr.add
  split
  · rename_i h0; subst h0; cases a; simp only at h; subst h; rfl
  · cases a; rfl
section
variable {H : Type} {enc : TypeId × Value -> H} {P : Program} {w : World}
def XhQ(n:Nat):∀{fuel:Nat} {t:TypeId} {cs:List Value} {x:DataW H×List MemPlace} {shs:List Sh},DataW.trod enc P w 0 (λ_ => true) true fuel t cs=some x->Xox P n t=some shs->∃as,Xbs w shs cs as :=by
  induction n with
  | zero => intro fuel t cs x shs _ h; cases h
  | succ n ih =>
    intro fuel t cs x shs ht hs
    unfold Xox at hs
    split at hs
    · rename_i hu
      injection hs with hs; subst hs
      obtain⟨b,rfl,_⟩ :=DataW.trod_bool hu ht
      exact⟨_,Xbs.one .b .b⟩
    · rename_i k hu
      injection hs with hs; subst hs
      obtain⟨m,rfl,_,hwf⟩ :=DataW.trod_int hu ht
      exact⟨_,Xbs.one (.i hwf) .i⟩
    · rename_i hu
      injection hs with hs; subst hs
      obtain⟨s,rfl,_,hsz⟩ :=DataW.trod_string hu ht
      exact⟨_,Xbs.one (.s hsz) .s⟩
    · rename_i e hu
      split at hs
      · rename_i x0 r hr
        split at hs
        · rename_i hce
          injection hs with hs; subst hs
          rcases Go.Deep.open_slice hu ht with⟨rfl,_⟩ | ⟨a,len,cap,m,n',D,Pl,rfl,_,hl,hm,hmm,_,hi⟩
          · refine⟨_,Xbs.one (.sl (es :=[]) (Nat.zero_le _) (λ_ h => by cases h) (λ_ h => by cases h)) ?_⟩
            exact .sl 0 0 (λ_ _ => undef) (λ_ _ => nos) rfl (Nat.le_refl _) (by simp) (λh => absurd h (by omega)) (λi row hi => by simp at hi) (λi row j a hi => by simp at hi) (λi row j a hi => by simp at hi)
              ⟨(λe => by cases e),(λe => by cases e),(λe => absurd rfl e),λ_ k hk => absurd hk (by simp)⟩ (λ_ _ => XB _) (λ_ _ _ _ _ => Xg _) (λe => by cases e) (λ_ _ _ => rfl)
          · simp only[if_true] at hmm
            subst hmm
            generalize hzz:(x0 :: r).length=z at hce
            have hz0:0<z :=by rw[<-hzz]; simp
            rw[hce] at hi
            have hsp:0<m->a.spot=none :=by
              intro h0
              obtain⟨cs',h1,_⟩ :=hi 0 h0
              obtain⟨_,h3,h4⟩ :=World.cells?_some h1
              have :=h4 0 hz0
              rw[List.getElem?_eq_getElem (by omega),Nat.zero_mul] at this
              unfold World.cell? at this
              simp only[Addr.add,if_true] at this
              split at this
              · cases hs:a.spot with
                | none => rfl
                | some q => rw[hs] at this; simp at this
              · cases this
            have hrow:∀i,i<len->∃p:List Value×List AV,(∀j,j<z->XJ w a.block (a.off+(i*z+j))=p.1[j]?)/\Xbs w (x0 :: r) p.1 p.2 :=by
              intro i hil
              obtain⟨cs',h1,h2⟩ :=hi i (by omega)
              obtain⟨as,h3⟩ :=ih h2 hr
              obtain⟨_,_,h6⟩ :=World.cells?_some h1
              refine⟨(cs',as),λj hj => ?_,h3⟩
              have :=h6 j hj
              rw[Go.Deep.add_add,Xqs (hsp (by omega))] at this
              exact this
            obtain⟨f,hf⟩ :=Go.Deep.choose_lt hrow
            let es:List (List AV) :=(List.range len).map λi => (f i).2
            have hes:∀(i:Nat) (row:List AV),es[i]?=some row->i<len/\row=(f i).2 :=by
              intro i row h
              have hlt:i<len :=Decidable.byContradiction λhn => by
                rw[List.getElem?_eq_none (by simp only[es,List.length_map,List.length_range]; omega)] at h
                cases h
              simp only[es,List.getElem?_map,List.getElem?_range hlt,Option.map_some,Option.some.injEq] at h
              exact⟨hlt,h.symm⟩
            have hmem:∀row∈es,∃i,i<len/\row=(f i).2 :=by
              intro row h
              obtain⟨i,h⟩ :=List.getElem?_of_mem h
              exact⟨i,hes i row h⟩
            have hcell:∀i j,i<len->j<z->XJ w a.block (a.off+(i*z+j))=some ((f i).1.getD j undef) :=by
              intro i j h1 h2
              obtain⟨q1,q2,_⟩ :=hf i h1
              rw[q1 j h2,List.getD_eq_getElem?_getD,List.getElem?_eq_getElem (by rw[q2,hzz]; exact h2)]
              rfl
            refine⟨_,Xbs.one (.sl (es :=es) (by simp only[es,List.length_map,List.length_range]; omega) (λrow h => ?_) (λrow h => ?_)) ?_⟩
            · obtain⟨i,h1,rfl⟩ :=hmem row h
              exact(hf i h1).2.2.1.1
            · obtain⟨i,h1,rfl⟩ :=hmem row h
              exact(hf i h1).2.2.1.2
            · rw[hzz]
              have hM:maxLen=9223372036854775807 :=rfl
              refine .sl a.block a.off (λi j => (f i).1.getD j undef) (λ_ _ => nos) (by simp[es]) hl (by omega) (λh0 => ?_) (λi row h => ?_) (λi row j b h hj => ?_) (λi row j b h hj => ?_)
                ⟨(λe => by cases e),(λe => by cases e),(λe => absurd rfl e),λ_ k hk => ?_⟩ (λ_ _ => XB _) (λ_ _ _ _ _ => Xg _) (λe => by cases e) (λ_ _ _ => rfl)
              · have :=hsp h0
                cases a; simp only at this; subst this; rfl
              · obtain⟨h1,rfl⟩ :=hes i row h
                rw[<-hzz]; exact(hf i h1).2.2.1.1
              · obtain⟨h1,rfl⟩ :=hes i row h
                have hlt :=(List.getElem?_eq_some_iff.1 hj).1
                rw[(hf i h1).2.2.1.1,hzz] at hlt
                exact hcell i j h1 hlt
              · obtain⟨h1,rfl⟩ :=hes i row h
                have hlt :=(List.getElem?_eq_some_iff.1 hj).1
                obtain⟨_,q2,q3,q4⟩ :=hf i h1
                rw[q3.1] at hlt
                refine q4 j _ b ?_ hj
                rw[List.getD_eq_getElem?_getD,List.getElem?_eq_getElem (by rw[q2]; exact hlt)]
                rfl
              · have h1:k / z<len :=by rw[Nat.div_lt_iff_lt_mul hz0]; exact hk
                have h2:k%z<z :=Nat.mod_lt _ hz0
                have :=hcell (k / z) (k%z) h1 h2
                rw[Nat.mul_comm,Nat.div_add_mod] at this
                exact⟨_,this⟩
        · cases hs
      · cases hs
    · rename_i fs hu
      obtain⟨xs,n',rfl,_,hlen,hxl,hi⟩ :=DataW.trod_struct hu ht
      split at hs
      · rename_i l hl
        split at hs
        · rename_i hcl
          injection hs with hs; subst hs
          have key:∀(fl:List Field) (off:Nat) (l:List Sh),Xq6 (Xox P n) P fl off=some l->(∀f∈fl,∃y,DataW.trod enc P w 0 (λ_ => true) true n' f.type ((cs.drop f.offset).take (P.cellsOf f.type))=some y)->∃as,Xbs w l ((cs.drop off).take l.length) as :=by
            intro fl
            induction fl with
            | nil =>
              intro off l h _
              injection h with h; subst h
              exact⟨[],by simp,⟨rfl,λj q a h => by simp at h⟩,λj v a h => by simp at h⟩
            | cons f fl ihf =>
              intro off l h hy
              unfold Xq6 at h
              split at h
              · rename_i s hfs
                split at h
                · rename_i hc
                  obtain⟨rfl,hc2⟩ :=hc
                  split at h
                  · rename_i l' hl'
                    injection h with h; subst h
                    obtain⟨y,hyy⟩ :=hy f (by simp)
                    obtain⟨a1,h1⟩ :=ih hyy hfs
                    obtain⟨a2,h2⟩ :=ihf _ _ hl' (λg hg => hy g (by simp[hg]))
                    refine⟨a1++a2,?_⟩
                    have e:(cs.drop f.offset).take (s++l').length=(cs.drop f.offset).take (P.cellsOf f.type)++(cs.drop (f.offset+s.length)).take l'.length :=by
                      rw[List.length_append,List.take_add,List.drop_drop,hc2]
                    rw[e]
                    exact h1.app h2
                  · cases h
                · cases h
              · cases h
          obtain⟨as,h⟩ :=key fs.toList 0 l hl (λf hf => by
            obtain⟨i,hi'⟩ :=List.getElem?_of_mem hf
            have hi2:fs[i]?=some f :=by simpa using hi'
            have :=hi i f hi2
            have hlt:i<fs.size :=(Array.getElem?_eq_some_iff.1 hi2).1
            rw[List.getElem?_eq_getElem (by omega)] at this
            exact⟨_,this⟩)
          rw[List.drop_zero,List.take_of_length_le (by omega)] at h
          exact⟨as,h⟩
        · cases hs
      · cases hs
    · cases hs
end
def Xc6.cons{sh:Sh}{r:List Sh}{row:List AV}(h:Xc6 (sh :: r) row):∃a row',row=a :: row'/\XfG sh a/\Xc6 r row' :=by
  obtain⟨h1,h2⟩ :=h
  cases row with
  | nil => simp at h1
  | cons a row => exact⟨a,row,rfl,h2 0 sh a rfl rfl,by simpa using h1,λj q b hs hb => h2 (j+1) q b (by simpa using hs) (by simpa using hb)⟩
def Xc6.nil{row:List AV}(h:Xc6 [] row):row=[] :=List.length_eq_zero_iff.1 h.1
def XfG.bool{a:AV}(h:XfG .b a):∃x:Bool,a=.b x/\True :=by cases h; exact⟨_,rfl,trivial⟩
def XfG.int{a:AV}(h:XfG (.i .i64) a):∃x:Int,a=.i .i64 x/\(-9223372036854775808<=x/\x<=9223372036854775807) :=by
  cases h with
  | i h =>
    refine⟨_,rfl,?_⟩
    simp only[Lit.wf,Bool.and_eq_true,decide_eq_true_eq,IntKind.min,IntKind.max,IntKind.signed,IntKind.bits] at h
    simpa using h
def XfG.str{a:AV}(h:XfG .s a):∃x:ByteArray,a=.s x/\x.size<=9223372036854775807 :=by cases h with | s h => exact⟨_,rfl,h⟩
def XfG.list{α:Type}{r:List Sh}{f:α->List AV}{ok:α->Prop}(hf:∀row,Xc6 r row->∃x,row=f x/\ok x){a:AV}(h:XfG (.sl r) a):∃xs:List α,a=.sl .ro r.length (xs.map f)/\(xs.length<=9223372036854775807/\∀x∈xs,ok x) :=by
  cases h with
  | @sl _ es hl hz h =>
    have key:∀es:List (List AV),(∀row∈es,Xc6 r row)->∃xs:List α,es=xs.map f/\∀x∈xs,ok x :=by
      intro es
      induction es with
      | nil => intro _; exact⟨[],rfl,λ_ h => by cases h⟩
      | cons row es ih =>
        intro hr
        obtain⟨x,rfl,hx⟩ :=hf row (hr row (by simp))
        obtain⟨xs,rfl,hxs⟩ :=ih (λq hq => hr q (by simp[hq]))
        exact⟨x :: xs,rfl,λy hy => (List.mem_cons.1 hy).elim (λe => e▸hx) (hxs y)⟩
    obtain⟨xs,rfl,hxs⟩ :=key es (λrow hr => ⟨hz row hr,h row hr⟩)
    have hM:maxLen=9223372036854775807 :=rfl
    exact⟨xs,rfl,by simp only[List.length_map] at hl; omega,hxs⟩
def Xny(row:List AV)(h:Xc6 [.s] row):∃x:ByteArray,row=[.s x]/\x.size<=9223372036854775807 :=by
  obtain⟨a,_,rfl,h0,h⟩ :=h.cons; obtain rfl :=h.nil; obtain⟨x,rfl,h1⟩ :=h0.str; exact⟨x,rfl,h1⟩
section
variable {H : Type} {enc : TypeId × Value -> H} {P : Program} {w : World}
def Xnz{r:Reach}{base:Nat}{t:TypeId}{v:Value}{d:DataW H}{p:List MemPlace}(n:Nat){fs:Array Field}(hu:P.underlying t=some (.struct fs)){shs:List Sh}(hs:Xox P n t=some shs)(hval:Value.okWide P w r base t v)(hd:DataW.Trod enc P w 0 (λ_ => true) true t v d p) :
    ∃as,Xc6 shs as/\Cl w (XjK w) v (.agg as) nos :=by
  obtain⟨fuel,hf⟩ :=hd
  obtain⟨as,h1⟩ :=XhQ n hf hs
  simp only[Value.okWide,hu] at hval
  obtain⟨cs,rfl,_,_⟩ :=hval
  obtain⟨h0,h2,h3⟩ :=h1
  have h0':cs.toList.length=shs.length :=h0
  refine⟨as,h2,?_⟩
  have:Cl w (XjK w) (.agg cs.toList.toArray) (.agg as) nos :=.agg cs.toList (λ_ => nos) (by rw[h0',h2.1]) (λj v a hv ha => .rep (h3 j v a hv ha)) (λ_ => XB _) (λ_ _ _ => Xg _)
  rwa [Array.toArray_toList] at this
end
def Xlm{w w':World}(h:Vm.Frame w w' nos):Go.RowKit.Below w.heap.size w w' :=by
  refine⟨h.os,h.tape,h.output,h.size,λk hk => ?_⟩
  rcases h.block k hk with h1 | ⟨c,c',e,fr,h1,h2,h3,h4⟩
  · exact h1
  · rw[h1,h2]
    congr 2
    apply Array.ext_getElem?
    intro i
    exact h4 i (λh => h)
def Xln{P:Program}[HasTb P]{g:FuncId}{f:Func}{c:Code}{md:List Md}{F:List AV->Option (AV×List AV)}{wk:Bool}{W:World}{vs:List Value}{xs os:List AV}(hsp:QF P g ⟨md,F,wk⟩)(hro:md.all ZS=true)(hF:F xs=some (.b true,os))(hl1:vs.length=md.length)(hl2:xs.length=md.length)
    (hargs : ∀ (j : Nat) (v : Value) (a : AV), vs[j]? = some v -> xs[j]? = some a -> Cl W (XjK W) v a nos) (hf : P.funcs[g]? = some f) (hname : ¬ f.name = "runtime.NumGoroutine") (hb : f.body = some c) (hT : Tb P (XjK W) W) :
    Calls P g vs.toArray W λe w' => e=.returned (.bool true)/\Go.RowKit.Below W.heap.size W w' :=by
  have h :=hsp W (XjK W) vs xs (λ_ => nos) (.b true) os hF hl1 hl2 (λj m v a hm hv ha => by
    have :=List.all_eq_true.1 hro m (List.mem_of_getElem? hm)
    cases m with
    | ro n => exact hargs j v a hv ha
    | _ => cases this) (λ_ _ _ => Xg _) (λ_ => Xg _) (λ_ _ _ h => h.elim) (λ_ _ h => Xnx h) hT
  rcases h with⟨v,w',h1,_⟩ | ⟨_,h2⟩
  · exfalso
    have:(callFunc g vs.toArray).run P W=.ok (.enter g vs.toArray) W :=by simp[callFunc,hf,hname,hb]
    rw[this] at h1
    cases h1
  · intro cs
    obtain⟨e,w',fr,k1,k2⟩ :=h2 cs
    refine⟨e,w',fr,?_,k2⟩
    cases e with
    | returned v =>
      obtain⟨Im',S,Of,b,_⟩ :=k1
      have hv:v=.bool true :=by
        have :=b.res
        cases this with
        | leaf h => cases h with
          | rep h => cases h; rfl
      exact⟨by rw[hv],Xlm (b.frame.mono (λg k ⟨j,hb⟩ => hb))⟩
    | panicked => exact k1.elim
    | outgrown => exact k1.elim
def Xqt{P:Program}[HasTb P]{s:SP P}{f:Func}{c:Code}{W:World}{vs:List Value}{xs os:List AV}(hF:s.F xs=some (.b true,os))(hro:s.fs.md.all ZS=true)(hl1:vs.length=s.fs.md.length)(hl2:xs.length=s.fs.md.length)
    (hargs : ∀ (j : Nat) (v : Value) (a : AV), vs[j]? = some v -> xs[j]? = some a -> Cl W (XjK W) v a nos) (hf : P.funcs[s.g]? = some f) (hname : ¬ f.name = "runtime.NumGoroutine") (hb : f.body = some c) (hT : Tb P (XjK W) W) :
    Calls P s.g vs.toArray W λe w' => e=.returned (.bool true)/\Go.RowKit.Below W.heap.size W w' :=Xln (md :=s.fs.md) (F :=s.fs.F) (wk :=s.fs.wk) s.ok hro hF hl1 hl2 hargs hf hname hb hT
end Go.Vm
set_option autoImplicit false
namespace Go.Vm
def mkL{α:Type}(f:α->Int->α×Int):List α->Int->List α×Int
  | [],k => ([],k)
  | x :: xs,k => ((f x k).1 :: (mkL f xs (f x k).2).1,(mkL f xs (f x k).2).2)
def Yn{α:Type}{f:α->Int->α×Int}(hf:∀x k,k+1<=(f x k).2):∀(xs:List α) (k:Int),k<=(mkL f xs k).2
  | [],k => Int.le_refl k
  | x :: xs,k => by
    have h1 :=hf x k
    have h2 :=Yn hf xs (f x k).2
    simp only[mkL]; omega
def Xaa{α:Type}{f:α->Int->α×Int}{p:α->Prop}{c:Nat}(hf:∀x k,p x->(f x k).2<=k+c)(xs:List α)(k:Int)(h:xs.length<=1048576/\∀x∈xs,p x):(mkL f xs k).2<=k+(c*1048576:Nat) :=by
  have key:∀(xs:List α) (k:Int),(∀x∈xs,p x)->(mkL f xs k).2<=k+(c*xs.length:Nat) :=by
    intro xs
    induction xs with
    | nil => intro k _; simp[mkL]
    | cons x xs ih =>
      intro k h
      have h1 :=hf x k (h x (by simp))
      have h2 :=ih (f x k).2 (λy hy => h y (by simp[hy]))
      simp only[mkL,List.length_cons]
      rw[Nat.mul_succ]
      omega
  have h1 :=key xs k h.2
  have h2:c*xs.length<=c*1048576 :=Nat.mul_le_mul_left c h.1
  omega
def XU{α:Type}{f:α->Int->α×Int}:∀(xs:List α) (k:Int),(mkL f xs k).1.length=xs.length
  | [],k => rfl
  | x :: xs,k => by simp only[mkL,List.length_cons,XU xs]
def Xcs{α:Type}{f:α->Int->α×Int}:∀(xs:List α) (k:Int) (y:α),mkL f (xs++[y]) k=((mkL f xs k).1++[(f y (mkL f xs k).2).1],(f y (mkL f xs k).2).2)
  | [],k,y => rfl
  | x :: xs,k,y => by simp only[List.cons_append,mkL,Xcs xs,List.cons_append]
def Xgu{α:Type}{f:α->Int->α×Int}:∀(xs ys:List α) (k:Int),mkL f (xs++ys) k=((mkL f xs k).1++(mkL f ys (mkL f xs k).2).1,(mkL f ys (mkL f xs k).2).2)
  | [],ys,k => rfl
  | x :: xs,ys,k => by simp only[List.cons_append,mkL,Xgu xs]
def XaX{α:Type}(f:α->Int->α×Int)(xs:List α)(k:Int)(i:Nat):Int :=(mkL f (xs.take i) k).2
def QP{α:Type}(f:α->Int->α×Int)(xs:List α)(k:Int)(i:Nat):List α :=(mkL f (xs.take i) k).1++xs.drop i
def Y3{α:Type}{f:α->Int->α×Int}(xs:List α)(k:Int):XaX f xs k xs.length=(mkL f xs k).2 :=by simp[XaX]
def Yo{α:Type}{f:α->Int->α×Int}(xs:List α)(k:Int)(i:Nat)(h:i<xs.length):XaX f xs k (i+1)=(f xs[i] (XaX f xs k i)).2 :=by
  simp only[XaX]
  rw[List.take_succ_eq_append_getElem h,Xcs]
def ZB{α:Type}{f:α->Int->α×Int}(hf:∀x k,k+1<=(f x k).2)(xs:List α)(k:Int)(i:Nat):k<=XaX f xs k i :=Yn hf _ _
def ZC{α:Type}{f:α->Int->α×Int}(hf:∀x k,k+1<=(f x k).2)(xs:List α)(k:Int)(i:Nat)(h:i<xs.length):(f xs[i] (XaX f xs k i)).2<=(mkL f xs k).2 :=by
  rw[<-Yo xs k i h]
  have :=Xgu (f :=f) (xs.take (i+1)) (xs.drop (i+1)) k
  rw[List.take_append_drop] at this
  rw[this]
  exact Yn hf _ _
def Qg{α:Type}{f:α->Int->α×Int}(xs:List α)(k:Int):QP f xs k 0=xs :=rfl
def QQ{α:Type}{f:α->Int->α×Int}(xs:List α)(k:Int):QP f xs k xs.length=(mkL f xs k).1 :=by simp[QP]
def X5{α:Type}{f:α->Int->α×Int}(xs:List α)(k:Int)(i:Nat):(QP f xs k i).length=xs.length :=by simp[QP,XU]; omega
def Yw{α:Type}{f:α->Int->α×Int}(g:α->List AV)(xs:List α)(k:Int)(i:Nat):((QP f xs k i).map g).take xs.length=(QP f xs k i).map g :=List.take_of_length_le (by rw[List.length_map,X5]; exact Nat.le_refl _)
def QR{α:Type}{f:α->Int->α×Int}(g:α->List AV)(xs:List α)(k:Int):((mkL f xs k).1.map g).take xs.length=(mkL f xs k).1.map g :=List.take_of_length_le (by rw[List.length_map,XU]; exact Nat.le_refl _)
def Qp{α:Type}{f:α->Int->α×Int}(g:α->List AV)(xs:List α)(k:Int)(i:Nat)(h:i<xs.length):((QP f xs k i).map g)[i]?=some (g xs[i]) :=by
  simp only[QP,List.map_append]
  rw[List.getElem?_append_right (by simp[XU]; omega)]
  simp only[List.length_map,XU,List.length_take]
  rw[show i-min i xs.length=0 by omega,List.drop_eq_getElem_cons h]; rfl
def Qh{α:Type}{f:α->Int->α×Int}(g:α->List AV)(xs:List α)(k:Int)(i:Nat)(h:i<xs.length):((QP f xs k i).map g).getD i []=g xs[i] :=by
  rw[List.getD_eq_getElem?_getD,Qp g xs k i h]; rfl
def QS{α:Type}{f:α->Int->α×Int}(g:α->List AV)(xs:List α)(k:Int)(i:Nat)(h:i<xs.length):((QP f xs k i).map g).set i (g (f xs[i] (XaX f xs k i)).1)=(QP f xs k (i+1)).map g :=by
  simp only[QP,XaX,List.map_append]
  rw[List.set_append_right _ _ (by simp[XU]; omega)]
  simp only[List.length_map,XU,List.length_take]
  rw[show i-min i xs.length=0 by omega,List.drop_eq_getElem_cons h,List.take_succ_eq_append_getElem h,Xcs,List.map_cons,List.set_cons_zero,List.map_append]
  simp
def UY{α:Type}(l:List α)(i:Nat)(y:α)(h:i<l.length):(l.set i y)[i]?=some y :=by simp[h]
def QT(l:List (List AV))(i:Nat)(y:List AV)(h:i<l.length):(l.set i y).getD i []=y :=by simp[h]
@[go_sem] def Xq7{α:Type}(l:List α)(i:Nat)(y z:α):(l.set i y).set i z=l.set i z :=by simp
@[go_sem] def Xq8{α:Type}(l:List α)(i:Nat)(y:α):(l.set i y).length=l.length :=by simp
def XnA{α:Type}{f:α->Int->α×Int}(xs:List α)(k:Int)(i:Nat)(h:i<xs.length):(mkL f xs k).1[i]'(by rw[XU]; exact h)=(f xs[i] (XaX f xs k i)).1 :=by
  have e :=Xgu (f :=f) (xs.take (i+1)) (xs.drop (i+1)) k
  rw[List.take_append_drop] at e
  have e2:(mkL f xs k).1[i]?=some (f xs[i] (XaX f xs k i)).1 :=by
    rw[e,List.take_succ_eq_append_getElem h,Xcs]
    simp only[XaX]
    rw[List.getElem?_append_left (by simp[XU]; omega),List.getElem?_append_right (by simp[XU]; omega)]
    simp only[XU,List.length_take]
    rw[show i-min i xs.length=0 by omega]; rfl
  rw[List.getElem?_eq_getElem (by rw[XU]; exact h)] at e2
  injection e2
def Xbt{α:Type}{f:α->Int->α×Int}(g:α->List AV)(xs:List α)(k:Int)(i:Nat)(h:i<xs.length):((mkL f xs k).1.map g).getD i []=g (f xs[i] (XaX f xs k i)).1 :=by
  rw[XP g _ i (by rw[XU]; exact h),XnA xs k i h]
def mkB(k:Int):UInt8 :=UInt8.ofNat (k%256).toNat
def ZD(k:Int):(IntKind.u8).wrap k=((mkB k).toNat:Int) :=by
  have h:(k%256).toNat<256 :=by omega
  simp only[mkB,UInt8.toNat_ofNat']
  simp[IntKind.wrap,IntKind.bits,IntKind.signed]
  omega
def Yx(_:UInt8)(k:Int):UInt8×Int :=(mkB k,k+1)
def Qi(x:UInt8)(k:Int):k+1<=(Yx x k).2 :=by simp only[Yx]; omega
def Zu{α:Type}{f:α->Int->α×Int}(hf:∀x k,k+1<=(f x k).2):∀(xs:List α) (k:Int),k+xs.length<=(mkL f xs k).2
  | [],k => by simp[mkL]
  | x :: xs,k => by
    have h1 :=hf x k
    have h2 :=Zu hf xs (f x k).2
    simp only[mkL,List.length_cons]; omega
def XfH:Nat->Int->ByteArray->ByteArray
  | 0,_,s => s
  | n+1,k,s => if k>0 then XfH n (k.tdiv 10) (ByteArray.mk #[UInt8.ofNat ((48+k.tmod 10)%256).toNat]++s) else s
def Xar(k:Int):ByteArray :=if k<=0 then⟨#[109,48]⟩ else⟨#[109]⟩++XfH k.toNat k ⟨#[]⟩
def YE(_:ByteArray)(k:Int):ByteArray×Int :=(Xar k,k+1)
def Z1(x:ByteArray)(k:Int):k+1<=(YE x k).2 :=by simp only[YE]; omega
def Xjw(x:UInt8)(k:Int)(_:True):(Yx x k).2<=k+(1:Nat) :=by simp[Yx]
def XgY(x:ByteArray)(k:Int)(p:Prop)(_:p):(YE x k).2<=k+(1:Nat) :=by simp[YE]
def Xfs:∀(n:Nat) (k:Int) (s:ByteArray),(XfH n k s).size<=s.size+n
  | 0,k,s => by simp[XfH]
  | n+1,k,s => by
    simp only[XfH]
    split
    · have :=Xfs n (k.tdiv 10) (ByteArray.mk #[UInt8.ofNat ((48+k.tmod 10)%256).toNat]++s)
      rw[ByteArray.size_append] at this
      have e:(ByteArray.mk #[UInt8.ofNat ((48+k.tmod 10)%256).toNat]).size=1 :=rfl
      omega
    · omega
def Xft:∀(n m:Nat) (k:Int) (s:ByteArray),k.toNat<=n->k.toNat<=m->XfH n k s=XfH m k s
  | 0,0,_,_,_,_ => rfl
  | 0,m+1,k,s,h,_ => by simp only[XfH]; rw[if_neg (by omega)]
  | n+1,0,k,s,_,h => by simp only[XfH]; rw[if_neg (by omega)]
  | n+1,m+1,k,s,h1,h2 => by
    simp only[XfH]
    split
    · have:k.tdiv 10=k / 10 :=Int.tdiv_eq_ediv_of_nonneg (by omega)
      exact Xft n m _ _ (by omega) (by omega)
    · rfl
end Go.Vm
set_option autoImplicit false
namespace Go.Vm
def Xlo{P:Program}[HasTb P]{g:FuncId}{md:List Md}{F:List AV->Option (AV×List AV)}{wk:Bool}(hro:md.all ZS=true)
    (h:∀(w:World) (Im:CS) (vs:List Value) (as:List AV) (r:AV) (os:List AV),F as=some (r,os)->vs.length=md.length->as.length=md.length ->
      (∀(j:Nat) (v:Value) (a:AV),vs[j]?=some v->as[j]?=some a->Cl w Im v a nos)->Tb P Im w ->
      XaS r=none/\(wk=false->XD r=false/\∀o∈os,XD o=false)/\Ans P g vs.toArray w λv w' => Frame w w' nos/\Cl w' Im v r nos):QF P g ⟨md,F,wk⟩ :=by
  intro w Im vs as Sf r os hF hv ha harg hd hdI hin hI hT
  have hmd:∀(j:Nat) (m:Md),md[j]?=some m->ZS m=true :=λj m hm => List.all_eq_true.1 hro m (List.mem_of_getElem? hm)
  obtain⟨h1,h2,h3⟩ :=h w Im vs as r os hF hv ha (λj v a hj hj' => by
    have hlt:j<md.length :=by rw[<-hv]; exact(List.getElem?_eq_some_iff.1 hj).1
    have hm :=List.getElem?_eq_getElem hlt
    have :=harg j _ v a hm hj hj'
    have h0 :=hmd j _ hm
    generalize md[j]=m at this h0
    cases m with
    | ro n => exact this
    | _ => cases h0) hT
  refine h3.mono λv w' ⟨hfr,hc⟩ => ?_
  refine⟨Im,nos,λ_ => nos,⟨hfr.mono (XB _),Sub.rfl' _,λg k hx => .inl hx,λg k hx => Nat.lt_of_lt_of_le (hI g k hx) hfr.size,?_,λj m u o hm _ _ => ?_,λ_ _ _ => Xg _,λ_ => Xg _,Xg _,λ_ => Xg _,λ_ _ hx => hx.elim,λ_ _ _ hx => hx.elim,λ_ _ hx => hx.elim,λ_ _ _ hx => hx.elim⟩,h2⟩
  · unfold Xdp; rw[h1]; exact hc
  · have h0 :=hmd j m hm
    cases m with
    | ro n => trivial
    | _ => cases h0
def Xew{P:Program}[HasTb P]{g:FuncId}{md:List Md}{F:List AV->Option (AV×List AV)}{wk:Bool}(hro:md.all ZS=true)
    (h:∀(w:World) (Im:CS) (vs:List Value) (as:List AV) (r:AV) (os:List AV),F as=some (r,os)->vs.length=md.length->as.length=md.length ->
      (∀(j:Nat) (v:Value) (a:AV),vs[j]?=some v->as[j]?=some a->Cl w Im v a nos) ->
      XaS r=none/\(wk=false->XD r=false/\∀o∈os,XD o=false)/\Ans P g vs.toArray w λv w' => Frame w w' nos/\Cl w' Im v r nos):QF P g ⟨md,F,wk⟩ :=
  Xlo hro λw Im vs as r os hF hv ha harg _ => h w Im vs as r os hF hv ha harg
def Cl.str{w:World}{Im:CS}{v:Value}{x:ByteArray}{S:CS}(h:Cl w Im v (.s x) S):v=.string x :=by
  cases h with
  | leaf h => cases h with
    | rep h => cases h; rfl
def Cl.int{w:World}{Im:CS}{v:Value}{k:IntKind}{n:Int}{S:CS}(h:Cl w Im v (.i k n) S):v=.int k n :=by
  cases h with
  | leaf h => cases h with
    | rep h => cases h; rfl
def Cl.nil'{w:World}{Im:CS}{v:Value}{S:CS}(h:Cl w Im v .nil S):v=.slice none 0 0 :=by
  cases h with
  | leaf h => cases h with
    | rep h => cases h; rfl
def Xq9:List AV->Option (AV×List AV)
  | [.s s,.i .u8 c] => some (.i .i64 (Lib.indexByte s.data.toList c.toNat.toUInt8),[.u,.u])
  | _ => none
def Xqu {P : Program} [HasTb P] {g : FuncId} {fn : Func} (hf : P.funcs[g]? = some fn) (hname : (fn.name == "runtime.NumGoroutine") = false) (hb : fn.body.isNone = true) (hn : Extern.findNext fn = none) (he : Extern.find fn = some Extern.BytealgIndexByte.indexByte) : QF P g ⟨[.ro 1, .ro 1], Xq9, false⟩ := by
  refine Xew rfl λw Im vs as r os hF hv ha harg => ?_
  match as,ha,hF with
  | [.s s,.i .u8 c],_,hF =>
    match vs,hv with
    | [v0,v1],_ =>
      injection hF with hF
      injection hF with h1 h2
      subst h1 h2
      refine⟨rfl,λ_ => ⟨rfl,λo ho => by rcases List.mem_cons.1 ho with rfl | ho; rfl; rcases List.mem_cons.1 ho with rfl | ho; rfl; cases ho⟩,?_⟩
      obtain rfl :=(harg 0 v0 _ rfl rfl).str
      obtain rfl :=(harg 1 v1 _ rfl rfl).int
      refine .inl ⟨.int .i64 (Lib.indexByte s.data.toList c.toNat.toUInt8),w,?_,Frame.refl _ _,.leaf (.rep .i)⟩
      rw[run_callFunc_extern hf hname hb hn he]
      rw[Lib.run_indexByteString]
      rfl
@[go_sem] def XnB(s:ByteArray)(c:Int):Xq9 [.s s,.i .u8 c]=some (.i .i64 (Lib.indexByte s.data.toList c.toNat.toUInt8),[.u,.u]) :=nr rfl
def Ul {P : Program} {g : FuncId} {fn : Func} {c : Code} (hf : P.funcs[g]? = some fn) (hname : (fn.name == "runtime.NumGoroutine") = false) (hb : fn.body = some c) {args : Array Value} (w : World) : (callFunc g args).run P w = .ok (.enter g args) w := by
  have h1 : fn.name ≠ "runtime.NumGoroutine" := by simpa using hname
  simp[callFunc,hf,h1,hb,Sem.run]
@[go_sem] def XsE:((2:Nat):Int)=2 :=nr rfl
@[go_sem] def XsF:((3:Nat):Int)=3 :=nr rfl
@[go_sem] def XsG:((4:Nat):Int)=4 :=nr rfl
@[go_sem] def XsH:((5:Nat):Int)=5 :=nr rfl
@[go_sem] def XsI:((6:Nat):Int)=6 :=nr rfl
@[go_sem] def XsJ:((7:Nat):Int)=7 :=nr rfl
@[go_sem] def XsK:((8:Nat):Int)=8 :=nr rfl
@[go_sem] def XrL:Z2 1 0=some 0 :=nr rfl
@[go_sem] def XrM:Z2 2 0=some 0 :=nr rfl
@[go_sem] def XrN:Z2 2 1=some 1 :=nr rfl
@[go_sem] def XrO:Z2 3 0=some 0 :=nr rfl
@[go_sem] def XrP:Z2 3 1=some 1 :=nr rfl
@[go_sem] def XrQ:Z2 3 2=some 2 :=nr rfl
@[go_sem] def XrR:Z2 4 0=some 0 :=nr rfl
@[go_sem] def XrS:Z2 4 1=some 1 :=nr rfl
@[go_sem] def XrT:Z2 4 2=some 2 :=nr rfl
@[go_sem] def XrU:Z2 4 3=some 3 :=nr rfl
@[go_sem] def XrV:Z2 5 0=some 0 :=nr rfl
@[go_sem] def XrW:Z2 5 1=some 1 :=nr rfl
@[go_sem] def XrX:Z2 5 2=some 2 :=nr rfl
@[go_sem] def XrY:Z2 5 3=some 3 :=nr rfl
@[go_sem] def XrZ:Z2 5 4=some 4 :=nr rfl
@[go_sem] def Xr0:Z2 6 0=some 0 :=nr rfl
@[go_sem] def Xr1:Z2 6 1=some 1 :=nr rfl
@[go_sem] def Xr2:Z2 6 2=some 2 :=nr rfl
@[go_sem] def Xr3:Z2 6 3=some 3 :=nr rfl
@[go_sem] def Xr4:Z2 6 4=some 4 :=nr rfl
@[go_sem] def Xr5:Z2 6 5=some 5 :=nr rfl
@[go_sem] def Xr6:Z2 7 0=some 0 :=nr rfl
@[go_sem] def Xr7:Z2 7 1=some 1 :=nr rfl
@[go_sem] def Xr8:Z2 7 2=some 2 :=nr rfl
@[go_sem] def Xr9:Z2 7 3=some 3 :=nr rfl
@[go_sem] def Xsa:Z2 7 4=some 4 :=nr rfl
@[go_sem] def Xsb:Z2 7 5=some 5 :=nr rfl
@[go_sem] def Xsc:Z2 7 6=some 6 :=nr rfl
@[go_sem] def Xsd:Z2 8 0=some 0 :=nr rfl
@[go_sem] def Xse:Z2 8 1=some 1 :=nr rfl
@[go_sem] def Xsf:Z2 8 2=some 2 :=nr rfl
@[go_sem] def Xsg:Z2 8 3=some 3 :=nr rfl
@[go_sem] def Xsh:Z2 8 4=some 4 :=nr rfl
@[go_sem] def Xsi:Z2 8 5=some 5 :=nr rfl
@[go_sem] def Xsj:Z2 8 6=some 6 :=nr rfl
@[go_sem] def Xsk:Z2 8 7=some 7 :=nr rfl
def Xc7:(IntKind.i64).wrap 1=1 :=rfl
def Xc8:(IntKind.i64).wrap 2=2 :=rfl
def XdV:(IntKind.i64).wrap 3=3 :=rfl
def XdW:(IntKind.i64).wrap 4=4 :=rfl
def XdX:(IntKind.i64).wrap 5=5 :=rfl
def XdY:(IntKind.i64).wrap 6=6 :=rfl
def XdZ:(IntKind.i64).wrap 7=7 :=rfl
def Xd0:(IntKind.i64).wrap 8=8 :=rfl
def XnC:(IntKind.i64).wrap (0+1)=1 :=rfl
def XnD:(IntKind.i64).wrap (1+1)=2 :=rfl
def Xas:List Int->Int
  | [] => 0
  | v :: r => if(v !=0)=true then v else Xas r
def Y8:Xas []=0 :=rfl
def XR(v:Int)(r:List Int):Xas (v :: r)=if(v !=0)=true then v else Xas r :=rfl
def Xc9:(IntKind.i64).wrap 0=0 :=rfl
def XaY(cx:Cx)(blk:Nat)(c:Code)(st:St):Qw cx blk c 1 st=Xa4 (Xs cx blk c (keep (cx.live blk) st)) (λs => Qw cx blk c 0 s) :=Zy cx blk c 0 st
def XaZ(cx:Cx)(blk:Nat)(c:Code)(st:St):Qw cx blk c 2 st=Xa4 (Xs cx blk c (keep (cx.live blk) st)) (λs => Qw cx blk c 1 s) :=Zy cx blk c 1 st
def Xa0(cx:Cx)(blk:Nat)(c:Code)(st:St):Qw cx blk c 3 st=Xa4 (Xs cx blk c (keep (cx.live blk) st)) (λs => Qw cx blk c 2 s) :=Zy cx blk c 2 st
def XbS(cx:Cx)(blk:Nat)(c:Code)(st:St):Qw cx blk c 4 st=Xa4 (Xs cx blk c (keep (cx.live blk) st)) (λs => Qw cx blk c 3 s) :=Zy cx blk c 3 st
def XbT(cx:Cx)(blk:Nat)(c:Code)(st:St):Qw cx blk c 5 st=Xa4 (Xs cx blk c (keep (cx.live blk) st)) (λs => Qw cx blk c 4 s) :=Zy cx blk c 4 st
def XbU(cx:Cx)(blk:Nat)(c:Code)(st:St):Qw cx blk c 6 st=Xa4 (Xs cx blk c (keep (cx.live blk) st)) (λs => Qw cx blk c 5 s) :=Zy cx blk c 5 st
def XbV(cx:Cx)(blk:Nat)(c:Code)(st:St):Qw cx blk c 7 st=Xa4 (Xs cx blk c (keep (cx.live blk) st)) (λs => Qw cx blk c 6 s) :=Zy cx blk c 6 st
def Xsl:List AV->Option (AV×List AV)
  | [.nil,.i .i64 0] => some (.nil,[.u,.u])
  | _ => none
@[go_sem] def Xra:Xsl [.nil,.i .i64 0]=some (.nil,[.u,.u]) :=nr rfl
def Xda{w w':World}(h:Go.RowKit.Below w.heap.size w w'):Frame w w' nos :=let ⟨a,b,c,d,e⟩ :=h; ⟨a,b,c,d,λg hg => .inl (e g hg)⟩
def Xlp:List AV->Option (AV×List AV)
  | [.s x,.s c] => if c.data.toList=[32,9]/\x.size<=9223372036854775807 then some (.s ⟨(Lib.trimS x.data.toList [32,9]).toArray⟩,[.u,.u]) else none
  | _ => none
def XnE {P : Program} [HasTb P] {g : FuncId} {fn : Func} {c : Code} (hf : P.funcs[g]? = some fn) (hname : (fn.name == "runtime.NumGoroutine") = false) (hb : fn.body = some c)
    (h:∀(s:ByteArray) (w:World),s.size<=9223372036854775807->Calls P g #[.string s,.string ⟨#[32,9]⟩] w λe w' => e=.returned (.string ⟨(Lib.trimS s.data.toList [32,9]).toArray⟩)/\Go.RowKit.Below w.heap.size w w'):QF P g ⟨[.ro 1,.ro 1],Xlp,false⟩ :=by
  refine Xew rfl λw Im vs as r os hF hv ha harg => ?_
  match as,ha,hF with
  | [.s x,.s c],_,hF =>
    match vs,hv with
    | [v0,v1],_ =>
      simp only[Xlp] at hF
      split at hF
      · rename_i hc
        injection hF with hF
        injection hF with h1 h2
        subst h1 h2
        refine⟨rfl,λ_ => ⟨rfl,λo ho => by rcases List.mem_cons.1 ho with rfl | ho; rfl; rcases List.mem_cons.1 ho with rfl | ho; rfl; cases ho⟩,?_⟩
        obtain rfl :=(harg 0 v0 _ rfl rfl).str
        obtain rfl :=(harg 1 v1 _ rfl rfl).str
        have hcs:c=⟨#[32,9]⟩ :=by
          cases c
          have :=hc.1
          congr 1
          exact Array.ext' this
        subst hcs
        refine .inr ⟨Ul hf hname hb w,λcs => ?_⟩
        obtain⟨e,w',fr,⟨k1,k2⟩,k3⟩ :=h x w hc.2 cs
        subst k1
        exact⟨.returned _,w',fr,(⟨Xda k2,.leaf (.rep .s)⟩:Frame w w' nos/\Cl w' Im (.string ⟨(Lib.trimS x.data.toList [32,9]).toArray⟩) (.s ⟨(Lib.trimS x.data.toList [32,9]).toArray⟩) nos),k3⟩
      · cases hF
end Go.Vm
set_option autoImplicit false
namespace Go.Vm
def Xjx{P:Program}[HasTb P]{g:FuncId}{md:List Md}{F:List AV->Option (AV×List AV)}{wk:Bool}(hro:md.all ZS=true)
    (h:∀(w:World) (Im:CS) (vs:List Value) (as:List AV) (r:AV) (os:List AV),F as=some (r,os)->vs.length=md.length->as.length=md.length ->
      (∀(j:Nat) (v:Value) (a:AV),vs[j]?=some v->as[j]?=some a->Cl w Im v a nos)->(∀g k,Im g k->g<w.heap.size) ->
      XaS r=none/\(wk=false->XD r=false/\∀o∈os,XD o=false)/\Ans P g vs.toArray w λv w' => Frame w w' nos/\∃S:CS,Cl w' Im v r S/\∀g k,S g k->w.heap.size<=g/\g<w'.heap.size):QF P g ⟨md,F,wk⟩ :=by
  intro w Im vs as Sf r os hF hv ha harg hd hdI hin hI hT
  have hmd:∀(j:Nat) (m:Md),md[j]?=some m->ZS m=true :=λj m hm => List.all_eq_true.1 hro m (List.mem_of_getElem? hm)
  obtain⟨h1,h2,h3⟩ :=h w Im vs as r os hF hv ha (λj v a hj hj' => by
    have hlt:j<md.length :=by rw[<-hv]; exact(List.getElem?_eq_some_iff.1 hj).1
    have hm :=List.getElem?_eq_getElem hlt
    have :=harg j _ v a hm hj hj'
    have h0 :=hmd j _ hm
    generalize md[j]=m at this h0
    cases m with
    | ro n => exact this
    | _ => cases h0) hI
  refine h3.mono λv w' ⟨hfr,S,hc,hS⟩ => ?_
  refine⟨Im,S,λ_ => nos,⟨hfr.mono (XB _),Sub.rfl' _,λg k hx => .inl hx,λg k hx => Nat.lt_of_lt_of_le (hI g k hx) hfr.size,?_,λj m u o hm _ _ => ?_,λ_ _ _ => Xg _,λ_ => YD _,λb k hs hx => ?_,λ_ => Xg _,λg k hs => (hS g k hs).2,λ_ _ _ hx => hx.elim,λg k hs => .inr (hS g k hs).1,λ_ _ _ hx => hx.elim⟩,h2⟩
  · unfold Xdp; rw[h1]; exact hc
  · have h0 :=hmd j m hm
    cases m with
    | ro n => trivial
    | _ => cases h0
  · have :=hI b k hx
    have :=(hS b k hs).1
    omega
@[go_sem] def XnF(z:Nat)(es:List (List AV)):plain (.sl .mut z es)=false :=nr rfl
@[go_sem] def XnG(z:Nat)(es:List (List AV)):plain (.sl .app z es)=false :=nr rfl
def Xd1(z bytes:Nat):List AV->Option (AV×List AV)
  | [.nil,.i .i64 n] => if 0<=n/\n*bytes<=140737488355328/\n<=4611686018427387904 then some (.sl .mut z [],[.u,.u]) else none
  | _ => none
@[go_sem] def Xjy(z bytes:Nat)(n:Int):Xd1 z bytes [.nil,.i .i64 n]=if 0<=n/\n*bytes<=140737488355328/\n<=4611686018427387904 then some (.sl .mut z [],[.u,.u]) else none :=nr rfl
def Xlq {P : Program} [HasTb P] {g : FuncId} {fn : Func} {c : Code} (hf : P.funcs[g]? = some fn) (hname : (fn.name == "runtime.NumGoroutine") = false) (hb : fn.body = some c) {e : TypeId} {i0 : TypeInfo} {zv : Value} (hz0 : i0.zero = some zv) {z bytes : Nat} (hz : zv.cells.size = z) (hbb : i0.bytes = bytes)
    (h0:∀w:World,Calls P g #[.slice none 0 0,.int .i64 0] w λe w' => e=.returned (.slice none 0 0)/\w'=w)
    (h:∀(n:Nat) (w:World),0<n->n*bytes<=140737488355328->n<=4611686018427387904->Calls P g #[.slice none 0 0,.int .i64 n] w λe' w' =>
      e'=.returned (.slice (some ⟨w.heap.size,0,none⟩) 0 (grownCap w n 0 e))/\w'=w.drew.alloc (.cells (#[]++Builtin.zeroCells zv.cells n++Builtin.zeroCells zv.cells (grownCap w n 0 e-n)) e)):QF P g ⟨[.ro 1,.ro 1],Xd1 z bytes,false⟩ :=by
  refine Xjx rfl λw Im vs as r os hF hv ha harg hI => ?_
  match as,ha,hF with
  | [.nil,.i .i64 n],_,hF =>
    match vs,hv with
    | [v0,v1],_ =>
      simp only[Xd1] at hF
      split at hF
      · rename_i hc
        injection hF with hF
        injection hF with h1 h2
        subst h1 h2
        refine⟨rfl,λ_ => ⟨by simp[XD,XF],λo ho => by rcases List.mem_cons.1 ho with rfl | ho; rfl; rcases List.mem_cons.1 ho with rfl | ho; rfl; cases ho⟩,?_⟩
        obtain rfl :=(harg 0 v0 _ rfl rfl).nil'
        obtain rfl :=(harg 1 v1 _ rfl rfl).int
        refine .inr ⟨Ul hf hname hb w,λcs => ?_⟩
        obtain⟨m,rfl⟩:∃m:Nat,n=(m:Int) :=⟨n.toNat,by omega⟩
        rcases Nat.eq_zero_or_pos m with hm | hm
        · subst hm
          obtain⟨e',w',fr,⟨k1,k2⟩,k3⟩ :=h0 w cs
          subst k1 k2
          exact⟨.returned _,w',fr,⟨Frame.refl _ _,nos,.leaf (.rep (XcP _ _ _)),λ_ _ hx => hx.elim⟩,k3⟩
        · have hb1:m*bytes<=140737488355328 :=by have :=hc.2.1; exact Int.ofNat_le.1 (by simpa using this)
          obtain⟨e',w',fr,⟨k1,k2⟩,k3⟩ :=h m w hm hb1 (by omega) cs
          subst k1 k2
          refine⟨.returned _,_,fr,⟨(XaC w).trans (YB w.drew _),blk w.heap.size,.leaf (.rep ?_),λg k hx => ?_⟩,k3⟩
          · have hG:m<=grownCap w m 0 e :=grownCap_ge w _ _ _
            refine .sl w.heap.size 0 (λ_ _ => undef) (λ_ _ => nos) rfl (Nat.zero_le _) (by omega) (λ_ => rfl) (λi row hi => by simp at hi) (λi row j a hi => by simp at hi) (λi row j a hi => by simp at hi)
              (SlF.mk (λ_ k hk => rfl) (λhe => by cases he) (λ_ k hk => ?_) (λhe => absurd rfl he)) (λ_ _ => XB _) (λ_ _ _ _ _ => Xg _) (λ_ _ _ _ _ hx => hx) (λhe => absurd rfl he)
            have hc1 :=Z5 w.drew (#[]++Builtin.zeroCells zv.cells m++Builtin.zeroCells zv.cells (grownCap w m 0 e-m)) e k
            have hc2 :=QW w.drew (#[]++Builtin.zeroCells zv.cells m++Builtin.zeroCells zv.cells (grownCap w m 0 e-m)) e k
            rw[show w.drew.heap.size=w.heap.size from rfl] at hc1 hc2
            rw[Nat.zero_add]
            refine⟨?_,hc2⟩
            rw[hc1]
            refine⟨_,Array.getElem?_eq_getElem ?_⟩
            have hzs:∀q,(Builtin.zeroCells zv.cells q).size=q*z :=λq => by rw[<-hz]; simp[Builtin.zeroCells]
            simp only[Array.size_append,hzs]
            have:m*z+(grownCap w m 0 e-m)*z=grownCap w m 0 e*z :=by rw[<-Nat.add_mul]; congr 1; omega
            simp only[Array.size_empty]
            omega
          · rw[show g=w.heap.size from hx]
            refine⟨Nat.le_refl _,?_⟩
            show w.heap.size<(w.heap.push _).size
            rw[Array.size_push]
            exact Nat.lt_succ_self _
      · cases hF
def XsL(n:Int):ByteArray :=⟨(Lib.itoa n).toArray⟩
def XEY:List AV->Option (AV×List AV)
  | [.i .i64 n,.i .i64 10] => if -9223372036854775808<=n/\n<=9223372036854775807 then some (.s (XsL n),[.u,.u]) else none
  | _ => none
@[go_sem] def Xsm(n:Int):XEY [.i .i64 n,.i .i64 10]=if -9223372036854775808<=n/\n<=9223372036854775807 then some (.s (XsL n),[.u,.u]) else none :=nr rfl
end Go.Vm
set_option autoImplicit false
namespace Go.Vm
def lineB(p:ByteArray×ByteArray):ByteArray :=p.1++⟨#[58,32]⟩++p.2++⟨#[13,10]⟩
def packL(hs:List (ByteArray×ByteArray)):List UInt8 :=hs.flatMap λp => (lineB p).data.toList
def Xjz(p:ByteArray×ByteArray):(lineB p).size=p.1.size+p.2.size+4 :=by
  simp only[lineB,ByteArray.size_append]
  show p.1.size+2+p.2.size+2=_
  omega
def packL_len:∀(hs:List (ByteArray×ByteArray)),(∀p∈hs,p.1.size<=1048576/\p.2.size<=1048576)->(packL hs).length<=2097156*hs.length
  | [],_ => Nat.zero_le _
  | p :: hs,h => by
    have h1 :=packL_len hs (λq hq => h q (List.mem_cons_of_mem _ hq))
    have h2 :=h p (List.mem_cons_self ..)
    have h3:(lineB p).data.toList.length=p.1.size+p.2.size+4 :=by rw[Array.length_toList]; exact Xjz _
    unfold packL at h1 ⊢
    rw[List.flatMap_cons,List.length_append,h3,List.length_cons]
    omega
def packL_snoc(hs:List (ByteArray×ByteArray))(k:Nat)(h:k<hs.length):packL (hs.take (k+1))=packL (hs.take k)++(lineB hs[k]).data.toList :=by
  unfold packL
  rw[List.take_add_one,List.getElem?_eq_getElem h,Option.toList_some,List.flatMap_append]
  simp
def Xrb:AV->Option ByteArray
  | .s x => some x
  | _ => none
def XlU{a:AV}{x:ByteArray}(h:Xrb a=some x):a=.s x :=by
  unfold Xrb at h
  split at h
  · injection h with h; subst h; rfl
  · cases h
def XgZ:List AV->Option (ByteArray×ByteArray)
  | [a,b] => (Xrb a).bind λx => (Xrb b).bind λy => some (x,y)
  | _ => none
def XhR{e:List AV}{p:ByteArray×ByteArray}(h:XgZ e=some p):e=[.s p.1,.s p.2] :=by
  match e,h with
  | [a,b],h =>
    simp only[XgZ,Option.bind_eq_some_iff] at h
    obtain⟨x,hx,y,hy,he⟩ :=h
    injection he with he
    subst he
    rw[XlU hx,XlU hy]
def UZ:List (List AV)->Option (List (ByteArray×ByteArray))
  | [] => some []
  | e :: r => (XgZ e).bind λp => (UZ r).bind λl => some (p :: l)
def Xdb:∀{es:List (List AV)} {hs:List (ByteArray×ByteArray)},UZ es=some hs->es=hs.map λp => [.s p.1,.s p.2]
  | [],hs,h => by injection h with h; subst h; rfl
  | e :: r,hs,h => by
    simp only[UZ,Option.bind_eq_some_iff] at h
    obtain⟨p,hp,l,hl,he⟩ :=h
    injection he with he
    subst he
    rw[XhR hp,Xdb hl]; rfl
def Xd2(hs:List (ByteArray×ByteArray)):Bool :=decide (hs.length<=1048576)&&hs.all λp => decide (p.1.size<=1048576)&&decide (p.2.size<=1048576)
def Xfu(hs:List (ByteArray×ByteArray)):ByteArray :=⟨(packL hs).toArray⟩
def XnH:Option (List (ByteArray×ByteArray))->Option (AV×List AV)
  | some hs => if Xd2 hs=true then some (.s (Xfu hs),[.u]) else none
  | none => none
def XnI:List AV->Option (AV×List AV)
  | [.sl .ro 2 es] => XnH (UZ es)
  | _ => none
def Xdc{α:Type}(f g:α->ByteArray):∀xs:List α,UZ (xs.map λx => [.s (f x),.s (g x)])=some (xs.map λx => (f x,g x))
  | [] => rfl
  | x :: xs => by
    have h:XgZ [AV.s (f x),AV.s (g x)]=some (f x,g x) :=rfl
    simp only[List.map_cons,UZ,Xdc f g xs,h,Option.bind_some]
def Xlr{α:Type}(f g:α->ByteArray)(xs:List α)(h:Xd2 (xs.map λx => (f x,g x))=true):XnI [.sl .ro 2 (xs.map λx => [.s (f x),.s (g x)])]=some (.s (Xfu (xs.map λx => (f x,g x))),[.u]) :=by
  show XnH (UZ _)=_
  rw[Xdc]
  exact if_pos h
def XnJ{w:World}{g k:Nat}{v:Value}(h:XJ w g k=some v):g<w.heap.size :=by
  unfold XJ World.cell? at h
  split at h
  · rename_i hc; exact(Array.getElem?_eq_some_iff.1 hc).1
  · cases h
def XnK {P : Program} [HasTb P] {g : FuncId} {fn : Func} {c : Code} (hf : P.funcs[g]? = some fn) (hname : (fn.name == "runtime.NumGoroutine") = false) (hb : fn.body = some c)
    (h:∀(hs:List (ByteArray×ByteArray)) (A:Option Addr) (n cap b off:Nat) (w:World),hs.length=n->(0<n->A=some ⟨b,off,none⟩)->(0<n->b<w.heap.size) ->
      (∀(i:Nat) (hi:i<hs.length),w.cell? ⟨b,off+i*2,none⟩=some (.string hs[i].1)/\w.cell? ⟨b,off+i*2+1,none⟩=some (.string hs[i].2)) ->
      (∀p∈hs,p.1.size<=1048576/\p.2.size<=1048576)->hs.length<=1048576 ->
      Calls P g #[.slice A n cap] w λe w' => e=.returned (.string ⟨(packL hs).toArray⟩)/\Go.RowKit.Below w.heap.size w w'):QF P g ⟨[.ro 1],XnI,false⟩ :=by
  refine Xew rfl λw Im vs as r os hF hv ha harg => ?_
  match as,ha,hF with
  | [.sl .ro 2 es],_,hF =>
    match vs,hv with
    | [v0],_ =>
      have hF:XnH (UZ es)=some (r,os) :=hF
      cases hp:UZ es with
      | none => rw[hp] at hF; cases hF
      | some hs =>
        rw[hp] at hF
        have hF:(if Xd2 hs=true then some (AV.s (Xfu hs),[AV.u]) else none)=some (r,os) :=hF
        split at hF
        · rename_i hok
          injection hF with hF
          injection hF with h1 h2
          subst h1 h2
          refine⟨rfl,λ_ => ⟨rfl,λo ho => by rcases List.mem_cons.1 ho with rfl | ho; rfl; cases ho⟩,?_⟩
          simp only[Xd2,Bool.and_eq_true,decide_eq_true_eq,List.all_eq_true] at hok
          have hes :=Xdb hp
          have hc :=harg 0 v0 _ rfl rfl
          cases hc with
          | leaf hc => cases hc with
            | rep hc => cases hc with
              | @sl A n cap _ _ _ _ b off vs' Sf hn hcap hL hA hz hrow hin hf' hsub hd hself hnone =>
                have hlen:hs.length=n :=by rw[<-hn,hes,List.length_map]
                have hget:∀(i:Nat) (hi:i<hs.length),es[i]?=some [.s hs[i].1,.s hs[i].2] :=λi hi => by rw[hes,List.getElem?_map,List.getElem?_eq_getElem hi]; rfl
                have str:∀{v:Value} {x:ByteArray} {S:CS},Rep w Im v (.s x) S->v=.string x :=λhr => by cases hr; rfl
                have c0:∀(i:Nat) (hi:i<hs.length),XJ w b (off+i*2)=some (.string hs[i].1) :=λi hi => by
                  have e1 :=hrow i _ 0 _ (hget i hi) rfl
                  have e2 :=str (hin i _ 0 _ (hget i hi) rfl)
                  rw[e2] at e1; exact e1
                have c1:∀(i:Nat) (hi:i<hs.length),XJ w b (off+i*2+1)=some (.string hs[i].2) :=λi hi => by
                  have e1 :=hrow i _ 1 _ (hget i hi) rfl
                  have e2 :=str (hin i _ 1 _ (hget i hi) rfl)
                  rw[e2] at e1; exact e1
                refine .inr ⟨Ul hf hname hb w,λcs => ?_⟩
                obtain⟨e,w',fr,⟨k1,k2⟩,k3⟩ :=h hs A n cap b off w hlen (λh0 => hA (by omega)) (λh0 => XnJ (c0 0 (by omega))) (λi hi => ⟨c0 i hi,c1 i hi⟩) hok.2 hok.1 cs
                subst k1
                exact⟨.returned _,w',fr,(⟨Xda k2,.leaf (.rep .s)⟩:Frame w w' nos/\Cl w' Im (.string (Xfu hs)) (.s (Xfu hs)) nos),k3⟩
        · cases hF
end Go.Vm
set_option autoImplicit false
set_option maxRecDepth 100000
set_option maxHeartbeats 4000000
attribute [go_sem] Nat.add_zero Nat.zero_add List.contains_cons List.contains_nil List.elem_cons List.elem_nil List.length_cons List.length_nil List.map_cons List.map_nil List.all_cons List.all_nil List.any_cons List.any_nil List.getElem?_cons_zero List.getElem?_cons_succ List.getElem?_nil List.getD_cons_zero List.getD_cons_succ List.append_nil List.nil_append List.cons_append List.isEmpty_cons List.isEmpty_nil List.headD_cons List.headD_nil List.tail_cons List.tail_nil List.take_nil List.drop_nil Bool.and_true Bool.true_and Bool.or_false Bool.or_true Bool.false_or Bool.true_or Bool.not_true Bool.not_false Bool.and_false Bool.false_and Bool.false_eq_true Bool.true_eq_false Bool.and_self Bool.not_not decide_true decide_false decide_eq_true_eq beq_self_eq_true Nat.le_refl Nat.zero_le and_self true_and and_true false_and and_false or_true true_or if_true if_false Option.map_some Option.map_none Option.isSome_none Option.isSome_some eq_self_iff_true not_true_eq_false not_false_eq_true ne_eq Nat.not_lt_zero Nat.succ_ne_zero List.length_map List.set_cons_zero List.set_cons_succ gt_iff_lt ge_iff_le List.take_succ_cons List.take_zero List.drop_zero List.drop_succ_cons bne_self_eq_false
namespace Go.Vm
def YL(b:UInt8):List AV :=[.i .u8 b.toNat]
def Yf(s:ByteArray):List AV :=[.s s]
def Xoy(n:Int):List AV :=[.i .i64 n]
def XhS(b:Bool):List AV :=[.b b]
@[go_sem] def Xqv(b:UInt8):YL b=[.i .u8 b.toNat] :=nr rfl
@[go_sem] def Xrc(s:ByteArray):Yf s=[.s s] :=nr rfl
@[go_sem] def Xrd(n:Int):Xoy n=[.i .i64 n] :=nr rfl
@[go_sem] def Xqw(b:Bool):XhS b=[.b b] :=nr rfl
def XZ{α:Type}{f g:α->List AV}(h:∀a,Ym (f a)=g a):∀xs:List α,XI (xs.map f)=xs.map g
  | [] => rfl
  | x :: xs => by simp only[List.map_cons,XI,h,XZ h xs]
def Ye{α:Type}{f:α->List AV}(h:∀a,XN (f a)=false):∀xs:List α,XF (xs.map f)=false
  | [] => rfl
  | x :: xs => by simp only[List.map_cons,XF,h,Ye h xs,Bool.or_self]
@[go_sem] def Xgv(xs:List UInt8):XI (xs.map YL)=xs.map YL :=XZ (λa => by simp only[YL,Ym,strip]) xs
@[go_sem] def XaF(xs:List ByteArray):XI (xs.map Yf)=xs.map Yf :=XZ (λa => by simp only[Yf,Ym,strip]) xs
@[go_sem] def Xoz(xs:List Int):XI (xs.map Xoy)=xs.map Xoy :=XZ (λa => by simp only[Xoy,Ym,strip]) xs
@[go_sem] def XnL(xs:List Bool):XI (xs.map XhS)=xs.map XhS :=XZ (λa => by simp only[XhS,Ym,strip]) xs
@[go_sem] def XhT(xs:List UInt8):XF (xs.map YL)=false :=Ye (λa => by simp only[YL,XN,XD,Bool.or_self]) xs
@[go_sem] def Xbu(xs:List ByteArray):XF (xs.map Yf)=false :=Ye (λa => by simp only[Yf,XN,XD,Bool.or_self]) xs
@[go_sem] def Xqx(xs:List Int):XF (xs.map Xoy)=false :=Ye (λa => by simp only[Xoy,XN,XD,Bool.or_self]) xs
@[go_sem] def XoA(xs:List Bool):XF (xs.map XhS)=false :=Ye (λa => by simp only[XhS,XN,XD,Bool.or_self]) xs
@[go_sem] def Xqy(xs:List UInt8):XcG (xs.map YL)=some xs :=XdU xs
def szs(n:Nat)(left:Int)(k:Int->Int):Int :=if(IntKind.i64).wrap (left-(n:Int))<0 then -1 else k ((IntKind.i64).wrap (left-(n:Int)))
def szn(r:Int)(k:Int->Int):Int :=if r<0 then -1 else k r
def szO{α:Type}(f:α->Int->Int):List α->Int->Option Int
  | [],l => some l
  | x :: xs,l => if f x l<0 then none else szO f xs (f x l)
def szL{α:Type}(f:α->Int->Int)(xs:List α)(left:Int):Int :=szs xs.length left λl => (szO f xs l).getD (-1)
def Xdu(s:ByteArray)(left:Int):Int :=szs s.size left λl => l
def Xls(s:ByteArray):Prop :=s.size<=9223372036854775807
def XaI(n:Int):Prop :=-9223372036854775808<=n/\n<=9223372036854775807
def okL{α:Type}(p:α->Prop)(xs:List α):Prop :=xs.length<=9223372036854775807/\∀x∈xs,p x
def U0(s:ByteArray):Prop :=s.size<=1048576
def Xfv(_:UInt8):Prop :=True
def Zv(_:Int):Prop :=True
def Xcc(_:Bool):Prop :=True
def smL{α:Type}(p:α->Prop)(xs:List α):Prop :=xs.length<=1048576/\∀x∈xs,p x
def Xg0{n:Nat}{l:Int}{k:Int->Int}(hn:n<=9223372036854775807)(h0:0<=l)(hl:l<=1048576)(h:0<=szs n l k):n<=1048576/\∃l',0<=l'/\l'<=l/\szs n l k=k l' :=by
  unfold szs at h ⊢
  rw[Xc (by omega) (by omega)] at h ⊢
  split at h
  · omega
  · rename_i hc
    rw[if_neg hc]
    exact⟨by omega,_,by omega,by omega,rfl⟩
def Xlt{r:Int}{k:Int->Int}(h:0<=szn r k):0<=r/\szn r k=k r :=by
  unfold szn at h ⊢
  split at h
  · omega
  · rename_i hc
    rw[if_neg hc]
    exact⟨by omega,rfl⟩
def Xg1{α:Type}(f:α->Int->Int)(ok sm:α->Prop):Prop :=∀a l,ok a->0<=l->l<=1048576->0<=f a l->sm a/\f a l<=l
def Xlu{α:Type}{f:α->Int->Int}{ok sm:α->Prop}(hf:Xg1 f ok sm):Xg1 (szL f) (okL ok) (smL sm) :=by
  intro xs l hok h0 hl h
  obtain⟨h1,l',a1,a2,e⟩ :=Xg0 hok.1 h0 hl h
  have key:∀(ys:List α) (m:Int),(∀x∈ys,ok x)->0<=m->m<=1048576->0<=(szO f ys m).getD (-1)->(∀x∈ys,sm x)/\(szO f ys m).getD (-1)<=m :=by
    intro ys
    induction ys with
    | nil => intro m _ _ _ _; simp[szO]
    | cons y ys ih =>
      intro m ho hm0 hm hs
      simp only[szO] at hs ⊢
      split at hs
      · simp at hs
      · rename_i hc
        rw[if_neg hc]
        obtain⟨s1,s2⟩ :=hf y m (ho y (by simp)) hm0 hm (by omega)
        obtain⟨s3,s4⟩ :=ih _ (λx hx => ho x (by simp[hx])) (by omega) (by omega) hs
        exact⟨λx hx => (List.mem_cons.1 hx).elim (λe => e▸s1) (λhx => s3 x hx),by omega⟩
  unfold szL at h ⊢
  rw[e] at h ⊢
  obtain⟨k1,k2⟩ :=key xs l' hok.2 a1 (by omega) h
  exact⟨⟨h1,k1⟩,by omega⟩
def XhU:Xg1 Xdu Xls U0 :=by
  intro xs l hok h0 hl h
  obtain⟨h1,l',a1,a2,e⟩ :=Xg0 hok h0 hl h
  unfold Xdu at h ⊢
  rw[e]
  exact⟨h1,a2⟩
def Q7{α:Type}(f:α->List AV)(z:List AV)(xs:List α)(k:Nat):List (List AV) :=(xs.take k).map f++List.replicate (xs.length-k) z
def Xgw{α:Type}(f:α->List AV)(z:List AV)(xs:List α):List.replicate xs.length z=Q7 f z xs 0 :=by simp[Q7]
def XhV{α:Type}(f:α->List AV)(z:List AV)(xs:List α):Q7 f z xs xs.length=xs.map f :=by simp[Q7]
def XhW{α:Type}(f:α->List AV)(z:List AV)(xs:List α)(k:Nat)(h:k<=xs.length):(Q7 f z xs k).length=xs.length :=by simp[Q7]; omega
def XhX{α:Type}(f:α->List AV)(z:List AV)(xs:List α)(k:Nat)(h:k<xs.length):(Q7 f z xs k).set k (f xs[k])=Q7 f z xs (k+1) :=by
  unfold Q7
  rw[List.set_append_right _ _ (by simp; omega)]
  simp only[List.length_map,List.length_take]
  rw[show k-min k xs.length=0 by omega,show xs.length-k=(xs.length-(k+1))+1 by omega,List.replicate_succ,List.set_cons_zero,List.take_succ_eq_append_getElem h,List.map_append]
  simp only[List.map_cons,List.map_nil,List.append_assoc,List.cons_append,List.nil_append]
def Xd3{α:Type}(f:α->List AV)(z:List AV)(xs:List α)(k:Nat)(h:k<xs.length):(Q7 f z xs k)[k]?=some z :=by
  unfold Q7
  rw[List.getElem?_append_right (by simp; omega)]
  simp only[List.length_map,List.length_take]
  rw[show k-min k xs.length=0 by omega,List.getElem?_replicate,if_pos (by omega)]
def Xgx{α:Type}(f:α->List AV)(z:List AV)(xs:List α)(k:Nat)(h:k<xs.length):(Q7 f z xs k).getD k []=z :=by
  rw[List.getD_eq_getElem?_getD,Xd3 f z xs k h]; rfl
def XjA{α:Type}{f:α->Int->Int}:∀{xs:List α} {l l':Int},Xad (λx l => decide (f x l<0)) (λx l => f x l) xs l=.inl l'->szO f xs l=some l'
  | [],l,l',h => by simpa[szO,Xad] using h
  | x :: xs,l,l',h => by
    by_cases hc:f x l<0
    · simp[Xad,hc] at h
    · simp only[Xad,decide_eq_false hc,Bool.false_eq_true,if_false] at h
      simp only[szO,if_neg hc,XjA h]
def XjB{α:Type}{f:α->Int->Int}:∀{xs:List α} {l:Int} {p:α×Int},Xad (λx l => decide (f x l<0)) (λx l => f x l) xs l=.inr p->szO f xs l=none
  | [],l,p,h => by simp[Xad] at h
  | x :: xs,l,p,h => by
    by_cases hc:f x l<0
    · simp only[szO,if_pos hc]
    · simp only[Xad,decide_eq_false hc,Bool.false_eq_true,if_false] at h
      simp only[szO,if_neg hc,XjB h]
def YC{α:Type}{xs ys:List α}(h:xs.length=ys.length):(xs.zip ys).length=xs.length :=by simp[h]
def Um{α:Type}:∀{xs ys:List α} {u u':Unit},xs.length=ys.length->Xad (λ(x:α×α) (_:Unit) => !eqv x.1 x.2) (λ_ _ => ()) (xs.zip ys) u=.inl u'->eqv xs ys=true
  | [],[],_,_,_,_ => Xbr _
  | x :: xs,y :: ys,u,u',hl,h => by
    simp only[List.zip_cons_cons,Xad] at h
    cases hc:eqv x y with
    | false => simp[hc] at h
    | true =>
      simp only[hc,Bool.not_true,Bool.false_eq_true,if_false] at h
      have :=Ys.1 (Um (by simpa using hl) h)
      rw[Ys.1 hc,this]; exact Xbr _
def Un{α:Type}:∀{xs ys:List α} {u:Unit} {p:(α×α)×Unit},xs.length=ys.length->Xad (λ(x:α×α) (_:Unit) => !eqv x.1 x.2) (λ_ _ => ()) (xs.zip ys) u=.inr p->eqv xs ys=false
  | [],[],_,_,_,h => by simp[Xad] at h
  | x :: xs,y :: ys,u,p,hl,h => by
    simp only[List.zip_cons_cons,Xad] at h
    cases he:eqv (x :: xs) (y :: ys) with
    | false => rfl
    | true =>
      have hh :=Ys.1 he
      injection hh with h1 h2
      subst h1 h2
      simp only[Xbr,Bool.not_true,Bool.false_eq_true,if_false] at h
      have :=Un rfl h
      rw[Xbr] at this; cases this
def U1{α:Type}{xs ys:List α}(h:¬xs.length=ys.length):eqv xs ys=false :=by
  cases he:eqv xs ys with
  | false => rfl
  | true => exact absurd (congrArg List.length (Ys.1 he)) h
def XlV(c:Prop)[Decidable c](k:IntKind)(x y:Int)(l:List AV):(if c then some (AV.i k x,l) else some (AV.i k y,l))=some (AV.i k (if c then x else y),l) :=by split<;>rfl
def Xfw(c:Prop)[Decidable c](x y:Bool)(l:List AV):(if c then some (AV.b x,l) else some (AV.b y,l))=some (AV.b (if c then x else y),l) :=by split<;>rfl
def Zb(x:Bool):((!x)=true)=(x=false) :=by cases x<;>simp
def Xat(x y:Bool):(if x=false then false else y)=(x&&y) :=by cases x<;>rfl
end Go.Vm
namespace Go.Vm
structure Lanes where
  Slots:Int
  Cap:Int
  Time:Int
def Xdd(t:Tag)(a:Lanes):List AV :=[.i .i64 a.Slots,.i .i64 a.Cap,.i .i64 a.Time]
@[go_sem] def XoB(t:Tag)(a:Lanes):Xdd t a=[.i .i64 a.Slots,.i .i64 a.Cap,.i .i64 a.Time] :=nr rfl
@[go_sem] def XlW(t:Tag)(xs:List Lanes):XI (xs.map (Xdd t))=xs.map (Xdd .ro) :=XZ (λa => by simp only[Xdd,Ym,strip]) xs
@[go_sem] def XnM(xs:List Lanes):XF (xs.map (Xdd .mut))=false :=Ye (λa => by simp only[Xdd,XN,XD,Bool.or_self]) xs
@[go_sem] def Lanes.eta(a:Lanes):Lanes.mk a.Slots a.Cap a.Time=a :=nr rfl
def Lanes.eqv(a b:Lanes):Vm.eqv a b=(Vm.eqv a.Slots b.Slots&&(Vm.eqv a.Cap b.Cap&&(Vm.eqv a.Time b.Time))) :=(ZI (by simp only[Bool.and_eq_true,Ys]; cases a; cases b; simp only[Lanes.mk.injEq,and_assoc])).symm
def XnN(a:Lanes):Prop :=XaI a.Slots/\XaI a.Cap/\XaI a.Time
def Xex(a:Lanes):Prop :=Zv a.Slots/\Zv a.Cap/\Zv a.Time
def Xfx(a:Lanes):Xex a :=⟨trivial,trivial,trivial⟩
structure Rules where
  Window:Int
  Min:Int
  Ratio:Int
  Cool:Int
  Quota:Int
def Xde(t:Tag)(a:Rules):List AV :=[.i .i64 a.Window,.i .i64 a.Min,.i .i64 a.Ratio,.i .i64 a.Cool,.i .i64 a.Quota]
@[go_sem] def XoC(t:Tag)(a:Rules):Xde t a=[.i .i64 a.Window,.i .i64 a.Min,.i .i64 a.Ratio,.i .i64 a.Cool,.i .i64 a.Quota] :=nr rfl
@[go_sem] def XlX(t:Tag)(xs:List Rules):XI (xs.map (Xde t))=xs.map (Xde .ro) :=XZ (λa => by simp only[Xde,Ym,strip]) xs
@[go_sem] def XnO(xs:List Rules):XF (xs.map (Xde .mut))=false :=Ye (λa => by simp only[Xde,XN,XD,Bool.or_self]) xs
@[go_sem] def Rules.eta(a:Rules):Rules.mk a.Window a.Min a.Ratio a.Cool a.Quota=a :=nr rfl
def Rules.eqv(a b:Rules):Vm.eqv a b=(Vm.eqv a.Window b.Window&&(Vm.eqv a.Min b.Min&&(Vm.eqv a.Ratio b.Ratio&&(Vm.eqv a.Cool b.Cool&&(Vm.eqv a.Quota b.Quota))))) :=(ZI (by simp only[Bool.and_eq_true,Ys]; cases a; cases b; simp only[Rules.mk.injEq,and_assoc])).symm
def XnP(a:Rules):Prop :=XaI a.Window/\XaI a.Min/\XaI a.Ratio/\XaI a.Cool/\XaI a.Quota
def Xey(a:Rules):Prop :=Zv a.Window/\Zv a.Min/\Zv a.Ratio/\Zv a.Cool/\Zv a.Quota
def Xfy(a:Rules):Xey a :=⟨trivial,trivial,trivial,trivial,trivial⟩
structure Config where
  Budget:Int
  Guard:Int
  ObjCost:Int
  Neg:Int
  Early:Int
  FetchTime:Int
  WaitTime:Int
  WaitCap:Int
  Names:List ByteArray
  Lanes:Lanes
  Rules:Rules
def Q8(t:Tag)(a:Config):List AV :=[.i .i64 a.Budget,.i .i64 a.Guard,.i .i64 a.ObjCost,.i .i64 a.Neg,.i .i64 a.Early,.i .i64 a.FetchTime,.i .i64 a.WaitTime,.i .i64 a.WaitCap,.sl t 1 (a.Names.map Yf),.i .i64 a.Lanes.Slots,.i .i64 a.Lanes.Cap,.i .i64 a.Lanes.Time,.i .i64 a.Rules.Window,.i .i64 a.Rules.Min,.i .i64 a.Rules.Ratio,.i .i64 a.Rules.Cool,.i .i64 a.Rules.Quota]
@[go_sem] def XnQ(t:Tag)(a:Config):Q8 t a=[.i .i64 a.Budget,.i .i64 a.Guard,.i .i64 a.ObjCost,.i .i64 a.Neg,.i .i64 a.Early,.i .i64 a.FetchTime,.i .i64 a.WaitTime,.i .i64 a.WaitCap,.sl t 1 (a.Names.map Yf),.i .i64 a.Lanes.Slots,.i .i64 a.Lanes.Cap,.i .i64 a.Lanes.Time,.i .i64 a.Rules.Window,.i .i64 a.Rules.Min,.i .i64 a.Rules.Ratio,.i .i64 a.Rules.Cool,.i .i64 a.Rules.Quota] :=nr rfl
@[go_sem] def Xlv(t:Tag)(xs:List Config):XI (xs.map (Q8 t))=xs.map (Q8 .ro) :=XZ (λa => by simp only[Q8,Ym,strip,XaF]) xs
@[go_sem] def XlY(xs:List Config):XF (xs.map (Q8 .mut))=false :=Ye (λa => by simp only[Q8,XN,XD,Bool.or_self,Xbu]) xs
@[go_sem] def Config.eta(a:Config):Config.mk a.Budget a.Guard a.ObjCost a.Neg a.Early a.FetchTime a.WaitTime a.WaitCap a.Names a.Lanes a.Rules=a :=nr rfl
def Config.eqv(a b:Config):Vm.eqv a b=(Vm.eqv a.Budget b.Budget&&(Vm.eqv a.Guard b.Guard&&(Vm.eqv a.ObjCost b.ObjCost&&(Vm.eqv a.Neg b.Neg&&(Vm.eqv a.Early b.Early&&(Vm.eqv a.FetchTime b.FetchTime&&(Vm.eqv a.WaitTime b.WaitTime&&(Vm.eqv a.WaitCap b.WaitCap&&(Vm.eqv a.Names b.Names&&(Vm.eqv a.Lanes b.Lanes&&(Vm.eqv a.Rules b.Rules))))))))))) :=(ZI (by simp only[Bool.and_eq_true,Ys]; cases a; cases b; simp only[Config.mk.injEq,and_assoc])).symm
def Xct(a:Config):Prop :=XaI a.Budget/\XaI a.Guard/\XaI a.ObjCost/\XaI a.Neg/\XaI a.Early/\XaI a.FetchTime/\XaI a.WaitTime/\XaI a.WaitCap/\(okL Xls) a.Names/\XnN a.Lanes/\XnP a.Rules
def Qq(a:Config):Prop :=Zv a.Budget/\Zv a.Guard/\Zv a.ObjCost/\Zv a.Neg/\Zv a.Early/\Zv a.FetchTime/\Zv a.WaitTime/\Zv a.WaitCap/\(smL U0) a.Names/\Xex a.Lanes/\Xey a.Rules
def XaG(a:Config)(left:Int):Int :=szn (szL Xdu a.Names left) λl => l
def Xez:Xg1 XaG Xct Qq :=by
  intro a left hok h0 hl h
  unfold XaG at h ⊢
  obtain⟨qBudget,qGuard,qObjCost,qNeg,qEarly,qFetchTime,qWaitTime,qWaitCap,qNames,qLanes,qRules⟩ :=hok
  obtain⟨a0,e0⟩ :=Xlt h
  obtain⟨sNames,b0⟩ :=(Xlu XhU) _ _ qNames h0 (by omega) a0
  rw[e0] at h ⊢
  exact⟨⟨trivial,trivial,trivial,trivial,trivial,trivial,trivial,trivial,sNames,Xfx _,Xfy _⟩,by omega⟩
structure XL where
  Name:ByteArray
  Value:ByteArray
def Xl(t:Tag)(a:XL):List AV :=[.s a.Name,.s a.Value]
@[go_sem] def XnR(t:Tag)(a:XL):Xl t a=[.s a.Name,.s a.Value] :=nr rfl
@[go_sem] def U2(t:Tag)(xs:List XL):XI (xs.map (Xl t))=xs.map (Xl .ro) :=XZ (λa => by simp only[Xl,Ym,strip]) xs
@[go_sem] def Xau(xs:List XL):XF (xs.map (Xl .mut))=false :=Ye (λa => by simp only[Xl,XN,XD,Bool.or_self]) xs
@[go_sem] def XL.eta(a:XL):XL.mk a.Name a.Value=a :=nr rfl
def XL.eqv(a b:XL):Vm.eqv a b=(Vm.eqv a.Name b.Name&&(Vm.eqv a.Value b.Value)) :=(ZI (by simp only[Bool.and_eq_true,Ys]; cases a; cases b; simp only[XL.mk.injEq,and_assoc])).symm
def Yv(a:XL):Prop :=U0 a.Name/\U0 a.Value
structure Meta where
  At:Int
  Age:Int
  Life:Int
  Swr:Int
  Sie:Int
  Soft:Bool
  NoCache:Bool
def XhY(t:Tag)(a:Meta):List AV :=[.i .i64 a.At,.i .i64 a.Age,.i .i64 a.Life,.i .i64 a.Swr,.i .i64 a.Sie,.b a.Soft,.b a.NoCache]
@[go_sem] def Xqz(t:Tag)(a:Meta):XhY t a=[.i .i64 a.At,.i .i64 a.Age,.i .i64 a.Life,.i .i64 a.Swr,.i .i64 a.Sie,.b a.Soft,.b a.NoCache] :=nr rfl
@[go_sem] def XnS(t:Tag)(xs:List Meta):XI (xs.map (XhY t))=xs.map (XhY .ro) :=XZ (λa => by simp only[XhY,Ym,strip]) xs
@[go_sem] def XoD(xs:List Meta):XF (xs.map (XhY .mut))=false :=Ye (λa => by simp only[XhY,XN,XD,Bool.or_self]) xs
@[go_sem] def Meta.eta(a:Meta):Meta.mk a.At a.Age a.Life a.Swr a.Sie a.Soft a.NoCache=a :=nr rfl
def Meta.eqv(a b:Meta):Vm.eqv a b=(Vm.eqv a.At b.At&&(Vm.eqv a.Age b.Age&&(Vm.eqv a.Life b.Life&&(Vm.eqv a.Swr b.Swr&&(Vm.eqv a.Sie b.Sie&&(Vm.eqv a.Soft b.Soft&&(Vm.eqv a.NoCache b.NoCache))))))) :=(ZI (by simp only[Bool.and_eq_true,Ys]; cases a; cases b; simp only[Meta.mk.injEq,and_assoc])).symm
def XlZ(a:Meta):Prop :=Zv a.At/\Zv a.Age/\Zv a.Life/\Zv a.Swr/\Zv a.Sie/\Xcc a.Soft/\Xcc a.NoCache
structure XM where
  Key:ByteArray
  Status:Int
  Headers:List XL
  Body:List UInt8
  Meta:Meta
  Tags:List ByteArray
  Pins:Int
def Xa(t:Tag)(a:XM):List AV :=[.s a.Key,.i .i64 a.Status,.sl t 2 (a.Headers.map (Xl t)),.sl t 1 (a.Body.map YL),.i .i64 a.Meta.At,.i .i64 a.Meta.Age,.i .i64 a.Meta.Life,.i .i64 a.Meta.Swr,.i .i64 a.Meta.Sie,.b a.Meta.Soft,.b a.Meta.NoCache,.sl t 1 (a.Tags.map Yf),.i .i64 a.Pins]
@[go_sem] def XoE(t:Tag)(a:XM):Xa t a=[.s a.Key,.i .i64 a.Status,.sl t 2 (a.Headers.map (Xl t)),.sl t 1 (a.Body.map YL),.i .i64 a.Meta.At,.i .i64 a.Meta.Age,.i .i64 a.Meta.Life,.i .i64 a.Meta.Swr,.i .i64 a.Meta.Sie,.b a.Meta.Soft,.b a.Meta.NoCache,.sl t 1 (a.Tags.map Yf),.i .i64 a.Pins] :=nr rfl
@[go_sem] def Ug(t:Tag)(xs:List XM):XI (xs.map (Xa t))=xs.map (Xa .ro) :=XZ (λa => by simp only[Xa,Ym,strip,Xgv,U2,XaF]) xs
@[go_sem] def U3(xs:List XM):XF (xs.map (Xa .mut))=false :=Ye (λa => by simp only[Xa,XN,XD,Bool.or_self,XhT,Xau,Xbu]) xs
@[go_sem] def XM.eta(a:XM):XM.mk a.Key a.Status a.Headers a.Body a.Meta a.Tags a.Pins=a :=nr rfl
def XM.eqv(a b:XM):Vm.eqv a b=(Vm.eqv a.Key b.Key&&(Vm.eqv a.Status b.Status&&(Vm.eqv a.Headers b.Headers&&(Vm.eqv a.Body b.Body&&(Vm.eqv a.Meta b.Meta&&(Vm.eqv a.Tags b.Tags&&(Vm.eqv a.Pins b.Pins))))))) :=(ZI (by simp only[Bool.and_eq_true,Ys]; cases a; cases b; simp only[XM.mk.injEq,and_assoc])).symm
def Y0(a:XM):Prop :=U0 a.Key/\Zv a.Status/\(smL Yv) a.Headers/\(smL Xfv) a.Body/\XlZ a.Meta/\(smL U0) a.Tags/\Zv a.Pins
structure Store where
  Budget:Int
  Guard:Int
  Trial:List XM
  Kept:List XM
def Xcd(t:Tag)(a:Store):List AV :=[.i .i64 a.Budget,.i .i64 a.Guard,.sl t 13 (a.Trial.map (Xa t)),.sl t 13 (a.Kept.map (Xa t))]
@[go_sem] def XoF(t:Tag)(a:Store):Xcd t a=[.i .i64 a.Budget,.i .i64 a.Guard,.sl t 13 (a.Trial.map (Xa t)),.sl t 13 (a.Kept.map (Xa t))] :=nr rfl
@[go_sem] def Xl0(t:Tag)(xs:List Store):XI (xs.map (Xcd t))=xs.map (Xcd .ro) :=XZ (λa => by simp only[Xcd,Ym,strip,Ug]) xs
@[go_sem] def XnT(xs:List Store):XF (xs.map (Xcd .mut))=false :=Ye (λa => by simp only[Xcd,XN,XD,Bool.or_self,U3]) xs
@[go_sem] def Store.eta(a:Store):Store.mk a.Budget a.Guard a.Trial a.Kept=a :=nr rfl
def Store.eqv(a b:Store):Vm.eqv a b=(Vm.eqv a.Budget b.Budget&&(Vm.eqv a.Guard b.Guard&&(Vm.eqv a.Trial b.Trial&&(Vm.eqv a.Kept b.Kept)))) :=(ZI (by simp only[Bool.and_eq_true,Ys]; cases a; cases b; simp only[Store.mk.injEq,and_assoc])).symm
def Xdf(a:Store):Prop :=Zv a.Budget/\Zv a.Guard/\(smL Y0) a.Trial/\(smL Y0) a.Kept
structure XaP where
  Id:Int
  Due:Int
def YU(t:Tag)(a:XaP):List AV :=[.i .i64 a.Id,.i .i64 a.Due]
@[go_sem] def XqA(t:Tag)(a:XaP):YU t a=[.i .i64 a.Id,.i .i64 a.Due] :=nr rfl
@[go_sem] def Xa1(t:Tag)(xs:List XaP):XI (xs.map (YU t))=xs.map (YU .ro) :=XZ (λa => by simp only[YU,Ym,strip]) xs
@[go_sem] def XbW(xs:List XaP):XF (xs.map (YU .mut))=false :=Ye (λa => by simp only[YU,XN,XD,Bool.or_self]) xs
@[go_sem] def XaP.eta(a:XaP):XaP.mk a.Id a.Due=a :=nr rfl
def XaP.eqv(a b:XaP):Vm.eqv a b=(Vm.eqv a.Id b.Id&&(Vm.eqv a.Due b.Due)) :=(ZI (by simp only[Bool.and_eq_true,Ys]; cases a; cases b; simp only[XaP.mk.injEq,and_assoc])).symm
def Xce(a:XaP):Prop :=Zv a.Id/\Zv a.Due
structure Bulk where
  Busy:Int
  Queue:List XaP
def Xgy(t:Tag)(a:Bulk):List AV :=[.i .i64 a.Busy,.sl t 2 (a.Queue.map (YU t))]
@[go_sem] def XqB(t:Tag)(a:Bulk):Xgy t a=[.i .i64 a.Busy,.sl t 2 (a.Queue.map (YU t))] :=nr rfl
@[go_sem] def XnU(t:Tag)(xs:List Bulk):XI (xs.map (Xgy t))=xs.map (Xgy .ro) :=XZ (λa => by simp only[Xgy,Ym,strip,Xa1]) xs
@[go_sem] def XoG(xs:List Bulk):XF (xs.map (Xgy .mut))=false :=Ye (λa => by simp only[Xgy,XN,XD,Bool.or_self,XbW]) xs
@[go_sem] def Bulk.eta(a:Bulk):Bulk.mk a.Busy a.Queue=a :=nr rfl
def Bulk.eqv(a b:Bulk):Vm.eqv a b=(Vm.eqv a.Busy b.Busy&&(Vm.eqv a.Queue b.Queue)) :=(ZI (by simp only[Bool.and_eq_true,Ys]; cases a; cases b; simp only[Bulk.mk.injEq,and_assoc])).symm
def Xl1(a:Bulk):Prop :=Zv a.Busy/\(smL Xce) a.Queue
structure XaQ where
  At:Int
  Good:Bool
def YV(t:Tag)(a:XaQ):List AV :=[.i .i64 a.At,.b a.Good]
@[go_sem] def XqC(t:Tag)(a:XaQ):YV t a=[.i .i64 a.At,.b a.Good] :=nr rfl
@[go_sem] def Xa2(t:Tag)(xs:List XaQ):XI (xs.map (YV t))=xs.map (YV .ro) :=XZ (λa => by simp only[YV,Ym,strip]) xs
@[go_sem] def XbX(xs:List XaQ):XF (xs.map (YV .mut))=false :=Ye (λa => by simp only[YV,XN,XD,Bool.or_self]) xs
@[go_sem] def XaQ.eta(a:XaQ):XaQ.mk a.At a.Good=a :=nr rfl
def XaQ.eqv(a b:XaQ):Vm.eqv a b=(Vm.eqv a.At b.At&&(Vm.eqv a.Good b.Good)) :=(ZI (by simp only[Bool.and_eq_true,Ys]; cases a; cases b; simp only[XaQ.mk.injEq,and_assoc])).symm
def Xcf(a:XaQ):Prop :=Zv a.At/\Xcc a.Good
structure Breaker where
  State:Int
  Since:Int
  Out:Int
  Marks:List XaQ
def U4(t:Tag)(a:Breaker):List AV :=[.i .i64 a.State,.i .i64 a.Since,.i .i64 a.Out,.sl t 2 (a.Marks.map (YV t))]
@[go_sem] def Xl2(t:Tag)(a:Breaker):U4 t a=[.i .i64 a.State,.i .i64 a.Since,.i .i64 a.Out,.sl t 2 (a.Marks.map (YV t))] :=nr rfl
@[go_sem] def XjL(t:Tag)(xs:List Breaker):XI (xs.map (U4 t))=xs.map (U4 .ro) :=XZ (λa => by simp only[U4,Ym,strip,Xa2]) xs
@[go_sem] def Xlw(xs:List Breaker):XF (xs.map (U4 .mut))=false :=Ye (λa => by simp only[U4,XN,XD,Bool.or_self,XbX]) xs
@[go_sem] def Breaker.eta(a:Breaker):Breaker.mk a.State a.Since a.Out a.Marks=a :=nr rfl
def Breaker.eqv(a b:Breaker):Vm.eqv a b=(Vm.eqv a.State b.State&&(Vm.eqv a.Since b.Since&&(Vm.eqv a.Out b.Out&&(Vm.eqv a.Marks b.Marks)))) :=(ZI (by simp only[Bool.and_eq_true,Ys]; cases a; cases b; simp only[Breaker.mk.injEq,and_assoc])).symm
def Xfz(a:Breaker):Prop :=Zv a.State/\Zv a.Since/\Zv a.Out/\(smL Xcf) a.Marks
structure Origin where
  Host:ByteArray
  Bulk:Bulk
  Breaker:Breaker
def Xv(t:Tag)(a:Origin):List AV :=[.s a.Host,.i .i64 a.Bulk.Busy,.sl t 2 (a.Bulk.Queue.map (YU t)),.i .i64 a.Breaker.State,.i .i64 a.Breaker.Since,.i .i64 a.Breaker.Out,.sl t 2 (a.Breaker.Marks.map (YV t))]
@[go_sem] def XnV(t:Tag)(a:Origin):Xv t a=[.s a.Host,.i .i64 a.Bulk.Busy,.sl t 2 (a.Bulk.Queue.map (YU t)),.i .i64 a.Breaker.State,.i .i64 a.Breaker.Since,.i .i64 a.Breaker.Out,.sl t 2 (a.Breaker.Marks.map (YV t))] :=nr rfl
@[go_sem] def Xbv(t:Tag)(xs:List Origin):XI (xs.map (Xv t))=xs.map (Xv .ro) :=XZ (λa => by simp only[Xv,Ym,strip,Xa2,Xa1]) xs
@[go_sem] def Xcg(xs:List Origin):XF (xs.map (Xv .mut))=false :=Ye (λa => by simp only[Xv,XN,XD,Bool.or_self,XbX,XbW]) xs
@[go_sem] def Origin.eta(a:Origin):Origin.mk a.Host a.Bulk a.Breaker=a :=nr rfl
def Origin.eqv(a b:Origin):Vm.eqv a b=(Vm.eqv a.Host b.Host&&(Vm.eqv a.Bulk b.Bulk&&(Vm.eqv a.Breaker b.Breaker))) :=(ZI (by simp only[Bool.and_eq_true,Ys]; cases a; cases b; simp only[Origin.mk.injEq,and_assoc])).symm
def Xcu(a:Origin):Prop :=U0 a.Host/\Xl1 a.Bulk/\Xfz a.Breaker
structure Yt where
  Method:ByteArray
  Host:ByteArray
  Path:ByteArray
  Headers:List XL
def U5(t:Tag)(a:Yt):List AV :=[.s a.Method,.s a.Host,.s a.Path,.sl t 2 (a.Headers.map (Xl t))]
@[go_sem] def Xl3(t:Tag)(a:Yt):U5 t a=[.s a.Method,.s a.Host,.s a.Path,.sl t 2 (a.Headers.map (Xl t))] :=nr rfl
@[go_sem] def XjM(t:Tag)(xs:List Yt):XI (xs.map (U5 t))=xs.map (U5 .ro) :=XZ (λa => by simp only[U5,Ym,strip,U2]) xs
@[go_sem] def Xlx(xs:List Yt):XF (xs.map (U5 .mut))=false :=Ye (λa => by simp only[U5,XN,XD,Bool.or_self,Xau]) xs
@[go_sem] def Yt.eta(a:Yt):Yt.mk a.Method a.Host a.Path a.Headers=a :=nr rfl
def Yt.eqv(a b:Yt):Vm.eqv a b=(Vm.eqv a.Method b.Method&&(Vm.eqv a.Host b.Host&&(Vm.eqv a.Path b.Path&&(Vm.eqv a.Headers b.Headers)))) :=(ZI (by simp only[Bool.and_eq_true,Ys]; cases a; cases b; simp only[Yt.mk.injEq,and_assoc])).symm
def XfA(a:Yt):Prop :=U0 a.Method/\U0 a.Host/\U0 a.Path/\(smL Yv) a.Headers
structure Zc where
  Req:Int
  Head:Bool
  Due:Int
  Late:Bool
def XS(t:Tag)(a:Zc):List AV :=[.i .i64 a.Req,.b a.Head,.i .i64 a.Due,.b a.Late]
@[go_sem] def XnW(t:Tag)(a:Zc):XS t a=[.i .i64 a.Req,.b a.Head,.i .i64 a.Due,.b a.Late] :=nr rfl
@[go_sem] def XeA(t:Tag)(xs:List Zc):XI (xs.map (XS t))=xs.map (XS .ro) :=XZ (λa => by simp only[XS,Ym,strip]) xs
@[go_sem] def XfB(xs:List Zc):XF (xs.map (XS .mut))=false :=Ye (λa => by simp only[XS,XN,XD,Bool.or_self]) xs
@[go_sem] def Zc.eta(a:Zc):Zc.mk a.Req a.Head a.Due a.Late=a :=nr rfl
def Zc.eqv(a b:Zc):Vm.eqv a b=(Vm.eqv a.Req b.Req&&(Vm.eqv a.Head b.Head&&(Vm.eqv a.Due b.Due&&(Vm.eqv a.Late b.Late)))) :=(ZI (by simp only[Bool.and_eq_true,Ys]; cases a; cases b; simp only[Zc.mk.injEq,and_assoc])).symm
def U6(a:Zc):Prop :=Zv a.Req/\Xcc a.Head/\Zv a.Due/\Xcc a.Late
structure Yk where
  Id:Int
  Key:ByteArray
  Back:Bool
  Out:Bool
  Due:Int
  Doomed:Bool
  Get:Yt
  Waiters:List Zc
def Xx(t:Tag)(a:Yk):List AV :=[.i .i64 a.Id,.s a.Key,.b a.Back,.b a.Out,.i .i64 a.Due,.b a.Doomed,.s a.Get.Method,.s a.Get.Host,.s a.Get.Path,.sl t 2 (a.Get.Headers.map (Xl t)),.sl t 4 (a.Waiters.map (XS t))]
@[go_sem] def XnX(t:Tag)(a:Yk):Xx t a=[.i .i64 a.Id,.s a.Key,.b a.Back,.b a.Out,.i .i64 a.Due,.b a.Doomed,.s a.Get.Method,.s a.Get.Host,.s a.Get.Path,.sl t 2 (a.Get.Headers.map (Xl t)),.sl t 4 (a.Waiters.map (XS t))] :=nr rfl
@[go_sem] def Xbw(t:Tag)(xs:List Yk):XI (xs.map (Xx t))=xs.map (Xx .ro) :=XZ (λa => by simp only[Xx,Ym,strip,U2,XeA]) xs
@[go_sem] def Xch(xs:List Yk):XF (xs.map (Xx .mut))=false :=Ye (λa => by simp only[Xx,XN,XD,Bool.or_self,Xau,XfB]) xs
@[go_sem] def Yk.eta(a:Yk):Yk.mk a.Id a.Key a.Back a.Out a.Due a.Doomed a.Get a.Waiters=a :=nr rfl
def Yk.eqv(a b:Yk):Vm.eqv a b=(Vm.eqv a.Id b.Id&&(Vm.eqv a.Key b.Key&&(Vm.eqv a.Back b.Back&&(Vm.eqv a.Out b.Out&&(Vm.eqv a.Due b.Due&&(Vm.eqv a.Doomed b.Doomed&&(Vm.eqv a.Get b.Get&&(Vm.eqv a.Waiters b.Waiters)))))))) :=(ZI (by simp only[Bool.and_eq_true,Ys]; cases a; cases b; simp only[Yk.mk.injEq,and_assoc])).symm
def Xcv(a:Yk):Prop :=Zv a.Id/\U0 a.Key/\Xcc a.Back/\Xcc a.Out/\Zv a.Due/\Xcc a.Doomed/\XfA a.Get/\(smL U6) a.Waiters
structure Shield where
  Config:Config
  Now:Int
  Next:Int
  Store:Store
  Origins:List Origin
  Flights:List Yk
def Xav(t:Tag)(a:Shield):List AV :=[.i .i64 a.Config.Budget,.i .i64 a.Config.Guard,.i .i64 a.Config.ObjCost,.i .i64 a.Config.Neg,.i .i64 a.Config.Early,.i .i64 a.Config.FetchTime,.i .i64 a.Config.WaitTime,.i .i64 a.Config.WaitCap,.sl t 1 (a.Config.Names.map Yf),.i .i64 a.Config.Lanes.Slots,.i .i64 a.Config.Lanes.Cap,.i .i64 a.Config.Lanes.Time,.i .i64 a.Config.Rules.Window,.i .i64 a.Config.Rules.Min,.i .i64 a.Config.Rules.Ratio,.i .i64 a.Config.Rules.Cool,.i .i64 a.Config.Rules.Quota,.i .i64 a.Now,.i .i64 a.Next,.i .i64 a.Store.Budget,.i .i64 a.Store.Guard,.sl t 13 (a.Store.Trial.map (Xa t)),.sl t 13 (a.Store.Kept.map (Xa t)),.sl t 7 (a.Origins.map (Xv t)),.sl t 11 (a.Flights.map (Xx t))]
@[go_sem] def XnY(t:Tag)(a:Shield):Xav t a=[.i .i64 a.Config.Budget,.i .i64 a.Config.Guard,.i .i64 a.Config.ObjCost,.i .i64 a.Config.Neg,.i .i64 a.Config.Early,.i .i64 a.Config.FetchTime,.i .i64 a.Config.WaitTime,.i .i64 a.Config.WaitCap,.sl t 1 (a.Config.Names.map Yf),.i .i64 a.Config.Lanes.Slots,.i .i64 a.Config.Lanes.Cap,.i .i64 a.Config.Lanes.Time,.i .i64 a.Config.Rules.Window,.i .i64 a.Config.Rules.Min,.i .i64 a.Config.Rules.Ratio,.i .i64 a.Config.Rules.Cool,.i .i64 a.Config.Rules.Quota,.i .i64 a.Now,.i .i64 a.Next,.i .i64 a.Store.Budget,.i .i64 a.Store.Guard,.sl t 13 (a.Store.Trial.map (Xa t)),.sl t 13 (a.Store.Kept.map (Xa t)),.sl t 7 (a.Origins.map (Xv t)),.sl t 11 (a.Flights.map (Xx t))] :=nr rfl
@[go_sem] def Xly(t:Tag)(xs:List Shield):XI (xs.map (Xav t))=xs.map (Xav .ro) :=XZ (λa => by simp only[Xav,Ym,strip,Ug,Xbw,Xbv,XaF]) xs
@[go_sem] def Xl4(xs:List Shield):XF (xs.map (Xav .mut))=false :=Ye (λa => by simp only[Xav,XN,XD,Bool.or_self,U3,Xch,Xcg,Xbu]) xs
@[go_sem] def Shield.eta(a:Shield):Shield.mk a.Config a.Now a.Next a.Store a.Origins a.Flights=a :=nr rfl
def Shield.eqv(a b:Shield):Vm.eqv a b=(Vm.eqv a.Config b.Config&&(Vm.eqv a.Now b.Now&&(Vm.eqv a.Next b.Next&&(Vm.eqv a.Store b.Store&&(Vm.eqv a.Origins b.Origins&&(Vm.eqv a.Flights b.Flights)))))) :=(ZI (by simp only[Bool.and_eq_true,Ys]; cases a; cases b; simp only[Shield.mk.injEq,and_assoc])).symm
def XaH(a:Shield):Prop :=Qq a.Config/\Zv a.Now/\Zv a.Next/\Xdf a.Store/\(smL Xcu) a.Origins/\(smL Xcv) a.Flights
structure Xr where
  Code:Int
  Shield:Shield
def YQ(t:Tag)(a:Xr):List AV :=[.i .i64 a.Code,.i .i64 a.Shield.Config.Budget,.i .i64 a.Shield.Config.Guard,.i .i64 a.Shield.Config.ObjCost,.i .i64 a.Shield.Config.Neg,.i .i64 a.Shield.Config.Early,.i .i64 a.Shield.Config.FetchTime,.i .i64 a.Shield.Config.WaitTime,.i .i64 a.Shield.Config.WaitCap,.sl t 1 (a.Shield.Config.Names.map Yf),.i .i64 a.Shield.Config.Lanes.Slots,.i .i64 a.Shield.Config.Lanes.Cap,.i .i64 a.Shield.Config.Lanes.Time,.i .i64 a.Shield.Config.Rules.Window,.i .i64 a.Shield.Config.Rules.Min,.i .i64 a.Shield.Config.Rules.Ratio,.i .i64 a.Shield.Config.Rules.Cool,.i .i64 a.Shield.Config.Rules.Quota,.i .i64 a.Shield.Now,.i .i64 a.Shield.Next,.i .i64 a.Shield.Store.Budget,.i .i64 a.Shield.Store.Guard,.sl t 13 (a.Shield.Store.Trial.map (Xa t)),.sl t 13 (a.Shield.Store.Kept.map (Xa t)),.sl t 7 (a.Shield.Origins.map (Xv t)),.sl t 11 (a.Shield.Flights.map (Xx t))]
@[go_sem] def XhZ(t:Tag)(a:Xr):YQ t a=[.i .i64 a.Code,.i .i64 a.Shield.Config.Budget,.i .i64 a.Shield.Config.Guard,.i .i64 a.Shield.Config.ObjCost,.i .i64 a.Shield.Config.Neg,.i .i64 a.Shield.Config.Early,.i .i64 a.Shield.Config.FetchTime,.i .i64 a.Shield.Config.WaitTime,.i .i64 a.Shield.Config.WaitCap,.sl t 1 (a.Shield.Config.Names.map Yf),.i .i64 a.Shield.Config.Lanes.Slots,.i .i64 a.Shield.Config.Lanes.Cap,.i .i64 a.Shield.Config.Lanes.Time,.i .i64 a.Shield.Config.Rules.Window,.i .i64 a.Shield.Config.Rules.Min,.i .i64 a.Shield.Config.Rules.Ratio,.i .i64 a.Shield.Config.Rules.Cool,.i .i64 a.Shield.Config.Rules.Quota,.i .i64 a.Shield.Now,.i .i64 a.Shield.Next,.i .i64 a.Shield.Store.Budget,.i .i64 a.Shield.Store.Guard,.sl t 13 (a.Shield.Store.Trial.map (Xa t)),.sl t 13 (a.Shield.Store.Kept.map (Xa t)),.sl t 7 (a.Shield.Origins.map (Xv t)),.sl t 11 (a.Shield.Flights.map (Xx t))] :=nr rfl
@[go_sem] def Xgz(t:Tag)(xs:List Xr):XI (xs.map (YQ t))=xs.map (YQ .ro) :=XZ (λa => by simp only[YQ,Ym,strip,Ug,Xbw,Xbv,XaF]) xs
@[go_sem] def Xg2(xs:List Xr):XF (xs.map (YQ .mut))=false :=Ye (λa => by simp only[YQ,XN,XD,Bool.or_self,U3,Xch,Xcg,Xbu]) xs
@[go_sem] def Xr.eta(a:Xr):Xr.mk a.Code a.Shield=a :=nr rfl
def Xr.eqv(a b:Xr):Vm.eqv a b=(Vm.eqv a.Code b.Code&&(Vm.eqv a.Shield b.Shield)) :=(ZI (by simp only[Bool.and_eq_true,Ys]; cases a; cases b; simp only[Xr.mk.injEq,and_assoc])).symm
def Uo(a:Xr):Prop :=Zv a.Code/\XaH a.Shield
structure ZY where
  Code:Int
  Value:Int
def QZ(t:Tag)(a:ZY):List AV :=[.i .i64 a.Code,.i .i64 a.Value]
@[go_sem] def XjN(t:Tag)(a:ZY):QZ t a=[.i .i64 a.Code,.i .i64 a.Value] :=nr rfl
@[go_sem] def Xh5(t:Tag)(xs:List ZY):XI (xs.map (QZ t))=xs.map (QZ .ro) :=XZ (λa => by simp only[QZ,Ym,strip]) xs
@[go_sem] def XjC(xs:List ZY):XF (xs.map (QZ .mut))=false :=Ye (λa => by simp only[QZ,XN,XD,Bool.or_self]) xs
@[go_sem] def ZY.eta(a:ZY):ZY.mk a.Code a.Value=a :=nr rfl
def ZY.eqv(a b:ZY):Vm.eqv a b=(Vm.eqv a.Code b.Code&&(Vm.eqv a.Value b.Value)) :=(ZI (by simp only[Bool.and_eq_true,Ys]; cases a; cases b; simp only[ZY.mk.injEq,and_assoc])).symm
structure YR where
  Code:Int
  Origin:Origin
def ZP(t:Tag)(a:YR):List AV :=[.i .i64 a.Code,.s a.Origin.Host,.i .i64 a.Origin.Bulk.Busy,.sl t 2 (a.Origin.Bulk.Queue.map (YU t)),.i .i64 a.Origin.Breaker.State,.i .i64 a.Origin.Breaker.Since,.i .i64 a.Origin.Breaker.Out,.sl t 2 (a.Origin.Breaker.Marks.map (YV t))]
@[go_sem] def Xh0(t:Tag)(a:YR):ZP t a=[.i .i64 a.Code,.s a.Origin.Host,.i .i64 a.Origin.Bulk.Busy,.sl t 2 (a.Origin.Bulk.Queue.map (YU t)),.i .i64 a.Origin.Breaker.State,.i .i64 a.Origin.Breaker.Since,.i .i64 a.Origin.Breaker.Out,.sl t 2 (a.Origin.Breaker.Marks.map (YV t))] :=nr rfl
@[go_sem] def XgA(t:Tag)(xs:List YR):XI (xs.map (ZP t))=xs.map (ZP .ro) :=XZ (λa => by simp only[ZP,Ym,strip,Xa2,Xa1]) xs
@[go_sem] def Xg3(xs:List YR):XF (xs.map (ZP .mut))=false :=Ye (λa => by simp only[ZP,XN,XD,Bool.or_self,XbX,XbW]) xs
@[go_sem] def YR.eta(a:YR):YR.mk a.Code a.Origin=a :=nr rfl
def YR.eqv(a b:YR):Vm.eqv a b=(Vm.eqv a.Code b.Code&&(Vm.eqv a.Origin b.Origin)) :=(ZI (by simp only[Bool.and_eq_true,Ys]; cases a; cases b; simp only[YR.mk.injEq,and_assoc])).symm
structure Zg where
  Code:Int
  Store:Store
def Z6(t:Tag)(a:Zg):List AV :=[.i .i64 a.Code,.i .i64 a.Store.Budget,.i .i64 a.Store.Guard,.sl t 13 (a.Store.Trial.map (Xa t)),.sl t 13 (a.Store.Kept.map (Xa t))]
@[go_sem] def Xh6(t:Tag)(a:Zg):Z6 t a=[.i .i64 a.Code,.i .i64 a.Store.Budget,.i .i64 a.Store.Guard,.sl t 13 (a.Store.Trial.map (Xa t)),.sl t 13 (a.Store.Kept.map (Xa t))] :=nr rfl
@[go_sem] def Xg4(t:Tag)(xs:List Zg):XI (xs.map (Z6 t))=xs.map (Z6 .ro) :=XZ (λa => by simp only[Z6,Ym,strip,Ug]) xs
@[go_sem] def Xh1(xs:List Zg):XF (xs.map (Z6 .mut))=false :=Ye (λa => by simp only[Z6,XN,XD,Bool.or_self,U3]) xs
@[go_sem] def Zg.eta(a:Zg):Zg.mk a.Code a.Store=a :=nr rfl
def Zg.eqv(a b:Zg):Vm.eqv a b=(Vm.eqv a.Code b.Code&&(Vm.eqv a.Store b.Store)) :=(ZI (by simp only[Bool.and_eq_true,Ys]; cases a; cases b; simp only[Zg.mk.injEq,and_assoc])).symm
end Go.Vm
set_option autoImplicit false
set_option maxRecDepth 100000
set_option maxHeartbeats 4000000
namespace Go.Vm
def Yy(a:Config)(k:Int):Config×Int :=
  let p0 :=mkL YE a.Names (k)
  (⟨a.Budget,a.Guard,a.ObjCost,a.Neg,a.Early,a.FetchTime,a.WaitTime,a.WaitCap,p0.1,a.Lanes,a.Rules⟩,p0.2)
def Yb(a:Config)(k:Int):Yy a k=(let p0 :=mkL YE a.Names (k); (⟨a.Budget,a.Guard,a.ObjCost,a.Neg,a.Early,a.FetchTime,a.WaitTime,a.WaitCap,p0.1,a.Lanes,a.Rules⟩,p0.2)) :=nr rfl
def Uh(a:Config)(k:Int):k<=(Yy a k).2 :=by
  simp only[Yy]
  have b0 :=Yn Z1 a.Names (k)
  generalize (mkL YE a.Names (k)).2=q0 at b0 ⊢
  omega
def Xci(a:Config)(k:Int)(h:Qq a):(Yy a k).2<=k+(1048576:Nat) :=by
  simp only[Yy]
  have b0 :=Xaa (c :=1) (λx k h => XgY x k _ h) a.Names (k) h.2.2.2.2.2.2.2.2.1
  generalize (mkL YE a.Names (k)).2=q0 at b0 ⊢
  omega
def Xt(a:XL)(k:Int):XL×Int :=
  (⟨Xar (k),Xar (k+1)⟩,k+1+1)
def Yr(a:XL)(k:Int):k+1<=(Xt a k).2 :=by
  simp only[Xt]
  omega
def Xcj(a:XL)(k:Int)(h:Yv a):(Xt a k).2<=k+(2:Nat) :=by
  simp only[Xt]
  omega
def Xk(a:XM)(k:Int):XM×Int :=
  let p0 :=mkL Xt a.Headers (k+1+1)
  let p1 :=mkL Yx a.Body (p0.2)
  let p2 :=mkL YE a.Tags (p1.2+1+1+1+1+1+1+1)
  (⟨Xar (k),k+1,p0.1,p1.1,⟨p1.2,p1.2+1,p1.2+1+1,p1.2+1+1+1,p1.2+1+1+1+1,(p1.2+1+1+1+1+1).tmod 3==0,(p1.2+1+1+1+1+1+1).tmod 3==0⟩,p2.1,p2.2⟩,p2.2+1)
def YM(a:XM)(k:Int):k+1<=(Xk a k).2 :=by
  simp only[Xk]
  have b0 :=Yn Yr a.Headers (k+1+1)
  generalize (mkL Xt a.Headers (k+1+1)).2=q0 at b0 ⊢
  have b1 :=Yn Qi a.Body (q0)
  generalize (mkL Yx a.Body (q0)).2=q1 at b1 ⊢
  have b2 :=Yn Z1 a.Tags (q1+1+1+1+1+1+1+1)
  generalize (mkL YE a.Tags (q1+1+1+1+1+1+1+1)).2=q2 at b2 ⊢
  omega
def Xdg(a:XM)(k:Int)(h:Y0 a):(Xk a k).2<=k+(4194314:Nat) :=by
  simp only[Xk]
  have b0 :=Xaa (c :=2) (Xcj) a.Headers (k+1+1) h.2.2.1
  generalize (mkL Xt a.Headers (k+1+1)).2=q0 at b0 ⊢
  have b1 :=Xaa (c :=1) (Xjw) a.Body (q0) h.2.2.2.1
  generalize (mkL Yx a.Body (q0)).2=q1 at b1 ⊢
  have b2 :=Xaa (c :=1) (λx k h => XgY x k _ h) a.Tags (q1+1+1+1+1+1+1+1) h.2.2.2.2.2.1
  generalize (mkL YE a.Tags (q1+1+1+1+1+1+1+1)).2=q2 at b2 ⊢
  omega
def Zj(a:Store)(k:Int):Store×Int :=
  let p0 :=mkL Xk a.Trial (k)
  let p1 :=mkL Xk a.Kept (p0.2)
  (⟨a.Budget,a.Guard,p0.1,p1.1⟩,p1.2)
def Yp(a:Store)(k:Int):Zj a k=(let p0 :=mkL Xk a.Trial (k); let p1 :=mkL Xk a.Kept (p0.2); (⟨a.Budget,a.Guard,p0.1,p1.1⟩,p1.2)) :=nr rfl
def Xa3(a:Store)(k:Int):k<=(Zj a k).2 :=by
  simp only[Zj]
  have b0 :=Yn YM a.Trial (k)
  generalize (mkL Xk a.Trial (k)).2=q0 at b0 ⊢
  have b1 :=Yn YM a.Kept (q0)
  generalize (mkL Xk a.Kept (q0)).2=q1 at b1 ⊢
  omega
def XgB(a:Store)(k:Int)(h:Xdf a):(Zj a k).2<=k+(8796113993728:Nat) :=by
  simp only[Zj]
  have b0 :=Xaa (c :=4194314) (Xdg) a.Trial (k) h.2.2.1
  generalize (mkL Xk a.Trial (k)).2=q0 at b0 ⊢
  have b1 :=Xaa (c :=4194314) (Xdg) a.Kept (q0) h.2.2.2
  generalize (mkL Xk a.Kept (q0)).2=q1 at b1 ⊢
  omega
def X3(a:XaP)(k:Int):XaP×Int :=
  (⟨k,k+1⟩,k+1+1)
def ZQ(a:XaP)(k:Int):k+1<=(X3 a k).2 :=by
  simp only[X3]
  omega
def Xh2(a:XaP)(k:Int)(h:Xce a):(X3 a k).2<=k+(2:Nat) :=by
  simp only[X3]
  omega
def X4(a:XaQ)(k:Int):XaQ×Int :=
  (⟨k,(k+1).tmod 3==0⟩,k+1+1)
def ZR(a:XaQ)(k:Int):k+1<=(X4 a k).2 :=by
  simp only[X4]
  omega
def Xh3(a:XaQ)(k:Int)(h:Xcf a):(X4 a k).2<=k+(2:Nat) :=by
  simp only[X4]
  omega
def Xu(a:Origin)(k:Int):Origin×Int :=
  let p0 :=mkL X3 a.Bulk.Queue (k+1+1)
  let p1 :=mkL X4 a.Breaker.Marks (p0.2+1+1+1)
  (⟨Xar (k),⟨k+1,p0.1⟩,⟨p0.2,p0.2+1,p0.2+1+1,p1.1⟩⟩,p1.2)
def Zd(a:Origin)(k:Int):k+1<=(Xu a k).2 :=by
  simp only[Xu]
  have b0 :=Yn ZQ a.Bulk.Queue (k+1+1)
  generalize (mkL X3 a.Bulk.Queue (k+1+1)).2=q0 at b0 ⊢
  have b1 :=Yn ZR a.Breaker.Marks (q0+1+1+1)
  generalize (mkL X4 a.Breaker.Marks (q0+1+1+1)).2=q1 at b1 ⊢
  omega
def XfC(a:Origin)(k:Int)(h:Xcu a):(Xu a k).2<=k+(4194309:Nat) :=by
  simp only[Xu]
  have b0 :=Xaa (c :=2) (Xh2) a.Bulk.Queue (k+1+1) h.2.1.2
  generalize (mkL X3 a.Bulk.Queue (k+1+1)).2=q0 at b0 ⊢
  have b1 :=Xaa (c :=2) (Xh3) a.Breaker.Marks (q0+1+1+1) h.2.2.2.2.2
  generalize (mkL X4 a.Breaker.Marks (q0+1+1+1)).2=q1 at b1 ⊢
  omega
def Xz(a:Zc)(k:Int):Zc×Int :=
  (⟨k,(k+1).tmod 3==0,k+1+1,(k+1+1+1).tmod 3==0⟩,k+1+1+1+1)
def Ze(a:Zc)(k:Int):k+1<=(Xz a k).2 :=by
  simp only[Xz]
  omega
def XfD(a:Zc)(k:Int)(h:U6 a):(Xz a k).2<=k+(4:Nat) :=by
  simp only[Xz]
  omega
def Xw(a:Yk)(k:Int):Yk×Int :=
  let p0 :=mkL Xt a.Get.Headers (k+1+1+1+1+1+1+1+1+1)
  let p1 :=mkL Xz a.Waiters (p0.2)
  (⟨k,Xar (k+1),(k+1+1).tmod 3==0,(k+1+1+1).tmod 3==0,k+1+1+1+1,(k+1+1+1+1+1).tmod 3==0,⟨Xar (k+1+1+1+1+1+1),Xar (k+1+1+1+1+1+1+1),Xar (k+1+1+1+1+1+1+1+1),p0.1⟩,p1.1⟩,p1.2)
def Zf(a:Yk)(k:Int):k+1<=(Xw a k).2 :=by
  simp only[Xw]
  have b0 :=Yn Yr a.Get.Headers (k+1+1+1+1+1+1+1+1+1)
  generalize (mkL Xt a.Get.Headers (k+1+1+1+1+1+1+1+1+1)).2=q0 at b0 ⊢
  have b1 :=Yn Ze a.Waiters (q0)
  generalize (mkL Xz a.Waiters (q0)).2=q1 at b1 ⊢
  omega
def XfE(a:Yk)(k:Int)(h:Xcv a):(Xw a k).2<=k+(6291465:Nat) :=by
  simp only[Xw]
  have b0 :=Xaa (c :=2) (Xcj) a.Get.Headers (k+1+1+1+1+1+1+1+1+1) h.2.2.2.2.2.2.1.2.2.2
  generalize (mkL Xt a.Get.Headers (k+1+1+1+1+1+1+1+1+1)).2=q0 at b0 ⊢
  have b1 :=Xaa (c :=4) (XfD) a.Waiters (q0) h.2.2.2.2.2.2.2
  generalize (mkL Xz a.Waiters (q0)).2=q1 at b1 ⊢
  omega
def YP(a:Shield)(k:Int):Shield×Int :=
  let p0 :=Yy a.Config (k)
  let p1 :=Zj a.Store (p0.2)
  let p2 :=mkL Xu a.Origins (p1.2)
  let p3 :=mkL Xw a.Flights (p2.2)
  (⟨p0.1,a.Now,a.Next,p1.1,p2.1,p3.1⟩,p3.2)
def YS(a:Shield)(k:Int):YP a k=(let p0 :=Yy a.Config (k); let p1 :=Zj a.Store (p0.2); let p2 :=mkL Xu a.Origins (p1.2); let p3 :=mkL Xw a.Flights (p2.2); (⟨p0.1,a.Now,a.Next,p1.1,p2.1,p3.1⟩,p3.2)) :=nr rfl
def Xaw(a:Shield)(k:Int):k<=(YP a k).2 :=by
  simp only[YP]
  have b0 :=Uh a.Config (k)
  generalize (Yy a.Config (k)).2=q0 at b0 ⊢
  have b1 :=Xa3 a.Store (q0)
  generalize (Zj a.Store (q0)).2=q1 at b1 ⊢
  have b2 :=Yn Zd a.Origins (q1)
  generalize (mkL Xu a.Origins (q1)).2=q2 at b2 ⊢
  have b3 :=Yn Zf a.Flights (q2)
  generalize (mkL Xw a.Flights (q2)).2=q3 at b3 ⊢
  omega
def XfF(a:Shield)(k:Int)(h:XaH a):(YP a k).2<=k+(19791246000128:Nat) :=by
  simp only[YP]
  have b0 :=Xci a.Config (k) h.1
  generalize (Yy a.Config (k)).2=q0 at b0 ⊢
  have b1 :=XgB a.Store (q0) h.2.2.2.1
  generalize (Zj a.Store (q0)).2=q1 at b1 ⊢
  have b2 :=Xaa (c :=4194309) (XfC) a.Origins (q1) h.2.2.2.2.1
  generalize (mkL Xu a.Origins (q1)).2=q2 at b2 ⊢
  have b3 :=Xaa (c :=6291465) (XfE) a.Flights (q2) h.2.2.2.2.2
  generalize (mkL Xw a.Flights (q2)).2=q3 at b3 ⊢
  omega
def X0(a:Xr)(k:Int):Xr×Int :=
  let p0 :=YP a.Shield (k)
  (⟨a.Code,p0.1⟩,p0.2)
def Yq(a:Xr)(k:Int):X0 a k=(let p0 :=YP a.Shield (k); (⟨a.Code,p0.1⟩,p0.2)) :=nr rfl
def Xbx(a:Xr)(k:Int):k<=(X0 a k).2 :=by
  simp only[X0]
  have b0 :=Xaw a.Shield (k)
  generalize (YP a.Shield (k)).2=q0 at b0 ⊢
  omega
def Xby(a:Xr)(k:Int)(h:Uo a):(X0 a k).2<=k+(19791246000128:Nat) :=by
  simp only[X0]
  have b0 :=XfF a.Shield (k) h.2
  generalize (YP a.Shield (k)).2=q0 at b0 ⊢
  omega
end Go.Vm
set_option autoImplicit false
set_option maxRecDepth 100000
set_option maxHeartbeats 4000000
namespace Go.Vm
def Xlz(row:List AV)(h:Xc6 [.i .i64,.i .i64,.i .i64,.i .i64,.i .i64,.i .i64,.i .i64,.i .i64,.sl [.s],.i .i64,.i .i64,.i .i64,.i .i64,.i .i64,.i .i64,.i .i64,.i .i64] row):∃x:Config,row=Q8 .ro x/\Xct x :=by
  obtain⟨a0,_,rfl,h0,h⟩ :=h.cons
  obtain⟨a1,_,rfl,h1,h⟩ :=h.cons
  obtain⟨a2,_,rfl,h2,h⟩ :=h.cons
  obtain⟨a3,_,rfl,h3,h⟩ :=h.cons
  obtain⟨a4,_,rfl,h4,h⟩ :=h.cons
  obtain⟨a5,_,rfl,h5,h⟩ :=h.cons
  obtain⟨a6,_,rfl,h6,h⟩ :=h.cons
  obtain⟨a7,_,rfl,h7,h⟩ :=h.cons
  obtain⟨a8,_,rfl,h8,h⟩ :=h.cons
  obtain⟨a9,_,rfl,h9,h⟩ :=h.cons
  obtain⟨a10,_,rfl,h10,h⟩ :=h.cons
  obtain⟨a11,_,rfl,h11,h⟩ :=h.cons
  obtain⟨a12,_,rfl,h12,h⟩ :=h.cons
  obtain⟨a13,_,rfl,h13,h⟩ :=h.cons
  obtain⟨a14,_,rfl,h14,h⟩ :=h.cons
  obtain⟨a15,_,rfl,h15,h⟩ :=h.cons
  obtain⟨a16,_,rfl,h16,h⟩ :=h.cons
  obtain rfl :=h.nil
  obtain⟨x0,rfl,o0⟩ :=h0.int
  obtain⟨x1,rfl,o1⟩ :=h1.int
  obtain⟨x2,rfl,o2⟩ :=h2.int
  obtain⟨x3,rfl,o3⟩ :=h3.int
  obtain⟨x4,rfl,o4⟩ :=h4.int
  obtain⟨x5,rfl,o5⟩ :=h5.int
  obtain⟨x6,rfl,o6⟩ :=h6.int
  obtain⟨x7,rfl,o7⟩ :=h7.int
  obtain⟨x8,rfl,o8⟩ :=h8.list (f :=Yf) (ok :=Xls) Xny
  obtain⟨x9,rfl,o9⟩ :=h9.int
  obtain⟨x10,rfl,o10⟩ :=h10.int
  obtain⟨x11,rfl,o11⟩ :=h11.int
  obtain⟨x12,rfl,o12⟩ :=h12.int
  obtain⟨x13,rfl,o13⟩ :=h13.int
  obtain⟨x14,rfl,o14⟩ :=h14.int
  obtain⟨x15,rfl,o15⟩ :=h15.int
  obtain⟨x16,rfl,o16⟩ :=h16.int
  exact⟨⟨x0,x1,x2,x3,x4,x5,x6,x7,x8,⟨x9,x10,x11⟩,⟨x12,x13,x14,x15,x16⟩⟩,rfl,⟨o0,o1,o2,o3,o4,o5,o6,o7,o8,⟨o9,o10,o11⟩,⟨o12,o13,o14,o15,o16⟩⟩⟩
end Go.Vm
