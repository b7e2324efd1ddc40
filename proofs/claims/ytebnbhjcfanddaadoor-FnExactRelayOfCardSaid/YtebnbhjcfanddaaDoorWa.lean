/- Functions of the program, walked by the evaluator. -/
import Derived.Test.YtebnbhjcfanddaaDoorVf
import Derived.Test.YtebnbhjcfanddaaDoorVe
import Derived.Laws.Strings
import Derived.ChangeShapes
import Derived.ChangeArms
import Derived.Deep.Slices
import Derived.RowKit
import Derived.Below
import Derived.Lib.Bytealg
import Derived.Laws.Externs
import Derived.WalkKit
import Derived.Lib.SlTrimSet
import Derived.Lib.LaidTab
import Derived.Lib.ItoaNum
import Derived.Lib.AppendIntMem
import Derived.Lib.Overlaps
import Derived.Laws.IdiomCopy
set_option linter.unusedVariables false
set_option linter.unusedSimpArgs false
set_option autoImplicit false
set_option linter.defProp false
namespace Go.Vm
def Xey{cx:Cx}{n:Nat}:XcI {cx with rounds :=n}=XcI cx :=by
  funext ts xs as
  induction ts generalizing xs as with
  | nil => rfl
  | cons t ts ih => cases xs with
    | nil => rfl
    | cons x xs => cases as with
      | nil => rfl
      | cons a as => simp only[XcI,ih]; cases x<;>rfl
def XbC{cx:Cx}{n:Nat}:XQ {cx with rounds :=n}=XQ cx :=by
  funext st ms ts xs
  induction ms generalizing st ts xs with
  | nil => rfl
  | cons m ms ih => cases ts with
    | nil => rfl
    | cons t ts => cases xs with
      | nil => rfl
      | cons x xs => simp only[XQ,ih]; rfl
def UV{cx:Cx}{n:Nat}(st:St)(o:Oper):Xg {cx with rounds :=n} st o=Xg cx st o :=by
  have h:∀d c,Yn {cx with rounds :=n} st d c=Yn cx st d c :=λd c => by
    have h2:∀f ts xs,Ul {cx with rounds :=n} st f ts xs=Ul cx st f ts xs :=λf ts xs => by
      have h3:∀st,Qt {cx with rounds :=n} st f ts xs=Qt cx st f ts xs :=λst => by simp only[Qt,Xey]
      have h4:∀st g fs k m,Xbx {cx with rounds :=n} st g fs k m f ts xs=Xbx cx st g fs k m f ts xs :=λst g fs k m => by simp only[Xbx,h3]; rfl
      have h5:∀st g fs,XaT {cx with rounds :=n} st g fs f ts xs=XaT cx st g fs f ts xs :=λst g fs => by simp only[XaT,h3,XbC]
      have h6:∀st g fs,XaU {cx with rounds :=n} st g fs f ts xs=XaU cx st g fs f ts xs :=λst g fs => by simp only[XaU,h4,h5]
      simp only[Ul,h3,XaV,h6]
    simp only[Yn,h2]
  simp only[Xg,h]
  rfl
def QH{cx:Cx}{n:Nat}(ops:List Oper)(st:St)(o:Oper):ZH {cx with rounds :=n} ops st o=ZH cx ops st o :=by simp only[ZH,UV]
def Un{cx:Cx}{n:Nat}{ops:List Oper}:∀(l:List Oper) (cs:List (Option (List Nat))) (st:St),XI {cx with rounds :=n} ops cs st l=XI cx ops cs st l
  | [],_,_ => rfl
  | o :: l,cs,st => by
    simp only[XI,UV,Un l]
def Zd{cx:Cx}{id n:Nat}{ops:List Oper}:∀(p:Xbs) (st:St),Yj {cx with rounds :=n} id ops p st=Yj cx id ops p st
  | .done,_ => rfl
  | .take i p,st => by
    simp only[Yj,QH,Zd p]
  | .one i p,st => by
    have h2:∀o,QR {cx with rounds :=n} o=QR cx o :=λ_ => rfl
    have h3:∀s o,Qk {cx with rounds :=n} s o=Qk cx s o :=λ_ _ => rfl
    simp only[Yj,QH,h2,h3,Zd p]
  | .alt i p q,st => by
    have h2:∀o,QR {cx with rounds :=n} o=QR cx o :=λ_ => rfl
    have h3:∀s o,Qk {cx with rounds :=n} s o=Qk cx s o :=λ_ _ => rfl
    simp only[Yj,QH,h2,h3,Zd p,Zd q]
def Xdw{f g:St->Option (Ex×St)}(h:∀s r,f s=some r->g s=some r):∀(n m:Nat) (s:St) (r:Ex×St),n<=m->XjA f n s=some r->XjA g m s=some r
  | 0,_,_,_,_,hr => by cases hr
  | n+1,0,_,_,hm,_ => by omega
  | n+1,m+1,s,r,hm,hr => by
    simp only[XjA] at hr ⊢
    cases hf:f s with
    | none => rw[hf] at hr; cases hr
    | some p =>
      obtain⟨e,s'⟩ :=p
      rw[hf] at hr
      rw[h s _ hf]
      cases e with
      | nor => exact Xdw h n m s' r (by omega) hr
      | _ => exact hr
def Xbk{cx:Cx}{n m:Nat}(hnm:n<=m):∀(c:Code) (blk:Nat) (st:St) (r:Ex×St),Xl {cx with rounds :=n} blk c st=some r->Xl {cx with rounds :=m} blk c st=some r :=by
  intro c
  induction c with
  | region id ops draw =>
    intro blk st r h
    simp only[Xl,Un,Zd] at h ⊢
    exact h
  | seq a b iha ihb =>
    intro blk st r h
    simp only[Xl] at h ⊢
    cases ha:Xl {cx with rounds :=n} blk a st with
    | none => rw[ha] at h; cases h
    | some p =>
      obtain⟨e,s⟩ :=p
      rw[ha] at h
      rw[iha blk st _ ha]
      cases e with
      | nor => exact ihb blk s r h
      | _ => exact h
  | cond c a b iha ihb =>
    intro blk st r h
    simp only[Xl] at h ⊢
    split at h
    · exact iha blk st r h
    · exact ihb blk st r h
    · cases h
  | block id c ih =>
    intro blk st r h
    simp only[Xl] at h ⊢
    cases hc:Xl {cx with rounds :=n} id c st with
    | none => rw[hc] at h; cases h
    | some p => rw[hc] at h; rw[ih id st _ hc]; exact h
  | loop c ih =>
    intro blk st r h
    simp only[Xl] at h ⊢
    exact Xdw (λs r hs => ih blk _ r hs) n m st r hnm h
  | _ => intro blk st r h; exact h
def Xjj{cx:Cx}{n m:Nat}(hnm:n<=m):∀(c:Code) (K K':St->Option (Ex×St)) (_:∀s r,K s=some r->K' s=some r) (st:St) (r:Ex×St),evN {cx with rounds :=n} c K st=some r->evN {cx with rounds :=m} c K' st=some r :=by
  have other:∀(c:Code) (K K':St->Option (Ex×St)) (_:∀s r,K s=some r->K' s=some r) (st:St) (r:Ex×St),XbJ (Xl {cx with rounds :=n} 0 c st) K=some r->XbJ (Xl {cx with rounds :=m} 0 c st) K'=some r :=by
    intro c K K' hK st r h
    cases hc:Xl {cx with rounds :=n} 0 c st with
    | none => rw[hc] at h; cases h
    | some p =>
      rw[hc] at h
      rw[Xbk hnm c 0 st _ hc]
      obtain⟨e,s⟩ :=p
      cases e with
      | nor => exact hK s r h
      | _ => exact h
  intro c
  induction c with
  | skip => intro K K' hK st r h; exact hK st r h
  | seq a b iha ihb => intro K K' hK st r h; exact iha _ _ (λs r hs => ihb K K' hK s r hs) st r h
  | cond c a b iha ihb =>
    intro K K' hK st r h
    simp only[evN] at h ⊢
    split at h
    · exact iha K K' hK st r h
    · exact ihb K K' hK st r h
    · unfold XdU at h ⊢
      split at h
      · rename_i he
        have h1 :=iha K K' hK st r h
        have h2 :=ihb K K' hK st r (he▸h)
        rw[if_pos (h1.trans h2.symm)]
        exact h1
      · cases h
    · cases h
  | _ => intro K K' hK st r h; exact other _ K K' hK st r h
def Xbl{cx:Cx}{md:List Md}{f:Func}{as:List AV}{r:AV×List AV}{n m:Nat}(hnm:n<=m)(h:Qm {cx with rounds :=n} md f as=some r):Qm {cx with rounds :=m} md f as=some r :=by
  unfold Qm at h ⊢
  cases hb:f.body with
  | none => rw[hb] at h; cases h
  | some c =>
    rw[hb] at h
    simp only at h ⊢
    have hB:∀r,evB {cx with rounds :=n} c (QM md as)=some r->evB {cx with rounds :=m} c (QM md as)=some r :=by
      intro r hr
      unfold evB at hr ⊢
      by_cases hz:cx.nz=true
      · rw[if_pos (show({cx with rounds :=n}:Cx).nz=true from hz)] at hr
        rw[if_pos (show({cx with rounds :=m}:Cx).nz=true from hz)]
        exact Xjj hnm c _ _ (λ_ _ h => h) _ r hr
      · rw[if_neg (show ¬({cx with rounds :=n}:Cx).nz=true from hz)] at hr
        rw[if_neg (show ¬({cx with rounds :=m}:Cx).nz=true from hz)]
        exact Xbk hnm c 0 _ r hr
    cases hc:evB {cx with rounds :=n} c (QM md as) with
    | none => rw[hc] at h; cases h
    | some p =>
      rw[hc] at h
      rw[hB _ hc]
      have hres:∀(l:List ResultVar) (st:St),XaC {cx with rounds :=n} st l=XaC {cx with rounds :=m} st l :=by
        intro l
        induction l with
        | nil => intro st; rfl
        | cons x l ih => intro st; cases x<;>simp only[XaC,ih]
      have hfin:∀st,ZI {cx with rounds :=n} md f.results.toList st=ZI {cx with rounds :=m} md f.results.toList st :=λst => by simp only[ZI,Xm7,hres]
      obtain⟨e,s⟩ :=p
      cases e<;>simp only[hfin] at h ⊢<;>exact h
def Zl(wk:Bool)(r:AV)(os:List AV):Bool :=wk||(!XG r&&os.all λo => !XG o)
noncomputable def FR(cx:Cx)(md:List Md)(wk:Bool)(f:Func)(as:List AV):Option (AV×List AV) :=
  open Classical in if h : ∃ (r : AV × List AV) (n : Nat), Qm { cx with rounds := n } md f as = some r /\ Zl wk r.1 r.2 = true then some h.choose else none
def XmH{cx:Cx}{md:List Md}{wk:Bool}{f:Func}{as:List AV}{r:AV×List AV}{n:Nat}(h:Qm {cx with rounds :=n} md f as=some r)(hr:Zl wk r.1 r.2=true):FR cx md wk f as=some r :=by
  have hx:∃(r:AV×List AV) (n:Nat),Qm {cx with rounds :=n} md f as=some r/\Zl wk r.1 r.2=true :=⟨r,n,h,hr⟩
  unfold FR
  rw[dif_pos hx]
  obtain⟨m,h1,h2⟩ :=hx.choose_spec
  have a1 :=Xbl (Nat.le_max_left n m) h
  have a2 :=Xbl (Nat.le_max_right n m) h1
  exact a2.symm.trans a1
def XjR{cx:Cx}{md:List Md}{wk:Bool}{f:Func}{as:List AV}{r:AV×List AV}(h:FR cx md wk f as=some r):∃n,Qm {cx with rounds :=n} md f as=some r/\Zl wk r.1 r.2=true :=by
  unfold FR at h
  split at h
  · rename_i hx
    obtain⟨m,h1,h2⟩ :=hx.choose_spec
    injection h with h
    rw[<-h]
    exact⟨m,h1,h2⟩
  · cases h
structure SP (P:Program) [HasTb P] where
  g:Nat
  fs:FS
  ok:Z3 P g fs
def SP.F{P:Program}[HasTb P](s:SP P):List AV->Option (AV×List AV) :=s.fs.F
def Xjk{P:Program}[HasTb P]:List (SP P)->Nat->Option FS
  | [],_ => none
  | s :: l,g => if g=s.g then some s.fs else Xjk l g
@[go_sem] def Xnf{P:Program}[HasTb P](g:Nat):Xjk ([]:List (SP P)) g=none :=nr rfl
@[go_sem] def XmI{P:Program}[HasTb P](s:SP P)(l:List (SP P))(g:Nat):Xjk (s :: l) g=if g=s.g then some s.fs else Xjk l g :=nr rfl
def Xhs{P:Program}[HasTb P]:∀(l:List (SP P)) (g:Nat) (fs:FS),Xjk l g=some fs->Z3 P g fs
  | [],g,fs,h => by cases h
  | s :: l,g,fs,h => by
    simp only[Xjk] at h
    split at h
    · rename_i hg
      injection h with h
      subst h hg
      exact s.ok
    · exact Xhs l g fs h
def asc{α:Type}:List (Nat×α)->Nat->Option α
  | [],_ => none
  | (k,a) :: l,n => if n=k then some a else asc l n
@[go_sem] def Xn1{α:Type}(n:Nat):asc ([]:List (Nat×α)) n=none :=nr rfl
@[go_sem] def Xng{α:Type}(k:Nat)(a:α)(l:List (Nat×α))(n:Nat):asc ((k,a) :: l) n=if n=k then some a else asc l n :=nr rfl
def Xlm{α:Type}:List (Nat×List α)->Nat->List α
  | [],_ => []
  | (k,a) :: l,n => if n=k then a else Xlm l n
@[go_sem] def Xnh{α:Type}(n:Nat):Xlm ([]:List (Nat×List α)) n=[] :=nr rfl
@[go_sem] def XmJ{α:Type}(k:Nat)(a:List α)(l:List (Nat×List α))(n:Nat):Xlm ((k,a) :: l) n=if n=k then a else Xlm l n :=nr rfl
abbrev LV :=List (Nat×List Nat×List Nat)
structure FD where
  md:List Md
  wk:Bool :=false
  rg:LV :=[]
  lv:LV :=[]
  out:LV :=[]
  rets:Option (List Nat×List Nat) :=none
  al:List Nat :=[]
  plan:List (Nat×Xbs) :=[]
  fz:List Nat :=[]
  nz:Bool :=false
  ws:List (Nat×List (Bool×Nat×Nat)) :=[]
structure Xln (P:Program) where
  T:TypeId->Option TI
  Q:TypeId->Option (List Nat)
  ok:∀cx:Cx,cx.T=T->cx.eqs=Q->XcY P cx
  wide:P.follows .mixedOrders=true
def XlM{P:Program}[HasTb P](ty:Xln P)(tab:List (SP P))(d:FD)(n:Nat):Cx :=
  {T :=ty.T,fns :=Xjk tab,cuts :=λ_ => [],rg :=asc d.rg,live :=asc d.lv,out :=asc d.out,rets :=d.rets,al :=d.al,plan :=asc d.plan,fz :=d.fz,eqs :=ty.Q,rounds :=n,nz :=d.nz,ws :=Xlm d.ws}
def Xn2(md:List Md)(j:Nat):Bool :=match md[j]? with
  | some m => !Y4 m
  | none => false
def ckS{P:Program}[HasTb P](ty:Xln P)(tab:List (SP P))(d:FD)(f:Func):Bool :=match f.body with
  | some c => (!(f.name == "runtime.NumGoroutine")) && Yy (XlM ty tab d 0) (Xn2 d.md) f.ntmps c && decide (d.md.length <= f.ntmps) && Xmq d.md
  | none => false
def XmK{P:Program}[HasTb P](ty:Xln P)(g:Nat)(f:Func)(tab:List (SP P))(d:FD)(hf:P.funcs[g]?=some f)(hk:ckS ty tab d f=true):Z3 P g ⟨d.md,FR (XlM ty tab d 0) d.md d.wk f,d.wk⟩ :=by
  unfold ckS at hk
  cases hb:f.body with
  | none => rw[hb] at hk; cases hk
  | some c =>
    rw[hb] at hk
    simp only[Bool.and_eq_true,Bool.not_eq_true',decide_eq_true_eq] at hk
    obtain⟨⟨⟨h1,h2⟩,h3⟩,h4⟩ :=hk
    refine Xkm (cx :=XlM ty tab d 0) (c :=c) ty.wide (ty.ok _ rfl rfl) (Xhs tab) hf h1 hb (Xn2 d.md) (λj m hj hm => ?_) h2 h3 h4 (λas r os h _ _ => ?_) (λhw as r os h => ?_)
    · simp only[Xn2,hj,hm,Bool.not_false]
    · obtain⟨n,h5,_⟩ :=XjR h
      exact⟨n,h5⟩
    · obtain⟨n,_,h6⟩ :=XjR h
      have hw':d.wk=false :=hw
      simp only[Zl,hw',Bool.false_or,Bool.and_eq_true,Bool.not_eq_true',List.all_eq_true] at h6
      exact⟨h6.1,λo ho => by simpa using h6.2 o ho⟩
noncomputable def mkS{P:Program}[HasTb P](ty:Xln P)(g:Nat)(f:Func)(tab:List (SP P))(d:FD)(hf:P.funcs[g]?=some f)(hk:ckS ty tab d f=true):SP P :=⟨g,⟨d.md,FR (XlM ty tab d 0) d.md d.wk f,d.wk⟩,XmK ty g f tab d hf hk⟩
def Xs{P:Program}[HasTb P]{ty:Xln P}{f:Func}{tab:List (SP P)}{d:FD}{as:List AV}{r:AV}{os:List AV}{c:Code}{rv:List ResultVar}(n:Nat)(hb:f.body=some c)(hr:f.results=rv.toArray)
    (h:∀cx:Cx,(cx.T=ty.T/\cx.fns=Xjk tab/\cx.rg=asc d.rg/\cx.live=asc d.lv/\cx.out=asc d.out/\cx.rets=d.rets/\cx.al=d.al/\cx.plan=asc d.plan/\cx.fz=d.fz/\cx.eqs=ty.Q/\cx.rounds=n/\cx.ws=Xlm d.ws/\∀k,cx.cuts k=[])->XhN cx d.md rv (Xl cx 0 c (QM d.md as))=some (r,os)) (hw:Zl d.wk r os=true) (hz:d.nz=false :=by rfl):FR (XlM ty tab d 0) d.md d.wk f as=some (r,os) :=by
  refine XmH (n :=n) ?_ hw
  rw[Xg2 _ _ f _ c rv hb hr hz]
  exact h _ ⟨rfl,rfl,rfl,rfl,rfl,rfl,rfl,rfl,rfl,rfl,rfl,rfl,λ_ => rfl⟩
def Xht{P:Program}[HasTb P]{ty:Xln P}{f:Func}{tab:List (SP P)}{d:FD}{as:List AV}{r:AV}{os:List AV}{c:Code}{rv:List ResultVar}(n:Nat)(hb:f.body=some c)(hr:f.results=rv.toArray)
    (h:∀cx:Cx,(cx.T=ty.T/\cx.fns=Xjk tab/\cx.rg=asc d.rg/\cx.live=asc d.lv/\cx.out=asc d.out/\cx.rets=d.rets/\cx.al=d.al/\cx.plan=asc d.plan/\cx.fz=d.fz/\cx.eqs=ty.Q/\cx.rounds=n/\cx.ws=Xlm d.ws/\∀k,cx.cuts k=[])->XhN cx d.md rv (evN cx c (λs => some (.nor,s)) (QM d.md as))=some (r,os)) (hw:Zl d.wk r os=true) (hz:d.nz=true :=by rfl):FR (XlM ty tab d 0) d.md d.wk f as=some (r,os) :=by
  refine XmH (n :=n) ?_ hw
  rw[XfD _ _ f _ c rv hb hr hz]
  exact h _ ⟨rfl,rfl,rfl,rfl,rfl,rfl,rfl,rfl,rfl,rfl,rfl,rfl,λ_ => rfl⟩
def QZ:Code->List Code
  | .loop c => c :: QZ c
  | .seq a b => QZ a++QZ b
  | .cond _ a b => QZ a++QZ b
  | .block _ c => QZ c
  | _ => []
def Zw(f:Func)(i:Nat):Code :=match f.body with
  | some b => ((QZ b)[i]?).getD .skip
  | none => .skip
def XS(f:Func)(i:Nat)(b c:Code)(hb:f.body=some b)(hl:(QZ b)[i]?=some c):Zw f i=c :=by simp only[Zw,hb,hl,Option.getD_some]
def XcA{σ:Type}{cx:Cx}{blk:Nat}{body:Code}(S:σ->St)(I:σ->Prop)(μ:σ->Nat)(Q:σ->Option (Ex×St)->Prop)
    (h:∀s,I s->(∀G,Q s (Xbg (Xl cx blk body (S s)) G))\/∃st' s',keep (cx.live blk) st'=S s'/\I s'/\μ s'<μ s/\(∀r,Q s' r->Q s r)/\∀G,Xbg (Xl cx blk body (S s)) G=G st') :
    ∀(N:Nat) (s:σ),I s->μ s<N->∀st,keep (cx.live blk) st=S s->Q s (XaE cx blk body N st) :=by
  intro N
  induction N with
  | zero => intro s hI hN; omega
  | succ N ih =>
    intro s hI hN st hst
    rw[Xaj,hst]
    rcases h s hI with h1 | ⟨st',s',h1,h2,h3,h4,h5⟩
    · exact h1 _
    · rw[h5]
      exact h4 _ (ih s' h2 (by omega) st' h1)
def UW{α σ:Type}(c:α->σ->Bool)(g:α->σ->σ):List α->σ->σ⊕(α×σ)
  | [],s => .inl s
  | x :: xs,s => if c x s=true then .inr (x,s) else UW c g xs (g x s)
def Zx{α σ:Type}(c:α->σ->Bool)(g:α->σ->σ)(x:α)(xs:List α)(s:σ):UW c g (x :: xs) s=if c x s=true then .inr (x,s) else UW c g xs (g x s) :=rfl
def Xdx{α σ:Type}(g:α->σ->σ):∀(xs:List α) (s:σ),UW (λ_ _ => false) g xs s=.inl (xs.foldl (λs x => g x s) s)
  | [],s => rfl
  | x :: xs,s => by simp only[UW,Bool.false_eq_true,if_false,List.foldl_cons]; exact Xdx g xs _
def Q0{α σ:Type}{cx:Cx}{blk:Nat}{body:Code}(xs:List α)(S:Nat->σ->St)(X:σ->St)(c:α->σ->Bool)(g:α->σ->σ)(R:α->σ->Ex×St)(I:Nat->σ->Prop)
    (hend:∀s,I xs.length s->∀G,Xbg (Xl cx blk body (S xs.length s)) G=some (.ex blk,X s))
    (hstep:∀k (hk:k<xs.length) s,I k s->(c xs[k] s=true/\∀G,Xbg (Xl cx blk body (S k s)) G=some (R xs[k] s))\/(c xs[k] s=false/\I (k+1) (g xs[k] s)/\∃st',(∀G,Xbg (Xl cx blk body (S k s)) G=G st')/\keep (cx.live blk) st'=S (k+1) (g xs[k] s)))
    (s:σ) (hI:I 0 s) (N:Nat) (hN:xs.length+1<=N) :
    ∃r,(∀st,keep (cx.live blk) st=S 0 s->XaE cx blk body N st=r)/\((∃s',UW c g xs s=.inl s'/\I xs.length s'/\r=some (.ex blk,X s'))\/∃x s',UW c g xs s=.inr (x,s')/\r=some (R x s')) :=by
  obtain⟨M,rfl⟩:∃M,N=M+1 :=⟨N-1,by omega⟩
  have key:∀(k:Nat) (s:σ) (M:Nat),k<=xs.length->I k s->xs.length-k<=M->(∃s',UW c g (xs.drop k) s=.inl s'/\I xs.length s'/\Xbg (Xl cx blk body (S k s)) (λs => XaE cx blk body M s)=some (.ex blk,X s'))\/∃x s',UW c g (xs.drop k) s=.inr (x,s')/\Xbg (Xl cx blk body (S k s)) (λs => XaE cx blk body M s)=some (R x s') :=by
    intro k s M
    induction M generalizing k s with
    | zero =>
      intro hk hI hM
      obtain rfl:k=xs.length :=by omega
      exact .inl ⟨s,by rw[List.drop_length]; rfl,hI,hend s hI _⟩
    | succ M ih =>
      intro hk hI hM
      by_cases he:k=xs.length
      · subst he
        exact .inl ⟨s,by rw[List.drop_length]; rfl,hI,hend s hI _⟩
      · have hlt:k<xs.length :=by omega
        rcases hstep k hlt s hI with⟨h1,h2⟩ | ⟨h1,h2,st',h4,h3⟩
        · exact .inr ⟨xs[k],s,by rw[List.drop_eq_getElem_cons hlt,Zx,if_pos h1],h2 _⟩
        · rw[h4,Xaj,h3,List.drop_eq_getElem_cons hlt,Zx,if_neg (by simp[h1])]
          exact ih (k+1) _ (by omega) h2 (by omega)
  exact⟨_,λst hst => by rw[Xaj,hst],key 0 s M (Nat.zero_le _) hI (by omega)⟩
def YY{α σ:Type}{cx:Cx}{blk:Nat}{body:Code}(xs:List α)(S:Nat->σ->St)(X:σ->St)(g:α->σ->σ)(I:Nat->σ->Prop)
    (hend:∀s,I xs.length s->∀G,Xbg (Xl cx blk body (S xs.length s)) G=some (.ex blk,X s))
    (hstep:∀k (hk:k<xs.length) s,I k s->I (k+1) (g xs[k] s)/\∃st',(∀G,Xbg (Xl cx blk body (S k s)) G=G st')/\keep (cx.live blk) st'=S (k+1) (g xs[k] s))
    (s:σ) (hI:I 0 s) (N:Nat) (hN:xs.length+1<=N) :
    I xs.length (xs.foldl (λs x => g x s) s)/\∀st,keep (cx.live blk) st=S 0 s->XaE cx blk body N st=some (.ex blk,X (xs.foldl (λs x => g x s) s)) :=by
  obtain⟨r,h1,h⟩ :=Q0 (cx :=cx) (blk :=blk) (body :=body) xs S X (λ_ _ => false) g (λ_ s => (.ret,X s)) I hend (λk hk s hI => .inr ⟨rfl,hstep k hk s hI⟩) s hI N hN
  rw[Xdx] at h
  rcases h with⟨s',h2,h3,h4⟩ | ⟨x,s',h2,h3⟩
  · injection h2 with h2
    subst h2
    exact⟨h3,λst hst => by rw[h1 st hst,h4]⟩
  · cases h2
def Zy{α σ:Type}{cx:Cx}{blk:Nat}{body:Code}(xs:List α)(S:Nat->σ->St)(X:σ->St)(c:α->σ->Bool)(g:α->σ->σ)(R:α->σ->Ex×St)(I:Nat->σ->Prop)
    (hend:∀s,I xs.length s->∀G,Xbg (Xl cx blk body (S xs.length s)) G=some (.ex blk,X s))
    (hstep:∀k (hk:k<xs.length) s,I k s->∃(C:Prop) (_:Decidable C) (st':St),(∀G,Xbg (Xl cx blk body (S k s)) G=if C then some (R xs[k] s) else G st')/\(C↔c xs[k] s=true)/\(c xs[k] s=false->I (k+1) (g xs[k] s)/\keep (cx.live blk) st'=S (k+1) (g xs[k] s)))
    (s:σ) (hI:I 0 s) (N:Nat) (hN:xs.length+1<=N) :
    ∃r,(∀st,keep (cx.live blk) st=S 0 s->XaE cx blk body N st=r)/\((∃s',UW c g xs s=.inl s'/\I xs.length s'/\r=some (.ex blk,X s'))\/∃x s',UW c g xs s=.inr (x,s')/\r=some (R x s')) :=by
  refine Q0 xs S X c g R I hend (λk hk s hI => ?_) s hI N hN
  obtain⟨C,_,st',h1,h2,h3⟩ :=hstep k hk s hI
  cases hc:c xs[k] s with
  | true => exact .inl ⟨rfl,λG => (h1 G).trans (if_pos (h2.2 hc))⟩
  | false =>
    obtain⟨h4,h5⟩ :=h3 hc
    exact .inr ⟨rfl,h4,st',λG => (h1 G).trans (if_neg (λhC => by rw[h2.1 hC] at hc; cases hc)),h5⟩
def XcK{α:Type}(p:α->Bool):List α->Nat->Int
  | [],_ => -1
  | x :: xs,k => if p x=true then(k:Int) else XcK p xs (k+1)
def Xe0{α:Type}{p:α->Bool}:∀{xs:List α} {k k':Nat},UW (λx _ => p x) (λ_ k => k+1) xs k=.inl k'->XcK p xs k =-1
  | [],_,_,_ => rfl
  | x :: xs,k,k',h => by
    rw[Zx] at h
    split at h
    · cases h
    · rename_i hc
      rw[XcK,if_neg hc,Xe0 h]
def Xdy{α:Type}{p:α->Bool}:∀{xs:List α} {k:Nat} {q:α×Nat},UW (λx _ => p x) (λ_ k => k+1) xs k=.inr q->XcK p xs k=(q.2:Int)
  | [],_,_,h => by cases h
  | x :: xs,k,q,h => by
    rw[Zx] at h
    split at h
    · rename_i hc
      injection h with h
      subst h
      rw[XcK,if_pos hc]
    · rename_i hc
      rw[XcK,if_neg hc,Xdy h]
end Go.Vm
set_option autoImplicit false
namespace Go.Vm
@[go_sem] def XAT:((0:Nat):Int)=0 :=nr rfl
@[go_sem] def XAU:((1:Nat):Int)=1 :=nr rfl
@[go_sem] def XlN:Xfe .nilFunc=.u :=nr rfl
def Y2{k:Int}(h0:-9223372036854775808<=k)(h:k<=9223372036854775807):(IntKind.i64).wrap k=k :=by
  simp[IntKind.wrap,IntKind.bits,IntKind.signed]
  omega
def XN{k:Nat}(h:k<9223372036854775807):(IntKind.i64).wrap ((k:Int)+1)=((k+1:Nat):Int) :=by
  rw[Y2 (by omega) (by omega)]; rfl
def Yi(n k:Nat)(h:k<n):Y3 n (k:Int)=some k :=by
  simp only[Y3]
  rw[if_pos ⟨by omega,by omega⟩]; rfl
def Zg{α:Type}(f:α->List AV)(xs:List α)(k:Nat)(h:k<xs.length):(xs.map f).getD k []=f xs[k] :=by simp[List.getD,h]
@[go_sem] def XmL{α:Type}(f:α->List AV)(xs:List α):(xs.map f).take xs.length=xs.map f :=by
  have :=List.take_length (l :=xs.map f)
  rwa [List.length_map] at this
noncomputable def eqv{α:Type}(a b:α):Bool :=open Classical in decide (a=b)
def Zm{α:Type}{a b:α}:eqv a b=true↔a=b :=by simp[eqv]
def UX{α:Type}(a:α):eqv a a=true :=by simp[eqv]
def Uo{α:Type}{p:Bool}{a b:α}(h:p=true↔a=b):p=eqv a b :=by
  cases p with
  | true => exact(Zm.2 (h.1 rfl)).symm
  | false =>
    cases he:eqv a b with
    | false => rfl
    | true => exact absurd (h.2 (Zm.1 he)) (by simp)
def Xlo(a b:Int):(a==b)=eqv a b :=Uo (by simp)
def Xdz(a b:Int):(a !=b)=!eqv a b :=by rw[bne,Xlo]
def Xe1(a b:UInt8):((a.toNat:Int) !=(b.toNat:Int))=!eqv a b :=by
  rw[bne,Uo (p :=((a.toNat:Int)==(b.toNat:Int))) (a :=a) (b :=b)]
  simp only[beq_iff_eq,Int.ofNat_inj]
  exact UInt8.toNat_inj
def XmM{a b:ByteArray}(h:a.toList=b.toList):a=b :=by
  rw[ByteArray.toList_eq,ByteArray.toList_eq] at h
  cases a; cases b
  simp only[ByteArray.mk.injEq] at h ⊢
  exact Array.ext' h
def Q1(a b:ByteArray):(a.toList==b.toList)=eqv a b :=Uo (by
  constructor
  · intro h; exact XmM (by simpa using h)
  · rintro rfl; simp)
def Xb4:∀xs:List UInt8,XaX (xs.map λb => [.i .u8 b.toNat])=some xs
  | [] => rfl
  | x :: xs => by
    simp only[List.map_cons,XaX,Xb4 xs,Int.toNat_natCast,UInt8.ofNat_toNat]
@[go_sem] def Xni(o:Oper)(a b:List Oper):Qv (List.append (o :: a) b) 0=some o :=nr rfl
@[go_sem] def Xnj(o:Oper)(a b:List Oper)(n:Nat):Qv (List.append (o :: a) b) (n+1)=Qv (List.append a b) n :=nr rfl
@[go_sem] def Xnk(b:List Oper)(n:Nat):Qv (List.append [] b) n=Qv b n :=nr rfl
@[go_sem] def Xnl(o:Oper)(a b:List Oper):Ql (List.append (o :: a) b) 0=o.dst :=nr rfl
@[go_sem] def Xnm(o:Oper)(a b:List Oper)(n:Nat):Ql (List.append (o :: a) b) (n+1)=Ql (List.append a b) n :=nr rfl
@[go_sem] def Xnn(b:List Oper)(n:Nat):Ql (List.append [] b) n=Ql b n :=nr rfl
@[go_sem] def XlO(cx:Cx)(ops:List Oper)(cs:List (Option (List Nat)))(st:St)(o:Oper)(a b:List Oper):XI cx ops cs st (List.append (o :: a) b)=XI cx ops cs st (o :: List.append a b) :=nr rfl
@[go_sem] def XlP(cx:Cx)(ops:List Oper)(cs:List (Option (List Nat)))(st:St)(b:List Oper):XI cx ops cs st (List.append [] b)=XI cx ops cs st b :=nr rfl
def Xjl{α:Type}(p:α->Prop)(xs:List α):Prop :=∀x∈xs,p x
@[go_sem] def Xn3{α β γ:Type}(f:β->γ)(g:α->β)(xs:List α):List.take xs.length ((xs.map g).map f)=(xs.map g).map f :=List.take_of_length_le (by simp)
end Go.Vm
set_option autoImplicit false
namespace Go.Vm
open Go.ChangeShapes Go.WideShapes
inductive Sh
  | b | i (k:IntKind) | s | sl (r:List Sh)
def Xno(g:TypeId->Option (List Sh))(P:Program):List Field->Nat->Option (List Sh)
  | [],_ => some []
  | f :: r,off => match g f.type with
    | some q => if f.offset=off/\P.cellsOf f.type=q.length then(match Xno g P r (off+q.length) with
      | some l => some (q++l)
      | none => none) else none
    | none => none
def XjS(P:Program):Nat->TypeId->Option (List Sh)
  | 0,_ => none
  | n+1,t => match P.underlying t with
    | some .bool => some [.b]
    | some (.int k) => some [.i k]
    | some .string => some [.s]
    | some (.slice e) => match XjS P n e with
      | some (x :: r) => if P.cellsOf e=(x :: r).length then some [.sl (x :: r)] else none
      | _ => none
    | some (.struct fs) => match Xno (XjS P n) P fs.toList 0 with
      | some l => if P.cellsOf t=l.length then some l else none
      | none => none
    | _ => none
inductive XcB:Sh->AV->Prop
  | b {x:Bool}:XcB .b (.b x)
  | i {k:IntKind} {n:Int} (h:(Lit.int k n).wf=true):XcB (.i k) (.i k n)
  | s {x:ByteArray} (h:x.size<=maxLen):XcB .s (.s x)
  | sl {r:List Sh} {es:List (List AV)} (hl:es.length<=maxLen) (hz:∀row∈es,row.length=r.length) (h:∀row∈es,∀(j:Nat) (sh:Sh) (a:AV),r[j]?=some sh->row[j]?=some a->XcB sh a):XcB (.sl r) (.sl .ro r.length es)
def XaF(r:List Sh)(row:List AV):Prop :=row.length=r.length/\∀(j:Nat) (sh:Sh) (a:AV),r[j]?=some sh->row[j]?=some a->XcB sh a
def Xhu(w:World):CS :=λg k => ∃v,Xo w g k=some v
def Xlp{w:World}{g k:Nat}(h:Xhu w g k):g<w.heap.size :=by
  obtain⟨v,hv⟩ :=h
  exact World.block_lt_of_cell? w ⟨g,k,none⟩ hv
def UY(w:World)(shs:List Sh)(cs:List Value)(as:List AV):Prop :=cs.length=shs.length/\XaF shs as/\∀(j:Nat) (v:Value) (a:AV),cs[j]?=some v->as[j]?=some a->Rep w (Xhu w) v a nos
def UY.one{w:World}{sh:Sh}{v:Value}{a:AV}(h:XcB sh a)(hr:Rep w (Xhu w) v a nos):UY w [sh] [v] [a] :=by
  refine⟨rfl,⟨rfl,λj q b hs hb => ?_⟩,λj u b hu hb => ?_⟩
  · rcases j with _ | j
    · simp only[List.getElem?_cons_zero,Option.some.injEq] at hs hb; subst hs hb; exact h
    · simp at hs
  · rcases j with _ | j
    · simp only[List.getElem?_cons_zero,Option.some.injEq] at hu hb; subst hu hb; exact hr
    · simp at hu
def XaB{α:Type}{l r:List α}{j:Nat}{x:α}(h:(l++r)[j]?=some x):l[j]?=some x\/(l.length<=j/\r[j-l.length]?=some x) :=by
  by_cases hj:j<l.length
  · rw[List.getElem?_append_left hj] at h; exact .inl h
  · rw[List.getElem?_append_right (by omega)] at h; exact .inr ⟨by omega,h⟩
def UY.app{w:World}{s1 s2:List Sh}{c1 c2:List Value}{a1 a2:List AV}(h1:UY w s1 c1 a1)(h2:UY w s2 c2 a2):UY w (s1++s2) (c1++c2) (a1++a2) :=by
  obtain⟨l1,⟨m1,p1⟩,q1⟩ :=h1
  obtain⟨l2,⟨m2,p2⟩,q2⟩ :=h2
  refine⟨by simp[l1,l2],⟨by simp[m1,m2],λj q a hs ha => ?_⟩,λj v a hv ha => ?_⟩
  · rcases XaB hs with hs | ⟨h0,hs⟩
    · have hlt :=(List.getElem?_eq_some_iff.1 hs).1
      rw[List.getElem?_append_left (by omega)] at ha
      exact p1 j q a hs ha
    · rw[List.getElem?_append_right (by omega),m1] at ha
      exact p2 _ q a hs ha
  · rcases XaB hv with hv | ⟨h0,hv⟩
    · have hlt :=(List.getElem?_eq_some_iff.1 hv).1
      rw[List.getElem?_append_left (by omega)] at ha
      exact q1 j v a hv ha
    · rw[List.getElem?_append_right (by omega),m1,<-l1] at ha
      exact q2 _ v a hv ha
def XmN{a:Addr}(h:a.spot=none)(n:Nat):a.add n=⟨a.block,a.off+n,none⟩ :=by
  unfold Addr.add
  split
  · rename_i h0; subst h0; cases a; simp only at h; subst h; rfl
  · cases a; rfl
section
variable {H : Type} {enc : TypeId × Value -> H} {P : Program} {w : World}
def Xb5(n:Nat):∀{fuel:Nat} {t:TypeId} {cs:List Value} {x:DataW H×List MemPlace} {shs:List Sh},DataW.trod enc P w 0 (λ_ => true) true fuel t cs=some x->XjS P n t=some shs->∃as,UY w shs cs as :=by
  induction n with
  | zero => intro fuel t cs x shs _ h; cases h
  | succ n ih =>
    intro fuel t cs x shs ht hs
    unfold XjS at hs
    split at hs
    · rename_i hu
      injection hs with hs; subst hs
      obtain⟨b,rfl,_⟩ :=DataW.trod_bool hu ht
      exact⟨_,UY.one .b .b⟩
    · rename_i k hu
      injection hs with hs; subst hs
      obtain⟨m,rfl,_,hwf⟩ :=DataW.trod_int hu ht
      exact⟨_,UY.one (.i hwf) .i⟩
    · rename_i hu
      injection hs with hs; subst hs
      obtain⟨s,rfl,_,hsz⟩ :=DataW.trod_string hu ht
      exact⟨_,UY.one (.s hsz) .s⟩
    · rename_i e hu
      split at hs
      · rename_i x0 r hr
        split at hs
        · rename_i hce
          injection hs with hs; subst hs
          rcases Go.Deep.open_slice hu ht with⟨rfl,_⟩ | ⟨a,len,cap,m,n',D,Pl,rfl,_,hl,hm,hmm,_,hi⟩
          · refine⟨_,UY.one (.sl (es :=[]) (Nat.zero_le _) (λ_ h => by cases h) (λ_ h => by cases h)) ?_⟩
            exact .sl 0 0 (λ_ _ => undef) (λ_ _ => nos) rfl (Nat.le_refl _) (by simp) (λh => absurd h (by omega)) (λi row hi => by simp at hi) (λi row j a hi => by simp at hi) (λi row j a hi => by simp at hi)
              ⟨(λe => by cases e),(λe => by cases e),(λe => absurd rfl e),λ_ k hk => absurd hk (by simp)⟩ (λ_ _ => Xm _) (λ_ _ _ _ _ => Xd _) (λe => by cases e) (λ_ _ _ => rfl)
          · simp only[if_true] at hmm
            subst hmm
            generalize hzz:(x0 :: r).length=z at hce
            have hz0:0<z :=by rw[<-hzz]; simp
            rw[hce] at hi
            have hsp:0<m->a.spot=none :=by
              intro h0
              obtain⟨cs',h1,_⟩ :=hi 0 h0
              obtain⟨_,h3,h4⟩ :=World.cells?_some h1
              have :=h4 0 hz0
              rw[List.getElem?_eq_getElem (by omega),Nat.zero_mul] at this
              unfold World.cell? at this
              simp only[Addr.add,if_true] at this
              split at this
              · cases hs:a.spot with
                | none => rfl
                | some q => rw[hs] at this; simp at this
              · cases this
            have hrow:∀i,i<len->∃p:List Value×List AV,(∀j,j<z->Xo w a.block (a.off+(i*z+j))=p.1[j]?)/\UY w (x0 :: r) p.1 p.2 :=by
              intro i hil
              obtain⟨cs',h1,h2⟩ :=hi i (by omega)
              obtain⟨as,h3⟩ :=ih h2 hr
              obtain⟨_,_,h6⟩ :=World.cells?_some h1
              refine⟨(cs',as),λj hj => ?_,h3⟩
              have :=h6 j hj
              rw[Go.Deep.add_add,XmN (hsp (by omega))] at this
              exact this
            obtain⟨f,hf⟩ :=Go.Deep.choose_lt hrow
            let es:List (List AV) :=(List.range len).map λi => (f i).2
            have hes:∀(i:Nat) (row:List AV),es[i]?=some row->i<len/\row=(f i).2 :=by
              intro i row h
              have hlt:i<len :=Decidable.byContradiction λhn => by
                rw[List.getElem?_eq_none (by simp only[es,List.length_map,List.length_range]; omega)] at h
                cases h
              simp only[es,List.getElem?_map,List.getElem?_range hlt,Option.map_some,Option.some.injEq] at h
              exact⟨hlt,h.symm⟩
            have hmem:∀row∈es,∃i,i<len/\row=(f i).2 :=by
              intro row h
              obtain⟨i,h⟩ :=List.getElem?_of_mem h
              exact⟨i,hes i row h⟩
            have hcell:∀i j,i<len->j<z->Xo w a.block (a.off+(i*z+j))=some ((f i).1.getD j undef) :=by
              intro i j h1 h2
              obtain⟨q1,q2,_⟩ :=hf i h1
              rw[q1 j h2,List.getD_eq_getElem?_getD,List.getElem?_eq_getElem (by rw[q2,hzz]; exact h2)]
              rfl
            refine⟨_,UY.one (.sl (es :=es) (by simp only[es,List.length_map,List.length_range]; omega) (λrow h => ?_) (λrow h => ?_)) ?_⟩
            · obtain⟨i,h1,rfl⟩ :=hmem row h
              exact(hf i h1).2.2.1.1
            · obtain⟨i,h1,rfl⟩ :=hmem row h
              exact(hf i h1).2.2.1.2
            · rw[hzz]
              have hM:maxLen=9223372036854775807 :=rfl
              refine .sl a.block a.off (λi j => (f i).1.getD j undef) (λ_ _ => nos) (by simp[es]) hl (by omega) (λh0 => ?_) (λi row h => ?_) (λi row j b h hj => ?_) (λi row j b h hj => ?_)
                ⟨(λe => by cases e),(λe => by cases e),(λe => absurd rfl e),λ_ k hk => ?_⟩ (λ_ _ => Xm _) (λ_ _ _ _ _ => Xd _) (λe => by cases e) (λ_ _ _ => rfl)
              · have :=hsp h0
                cases a; simp only at this; subst this; rfl
              · obtain⟨h1,rfl⟩ :=hes i row h
                rw[<-hzz]; exact(hf i h1).2.2.1.1
              · obtain⟨h1,rfl⟩ :=hes i row h
                have hlt :=(List.getElem?_eq_some_iff.1 hj).1
                rw[(hf i h1).2.2.1.1,hzz] at hlt
                exact hcell i j h1 hlt
              · obtain⟨h1,rfl⟩ :=hes i row h
                have hlt :=(List.getElem?_eq_some_iff.1 hj).1
                obtain⟨_,q2,q3,q4⟩ :=hf i h1
                rw[q3.1] at hlt
                refine q4 j _ b ?_ hj
                rw[List.getD_eq_getElem?_getD,List.getElem?_eq_getElem (by rw[q2]; exact hlt)]
                rfl
              · have h1:k / z<len :=by rw[Nat.div_lt_iff_lt_mul hz0]; exact hk
                have h2:k%z<z :=Nat.mod_lt _ hz0
                have :=hcell (k / z) (k%z) h1 h2
                rw[Nat.mul_comm,Nat.div_add_mod] at this
                exact⟨_,this⟩
        · cases hs
      · cases hs
    · rename_i fs hu
      obtain⟨xs,n',rfl,_,hlen,hxl,hi⟩ :=DataW.trod_struct hu ht
      split at hs
      · rename_i l hl
        split at hs
        · rename_i hcl
          injection hs with hs; subst hs
          have key:∀(fl:List Field) (off:Nat) (l:List Sh),Xno (XjS P n) P fl off=some l->(∀f∈fl,∃y,DataW.trod enc P w 0 (λ_ => true) true n' f.type ((cs.drop f.offset).take (P.cellsOf f.type))=some y)->∃as,UY w l ((cs.drop off).take l.length) as :=by
            intro fl
            induction fl with
            | nil =>
              intro off l h _
              injection h with h; subst h
              exact⟨[],by simp,⟨rfl,λj q a h => by simp at h⟩,λj v a h => by simp at h⟩
            | cons f fl ihf =>
              intro off l h hy
              unfold Xno at h
              split at h
              · rename_i s hfs
                split at h
                · rename_i hc
                  obtain⟨rfl,hc2⟩ :=hc
                  split at h
                  · rename_i l' hl'
                    injection h with h; subst h
                    obtain⟨y,hyy⟩ :=hy f (by simp)
                    obtain⟨a1,h1⟩ :=ih hyy hfs
                    obtain⟨a2,h2⟩ :=ihf _ _ hl' (λg hg => hy g (by simp[hg]))
                    refine⟨a1++a2,?_⟩
                    have e:(cs.drop f.offset).take (s++l').length=(cs.drop f.offset).take (P.cellsOf f.type)++(cs.drop (f.offset+s.length)).take l'.length :=by
                      rw[List.length_append,List.take_add,List.drop_drop,hc2]
                    rw[e]
                    exact h1.app h2
                  · cases h
                · cases h
              · cases h
          obtain⟨as,h⟩ :=key fs.toList 0 l hl (λf hf => by
            obtain⟨i,hi'⟩ :=List.getElem?_of_mem hf
            have hi2:fs[i]?=some f :=by simpa using hi'
            have :=hi i f hi2
            have hlt:i<fs.size :=(Array.getElem?_eq_some_iff.1 hi2).1
            rw[List.getElem?_eq_getElem (by omega)] at this
            exact⟨_,this⟩)
          rw[List.drop_zero,List.take_of_length_le (by omega)] at h
          exact⟨as,h⟩
        · cases hs
      · cases hs
    · cases hs
end
def XaF.cons{sh:Sh}{r:List Sh}{row:List AV}(h:XaF (sh :: r) row):∃a row',row=a :: row'/\XcB sh a/\XaF r row' :=by
  obtain⟨h1,h2⟩ :=h
  cases row with
  | nil => simp at h1
  | cons a row => exact⟨a,row,rfl,h2 0 sh a rfl rfl,by simpa using h1,λj q b hs hb => h2 (j+1) q b (by simpa using hs) (by simpa using hb)⟩
def XaF.nil{row:List AV}(h:XaF [] row):row=[] :=List.length_eq_zero_iff.1 h.1
def XcB.bool{a:AV}(h:XcB .b a):∃x:Bool,a=.b x/\True :=by cases h; exact⟨_,rfl,trivial⟩
def XcB.int{a:AV}(h:XcB (.i .i64) a):∃x:Int,a=.i .i64 x/\(-9223372036854775808<=x/\x<=9223372036854775807) :=by
  cases h with
  | i h =>
    refine⟨_,rfl,?_⟩
    simp only[Lit.wf,Bool.and_eq_true,decide_eq_true_eq,IntKind.min,IntKind.max,IntKind.signed,IntKind.bits] at h
    simpa using h
def XcB.byte{a:AV}(h:XcB (.i .u8) a):∃x:UInt8,a=.i .u8 x.toNat/\True :=by
  cases h with
  | @i _ n h =>
    simp only[Lit.wf,Bool.and_eq_true,IntKind.min,IntKind.max,IntKind.signed,IntKind.bits] at h
    have h1:0<=n :=by simpa using h.1
    have h2:n<=255 :=by simpa using h.2
    refine⟨UInt8.ofNat n.toNat,?_,trivial⟩
    congr 1
    have:(UInt8.ofNat n.toNat).toNat=n.toNat%256 :=UInt8.toNat_ofNat'
    omega
def XcB.str{a:AV}(h:XcB .s a):∃x:ByteArray,a=.s x/\x.size<=9223372036854775807 :=by cases h with | s h => exact⟨_,rfl,h⟩
def XcB.list{α:Type}{r:List Sh}{f:α->List AV}{ok:α->Prop}(hf:∀row,XaF r row->∃x,row=f x/\ok x){a:AV}(h:XcB (.sl r) a):∃xs:List α,a=.sl .ro r.length (xs.map f)/\(xs.length<=9223372036854775807/\∀x∈xs,ok x) :=by
  cases h with
  | @sl _ es hl hz h =>
    have key:∀es:List (List AV),(∀row∈es,XaF r row)->∃xs:List α,es=xs.map f/\∀x∈xs,ok x :=by
      intro es
      induction es with
      | nil => intro _; exact⟨[],rfl,λ_ h => by cases h⟩
      | cons row es ih =>
        intro hr
        obtain⟨x,rfl,hx⟩ :=hf row (hr row (by simp))
        obtain⟨xs,rfl,hxs⟩ :=ih (λq hq => hr q (by simp[hq]))
        exact⟨x :: xs,rfl,λy hy => (List.mem_cons.1 hy).elim (λe => e▸hx) (hxs y)⟩
    obtain⟨xs,rfl,hxs⟩ :=key es (λrow hr => ⟨hz row hr,h row hr⟩)
    have hM:maxLen=9223372036854775807 :=rfl
    exact⟨xs,rfl,by simp only[List.length_map] at hl; omega,hxs⟩
def Xjm(row:List AV)(h:XaF [.i .u8] row):∃x:UInt8,row=[.i .u8 x.toNat]/\True :=by
  obtain⟨a,_,rfl,h0,h⟩ :=h.cons; obtain rfl :=h.nil; obtain⟨x,rfl,_⟩ :=h0.byte; exact⟨x,rfl,trivial⟩
section
variable {H : Type} {enc : TypeId × Value -> H} {P : Program} {w : World}
def Xlq{r:Reach}{base:Nat}{t:TypeId}{v:Value}{d:DataW H}{p:List MemPlace}(n:Nat){u:TypeDesc}(hu:P.underlying t=some u)(hn:∀fs,u≠.struct fs){sh:Sh}(hs:XjS P n t=some [sh])(hval:Value.okWide P w r base t v)(hd:DataW.Trod enc P w 0 (λ_ => true) true t v d p) :
    ∃a,XcB sh a/\Cl w (Xhu w) v a nos :=by
  obtain⟨fuel,hf⟩ :=hd
  obtain⟨as,h1⟩ :=Xb5 n hf hs
  have hc:v.cells.toList=[v] :=by
    cases n with
    | zero => cases hs
    | succ n =>
      unfold XjS at hs
      rw[hu] at hs
      cases u with
      | bool => obtain⟨b,rfl⟩ :=okWide_bool hu hval; rfl
      | int k => obtain⟨b,rfl⟩ :=okWide_int hu hval; rfl
      | string => obtain⟨b,rfl⟩ :=okWide_string hu hval; rfl
      | slice e => obtain⟨a,b,c,rfl⟩ :=okWide_slice hu hval; rfl
      | struct fs => exact absurd rfl (hn fs)
      | _ => cases hs
  rw[hc] at h1
  obtain⟨_,⟨h2,h3⟩,h4⟩ :=h1
  match as,h2 with
  | [a],_ => exact⟨a,h3 0 sh a rfl rfl,.leaf (.rep (h4 0 v a rfl rfl))⟩
def Xlr{r:Reach}{base:Nat}{t:TypeId}{v:Value}{d:DataW H}{p:List MemPlace}(n:Nat){fs:Array Field}(hu:P.underlying t=some (.struct fs)){shs:List Sh}(hs:XjS P n t=some shs)(hval:Value.okWide P w r base t v)(hd:DataW.Trod enc P w 0 (λ_ => true) true t v d p) :
    ∃as,XaF shs as/\Cl w (Xhu w) v (.agg as) nos :=by
  obtain⟨fuel,hf⟩ :=hd
  obtain⟨as,h1⟩ :=Xb5 n hf hs
  simp only[Value.okWide,hu] at hval
  obtain⟨cs,rfl,_,_⟩ :=hval
  obtain⟨h0,h2,h3⟩ :=h1
  have h0':cs.toList.length=shs.length :=h0
  refine⟨as,h2,?_⟩
  have:Cl w (Xhu w) (.agg cs.toList.toArray) (.agg as) nos :=.agg cs.toList (λ_ => nos) (by rw[h0',h2.1]) (λj v a hv ha => .rep (h3 j v a hv ha)) (λ_ => Xm _) (λ_ _ _ => Xd _)
  rwa [Array.toArray_toList] at this
end
def Xjn{w w':World}(h:Vm.Frame w w' nos):Go.RowKit.Below w.heap.size w w' :=by
  refine⟨h.os,h.tape,h.output,h.size,λk hk => ?_⟩
  rcases h.block k hk with h1 | ⟨c,c',e,fr,h1,h2,h3,h4⟩
  · exact h1
  · rw[h1,h2]
    congr 2
    apply Array.ext_getElem?
    intro i
    exact h4 i (λh => h)
def Xjo{P:Program}[HasTb P]{g:FuncId}{f:Func}{c:Code}{md:List Md}{F:List AV->Option (AV×List AV)}{wk:Bool}{W:World}{vs:List Value}{xs os:List AV}(hsp:Z3 P g ⟨md,F,wk⟩)(hro:md.all Y4=true)(hF:F xs=some (.b true,os))(hl1:vs.length=md.length)(hl2:xs.length=md.length)
    (hargs : ∀ (j : Nat) (v : Value) (a : AV), vs[j]? = some v -> xs[j]? = some a -> Cl W (Xhu W) v a nos) (hf : P.funcs[g]? = some f) (hname : ¬ f.name = "runtime.NumGoroutine") (hb : f.body = some c) (hT : Tb P (Xhu W) W) :
    Calls P g vs.toArray W λe w' => e=.returned (.bool true)/\Go.RowKit.Below W.heap.size W w' :=by
  have h :=hsp W (Xhu W) vs xs (λ_ => nos) (.b true) os hF hl1 hl2 (λj m v a hm hv ha => by
    have :=List.all_eq_true.1 hro m (List.mem_of_getElem? hm)
    cases m with
    | ro n => exact hargs j v a hv ha
    | _ => cases this) (λ_ _ _ => Xd _) (λ_ => Xd _) (λ_ _ _ h => h.elim) (λ_ _ h => Xlp h) hT
  rcases h with⟨v,w',h1,_⟩ | ⟨_,h2⟩
  · exfalso
    have:(callFunc g vs.toArray).run P W=.ok (.enter g vs.toArray) W :=by simp[callFunc,hf,hname,hb]
    rw[this] at h1
    cases h1
  · intro cs
    obtain⟨e,w',fr,k1,k2⟩ :=h2 cs
    refine⟨e,w',fr,?_,k2⟩
    cases e with
    | returned v =>
      obtain⟨Im',S,Of,b,_⟩ :=k1
      have hv:v=.bool true :=by
        have :=b.res
        cases this with
        | leaf h => cases h with
          | rep h => cases h; rfl
      exact⟨by rw[hv],Xjn (b.frame.mono (λg k ⟨j,hb⟩ => hb))⟩
    | panicked => exact k1.elim
    | outgrown => exact k1.elim
def XmO{P:Program}[HasTb P]{s:SP P}{f:Func}{c:Code}{W:World}{vs:List Value}{xs os:List AV}(hF:s.F xs=some (.b true,os))(hro:s.fs.md.all Y4=true)(hl1:vs.length=s.fs.md.length)(hl2:xs.length=s.fs.md.length)
    (hargs : ∀ (j : Nat) (v : Value) (a : AV), vs[j]? = some v -> xs[j]? = some a -> Cl W (Xhu W) v a nos) (hf : P.funcs[s.g]? = some f) (hname : ¬ f.name = "runtime.NumGoroutine") (hb : f.body = some c) (hT : Tb P (Xhu W) W) :
    Calls P s.g vs.toArray W λe w' => e=.returned (.bool true)/\Go.RowKit.Below W.heap.size W w' :=Xjo (md :=s.fs.md) (F :=s.fs.F) (wk :=s.fs.wk) s.ok hro hF hl1 hl2 hargs hf hname hb hT
end Go.Vm
set_option autoImplicit false
namespace Go.Vm
def mkL{α:Type}(f:α->Int->α×Int):List α->Int->List α×Int
  | [],k => ([],k)
  | x :: xs,k => ((f x k).1 :: (mkL f xs (f x k).2).1,(mkL f xs (f x k).2).2)
def UZ{α:Type}{f:α->Int->α×Int}(hf:∀x k,k+1<=(f x k).2):∀(xs:List α) (k:Int),k<=(mkL f xs k).2
  | [],k => Int.le_refl k
  | x :: xs,k => by
    have h1 :=hf x k
    have h2 :=UZ hf xs (f x k).2
    simp only[mkL]; omega
def XjT{α:Type}{f:α->Int->α×Int}{p:α->Prop}{c:Nat}(hf:∀x k,p x->(f x k).2<=k+c)(xs:List α)(k:Int)(h:xs.length<=1048576/\∀x∈xs,p x):(mkL f xs k).2<=k+(c*1048576:Nat) :=by
  have key:∀(xs:List α) (k:Int),(∀x∈xs,p x)->(mkL f xs k).2<=k+(c*xs.length:Nat) :=by
    intro xs
    induction xs with
    | nil => intro k _; simp[mkL]
    | cons x xs ih =>
      intro k h
      have h1 :=hf x k (h x (by simp))
      have h2 :=ih (f x k).2 (λy hy => h y (by simp[hy]))
      simp only[mkL,List.length_cons]
      rw[Nat.mul_succ]
      omega
  have h1 :=key xs k h.2
  have h2:c*xs.length<=c*1048576 :=Nat.mul_le_mul_left c h.1
  omega
def YB{α:Type}{f:α->Int->α×Int}:∀(xs:List α) (k:Int),(mkL f xs k).1.length=xs.length
  | [],k => rfl
  | x :: xs,k => by simp only[mkL,List.length_cons,YB xs]
def XaL{α:Type}{f:α->Int->α×Int}:∀(xs:List α) (k:Int) (y:α),mkL f (xs++[y]) k=((mkL f xs k).1++[(f y (mkL f xs k).2).1],(f y (mkL f xs k).2).2)
  | [],k,y => rfl
  | x :: xs,k,y => by simp only[List.cons_append,mkL,XaL xs,List.cons_append]
def Xez{α:Type}{f:α->Int->α×Int}:∀(xs ys:List α) (k:Int),mkL f (xs++ys) k=((mkL f xs k).1++(mkL f ys (mkL f xs k).2).1,(mkL f ys (mkL f xs k).2).2)
  | [],ys,k => rfl
  | x :: xs,ys,k => by simp only[List.cons_append,mkL,Xez xs]
def XdA{α:Type}(f:α->Int->α×Int)(xs:List α)(k:Int)(i:Nat):Int :=(mkL f (xs.take i) k).2
def XbD{α:Type}(f:α->Int->α×Int)(xs:List α)(k:Int)(i:Nat):List α :=(mkL f (xs.take i) k).1++xs.drop i
def XaM{α:Type}{f:α->Int->α×Int}(xs:List α)(k:Int):XdA f xs k xs.length=(mkL f xs k).2 :=by simp[XdA]
def Q2{α:Type}{f:α->Int->α×Int}(xs:List α)(k:Int)(i:Nat)(h:i<xs.length):XdA f xs k (i+1)=(f xs[i] (XdA f xs k i)).2 :=by
  simp only[XdA]
  rw[List.take_succ_eq_append_getElem h,XaL]
def XcC{α:Type}{f:α->Int->α×Int}(hf:∀x k,k+1<=(f x k).2)(xs:List α)(k:Int)(i:Nat):k<=XdA f xs k i :=UZ hf _ _
def XcD{α:Type}{f:α->Int->α×Int}(hf:∀x k,k+1<=(f x k).2)(xs:List α)(k:Int)(i:Nat)(h:i<xs.length):(f xs[i] (XdA f xs k i)).2<=(mkL f xs k).2 :=by
  rw[<-Q2 xs k i h]
  have :=Xez (f :=f) (xs.take (i+1)) (xs.drop (i+1)) k
  rw[List.take_append_drop] at this
  rw[this]
  exact UZ hf _ _
def XdB{α:Type}{f:α->Int->α×Int}(xs:List α)(k:Int):XbD f xs k 0=xs :=rfl
def Xe2{α:Type}{f:α->Int->α×Int}(xs:List α)(k:Int):XbD f xs k xs.length=(mkL f xs k).1 :=by simp[XbD]
def U0{α:Type}{f:α->Int->α×Int}(xs:List α)(k:Int)(i:Nat):(XbD f xs k i).length=xs.length :=by simp[XbD,YB]; omega
def XdC{α:Type}{f:α->Int->α×Int}(g:α->List AV)(xs:List α)(k:Int)(i:Nat):((XbD f xs k i).map g).take xs.length=(XbD f xs k i).map g :=List.take_of_length_le (by rw[List.length_map,U0]; exact Nat.le_refl _)
def Xe3{α:Type}{f:α->Int->α×Int}(g:α->List AV)(xs:List α)(k:Int):((mkL f xs k).1.map g).take xs.length=(mkL f xs k).1.map g :=List.take_of_length_le (by rw[List.length_map,YB]; exact Nat.le_refl _)
def XcE{α:Type}{f:α->Int->α×Int}(g:α->List AV)(xs:List α)(k:Int)(i:Nat)(h:i<xs.length):((XbD f xs k i).map g)[i]?=some (g xs[i]) :=by
  simp only[XbD,List.map_append]
  rw[List.getElem?_append_right (by simp[YB]; omega)]
  simp only[List.length_map,YB,List.length_take]
  rw[show i-min i xs.length=0 by omega,List.drop_eq_getElem_cons h]; rfl
def XdD{α:Type}{f:α->Int->α×Int}(g:α->List AV)(xs:List α)(k:Int)(i:Nat)(h:i<xs.length):((XbD f xs k i).map g).getD i []=g xs[i] :=by
  rw[List.getD_eq_getElem?_getD,XcE g xs k i h]; rfl
def Xe4{α:Type}{f:α->Int->α×Int}(g:α->List AV)(xs:List α)(k:Int)(i:Nat)(h:i<xs.length):((XbD f xs k i).map g).set i (g (f xs[i] (XdA f xs k i)).1)=(XbD f xs k (i+1)).map g :=by
  simp only[XbD,XdA,List.map_append]
  rw[List.set_append_right _ _ (by simp[YB]; omega)]
  simp only[List.length_map,YB,List.length_take]
  rw[show i-min i xs.length=0 by omega,List.drop_eq_getElem_cons h,List.take_succ_eq_append_getElem h,XaL,List.map_cons,List.set_cons_zero,List.map_append]
  simp
def Xhv{α:Type}(l:List α)(i:Nat)(y:α)(h:i<l.length):(l.set i y)[i]?=some y :=by simp[h]
def Xe5(l:List (List AV))(i:Nat)(y:List AV)(h:i<l.length):(l.set i y).getD i []=y :=by simp[h]
@[go_sem] def Xnp{α:Type}(l:List α)(i:Nat)(y z:α):(l.set i y).set i z=l.set i z :=by simp
@[go_sem] def Xnq{α:Type}(l:List α)(i:Nat)(y:α):(l.set i y).length=l.length :=by simp
def Xls{α:Type}{f:α->Int->α×Int}(xs:List α)(k:Int)(i:Nat)(h:i<xs.length):(mkL f xs k).1[i]'(by rw[YB]; exact h)=(f xs[i] (XdA f xs k i)).1 :=by
  have e :=Xez (f :=f) (xs.take (i+1)) (xs.drop (i+1)) k
  rw[List.take_append_drop] at e
  have e2:(mkL f xs k).1[i]?=some (f xs[i] (XdA f xs k i)).1 :=by
    rw[e,List.take_succ_eq_append_getElem h,XaL]
    simp only[XdA]
    rw[List.getElem?_append_left (by simp[YB]; omega),List.getElem?_append_right (by simp[YB]; omega)]
    simp only[YB,List.length_take]
    rw[show i-min i xs.length=0 by omega]; rfl
  rw[List.getElem?_eq_getElem (by rw[YB]; exact h)] at e2
  injection e2
def XjU{α:Type}{f:α->Int->α×Int}(g:α->List AV)(xs:List α)(k:Int)(i:Nat)(h:i<xs.length):((mkL f xs k).1.map g).getD i []=g (f xs[i] (XdA f xs k i)).1 :=by
  rw[Zg g _ i (by rw[YB]; exact h),Xls xs k i h]
def mkB(k:Int):UInt8 :=UInt8.ofNat (k%256).toNat
def Xhw(k:Int):(IntKind.u8).wrap k=((mkB k).toNat:Int) :=by
  have h:(k%256).toNat<256 :=by omega
  simp only[mkB,UInt8.toNat_ofNat']
  simp[IntKind.wrap,IntKind.bits,IntKind.signed]
  omega
def XT(_:UInt8)(k:Int):UInt8×Int :=(mkB k,k+1)
def Ze(x:UInt8)(k:Int):k+1<=(XT x k).2 :=by simp only[XT]; omega
def Xbm{α:Type}{f:α->Int->α×Int}(hf:∀x k,k+1<=(f x k).2):∀(xs:List α) (k:Int),k+xs.length<=(mkL f xs k).2
  | [],k => by simp[mkL]
  | x :: xs,k => by
    have h1 :=hf x k
    have h2 :=Xbm hf xs (f x k).2
    simp only[mkL,List.length_cons]; omega
def XdM:Nat->Int->ByteArray->ByteArray
  | 0,_,s => s
  | n+1,k,s => if k>0 then XdM n (k.tdiv 10) (ByteArray.mk #[UInt8.ofNat ((48+k.tmod 10)%256).toNat]++s) else s
def Xe6(k:Int):ByteArray :=if k<=0 then⟨#[109,48]⟩ else⟨#[109]⟩++XdM k.toNat k ⟨#[]⟩
def Xhx(x:UInt8)(k:Int)(_:True):(XT x k).2<=k+(1:Nat) :=by simp[XT]
def XdE:∀(n:Nat) (k:Int) (s:ByteArray),(XdM n k s).size<=s.size+n
  | 0,k,s => by simp[XdM]
  | n+1,k,s => by
    simp only[XdM]
    split
    · have :=XdE n (k.tdiv 10) (ByteArray.mk #[UInt8.ofNat ((48+k.tmod 10)%256).toNat]++s)
      rw[ByteArray.size_append] at this
      have e:(ByteArray.mk #[UInt8.ofNat ((48+k.tmod 10)%256).toNat]).size=1 :=rfl
      omega
    · omega
def XdF:∀(n m:Nat) (k:Int) (s:ByteArray),k.toNat<=n->k.toNat<=m->XdM n k s=XdM m k s
  | 0,0,_,_,_,_ => rfl
  | 0,m+1,k,s,h,_ => by simp only[XdM]; rw[if_neg (by omega)]
  | n+1,0,k,s,_,h => by simp only[XdM]; rw[if_neg (by omega)]
  | n+1,m+1,k,s,h1,h2 => by
    simp only[XdM]
    split
    · have:k.tdiv 10=k / 10 :=Int.tdiv_eq_ediv_of_nonneg (by omega)
      exact XdF n m _ _ (by omega) (by omega)
    · rfl
end Go.Vm
set_option autoImplicit false
namespace Go.Vm
def Xjp{P:Program}[HasTb P]{g:FuncId}{md:List Md}{F:List AV->Option (AV×List AV)}{wk:Bool}(hro:md.all Y4=true)
    (h:∀(w:World) (Im:CS) (vs:List Value) (as:List AV) (r:AV) (os:List AV),F as=some (r,os)->vs.length=md.length->as.length=md.length ->
      (∀(j:Nat) (v:Value) (a:AV),vs[j]?=some v->as[j]?=some a->Cl w Im v a nos)->Tb P Im w ->
      UA r=none/\(wk=false->XG r=false/\∀o∈os,XG o=false)/\Ans P g vs.toArray w λv w' => Frame w w' nos/\Cl w' Im v r nos):Z3 P g ⟨md,F,wk⟩ :=by
  intro w Im vs as Sf r os hF hv ha harg hd hdI hin hI hT
  have hmd:∀(j:Nat) (m:Md),md[j]?=some m->Y4 m=true :=λj m hm => List.all_eq_true.1 hro m (List.mem_of_getElem? hm)
  obtain⟨h1,h2,h3⟩ :=h w Im vs as r os hF hv ha (λj v a hj hj' => by
    have hlt:j<md.length :=by rw[<-hv]; exact(List.getElem?_eq_some_iff.1 hj).1
    have hm :=List.getElem?_eq_getElem hlt
    have :=harg j _ v a hm hj hj'
    have h0 :=hmd j _ hm
    generalize md[j]=m at this h0
    cases m with
    | ro n => exact this
    | _ => cases h0) hT
  refine h3.mono λv w' ⟨hfr,hc⟩ => ?_
  refine⟨Im,nos,λ_ => nos,⟨hfr.mono (Xm _),Sub.rfl' _,λg k hx => .inl hx,λg k hx => Nat.lt_of_lt_of_le (hI g k hx) hfr.size,?_,λj m u o hm _ _ => ?_,λ_ _ _ => Xd _,λ_ => Xd _,Xd _,λ_ => Xd _,λ_ _ hx => hx.elim,λ_ _ _ hx => hx.elim,λ_ _ hx => hx.elim,λ_ _ _ hx => hx.elim⟩,h2⟩
  · unfold Xcr; rw[h1]; exact hc
  · have h0 :=hmd j m hm
    cases m with
    | ro n => trivial
    | _ => cases h0
def Xe7{P:Program}[HasTb P]{g:FuncId}{md:List Md}{F:List AV->Option (AV×List AV)}{wk:Bool}(hro:md.all Y4=true)
    (h:∀(w:World) (Im:CS) (vs:List Value) (as:List AV) (r:AV) (os:List AV),F as=some (r,os)->vs.length=md.length->as.length=md.length ->
      (∀(j:Nat) (v:Value) (a:AV),vs[j]?=some v->as[j]?=some a->Cl w Im v a nos) ->
      UA r=none/\(wk=false->XG r=false/\∀o∈os,XG o=false)/\Ans P g vs.toArray w λv w' => Frame w w' nos/\Cl w' Im v r nos):Z3 P g ⟨md,F,wk⟩ :=
  Xjp hro λw Im vs as r os hF hv ha harg _ => h w Im vs as r os hF hv ha harg
def Cl.str{w:World}{Im:CS}{v:Value}{x:ByteArray}{S:CS}(h:Cl w Im v (.s x) S):v=.string x :=by
  cases h with
  | leaf h => cases h with
    | rep h => cases h; rfl
def Cl.int{w:World}{Im:CS}{v:Value}{k:IntKind}{n:Int}{S:CS}(h:Cl w Im v (.i k n) S):v=.int k n :=by
  cases h with
  | leaf h => cases h with
    | rep h => cases h; rfl
def Xnr:List AV->Option (AV×List AV)
  | [.s s,.i .u8 c] => some (.i .i64 (Lib.indexByte s.data.toList c.toNat.toUInt8),[.u,.u])
  | _ => none
def XmP {P : Program} [HasTb P] {g : FuncId} {fn : Func} (hf : P.funcs[g]? = some fn) (hname : (fn.name == "runtime.NumGoroutine") = false) (hb : fn.body.isNone = true) (hn : Extern.findNext fn = none) (he : Extern.find fn = some Extern.BytealgIndexByte.indexByte) : Z3 P g ⟨[.ro 1, .ro 1], Xnr, false⟩ := by
  refine Xe7 rfl λw Im vs as r os hF hv ha harg => ?_
  match as,ha,hF with
  | [.s s,.i .u8 c],_,hF =>
    match vs,hv with
    | [v0,v1],_ =>
      injection hF with hF
      injection hF with h1 h2
      subst h1 h2
      refine⟨rfl,λ_ => ⟨rfl,λo ho => by rcases List.mem_cons.1 ho with rfl | ho; rfl; rcases List.mem_cons.1 ho with rfl | ho; rfl; cases ho⟩,?_⟩
      obtain rfl :=(harg 0 v0 _ rfl rfl).str
      obtain rfl :=(harg 1 v1 _ rfl rfl).int
      refine .inl ⟨.int .i64 (Lib.indexByte s.data.toList c.toNat.toUInt8),w,?_,Frame.refl _ _,.leaf (.rep .i)⟩
      rw[run_callFunc_extern hf hname hb hn he]
      rw[Lib.run_indexByteString]
      rfl
@[go_sem] def Xlt(s:ByteArray)(c:Int):Xnr [.s s,.i .u8 c]=some (.i .i64 (Lib.indexByte s.data.toList c.toNat.toUInt8),[.u,.u]) :=nr rfl
def Up {P : Program} {g : FuncId} {fn : Func} {c : Code} (hf : P.funcs[g]? = some fn) (hname : (fn.name == "runtime.NumGoroutine") = false) (hb : fn.body = some c) {args : Array Value} (w : World) : (callFunc g args).run P w = .ok (.enter g args) w := by
  have h1 : fn.name ≠ "runtime.NumGoroutine" := by simpa using hname
  simp[callFunc,hf,h1,hb,Sem.run]
@[go_sem] def XoS:((2:Nat):Int)=2 :=nr rfl
@[go_sem] def XoT:((3:Nat):Int)=3 :=nr rfl
@[go_sem] def XoU:((4:Nat):Int)=4 :=nr rfl
@[go_sem] def XoV:((5:Nat):Int)=5 :=nr rfl
@[go_sem] def XoW:((6:Nat):Int)=6 :=nr rfl
@[go_sem] def XoX:((7:Nat):Int)=7 :=nr rfl
@[go_sem] def XoY:((8:Nat):Int)=8 :=nr rfl
@[go_sem] def Xn4:Y3 1 0=some 0 :=nr rfl
@[go_sem] def Xn5:Y3 2 0=some 0 :=nr rfl
@[go_sem] def Xn6:Y3 2 1=some 1 :=nr rfl
@[go_sem] def Xn7:Y3 3 0=some 0 :=nr rfl
@[go_sem] def Xn8:Y3 3 1=some 1 :=nr rfl
@[go_sem] def Xn9:Y3 3 2=some 2 :=nr rfl
@[go_sem] def Xoa:Y3 4 0=some 0 :=nr rfl
@[go_sem] def Xob:Y3 4 1=some 1 :=nr rfl
@[go_sem] def Xoc:Y3 4 2=some 2 :=nr rfl
@[go_sem] def Xod:Y3 4 3=some 3 :=nr rfl
@[go_sem] def Xoe:Y3 5 0=some 0 :=nr rfl
@[go_sem] def Xof:Y3 5 1=some 1 :=nr rfl
@[go_sem] def Xog:Y3 5 2=some 2 :=nr rfl
@[go_sem] def Xoh:Y3 5 3=some 3 :=nr rfl
@[go_sem] def Xoi:Y3 5 4=some 4 :=nr rfl
@[go_sem] def Xoj:Y3 6 0=some 0 :=nr rfl
@[go_sem] def Xok:Y3 6 1=some 1 :=nr rfl
@[go_sem] def Xol:Y3 6 2=some 2 :=nr rfl
@[go_sem] def Xom:Y3 6 3=some 3 :=nr rfl
@[go_sem] def Xon:Y3 6 4=some 4 :=nr rfl
@[go_sem] def Xoo:Y3 6 5=some 5 :=nr rfl
@[go_sem] def Xop:Y3 7 0=some 0 :=nr rfl
@[go_sem] def Xoq:Y3 7 1=some 1 :=nr rfl
@[go_sem] def Xor:Y3 7 2=some 2 :=nr rfl
@[go_sem] def Xos:Y3 7 3=some 3 :=nr rfl
@[go_sem] def Xot:Y3 7 4=some 4 :=nr rfl
@[go_sem] def Xou:Y3 7 5=some 5 :=nr rfl
@[go_sem] def Xov:Y3 7 6=some 6 :=nr rfl
@[go_sem] def Xow:Y3 8 0=some 0 :=nr rfl
@[go_sem] def Xox:Y3 8 1=some 1 :=nr rfl
@[go_sem] def Xoy:Y3 8 2=some 2 :=nr rfl
@[go_sem] def Xoz:Y3 8 3=some 3 :=nr rfl
@[go_sem] def XoA:Y3 8 4=some 4 :=nr rfl
@[go_sem] def XoB:Y3 8 5=some 5 :=nr rfl
@[go_sem] def XoC:Y3 8 6=some 6 :=nr rfl
@[go_sem] def XoD:Y3 8 7=some 7 :=nr rfl
def Xb6:List Int->Int
  | [] => 0
  | v :: r => if(v !=0)=true then v else Xb6 r
def Uw(v:Int)(r:List Int):Xb6 (v :: r)=if(v !=0)=true then v else Xb6 r :=rfl
def XoE:List AV->Option (AV×List AV)
  | [.nil,.i .i64 0] => some (.nil,[.u,.u])
  | _ => none
@[go_sem] def Xns:XoE [.nil,.i .i64 0]=some (.nil,[.u,.u]) :=nr rfl
def XeA{w w':World}(h:Go.RowKit.Below w.heap.size w w'):Frame w w' nos :=let ⟨a,b,c,d,e⟩ :=h; ⟨a,b,c,d,λg hg => .inl (e g hg)⟩
def Xjq:List AV->Option (AV×List AV)
  | [.s x,.s c] => if c.data.toList=[32,9]/\x.size<=9223372036854775807 then some (.s ⟨(Lib.trimS x.data.toList [32,9]).toArray⟩,[.u,.u]) else none
  | _ => none
def Xlu {P : Program} [HasTb P] {g : FuncId} {fn : Func} {c : Code} (hf : P.funcs[g]? = some fn) (hname : (fn.name == "runtime.NumGoroutine") = false) (hb : fn.body = some c)
    (h:∀(s:ByteArray) (w:World),s.size<=9223372036854775807->Calls P g #[.string s,.string ⟨#[32,9]⟩] w λe w' => e=.returned (.string ⟨(Lib.trimS s.data.toList [32,9]).toArray⟩)/\Go.RowKit.Below w.heap.size w w'):Z3 P g ⟨[.ro 1,.ro 1],Xjq,false⟩ :=by
  refine Xe7 rfl λw Im vs as r os hF hv ha harg => ?_
  match as,ha,hF with
  | [.s x,.s c],_,hF =>
    match vs,hv with
    | [v0,v1],_ =>
      simp only[Xjq] at hF
      split at hF
      · rename_i hc
        injection hF with hF
        injection hF with h1 h2
        subst h1 h2
        refine⟨rfl,λ_ => ⟨rfl,λo ho => by rcases List.mem_cons.1 ho with rfl | ho; rfl; rcases List.mem_cons.1 ho with rfl | ho; rfl; cases ho⟩,?_⟩
        obtain rfl :=(harg 0 v0 _ rfl rfl).str
        obtain rfl :=(harg 1 v1 _ rfl rfl).str
        have hcs:c=⟨#[32,9]⟩ :=by
          cases c
          have :=hc.1
          congr 1
          exact Array.ext' this
        subst hcs
        refine .inr ⟨Up hf hname hb w,λcs => ?_⟩
        obtain⟨e,w',fr,⟨k1,k2⟩,k3⟩ :=h x w hc.2 cs
        subst k1
        exact⟨.returned _,w',fr,(⟨XeA k2,.leaf (.rep .s)⟩:Frame w w' nos/\Cl w' Im (.string ⟨(Lib.trimS x.data.toList [32,9]).toArray⟩) (.s ⟨(Lib.trimS x.data.toList [32,9]).toArray⟩) nos),k3⟩
      · cases hF
end Go.Vm
set_option autoImplicit false
namespace Go.Vm
@[go_sem] def Xlv(z:Nat)(es:List (List AV)):plain (.sl .mut z es)=false :=nr rfl
@[go_sem] def Xlw(z:Nat)(es:List (List AV)):plain (.sl .app z es)=false :=nr rfl
def XmQ(z bytes:Nat):List AV->Option (AV×List AV)
  | [.nil,.i .i64 n] => if 0<=n/\n*bytes<=140737488355328/\n<=4611686018427387904 then some (.sl .mut z [],[.u,.u]) else none
  | _ => none
@[go_sem] def XmR(z bytes:Nat)(n:Int):XmQ z bytes [.nil,.i .i64 n]=if 0<=n/\n*bytes<=140737488355328/\n<=4611686018427387904 then some (.sl .mut z [],[.u,.u]) else none :=nr rfl
def XoZ(n:Int):ByteArray :=⟨(Lib.itoa n).toArray⟩
def XAV:List AV->Option (AV×List AV)
  | [.i .i64 n,.i .i64 10] => if -9223372036854775808<=n/\n<=9223372036854775807 then some (.s (XoZ n),[.u,.u]) else none
  | _ => none
@[go_sem] def XoF(n:Int):XAV [.i .i64 n,.i .i64 10]=if -9223372036854775808<=n/\n<=9223372036854775807 then some (.s (XoZ n),[.u,.u]) else none :=nr rfl
end Go.Vm
set_option autoImplicit false
namespace Go.Vm
def Xnt:AV->Option ByteArray
  | .s x => some x
  | _ => none
def XjV{a:AV}{x:ByteArray}(h:Xnt a=some x):a=.s x :=by
  unfold Xnt at h
  split at h
  · injection h with h; subst h; rfl
  · cases h
def Xe8:List AV->Option (ByteArray×ByteArray)
  | [a,b] => (Xnt a).bind λx => (Xnt b).bind λy => some (x,y)
  | _ => none
def XfX{e:List AV}{p:ByteArray×ByteArray}(h:Xe8 e=some p):e=[.s p.1,.s p.2] :=by
  match e,h with
  | [a,b],h =>
    simp only[Xe8,Option.bind_eq_some_iff] at h
    obtain⟨x,hx,y,hy,he⟩ :=h
    injection he with he
    subst he
    rw[XjV hx,XjV hy]
def Q3:List (List AV)->Option (List (ByteArray×ByteArray))
  | [] => some []
  | e :: r => (Xe8 e).bind λp => (Q3 r).bind λl => some (p :: l)
def Ux:∀{es:List (List AV)} {hs:List (ByteArray×ByteArray)},Q3 es=some hs->es=hs.map λp => [.s p.1,.s p.2]
  | [],hs,h => by injection h with h; subst h; rfl
  | e :: r,hs,h => by
    simp only[Q3,Option.bind_eq_some_iff] at h
    obtain⟨p,hp,l,hl,he⟩ :=h
    injection he with he
    subst he
    rw[XfX hp,Ux hl]; rfl
end Go.Vm
set_option autoImplicit false
namespace Go.Vm
def run_copy_rows{P:Program}(w:World)(dT sT ty elem:TypeId)(z k:Nat)(b o dLen dCap:Nat)(a:Addr)(sLen sCap:Nat)(cs:List Value)
    (hu:P.underlying dT=some (.slice elem)) (hs:(P.info? elem).map (·.size)=some z) (hk:k=Nat.min sLen dLen) (hn:cs.length=k*z)
    (hsrc:∀j v,cs[j]?=some v->w.cell? (a.add j)=some v) (hc:∀j,j<cs.length->(w.cell? ⟨b,o+j,none⟩).isSome=true) (hf:∀j,j<cs.length->w.frozen? ⟨b,o+j,none⟩=false) (h1:∀v∈cs,v.oneCell'=true) :
    (Builtin.copy_ #[dT,sT] ty #[.slice (some ⟨b,o,none⟩) dLen dCap,.slice (some a) sLen sCap]).run P w=.ok (goInt k) (w.setCells b o cs) :=by
  have hl :=run_loadCells_list (P :=P) w a cs hsrc
  have hst :=run_storeCells_cells (P :=P) b o cs 0 w (by simpa using hc) (by simpa using hf) h1
  rw[hn] at hl
  cases hq:P.info? elem with
  | none => simp[hq] at hs
  | some i =>
    have hi:i.size=z :=by simpa[hq] using hs
    simp[Builtin.copy_,run_underlying hu,Builtin.lenOf,Builtin.firstCells,sizeOf,typeInfo,hq,hi,<-hk,hl,hst]
def run_overlaps_own{P:Program}(w:World)(tS tR e:TypeId)(ht:P.underlying tS=some (.slice e))(size:Nat)(hz:∀w,(Go.sizeOf e).run P w=.ok size w)
    (a b:Addr) (la ca lb cb:Nat) (tA tB:TypeId) (kA kB:Nat) (hsa:w.shape? a.block=some (tA,kA)) (hsb:w.shape? b.block=some (tB,kB)) (hkB:kB≠0)
    (hfa:a.block≠b.block->∀j,w.frozen? ⟨a.block,j,none⟩=false) (hsp:a.spot=none)
    (hap:a.block=b.block->¬(a.off<b.off+lb*size/\b.off<a.off+la*size)) :
    (Extern.SlicesOverlaps.overlaps #[tS,tS] #[tR] #[.slice (some a) la ca,.slice (some b) lb cb]).run P w=.ok (.bool false) w :=by
  by_cases hne:a.block=b.block
  · have hnb:(a.block !=b.block)=false :=by simpa using hne
    have hnb':(a.block==b.block)=true :=by simpa using hne
    have hap' :=hap hne
    change Sem.run P (α :=Value) (do
      let some t := (#[tS, tS] : Array TypeId)[0]? | stuck "slices.overlaps: no parameter types"
      let .slice elem <- underlying t | stuck "slices.overlaps: slice type expected"
      let size <-sizeOf elem
      match (some a:Option Addr),(some b:Option Addr) with
      | some a,some b =>
        if la=0\/lb=0\/size=0 then pure (Value.bool false)
        else if a.block !=b.block&&(<-frozen a)&&(<-frozen b) then unsupported .addressObserved
        else do
          if a.block !=b.block then do
            noView a; noView b
            if <- mayBeOne a b then return Value.bool ((<- choose (.extern "sameAddr.stringBytes" 2)) == 1)
          pure (Value.bool (a.block==b.block&&a.off<b.off+lb*size&&b.off<a.off+la*size))
      | _,_ => pure (Value.bool false)) w=_
    by_cases h0:la=0\/lb=0\/size=0
    · simp[run_underlying ht,hz,h0]
    · have hd:(decide (a.off<b.off+lb*size)&&decide (b.off<a.off+la*size))=false :=by
        rw[Bool.and_eq_false_iff,decide_eq_false_iff_not,decide_eq_false_iff_not]
        exact Decidable.not_and_iff_not_or_not.1 hap'
      simp[run_underlying ht,hz,h0,hnb,hnb',Sem.run,frozen]
      simpa using hd
  · have h :=hfa hne
    have e:a=⟨a.block,a.off,none⟩ :=by cases a; simp only at hsp; subst hsp; rfl
    exact Lib.run_overlaps_apart w tS tR _ ht size hz a b la ca lb cb hne tA tB kA kB hsa hsb hkB (by rw[e]; exact h _) (h _)
def Z6(b:Nat)(vs:List Value)(o:Nat)(w:World)(h:∀j,j<vs.length->(w.cell? ⟨b,o+j,none⟩).isSome=true)(k:Nat)(hk:(w.cell? ⟨b,k,none⟩).isSome=true):((w.setCells b o vs).cell? ⟨b,k,none⟩).isSome=true :=by
  by_cases hin:o<=k/\k<o+vs.length
  · have :=World.cell?_setCells_in b vs o w h (k-o) (by omega)
    rw[show o+(k-o)=k by omega] at this
    rw[this]; rfl
  · rw[World.cell?_setCells_out b vs o w ⟨b,k,none⟩ (λ_ _ => by show k<o\/o+vs.length<=k; omega)]
    exact hk
def Xz(hs:List (ByteArray×ByteArray)):List Value :=hs.flatMap λp => [.string p.1,.string p.2]
def XeB(p:ByteArray×ByteArray):List AV :=[.s p.1,.s p.2]
def YP(p:ByteArray×ByteArray)(hs:List (ByteArray×ByteArray)):Xz (p :: hs)=.string p.1 :: .string p.2 :: Xz hs :=rfl
def Xak:∀hs:List (ByteArray×ByteArray),(Xz hs).length=hs.length*2
  | [] => rfl
  | p :: hs => by rw[YP,List.length_cons,List.length_cons,Xak hs,List.length_cons]; omega
def Xb7(a b:List (ByteArray×ByteArray)):Xz (a++b)=Xz a++Xz b :=by unfold Xz; rw[List.flatMap_append]
def Xbn:∀(i:Nat) (hs:List (ByteArray×ByteArray)),(Xz hs).take (i*2)=Xz (hs.take i)
  | 0,hs => by simp[Xz]
  | i+1,[] => by simp[Xz]
  | i+1,p :: hs => by rw[List.take_succ_cons,YP,YP,show(i+1)*2=i*2+1+1 by omega,List.take_succ_cons,List.take_succ_cons,Xbn i hs]
def Uy:∀(i:Nat) (hs:List (ByteArray×ByteArray)),(Xz hs).drop (i*2)=Xz (hs.drop i)
  | 0,hs => by simp
  | i+1,[] => by simp[Xz]
  | i+1,p :: hs => by rw[List.drop_succ_cons,YP,show(i+1)*2=i*2+1+1 by omega,List.drop_succ_cons,List.drop_succ_cons,Uy i hs]
def Qq{hs:List (ByteArray×ByteArray)}:∀v∈Xz hs,v.oneCell'=true :=by
  intro v hv
  unfold Xz at hv
  obtain⟨p,_,hp⟩ :=List.mem_flatMap.1 hv
  simp only[List.mem_cons,List.not_mem_nil,or_false] at hp
  rcases hp with rfl | rfl<;>rfl
def Xb8:∀{hs:List (ByteArray×ByteArray)} {j:Nat} {v:Value},(Xz hs)[j]?=some v->∃(i:Nat) (p:ByteArray×ByteArray),hs[i]?=some p/\((j=i*2/\v=.string p.1)\/(j=i*2+1/\v=.string p.2))
  | [],j,v,h => by simp[Xz] at h
  | p :: hs,0,v,h => by rw[YP] at h; simp at h; exact⟨0,p,rfl,.inl ⟨rfl,h.symm⟩⟩
  | p :: hs,1,v,h => by rw[YP] at h; simp at h; exact⟨0,p,rfl,.inr ⟨rfl,h.symm⟩⟩
  | p :: hs,j+2,v,h => by
    rw[YP] at h
    simp only[List.getElem?_cons_succ] at h
    obtain⟨i,q,h1,h2⟩ :=Xb8 h
    refine⟨i+1,q,by simpa using h1,?_⟩
    rcases h2 with⟨e,h2⟩ | ⟨e,h2⟩
    · exact .inl ⟨by omega,h2⟩
    · exact .inr ⟨by omega,h2⟩
def Xhy{hs:List (ByteArray×ByteArray)}{i:Nat}{p:ByteArray×ByteArray}(h:hs[i]?=some p):(Xz hs)[i*2]?=some (.string p.1)/\(Xz hs)[i*2+1]?=some (.string p.2) :=by
  have h1 :=Uy i hs
  obtain⟨hi,hp⟩ :=List.getElem?_eq_some_iff.1 h
  rw[List.drop_eq_getElem_cons hi,hp,YP] at h1
  constructor
  · have :=congrArg (λl => l[0]?) h1
    simpa[List.getElem?_drop] using this
  · have :=congrArg (λl => l[1]?) h1
    simpa[List.getElem?_drop] using this
def Xhz{w:World}{Im S:CS}{v:Value}{x:ByteArray}(h:Rep w Im v (.s x) S):v=.string x :=by cases h; rfl
def XdG{w:World}{Im:CS}{A:Option Addr}{n cap:Nat}{S:CS}{hs:List (ByteArray×ByteArray)}(h:Rep w Im (.slice A n cap) (.sl .mut 2 (hs.map XeB)) S) :
    ∃g off,hs.length=n/\n<=cap/\(0<cap->A=some ⟨g,off,none⟩)/\SlF w Im .mut g off 2 n cap S/\∀j v,(Xz hs)[j]?=some v->Xo w g (off+j)=some v :=by
  cases h with
  | sl g off vs Sf hn hc hL hA hz hrow hin hf hsub hd hself hnone =>
    refine⟨g,off,by simpa using hn,hc,hA,hf,λj v hj => ?_⟩
    obtain⟨i,p,h1,h2⟩ :=Xb8 hj
    have hi:(hs.map XeB)[i]?=some (XeB p) :=by rw[List.getElem?_map,h1]; rfl
    rcases h2 with⟨rfl,rfl⟩ | ⟨rfl,rfl⟩
    · have e1 :=hrow i _ 0 (.s p.1) hi rfl
      have e2 :=hin i _ 0 (.s p.1) hi rfl
      have e3:vs i 0=.string p.1 :=Xhz e2
      rw[e3] at e1; exact e1
    · have e1 :=hrow i _ 1 (.s p.2) hi rfl
      have e2 :=hin i _ 1 (.s p.2) hi rfl
      have e3:vs i 1=.string p.2 :=Xhz e2
      rw[e3] at e1; exact e1
def Qb{w:World}{Im:CS}{A:Option Addr}{n cap g off:Nat}{S:CS}{hs:List (ByteArray×ByteArray)}(hn:hs.length=n)(hc:n<=cap)(hL:n<=9223372036854775807)(hA:0<cap->A=some ⟨g,off,none⟩)(hf:SlF w Im .mut g off 2 n cap S)
    (hcell:∀j v,(Xz hs)[j]?=some v->Xo w g (off+j)=some v):Rep w Im (.slice A n cap) (.sl .mut 2 (hs.map XeB)) S :=by
  refine .sl g off (λi j => ((Xz hs)[i*2+j]?).getD undef) (λ_ _ => nos) (by simpa using hn) hc hL hA (λi row hi => ?_) (λi row j a hi hj => ?_) (λi row j a hi hj => ?_) hf (λ_ _ => Xm _) (λ_ _ _ _ _ => Xd _) (λ_ _ _ _ _ h => h) (λe => absurd rfl e)
  · rw[List.getElem?_map] at hi
    obtain⟨p,_,rfl⟩ :=Option.map_eq_some_iff.1 hi
    rfl
  all_goals
    rw[List.getElem?_map] at hi
    obtain⟨p,hp,rfl⟩ :=Option.map_eq_some_iff.1 hi
    obtain⟨h1,h2⟩ :=Xhy hp
    match j,hj with
    | 0,hj =>
      have ha:a=.s p.1 :=by simpa[XeB] using hj.symm
      subst ha
      simp only[Nat.add_zero,h1,Option.getD_some]
      first | exact hcell _ _ h1 | exact .s
    | 1,hj =>
      have ha:a=.s p.2 :=by simpa[XeB] using hj.symm
      subst ha
      simp only[h2,Option.getD_some]
      first | exact hcell _ _ h2 | exact .s
    | j+2,hj => simp[XeB] at hj
def XdH:∀hs:List (ByteArray×ByteArray),Yp (hs.map XeB)=false
  | [] => rfl
  | p :: hs => by rw[List.map_cons]; simp[Yp,XeB,X7,XG,XdH hs]
def Xb9{w:World}{g k:Nat}{v:Value}(h:Xo w g k=some v):∃t q,w.shape? g=some (t,q)/\q≠0 :=by
  unfold Xo World.cell? at h
  simp only at h
  split at h
  · rename_i c e fr hc
    simp only[Option.isSome_none,Bool.false_eq_true,if_false] at h
    refine⟨e,c.size,by simp[World.shape?,hc],λe0 => ?_⟩
    have :=(Array.getElem?_eq_some_iff.1 h).1
    omega
  · cases h
def Xnu(hs:Option (List (ByteArray×ByteArray)))(k:Int)(ps:Option (List (ByteArray×ByteArray))):Option (AV×List AV) :=match hs,ps with
  | some hs,some [p] => if 0<=k/\k<=hs.length/\hs.length+1<=4398046511104 then some (.sl .mut 2 ((hs.take k.toNat++[p]++hs.drop k.toNat).map XeB),[.u,.u,.u]) else none
  | _,_ => none
def XmS:List AV->Option (AV×List AV)
  | [.sl .mut 2 es,.i .i64 k,.sl .mut 2 rs] => Xnu (Q3 es) k (Q3 rs)
  | _ => none
def XaN{w w':World}{Im S:CS}{Sf:Nat->CS}{v0 v1 v2 v:Value}{hs:List (ByteArray×ByteArray)}(h0:v0.oneCell'=true)(h2:v2.oneCell'=true)(fr:Frame w w' (YT Sf))(hS:∀g k,S g k->YT Sf g k\/w.heap.size<=g)(hSI:Yb S Im)
    (hSlt:∀g k,S g k->g<w'.heap.size) (hI:∀g k,Im g k->g<w.heap.size) (hrep:Rep w' Im v (.sl .mut 2 (hs.map XeB)) S) :
    ∃(Im' S:CS) (Of:Nat->CS),Xm8 w w' Im (YT Sf) [.mv,.ro 1,.mv] [v0,v1,v2] (.sl .mut 2 (hs.map XeB)) [.u,.u,.u] v Im' S Of/\(false=false->XG (.sl .mut 2 (hs.map XeB))=false/\∀o∈[AV.u,.u,.u],XG o=false) :=by
  refine⟨Im,S,λ_ => nos,⟨fr,Sub.rfl' _,λg k hx => .inl hx,λg k hx => Nat.lt_of_lt_of_le (hI g k hx) fr.size,.leaf (.rep hrep),λj m u o hm hu ho => ?_,λ_ _ _ => Xd _,λ_ => X5 _,hSI,λ_ => Xd _,hSlt,λ_ _ _ hx => hx.elim,hS,λ_ _ _ hx => hx.elim⟩,λ_ => ⟨by simp[XG,XdH],λo ho => by simp at ho; subst ho; rfl⟩⟩
  match j,hm,hu,ho with
  | 0,hm,hu,ho =>
    simp at hm hu ho; subst hm hu ho
    exact⟨.leaf (.rep (.u h0)),rfl⟩
  | 1,hm,hu,ho => simp at hm; subst hm; trivial
  | 2,hm,hu,ho =>
    simp at hm hu ho; subst hm hu ho
    exact⟨.leaf (.rep (.u h2)),rfl⟩
  | j+3,hm,_,_ => simp at hm
def Xe9{hs:List (ByteArray×ByteArray)}{p:ByteArray×ByteArray}{i:Nat}(hi:i<=hs.length)(j:Nat):(Xz (hs.take i++[p]++hs.drop i))[j]?=if j<i*2 then(Xz hs)[j]? else if j<i*2+2 then(Xz [p])[j-i*2]? else((Xz hs).drop (i*2))[j-(i+1)*2]? :=by
  rw[Xb7,Xb7,<-Xbn,<-Uy]
  have hl:((Xz hs).take (i*2)).length=i*2 :=by rw[List.length_take,Xak]; omega
  have h2':(Xz [p]).length=2 :=rfl
  by_cases h1:j<i*2
  · rw[if_pos h1,List.append_assoc,List.getElem?_append_left (by omega),List.getElem?_take,if_pos h1]
  · rw[if_neg h1]
    by_cases h2:j<i*2+2
    · rw[if_pos h2,List.getElem?_append_left (by rw[List.length_append,hl,h2']; exact h2),List.getElem?_append_right (by omega),hl]
    · rw[if_neg h2,List.getElem?_append_right (by rw[List.length_append,hl,h2']; omega),List.length_append,hl,h2']
      congr 1; omega
def XhA{w':World}{Im:CS}{g n cap:Nat}(hfz:∀k,X9 w' g k=false)(hc:∀k,k<cap*2->∃v,Xo w' g (0+k)=some v):SlF w' Im .mut g 0 2 n cap (blk g) :=
  ⟨λ_ _ _ => rfl,(λe => by cases e),λ_ k hk => ⟨hc k hk,hfz _,λ_ q => hfz q⟩,λe => absurd rfl e⟩
def XmT {P : Program} [HasTb P] {g : FuncId} {fn : Func} {c : Code} (hf : P.funcs[g]? = some fn) (hname : (fn.name == "runtime.NumGoroutine") = false) (hb : fn.body = some c) {e : TypeId} {zv : Value} (hzv : zv.cells.size = 2) {ov : FuncId}
    (hOv:∀(w:World) (a b:Addr) (la ca lb cb:Nat) (tA tB:TypeId) (kA kB:Nat),w.shape? a.block=some (tA,kA)->w.shape? b.block=some (tB,kB)->kB≠0 ->
      (a.block≠b.block->∀j,w.frozen? ⟨a.block,j,none⟩=false)->a.spot=none->(a.block=b.block->¬(a.off<b.off+lb*2/\b.off<a.off+la*2)) ->
      (callFunc ov #[.slice (some a) la ca,.slice (some b) lb cb]).run P w=.ok (.value (.bool false)) w)
    (hShift:∀(b off n c i vb voff vc:Nat) (cs vs:List Value) (w:World),i<n->n+1<=c->n+1<=9223372036854775807->cs.length=n*2->vs.length=2 ->
      (∀j v,cs[j]?=some v->w.cell? ⟨b,off+j,none⟩=some v)->(∀j,j<(n+1)*2->(w.cell? ⟨b,off+j,none⟩).isSome=true)->(∀j,j<(n+1)*2->w.frozen? ⟨b,off+j,none⟩=false) ->
      (∀j v,vs[j]?=some v->w.cell? ⟨vb,voff+j,none⟩=some v)->(∀v∈cs,v.oneCell'=true)->(∀v∈vs,v.oneCell'=true) ->
      (∀lb cb,lb=n-i->(callFunc ov #[.slice (some ⟨vb,voff,none⟩) 1 vc,.slice (some ⟨b,off+(i+1)*2,none⟩) lb cb]).run P w=.ok (.value (.bool false)) w) ->
      (vb=b->∀j k,j<2->k<(n+1)*2->voff+j≠off+k) ->
      Calls P g #[.slice (some ⟨b,off,none⟩) n c,.int .i64 i,.slice (some ⟨vb,voff,none⟩) 1 vc] w λe w' =>
        e=.returned (.slice (some ⟨b,off,none⟩) (n+1) c)/\w'=(w.drew.setCells b (off+(i+1)*2) (cs.drop (i*2))).setCells b (off+i*2) vs)
    (hRoom:∀(b off n c vb voff vc:Nat) (vs:List Value) (w:World),n+1<=c->n+1<=9223372036854775807->vs.length=2 ->
      (∀j,j<2->(w.cell? ⟨b,off+n*2+j,none⟩).isSome=true)->(∀j,j<2->w.frozen? ⟨b,off+n*2+j,none⟩=false) ->
      (∀j v,vs[j]?=some v->w.cell? ⟨vb,voff+j,none⟩=some v)->(∀v∈vs,v.oneCell'=true) ->
      Calls P g #[.slice (some ⟨b,off,none⟩) n c,.int .i64 n,.slice (some ⟨vb,voff,none⟩) 1 vc] w λe w' =>
        e=.returned (.slice (some ⟨b,off,none⟩) (n+1) c)/\w'=w.setCells b (off+n*2) vs)
    (hEnd:∀(base:Option Addr) (n c vb voff vc:Nat) (cs vs:List Value) (w:World),n<=c->c<n+1->(n+1)*32<=140737488355328->cs.length=n*2->vs.length=2->(base=none->n=0) ->
      (∀a,base=some a->∀j v,cs[j]?=some v->w.cell? (a.add j)=some v)->(∀j v,vs[j]?=some v->w.cell? ⟨vb,voff+j,none⟩=some v) ->
      Calls P g #[.slice base n c,.int .i64 n,.slice (some ⟨vb,voff,none⟩) 1 vc] w λe' w' =>
        e'=.returned (.slice (some ⟨w.heap.size,0,none⟩) (n+1) (grownCap w (n+1) c e))/\w'=w.drew.alloc (.cells (cs.toArray++vs.toArray++Builtin.zeroCells zv.cells (grownCap w (n+1) c e-(n+1))) e))
    (hGrow:∀(b off n c i vb voff vc:Nat) (cs vs:List Value) (w:World),i<n->n<=c->c<n+1->(n+1)*32<=140737488355328->cs.length=n*2->vs.length=2 ->
      (∀j v,cs[j]?=some v->w.cell? ⟨b,off+j,none⟩=some v)->(∀j v,vs[j]?=some v->w.cell? ⟨vb,voff+j,none⟩=some v)->(∀v∈cs,v.oneCell'=true)->(∀v∈vs,v.oneCell'=true) ->
      Calls P g #[.slice (some ⟨b,off,none⟩) n c,.int .i64 i,.slice (some ⟨vb,voff,none⟩) 1 vc] w λe' w' =>
        e'=.returned (.slice (some ⟨w.heap.size,0,none⟩) (n+1) (grownCap w (n+1) c e)) /\
        w'=(((w.alloc (.cells ((cs.take (i*2)).toArray++Builtin.zeroCells zv.cells (n+1-i)++Builtin.zeroCells zv.cells (grownCap w (n+1) c e-(n+1))) e)).drew.setCells w.heap.size (i*2) vs).drew).setCells w.heap.size ((i+1)*2) (cs.drop (i*2))) :
    Z3 P g ⟨[.mv,.ro 1,.mv],XmS,false⟩ :=by
  intro w Im vs as Sf r os hF hv ha harg hd hdI hin hI hT
  have hF:XmS as=some (r,os) :=hF
  unfold XmS at hF
  split at hF
  rotate_left
  · cases hF
  rename_i es k rs hFF
  match vs,hv with
  | [v0,v1,v2],_ =>
    unfold Xnu at hF
    split at hF
    rotate_left
    · cases hF
    rename_i hs p hhs hps
    split at hF
    rotate_left
    · cases hF
    rename_i hc
    injection hF with hF
    injection hF with e1 e2
    subst e1 e2
    have c0 :=harg 0 .mv v0 _ rfl rfl rfl
    have c1 :=harg 1 (.ro 1) v1 _ rfl rfl rfl
    have c2 :=harg 2 .mv v2 _ rfl rfl rfl
    obtain rfl:v1=.int .i64 k :=(show Cl w Im v1 (.i .i64 k) nos from c1).int
    have r0:Rep w Im v0 (.sl .mut 2 es) (Sf 0) :=by cases c0 with | leaf h => cases h with | rep h => exact h
    have r2:Rep w Im v2 (.sl .mut 2 rs) (Sf 2) :=by cases c2 with | leaf h => cases h with | rep h => exact h
    have o0 :=r0.one
    have o2 :=r2.one
    rw[show es=hs.map XeB from Ux hhs] at r0
    rw[show rs=[p].map XeB from Ux hps] at r2
    obtain⟨A,n,cap,rfl⟩:∃A n cap,v0=.slice A n cap :=by cases r0; exact⟨_,_,_,rfl⟩
    obtain⟨B,m,vc,rfl⟩:∃A n cap,v2=.slice A n cap :=by cases r2; exact⟨_,_,_,rfl⟩
    obtain⟨b,off,hn,hnc,hA,hsl,hcell⟩ :=XdG r0
    obtain⟨vb,voff,hm,hmc,hB,hsv,hvcell⟩ :=XdG r2
    obtain rfl:m=1 :=by simpa using hm.symm
    obtain rfl:B=some ⟨vb,voff,none⟩ :=hB (by omega)
    obtain⟨i,rfl⟩:∃i:Nat,k=(i:Int) :=⟨k.toNat,by omega⟩
    rw[Int.toNat_natCast]
    have hin':i<=n :=by omega
    have hcl:(Xz hs).length=n*2 :=by rw[Xak,hn]
    have hvl:(Xz [p]).length=2 :=rfl
    have hnew:(hs.take i++[p]++hs.drop i).length=n+1 :=by simp only[List.length_append,List.length_take,List.length_drop,List.length_singleton]; omega
    have hnl:n=hs.length :=hn.symm
    have hdj:∀g k,Sf 0 g k->Sf 2 g k->False :=hd 0 2 (by decide)
    have hS0:∀x,x<cap*2->Sf 0 b (off+x) :=λx hx => hsl.own rfl x hx
    have hS2:∀x,x<vc*2->Sf 2 vb (voff+x) :=λx hx => hsv.own rfl x hx
    have hap:vb=b->∀j k,j<2->k<cap*2->voff+j≠off+k :=λe j k hj hk ee => hdj b (off+k) (hS0 k hk) (by rw[<-ee,<-e]; exact hS2 j (by omega))
    refine .inr ⟨Up hf hname hb w,λcs => ?_⟩
    by_cases hr:n+1<=cap
    · obtain rfl:A=some ⟨b,off,none⟩ :=hA (by omega)
      have hex:∀j,j<cap*2->(w.cell? ⟨b,off+j,none⟩).isSome=true :=λj hj => by
        obtain⟨v,hv⟩ :=(hsl.free (by decide) j hj).1
        rw[show w.cell? ⟨b,off+j,none⟩=some v from hv]; rfl
      have hfr:∀j,j<cap*2->w.frozen? ⟨b,off+j,none⟩=false :=λj hj => (hsl.free (by decide) j hj).2.1
      have hseg:∀o l,off<=o->o+l<=off+cap*2->Sub (seg b o l) (YT Sf) :=λo l h1 h2 g k ⟨e,h3,h4⟩ => ⟨0,by rw[e,show k=off+(k-off) by omega]; exact hS0 _ (by omega)⟩
      by_cases hi:i<n
      · obtain⟨ts,qs,hss,hqs⟩ :=Xb9 (show Xo w b (off+0)=some _ from(Option.eq_some_of_isSome (hex 0 (by omega))))
        obtain⟨tv,qv,hsv',hqv⟩ :=Xb9 (hvcell 0 (.string p.1) rfl)
        have hov:∀lb cb,lb=n-i->(callFunc ov #[.slice (some ⟨vb,voff,none⟩) 1 vc,.slice (some ⟨b,off+(i+1)*2,none⟩) lb cb]).run P w=.ok (.value (.bool false)) w :=λlb cb hlb =>
          hOv w ⟨vb,voff,none⟩ ⟨b,off+(i+1)*2,none⟩ 1 vc lb cb tv ts qv qs hsv' hss hqs (λ_ j => (hsv.free (by decide) 0 (by omega)).2.2 (by decide) j) rfl (λe ⟨h1,h2⟩ => by
            simp only at e h1 h2
            rcases Nat.lt_or_ge voff (off+(i+1)*2) with hq | hq
            · exact hap e (off+(i+1)*2-voff) ((i+1)*2) (by omega) (by omega) (by omega)
            · exact hap e 0 (voff-off) (by omega) (by omega) (by omega))
        obtain⟨e',w',fr,⟨k1,k2⟩,k3⟩ :=hShift b off n cap i vb voff vc (Xz hs) (Xz [p]) w hi hr (by omega) hcl hvl hcell (λj hj => hex j (by omega)) (λj hj => hfr j (by omega)) hvcell Qq Qq hov (λe j k hj hk => hap e j k hj (by omega)) cs
        subst k1
        have hdl:((Xz hs).drop (i*2)).length=(n-i)*2 :=by rw[List.length_drop,hcl]; omega
        have x1:∀k,k<cap*2->((w.drew.setCells b (off+(i+1)*2) ((Xz hs).drop (i*2))).cell? ⟨b,off+k,none⟩).isSome=true :=λk hk =>
          Z6 b _ _ _ (λj hj => by rw[Nat.add_assoc]; exact hex _ (by omega)) _ (hex k hk)
        have x2:∀k,k<cap*2->(w'.cell? ⟨b,off+k,none⟩).isSome=true :=λk hk => by
          rw[k2]; exact Z6 b _ _ _ (λj hj => by rw[Nat.add_assoc]; exact x1 _ (by rw[hvl] at hj; omega)) _ (x1 k hk)
        have x3:∀q,X9 w' b q=X9 w b q :=λq => by rw[k2]; unfold X9; rw[World.frozen?_setCells,World.frozen?_setCells]; rfl
        refine⟨.returned _,w',fr,?_,k3⟩
        refine XaN o0 o2 ?_ (λg k hx => .inl ⟨0,hx⟩) (hdI 0) (λg k hx => ?_) hI (Qb hnew hr (by omega) (λ_ => rfl) ⟨λ_ x hx => hS0 x hx,(λe => by cases e),λ_ x hx => ⟨Option.isSome_iff_exists.1 (x2 x hx),(hsl.free (by decide) x hx).2.to x3⟩,λe => absurd rfl e⟩ (λj v hj => ?_))
        · rw[k2]
          refine(((ZU w).mono (Xm _)).trans ((XV b _ _ _).mono (hseg _ _ (by omega) ?_))).trans ((XV b _ _ _).mono (hseg _ _ (by omega) ?_))
          · rw[hdl]; omega
          · rw[hvl]; omega
        · rw[k2,YA,YA]; exact hin 0 g k hx
        · rw[Xe9 (by omega)] at hj
          show w'.cell? _=_
          rw[k2]
          split at hj
          · rw[World.cell?_setCells_out b _ _ _ _ (λ_ _ => .inl (by simp only; omega)),World.cell?_setCells_out b _ _ _ _ (λ_ _ => .inl (by simp only; omega))]
            exact hcell j v hj
          · split at hj
            · rename_i h1 h2
              obtain⟨hjl,hje⟩ :=List.getElem?_eq_some_iff.1 hj
              have :=World.cell?_setCells_in b (Xz [p]) (off+i*2) (w.drew.setCells b (off+(i+1)*2) ((Xz hs).drop (i*2))) (λq hq => by rw[Nat.add_assoc]; exact x1 _ (by rw[hvl] at hq; omega)) (j-i*2) hjl
              rw[show off+i*2+(j-i*2)=off+j by omega] at this
              rw[this,hje]
            · rename_i h1 h2
              obtain⟨hjl,hje⟩ :=List.getElem?_eq_some_iff.1 hj
              rw[World.cell?_setCells_out b _ _ _ _ (λ_ _ => .inr (by rw[hvl]; simp only; omega))]
              have :=World.cell?_setCells_in b ((Xz hs).drop (i*2)) (off+(i+1)*2) w.drew (λq hq => by rw[Nat.add_assoc]; exact hex _ (by omega)) (j-(i+1)*2) hjl
              rw[show off+(i+1)*2+(j-(i+1)*2)=off+j by omega] at this
              rw[this,hje]
      · obtain rfl:i=n :=by omega
        obtain⟨e',w',fr,⟨k1,k2⟩,k3⟩ :=hRoom b off i cap vb voff vc (Xz [p]) w hr (by omega) hvl (λj hj => by rw[Nat.add_assoc]; exact hex _ (by omega)) (λj hj => by rw[Nat.add_assoc]; exact hfr _ (by omega)) hvcell Qq cs
        subst k1
        have x2:∀k,k<cap*2->(w'.cell? ⟨b,off+k,none⟩).isSome=true :=λk hk => by
          rw[k2]; exact Z6 b _ _ _ (λj hj => by rw[Nat.add_assoc]; exact hex _ (by rw[hvl] at hj; omega)) _ (hex k hk)
        have x3:∀q,X9 w' b q=X9 w b q :=λq => by rw[k2]; unfold X9; rw[World.frozen?_setCells]
        refine⟨.returned _,w',fr,?_,k3⟩
        refine XaN o0 o2 ?_ (λg k hx => .inl ⟨0,hx⟩) (hdI 0) (λg k hx => ?_) hI (Qb hnew hr (by omega) (λ_ => rfl) ⟨λ_ x hx => hS0 x hx,(λe => by cases e),λ_ x hx => ⟨Option.isSome_iff_exists.1 (x2 x hx),(hsl.free (by decide) x hx).2.to x3⟩,λe => absurd rfl e⟩ (λj v hj => ?_))
        · rw[k2]
          refine(XV b _ _ _).mono (hseg _ _ (by omega) ?_)
          rw[hvl]; omega
        · rw[k2,YA]; exact hin 0 g k hx
        · rw[Xe9 (by omega)] at hj
          show w'.cell? _=_
          rw[k2]
          split at hj
          · rw[World.cell?_setCells_out b _ _ _ _ (λ_ _ => .inl (by simp only; omega))]
            exact hcell j v hj
          · split at hj
            · rename_i h1 h2
              obtain⟨hjl,hje⟩ :=List.getElem?_eq_some_iff.1 hj
              have :=World.cell?_setCells_in b (Xz [p]) (off+i*2) w (λq hq => by rw[Nat.add_assoc]; exact hex _ (by rw[hvl] at hq; omega)) (j-i*2) hjl
              rw[show off+i*2+(j-i*2)=off+j by omega] at this
              rw[this,hje]
            · have :=(List.getElem?_eq_some_iff.1 hj).1
              rw[List.length_drop,hcl] at this
              omega
    · have hbig:(n+1)*32<=140737488355328 :=by omega
      have hG :=grownCap_ge w (n+1) cap e
      generalize hGe:grownCap w (n+1) cap e=G at hG
      have hzs:∀q,(Builtin.zeroCells zv.cells q).size=q*2 :=λq => by rw[<-hzv]; simp[Builtin.zeroCells]
      by_cases hi:i<n
      · obtain rfl:A=some ⟨b,off,none⟩ :=hA (by omega)
        obtain⟨e',w',fr,⟨k1,k2⟩,k3⟩ :=hGrow b off n cap i vb voff vc (Xz hs) (Xz [p]) w hi hnc (by omega) hbig hcl hvl hcell hvcell Qq Qq cs
        rw[hGe] at k1 k2
        subst k1
        have hdl:((Xz hs).drop (i*2)).length=(n-i)*2 :=by rw[List.length_drop,hcl]; omega
        obtain⟨ROW,hROW⟩:∃ROW:Array Value,ROW=((Xz hs).take (i*2)).toArray++Builtin.zeroCells zv.cells (n+1-i)++Builtin.zeroCells zv.cells (G-(n+1)) :=⟨_,rfl⟩
        have hRs:ROW.size=G*2 :=by
          rw[hROW]
          simp only[Array.size_append,hzs,List.size_toArray,List.length_take,hcl]
          omega
        rw[<-hROW] at k2
        have y0:∀k,Xo (w.alloc (.cells ROW e)) w.heap.size k=ROW[k]? :=λk => YR w ROW e k
        have x0:∀k,k<G*2->((w.alloc (.cells ROW e)).drew.cell? ⟨w.heap.size,0+k,none⟩).isSome=true :=λk hk => by
          rw[Nat.zero_add]
          show(Xo (w.alloc (.cells ROW e)) w.heap.size k).isSome=true
          rw[y0,Array.getElem?_eq_getElem (by omega)]; rfl
        have x1:∀k,k<G*2->(((w.alloc (.cells ROW e)).drew.setCells w.heap.size (i*2) (Xz [p])).cell? ⟨w.heap.size,0+k,none⟩).isSome=true :=λk hk =>
          Z6 _ _ _ _ (λj hj => by have :=x0 (i*2+j) (by rw[hvl] at hj; omega); rwa [Nat.zero_add] at this) _ (x0 k hk)
        have x2:∀k,k<G*2->(w'.cell? ⟨w.heap.size,0+k,none⟩).isSome=true :=λk hk => by
          rw[k2]; exact Z6 _ _ _ _ (λj hj => by have :=x1 ((i+1)*2+j) (by omega); rw[Nat.zero_add] at this; exact this) _ (x1 k hk)
        have x3:∀q,X9 w' w.heap.size q=false :=λq => by
          rw[k2]; unfold X9; rw[World.frozen?_setCells]
          show World.frozen? ((w.alloc (.cells ROW e)).drew.setCells w.heap.size (i*2) (Xz [p])) _=false
          rw[World.frozen?_setCells]
          exact YD w ROW e q
        refine⟨.returned _,w',fr,?_,k3⟩
        have hsz:w.heap.size<w'.heap.size :=by
          rw[k2,YA]
          show w.heap.size<((w.alloc (.cells ROW e)).drew.setCells w.heap.size (i*2) (Xz [p])).heap.size
          rw[YA]
          show w.heap.size<(w.heap.push _).size
          rw[Array.size_push]; exact Nat.lt_succ_self _
        refine XaN (S :=blk w.heap.size) o0 o2 ?_ (λg k hx => .inr (by rw[show g=w.heap.size from hx]; exact Nat.le_refl _)) (λg k hx hy => by have :=hI g k hy; rw[show g=w.heap.size from hx] at this; omega) (λg k hx => by rw[show g=w.heap.size from hx]; exact hsz) hI
          (Qb hnew hG (by omega) (λ_ => rfl) (XhA x3 (λk hk => Option.isSome_iff_exists.1 (x2 k hk))) (λj v hj => ?_))
        · rw[k2]
          have f1:Frame w (w.alloc (.cells ROW e)).drew nos :=(X4 w _).trans (ZU _)
          have f2 :=f1.step (XV w.heap.size (Xz [p]) (i*2) _) (λg k ⟨e1,_,_⟩ => .inr (by rw[e1]; exact Nat.le_refl _))
          have f3 :=(f2.trans (ZU _)).step (XV w.heap.size ((Xz hs).drop (i*2)) ((i+1)*2) _) (λg k ⟨e1,_,_⟩ => .inr (by rw[e1]; exact Nat.le_refl _))
          exact f3.mono (Xm _)
        · rw[Xe9 (by omega)] at hj
          show w'.cell? _=_
          rw[k2,Nat.zero_add]
          split at hj
          · rename_i h1
            rw[World.cell?_setCells_out _ _ _ _ _ (λ_ _ => .inl (by simp only; omega))]
            show World.cell? ((w.alloc (.cells ROW e)).drew.setCells w.heap.size (i*2) (Xz [p])) _=_
            rw[World.cell?_setCells_out _ _ _ _ _ (λ_ _ => .inl (by simp only; omega))]
            show Xo (w.alloc (.cells ROW e)) w.heap.size j=_
            rw[y0,hROW,Array.getElem?_append_left (by simp only[Array.size_append,List.size_toArray,List.length_take,hcl]; omega),Array.getElem?_append_left (by simp only[List.size_toArray,List.length_take,hcl]; omega),List.getElem?_toArray,List.getElem?_take,if_pos h1]
            exact hj
          · split at hj
            · rename_i h1 h2
              obtain⟨hjl,hje⟩ :=List.getElem?_eq_some_iff.1 hj
              rw[World.cell?_setCells_out _ _ _ _ _ (λ_ _ => .inl (by simp only; omega))]
              have :=World.cell?_setCells_in w.heap.size (Xz [p]) (i*2) (w.alloc (.cells ROW e)).drew (λq hq => by have :=x0 (i*2+q) (by rw[hvl] at hq; omega); rwa [Nat.zero_add] at this) (j-i*2) hjl
              rw[show i*2+(j-i*2)=j by omega] at this
              exact this.trans (by rw[hje])
            · rename_i h1 h2
              obtain⟨hjl,hje⟩ :=List.getElem?_eq_some_iff.1 hj
              have :=World.cell?_setCells_in w.heap.size ((Xz hs).drop (i*2)) ((i+1)*2) ((w.alloc (.cells ROW e)).drew.setCells w.heap.size (i*2) (Xz [p])).drew (λq hq => by have :=x1 ((i+1)*2+q) (by omega); rw[Nat.zero_add] at this; exact this) (j-(i+1)*2) hjl
              rw[show(i+1)*2+(j-(i+1)*2)=j by omega] at this
              rw[this,hje]
      · obtain rfl:i=n :=by omega
        obtain⟨e',w',fr,⟨k1,k2⟩,k3⟩ :=hEnd A i cap vb voff vc (Xz hs) (Xz [p]) w hnc (by omega) hbig hcl hvl (λh0 => by
            rcases Nat.eq_zero_or_pos cap with hz | hz
            · omega
            · rw[h0] at hA; cases hA hz) (λa ha j v hj => by
            have hpos:0<cap :=by
              have :=(List.getElem?_eq_some_iff.1 hj).1
              omega
            obtain rfl:a=⟨b,off,none⟩ :=by rw[hA hpos] at ha; injection ha with ha; exact ha.symm
            rw[Addr.add_lit]; exact hcell j v hj) hvcell cs
        rw[hGe] at k1 k2
        subst k1
        obtain⟨ROW,hROW⟩:∃ROW:Array Value,ROW=(Xz hs).toArray++(Xz [p]).toArray++Builtin.zeroCells zv.cells (G-(i+1)) :=⟨_,rfl⟩
        have hRs:ROW.size=G*2 :=by
          rw[hROW]
          simp only[Array.size_append,hzs,List.size_toArray,hcl,hvl]
          omega
        rw[<-hROW] at k2
        have y0:∀k,Xo w' w.heap.size k=ROW[k]? :=λk => by rw[k2]; exact YR w.drew ROW e k
        have x2:∀k,k<G*2->∃v,Xo w' w.heap.size (0+k)=some v :=λk hk => by
          rw[y0,Nat.zero_add,Array.getElem?_eq_getElem (by omega)]; exact⟨_,rfl⟩
        have x3:∀q,X9 w' w.heap.size q=false :=λq => by rw[k2]; exact YD w.drew ROW e q
        refine⟨.returned _,w',fr,?_,k3⟩
        have hsz:w.heap.size<w'.heap.size :=by
          rw[k2]
          show w.heap.size<(w.heap.push _).size
          rw[Array.size_push]; exact Nat.lt_succ_self _
        refine XaN (S :=blk w.heap.size) o0 o2 ?_ (λg k hx => .inr (by rw[show g=w.heap.size from hx]; exact Nat.le_refl _)) (λg k hx hy => by have :=hI g k hy; rw[show g=w.heap.size from hx] at this; omega) (λg k hx => by rw[show g=w.heap.size from hx]; exact hsz) hI
          (Qb hnew hG (by omega) (λ_ => rfl) (XhA x3 x2) (λj v hj => ?_))
        · rw[k2]; exact(Ub w _).mono (Xm _)
        · rw[Xe9 (by omega)] at hj
          rw[y0,Nat.zero_add,hROW]
          split at hj
          · rw[Array.getElem?_append_left (by simp only[Array.size_append,List.size_toArray,hcl,hvl]; omega),Array.getElem?_append_left (by simp only[List.size_toArray,hcl]; omega),List.getElem?_toArray]
            exact hj
          · split at hj
            · rw[Array.getElem?_append_left (by simp only[Array.size_append,List.size_toArray,hcl,hvl]; omega),Array.getElem?_append_right (by simp only[List.size_toArray,hcl]; omega),List.size_toArray,hcl,List.getElem?_toArray]
              exact hj
            · have :=(List.getElem?_eq_some_iff.1 hj).1
              rw[List.length_drop,hcl] at this
              omega
end Go.Vm
set_option autoImplicit false
set_option maxRecDepth 100000
set_option maxHeartbeats 4000000
attribute [go_sem] Nat.add_zero Nat.zero_add List.contains_cons List.contains_nil List.elem_cons List.elem_nil List.length_cons List.length_nil List.map_cons List.map_nil List.all_cons List.all_nil List.any_cons List.any_nil List.getElem?_cons_zero List.getElem?_cons_succ List.getElem?_nil List.getD_cons_zero List.getD_cons_succ List.append_nil List.nil_append List.cons_append List.isEmpty_cons List.isEmpty_nil List.headD_cons List.headD_nil List.tail_cons List.tail_nil List.take_nil List.drop_nil Bool.and_true Bool.true_and Bool.or_false Bool.or_true Bool.false_or Bool.true_or Bool.not_true Bool.not_false Bool.and_false Bool.false_and Bool.false_eq_true Bool.true_eq_false Bool.and_self Bool.not_not decide_true decide_false decide_eq_true_eq beq_self_eq_true Nat.le_refl Nat.zero_le and_self true_and and_true false_and and_false or_true true_or if_true if_false Option.map_some Option.map_none Option.isSome_none Option.isSome_some eq_self_iff_true not_true_eq_false not_false_eq_true ne_eq Nat.not_lt_zero Nat.succ_ne_zero List.length_map List.set_cons_zero List.set_cons_succ gt_iff_lt ge_iff_le List.take_succ_cons List.take_zero List.drop_zero List.drop_succ_cons bne_self_eq_false
namespace Go.Vm
def Xw(b:UInt8):List AV :=[.i .u8 b.toNat]
def XjW(s:ByteArray):List AV :=[.s s]
def XlQ(n:Int):List AV :=[.i .i64 n]
def XfY(b:Bool):List AV :=[.b b]
@[go_sem] def XmU(b:UInt8):Xw b=[.i .u8 b.toNat] :=nr rfl
@[go_sem] def Xnv(s:ByteArray):XjW s=[.s s] :=nr rfl
@[go_sem] def Xnw(n:Int):XlQ n=[.i .i64 n] :=nr rfl
@[go_sem] def XmV(b:Bool):XfY b=[.b b] :=nr rfl
def YC{α:Type}{f g:α->List AV}(h:∀a,Ys (f a)=g a):∀xs:List α,XK (xs.map f)=xs.map g
  | [] => rfl
  | x :: xs => by simp only[List.map_cons,XK,h,YC h xs]
def Y1{α:Type}{f:α->List AV}(h:∀a,X7 (f a)=false):∀xs:List α,Yp (xs.map f)=false
  | [] => rfl
  | x :: xs => by simp only[List.map_cons,Yp,h,Y1 h xs,Bool.or_self]
@[go_sem] def Uz(xs:List UInt8):XK (xs.map Xw)=xs.map Xw :=YC (λa => by simp only[Xw,Ys,strip]) xs
@[go_sem] def XfZ(xs:List ByteArray):XK (xs.map XjW)=xs.map XjW :=YC (λa => by simp only[XjW,Ys,strip]) xs
@[go_sem] def XlR(xs:List Int):XK (xs.map XlQ)=xs.map XlQ :=YC (λa => by simp only[XlQ,Ys,strip]) xs
@[go_sem] def Xlx(xs:List Bool):XK (xs.map XfY)=xs.map XfY :=YC (λa => by simp only[XfY,Ys,strip]) xs
@[go_sem] def Xal(xs:List UInt8):Yp (xs.map Xw)=false :=Y1 (λa => by simp only[Xw,X7,XG,Bool.or_self]) xs
@[go_sem] def XhB(xs:List ByteArray):Yp (xs.map XjW)=false :=Y1 (λa => by simp only[XjW,X7,XG,Bool.or_self]) xs
@[go_sem] def XmW(xs:List Int):Yp (xs.map XlQ)=false :=Y1 (λa => by simp only[XlQ,X7,XG,Bool.or_self]) xs
@[go_sem] def XlS(xs:List Bool):Yp (xs.map XfY)=false :=Y1 (λa => by simp only[XfY,X7,XG,Bool.or_self]) xs
@[go_sem] def XmX(xs:List UInt8):XaX (xs.map Xw)=some xs :=Xb4 xs
def szs(n:Nat)(left:Int)(k:Int->Int):Int :=if(IntKind.i64).wrap (left-(n:Int))<0 then -1 else k ((IntKind.i64).wrap (left-(n:Int)))
def szn(r:Int)(k:Int->Int):Int :=if r<0 then -1 else k r
def szO{α:Type}(f:α->Int->Int):List α->Int->Option Int
  | [],l => some l
  | x :: xs,l => if f x l<0 then none else szO f xs (f x l)
def szL{α:Type}(f:α->Int->Int)(xs:List α)(left:Int):Int :=szs xs.length left λl => (szO f xs l).getD (-1)
def Xbo(xs:List UInt8)(left:Int):Int :=szs xs.length left λl => l
def XhC(_:UInt8):Prop :=True
def XmY(s:ByteArray):Prop :=s.size<=9223372036854775807
def XoG(n:Int):Prop :=-9223372036854775808<=n/\n<=9223372036854775807
def okL{α:Type}(p:α->Prop)(xs:List α):Prop :=xs.length<=9223372036854775807/\∀x∈xs,p x
def XmZ(s:ByteArray):Prop :=s.size<=1048576
def Q4(_:UInt8):Prop :=True
def Xm0(_:Int):Prop :=True
def Xm1(_:Bool):Prop :=True
def smL{α:Type}(p:α->Prop)(xs:List α):Prop :=xs.length<=1048576/\∀x∈xs,p x
def XaO{n:Nat}{l:Int}{k:Int->Int}(hn:n<=9223372036854775807)(h0:0<=l)(hl:l<=1048576)(h:0<=szs n l k):n<=1048576/\∃l',0<=l'/\l'<=l/\szs n l k=k l' :=by
  unfold szs at h ⊢
  rw[Y2 (by omega) (by omega)] at h ⊢
  split at h
  · omega
  · rename_i hc
    rw[if_neg hc]
    exact⟨by omega,_,by omega,by omega,rfl⟩
def Xfa{r:Int}{k:Int->Int}(h:0<=szn r k):0<=r/\szn r k=k r :=by
  unfold szn at h ⊢
  split at h
  · omega
  · rename_i hc
    rw[if_neg hc]
    exact⟨by omega,rfl⟩
def XdI{α:Type}(f:α->Int->Int)(ok sm:α->Prop):Prop :=∀a l,ok a->0<=l->l<=1048576->0<=f a l->sm a/\f a l<=l
def Xjr{α:Type}{f:α->Int->Int}{ok sm:α->Prop}(hf:XdI f ok sm):XdI (szL f) (okL ok) (smL sm) :=by
  intro xs l hok h0 hl h
  obtain⟨h1,l',a1,a2,e⟩ :=XaO hok.1 h0 hl h
  have key:∀(ys:List α) (m:Int),(∀x∈ys,ok x)->0<=m->m<=1048576->0<=(szO f ys m).getD (-1)->(∀x∈ys,sm x)/\(szO f ys m).getD (-1)<=m :=by
    intro ys
    induction ys with
    | nil => intro m _ _ _ _; simp[szO]
    | cons y ys ih =>
      intro m ho hm0 hm hs
      simp only[szO] at hs ⊢
      split at hs
      · simp at hs
      · rename_i hc
        rw[if_neg hc]
        obtain⟨s1,s2⟩ :=hf y m (ho y (by simp)) hm0 hm (by omega)
        obtain⟨s3,s4⟩ :=ih _ (λx hx => ho x (by simp[hx])) (by omega) (by omega) hs
        exact⟨λx hx => (List.mem_cons.1 hx).elim (λe => e▸s1) (λhx => s3 x hx),by omega⟩
  unfold szL at h ⊢
  rw[e] at h ⊢
  obtain⟨k1,k2⟩ :=key xs l' hok.2 a1 (by omega) h
  exact⟨⟨h1,k1⟩,by omega⟩
def XdJ:XdI Xbo (okL XhC) (smL Q4) :=by
  intro xs l hok h0 hl h
  obtain⟨h1,l',a1,a2,e⟩ :=XaO hok.1 h0 hl h
  unfold Xbo at h ⊢
  rw[e]
  exact⟨⟨h1,λ_ _ => trivial⟩,a2⟩
def Zh{α:Type}(f:α->List AV)(z:List AV)(xs:List α)(k:Nat):List (List AV) :=(xs.take k).map f++List.replicate (xs.length-k) z
def Xbp{α:Type}(f:α->List AV)(z:List AV)(xs:List α):List.replicate xs.length z=Zh f z xs 0 :=by simp[Zh]
def Xca{α:Type}(f:α->List AV)(z:List AV)(xs:List α):Zh f z xs xs.length=xs.map f :=by simp[Zh]
def Xcb{α:Type}(f:α->List AV)(z:List AV)(xs:List α)(k:Nat)(h:k<=xs.length):(Zh f z xs k).length=xs.length :=by simp[Zh]; omega
def Xcc{α:Type}(f:α->List AV)(z:List AV)(xs:List α)(k:Nat)(h:k<xs.length):(Zh f z xs k).set k (f xs[k])=Zh f z xs (k+1) :=by
  unfold Zh
  rw[List.set_append_right _ _ (by simp; omega)]
  simp only[List.length_map,List.length_take]
  rw[show k-min k xs.length=0 by omega,show xs.length-k=(xs.length-(k+1))+1 by omega,List.replicate_succ,List.set_cons_zero,List.take_succ_eq_append_getElem h,List.map_append]
  simp only[List.map_cons,List.map_nil,List.append_assoc,List.cons_append,List.nil_append]
def Xam{α:Type}(f:α->List AV)(z:List AV)(xs:List α)(k:Nat)(h:k<xs.length):(Zh f z xs k)[k]?=some z :=by
  unfold Zh
  rw[List.getElem?_append_right (by simp; omega)]
  simp only[List.length_map,List.length_take]
  rw[show k-min k xs.length=0 by omega,List.getElem?_replicate,if_pos (by omega)]
def Xbq{α:Type}(f:α->List AV)(z:List AV)(xs:List α)(k:Nat)(h:k<xs.length):(Zh f z xs k).getD k []=z :=by
  rw[List.getD_eq_getElem?_getD,Xam f z xs k h]; rfl
def XhD{α:Type}{f:α->Int->Int}:∀{xs:List α} {l l':Int},UW (λx l => decide (f x l<0)) (λx l => f x l) xs l=.inl l'->szO f xs l=some l'
  | [],l,l',h => by simpa[szO,UW] using h
  | x :: xs,l,l',h => by
    by_cases hc:f x l<0
    · simp[UW,hc] at h
    · simp only[UW,decide_eq_false hc,Bool.false_eq_true,if_false] at h
      simp only[szO,if_neg hc,XhD h]
def XhE{α:Type}{f:α->Int->Int}:∀{xs:List α} {l:Int} {p:α×Int},UW (λx l => decide (f x l<0)) (λx l => f x l) xs l=.inr p->szO f xs l=none
  | [],l,p,h => by simp[UW] at h
  | x :: xs,l,p,h => by
    by_cases hc:f x l<0
    · simp only[szO,if_pos hc]
    · simp only[UW,decide_eq_false hc,Bool.false_eq_true,if_false] at h
      simp only[szO,if_neg hc,XhE h]
def Xan{α:Type}{xs ys:List α}(h:xs.length=ys.length):(xs.zip ys).length=xs.length :=by simp[h]
def XeC{α:Type}:∀{xs ys:List α} {u u':Unit},xs.length=ys.length->UW (λ(x:α×α) (_:Unit) => !eqv x.1 x.2) (λ_ _ => ()) (xs.zip ys) u=.inl u'->eqv xs ys=true
  | [],[],_,_,_,_ => UX _
  | x :: xs,y :: ys,u,u',hl,h => by
    simp only[List.zip_cons_cons,UW] at h
    cases hc:eqv x y with
    | false => simp[hc] at h
    | true =>
      simp only[hc,Bool.not_true,Bool.false_eq_true,if_false] at h
      have :=Zm.1 (XeC (by simpa using hl) h)
      rw[Zm.1 hc,this]; exact UX _
def XeD{α:Type}:∀{xs ys:List α} {u:Unit} {p:(α×α)×Unit},xs.length=ys.length->UW (λ(x:α×α) (_:Unit) => !eqv x.1 x.2) (λ_ _ => ()) (xs.zip ys) u=.inr p->eqv xs ys=false
  | [],[],_,_,_,h => by simp[UW] at h
  | x :: xs,y :: ys,u,p,hl,h => by
    simp only[List.zip_cons_cons,UW] at h
    cases he:eqv (x :: xs) (y :: ys) with
    | false => rfl
    | true =>
      have hh :=Zm.1 he
      injection hh with h1 h2
      subst h1 h2
      simp only[UX,Bool.not_true,Bool.false_eq_true,if_false] at h
      have :=XeD rfl h
      rw[UX] at this; cases this
def XhF{α:Type}{xs ys:List α}(h:¬xs.length=ys.length):eqv xs ys=false :=by
  cases he:eqv xs ys with
  | false => rfl
  | true => exact absurd (congrArg List.length (Zm.1 he)) h
def XoH(c:Prop)[Decidable c](k:IntKind)(x y:Int)(l:List AV):(if c then some (AV.i k x,l) else some (AV.i k y,l))=some (AV.i k (if c then x else y),l) :=by split<;>rfl
def XoI(c:Prop)[Decidable c](x y:Bool)(l:List AV):(if c then some (AV.b x,l) else some (AV.b y,l))=some (AV.b (if c then x else y),l) :=by split<;>rfl
def XcF(x:Bool):((!x)=true)=(x=false) :=by cases x<;>simp
def Xly(x y:Bool):(if x=false then false else y)=(x&&y) :=by cases x<;>rfl
end Go.Vm
namespace Go.Vm
structure Ym where
  Code:Int
  Names:List ByteArray
def Y7(t:Tag)(a:Ym):List AV :=[.i .i64 a.Code,.sl t 1 (a.Names.map XjW)]
@[go_sem] def Xf5(t:Tag)(a:Ym):Y7 t a=[.i .i64 a.Code,.sl t 1 (a.Names.map XjW)] :=nr rfl
@[go_sem] def Xfb(t:Tag)(xs:List Ym):XK (xs.map (Y7 t))=xs.map (Y7 .ro) :=YC (λa => by simp only[Y7,Ys,strip,XfZ]) xs
@[go_sem] def Xf0(xs:List Ym):Yp (xs.map (Y7 .mut))=false :=Y1 (λa => by simp only[Y7,X7,XG,Bool.or_self,XhB]) xs
@[go_sem] def Ym.eta(a:Ym):Ym.mk a.Code a.Names=a :=nr rfl
def Ym.eqv(a b:Ym):Vm.eqv a b=(Vm.eqv a.Code b.Code&&(Vm.eqv a.Names b.Names)) :=(Uo (by simp only[Bool.and_eq_true,Zm]; cases a; cases b; simp only[Ym.mk.injEq,and_assoc])).symm
structure Xh where
  Name:ByteArray
  Value:ByteArray
def Xb(t:Tag)(a:Xh):List AV :=[.s a.Name,.s a.Value]
@[go_sem] def Xlz(t:Tag)(a:Xh):Xb t a=[.s a.Name,.s a.Value] :=nr rfl
@[go_sem] def ZQ(t:Tag)(xs:List Xh):XK (xs.map (Xb t))=xs.map (Xb .ro) :=YC (λa => by simp only[Xb,Ys,strip]) xs
@[go_sem] def Qc(xs:List Xh):Yp (xs.map (Xb .mut))=false :=Y1 (λa => by simp only[Xb,X7,XG,Bool.or_self]) xs
@[go_sem] def Xh.eta(a:Xh):Xh.mk a.Name a.Value=a :=nr rfl
def Xh.eqv(a b:Xh):Vm.eqv a b=(Vm.eqv a.Name b.Name&&(Vm.eqv a.Value b.Value)) :=(Uo (by simp only[Bool.and_eq_true,Zm]; cases a; cases b; simp only[Xh.mk.injEq,and_assoc])).symm
def Ue(a:Xh):Prop :=XmY a.Name/\XmY a.Value
def Ya(a:Xh):Prop :=XmZ a.Name/\XmZ a.Value
def ZR(a:Xh)(left:Int):Int :=szs a.Name.size left λl => szs a.Value.size l λl => l
def XcG:XdI ZR Ue Ya :=by
  intro a left hok h0 hl h
  unfold ZR at h ⊢
  obtain⟨qName,qValue⟩ :=hok
  obtain⟨sName,l0,a0,b0,e0⟩ :=XaO qName h0 (by omega) h
  rw[e0] at h ⊢
  obtain⟨sValue,l1,a1,b1,e1⟩ :=XaO qValue a0 (by omega) h
  rw[e1] at h ⊢
  exact⟨⟨sName,sValue⟩,by omega⟩
structure Response where
  Status:Int
  Headers:List Xh
  Body:List UInt8
def YQ(t:Tag)(a:Response):List AV :=[.i .i64 a.Status,.sl t 2 (a.Headers.map (Xb t)),.sl t 1 (a.Body.map Xw)]
@[go_sem] def Xjs(t:Tag)(a:Response):YQ t a=[.i .i64 a.Status,.sl t 2 (a.Headers.map (Xb t)),.sl t 1 (a.Body.map Xw)] :=nr rfl
@[go_sem] def XhG(t:Tag)(xs:List Response):XK (xs.map (YQ t))=xs.map (YQ .ro) :=YC (λa => by simp only[YQ,Ys,strip,Uz,ZQ]) xs
@[go_sem] def XhP(xs:List Response):Yp (xs.map (YQ .mut))=false :=Y1 (λa => by simp only[YQ,X7,XG,Bool.or_self,Xal,Qc]) xs
@[go_sem] def Response.eta(a:Response):Response.mk a.Status a.Headers a.Body=a :=nr rfl
def Response.eqv(a b:Response):Vm.eqv a b=(Vm.eqv a.Status b.Status&&(Vm.eqv a.Headers b.Headers&&(Vm.eqv a.Body b.Body))) :=(Uo (by simp only[Bool.and_eq_true,Zm]; cases a; cases b; simp only[Response.mk.injEq,and_assoc])).symm
def Uf(a:Response):Prop :=XoG a.Status/\(okL Ue) a.Headers/\(okL XhC) a.Body
def YE(a:Response):Prop :=Xm0 a.Status/\(smL Ya) a.Headers/\(smL Q4) a.Body
def ZX(a:Response)(left:Int):Int :=szn (szL ZR a.Headers left) λl => szn (Xbo a.Body l) λl => l
def Xbr:XdI ZX Uf YE :=by
  intro a left hok h0 hl h
  unfold ZX at h ⊢
  obtain⟨qStatus,qHeaders,qBody⟩ :=hok
  obtain⟨a0,e0⟩ :=Xfa h
  obtain⟨sHeaders,b0⟩ :=(Xjr XcG) _ _ qHeaders h0 (by omega) a0
  rw[e0] at h ⊢
  obtain⟨a1,e1⟩ :=Xfa h
  obtain⟨sBody,b1⟩ :=XdJ _ _ qBody a0 (by omega) a1
  rw[e1] at h ⊢
  exact⟨⟨trivial,sHeaders,sBody⟩,by omega⟩
structure Request where
  Method:ByteArray
  Host:ByteArray
  Path:ByteArray
  Headers:List Xh
def Ug(t:Tag)(a:Request):List AV :=[.s a.Method,.s a.Host,.s a.Path,.sl t 2 (a.Headers.map (Xb t))]
@[go_sem] def XjX(t:Tag)(a:Request):Ug t a=[.s a.Method,.s a.Host,.s a.Path,.sl t 2 (a.Headers.map (Xb t))] :=nr rfl
@[go_sem] def XhQ(t:Tag)(xs:List Request):XK (xs.map (Ug t))=xs.map (Ug .ro) :=YC (λa => by simp only[Ug,Ys,strip,ZQ]) xs
@[go_sem] def Xjt(xs:List Request):Yp (xs.map (Ug .mut))=false :=Y1 (λa => by simp only[Ug,X7,XG,Bool.or_self,Qc]) xs
@[go_sem] def Request.eta(a:Request):Request.mk a.Method a.Host a.Path a.Headers=a :=nr rfl
def Request.eqv(a b:Request):Vm.eqv a b=(Vm.eqv a.Method b.Method&&(Vm.eqv a.Host b.Host&&(Vm.eqv a.Path b.Path&&(Vm.eqv a.Headers b.Headers)))) :=(Uo (by simp only[Bool.and_eq_true,Zm]; cases a; cases b; simp only[Request.mk.injEq,and_assoc])).symm
structure Out where
  Kind:Int
  Id:Int
  Source:ByteArray
  Response:Response
  Request:Request
def XlT(t:Tag)(a:Out):List AV :=[.i .i64 a.Kind,.i .i64 a.Id,.s a.Source,.i .i64 a.Response.Status,.sl t 2 (a.Response.Headers.map (Xb t)),.sl t 1 (a.Response.Body.map Xw),.s a.Request.Method,.s a.Request.Host,.s a.Request.Path,.sl t 2 (a.Request.Headers.map (Xb t))]
@[go_sem] def Xnx(t:Tag)(a:Out):XlT t a=[.i .i64 a.Kind,.i .i64 a.Id,.s a.Source,.i .i64 a.Response.Status,.sl t 2 (a.Response.Headers.map (Xb t)),.sl t 1 (a.Response.Body.map Xw),.s a.Request.Method,.s a.Request.Host,.s a.Request.Path,.sl t 2 (a.Request.Headers.map (Xb t))] :=nr rfl
@[go_sem] def XlU(t:Tag)(xs:List Out):XK (xs.map (XlT t))=xs.map (XlT .ro) :=YC (λa => by simp only[XlT,Ys,strip,Uz,ZQ]) xs
@[go_sem] def Xm2(xs:List Out):Yp (xs.map (XlT .mut))=false :=Y1 (λa => by simp only[XlT,X7,XG,Bool.or_self,Xal,Qc]) xs
@[go_sem] def Out.eta(a:Out):Out.mk a.Kind a.Id a.Source a.Response a.Request=a :=nr rfl
def Out.eqv(a b:Out):Vm.eqv a b=(Vm.eqv a.Kind b.Kind&&(Vm.eqv a.Id b.Id&&(Vm.eqv a.Source b.Source&&(Vm.eqv a.Response b.Response&&(Vm.eqv a.Request b.Request))))) :=(Uo (by simp only[Bool.and_eq_true,Zm]; cases a; cases b; simp only[Out.mk.injEq,and_assoc])).symm
structure YF where
  Code:Int
  Text:ByteArray
def Zn(t:Tag)(a:YF):List AV :=[.i .i64 a.Code,.s a.Text]
@[go_sem] def XhH(t:Tag)(a:YF):Zn t a=[.i .i64 a.Code,.s a.Text] :=nr rfl
@[go_sem] def Xf1(t:Tag)(xs:List YF):XK (xs.map (Zn t))=xs.map (Zn .ro) :=YC (λa => by simp only[Zn,Ys,strip]) xs
@[go_sem] def Xf6(xs:List YF):Yp (xs.map (Zn .mut))=false :=Y1 (λa => by simp only[Zn,X7,XG,Bool.or_self]) xs
@[go_sem] def YF.eta(a:YF):YF.mk a.Code a.Text=a :=nr rfl
def YF.eqv(a b:YF):Vm.eqv a b=(Vm.eqv a.Code b.Code&&(Vm.eqv a.Text b.Text)) :=(Uo (by simp only[Bool.and_eq_true,Zm]; cases a; cases b; simp only[YF.mk.injEq,and_assoc])).symm
structure Xf where
  Code:Int
  Response:Response
def XZ(t:Tag)(a:Xf):List AV :=[.i .i64 a.Code,.i .i64 a.Response.Status,.sl t 2 (a.Response.Headers.map (Xb t)),.sl t 1 (a.Response.Body.map Xw)]
@[go_sem] def XeE(t:Tag)(a:Xf):XZ t a=[.i .i64 a.Code,.i .i64 a.Response.Status,.sl t 2 (a.Response.Headers.map (Xb t)),.sl t 1 (a.Response.Body.map Xw)] :=nr rfl
@[go_sem] def XdK(t:Tag)(xs:List Xf):XK (xs.map (XZ t))=xs.map (XZ .ro) :=YC (λa => by simp only[XZ,Ys,strip,Uz,ZQ]) xs
@[go_sem] def XdN(xs:List Xf):Yp (xs.map (XZ .mut))=false :=Y1 (λa => by simp only[XZ,X7,XG,Bool.or_self,Xal,Qc]) xs
@[go_sem] def Xf.eta(a:Xf):Xf.mk a.Code a.Response=a :=nr rfl
def Xf.eqv(a b:Xf):Vm.eqv a b=(Vm.eqv a.Code b.Code&&(Vm.eqv a.Response b.Response)) :=(Uo (by simp only[Bool.and_eq_true,Zm]; cases a; cases b; simp only[Xf.mk.injEq,and_assoc])).symm
def ZF(a:Xf):Prop :=Xm0 a.Code/\YE a.Response
end Go.Vm
set_option autoImplicit false
set_option maxRecDepth 100000
set_option maxHeartbeats 4000000
namespace Go.Vm
def Xk(a:Xh)(k:Int):Xh×Int :=
  (⟨Xe6 (k),Xe6 (k+1)⟩,k+1+1)
def Yl(a:Xh)(k:Int):k+1<=(Xk a k).2 :=by
  simp only[Xk]
  omega
def XdL(a:Xh)(k:Int)(h:Ya a):(Xk a k).2<=k+(2:Nat) :=by
  simp only[Xk]
  omega
def XJ(a:Response)(k:Int):Response×Int :=
  let p0 :=mkL Xk a.Headers (k)
  let p1 :=mkL XT a.Body (p0.2)
  (⟨a.Status,p0.1,p1.1⟩,p1.2)
def XW(a:Response)(k:Int):XJ a k=(let p0 :=mkL Xk a.Headers (k); let p1 :=mkL XT a.Body (p0.2); (⟨a.Status,p0.1,p1.1⟩,p1.2)) :=nr rfl
def Zq(a:Response)(k:Int):k<=(XJ a k).2 :=by
  simp only[XJ]
  have b0 :=UZ Yl a.Headers (k)
  generalize (mkL Xk a.Headers (k)).2=q0 at b0 ⊢
  have b1 :=UZ Ze a.Body (q0)
  generalize (mkL XT a.Body (q0)).2=q1 at b1 ⊢
  omega
def Uq(a:Response)(k:Int)(h:YE a):(XJ a k).2<=k+(3145728:Nat) :=by
  simp only[XJ]
  have b0 :=XjT (c :=2) (XdL) a.Headers (k) h.2.1
  generalize (mkL Xk a.Headers (k)).2=q0 at b0 ⊢
  have b1 :=XjT (c :=1) (Xhx) a.Body (q0) h.2.2
  generalize (mkL XT a.Body (q0)).2=q1 at b1 ⊢
  omega
def Xx(a:Xf)(k:Int):Xf×Int :=
  let p0 :=XJ a.Response (k)
  (⟨a.Code,p0.1⟩,p0.2)
def XO(a:Xf)(k:Int):Xx a k=(let p0 :=XJ a.Response (k); (⟨a.Code,p0.1⟩,p0.2)) :=nr rfl
def Uh(a:Xf)(k:Int):k<=(Xx a k).2 :=by
  simp only[Xx]
  have b0 :=Zq a.Response (k)
  generalize (XJ a.Response (k)).2=q0 at b0 ⊢
  omega
def Ui(a:Xf)(k:Int)(h:ZF a):(Xx a k).2<=k+(3145728:Nat) :=by
  simp only[Xx]
  have b0 :=Uq a.Response (k) h.2
  generalize (XJ a.Response (k)).2=q0 at b0 ⊢
  omega
end Go.Vm
set_option autoImplicit false
set_option maxRecDepth 100000
set_option maxHeartbeats 4000000
namespace Go.Vm
def Xju(row:List AV)(h:XaF [.s,.s] row):∃x:Xh,row=Xb .ro x/\Ue x :=by
  obtain⟨a0,_,rfl,h0,h⟩ :=h.cons
  obtain⟨a1,_,rfl,h1,h⟩ :=h.cons
  obtain rfl :=h.nil
  obtain⟨x0,rfl,o0⟩ :=h0.str
  obtain⟨x1,rfl,o1⟩ :=h1.str
  exact⟨⟨x0,x1⟩,rfl,⟨o0,o1⟩⟩
def Xf2(row:List AV)(h:XaF [.i .i64,.sl [.s,.s],.sl [.i .u8]] row):∃x:Response,row=YQ .ro x/\Uf x :=by
  obtain⟨a0,_,rfl,h0,h⟩ :=h.cons
  obtain⟨a1,_,rfl,h1,h⟩ :=h.cons
  obtain⟨a2,_,rfl,h2,h⟩ :=h.cons
  obtain rfl :=h.nil
  obtain⟨x0,rfl,o0⟩ :=h0.int
  obtain⟨x1,rfl,o1⟩ :=h1.list (f :=(Xb .ro)) (ok :=Ue) Xju
  obtain⟨x2,rfl,o2⟩ :=h2.list (f :=Xw) (ok :=XhC) Xjm
  exact⟨⟨x0,x1,x2⟩,rfl,⟨o0,o1,o2⟩⟩
end Go.Vm
