/- Functions of the program, walked by the evaluator. -/
import Derived.Test.YtpoannkeaajngaaGreatDoorVf
import Derived.Test.YtpoannkeaajngaaGreatDoorVe
import Derived.Laws.Strings
import Derived.ChangeShapes
import Derived.ChangeArms
import Derived.Deep.Slices
import Derived.RowKit
import Derived.Below
import Derived.Lib.Bytealg
import Derived.Laws.Externs
import Derived.WalkKit
import Derived.Lib.SlTrimSet
import Derived.Lib.LaidTab
import Derived.Lib.ItoaNum
import Derived.Lib.AppendIntMem
import Derived.Lib.Overlaps
import Derived.Laws.IdiomCopy
import Derived.Lib.SplitLaws
import Derived.Lib.Replace
import Derived.Lib.IndexMore
import Derived.Lib.Join
import Derived.WalkSmall
set_option linter.unusedVariables false
set_option linter.unusedSimpArgs false
set_option autoImplicit false
set_option linter.defProp false
namespace Go.Vm
def XfY{cx:Cx}{n:Nat}:XdU {cx with rounds :=n}=XdU cx :=by
  funext ts xs as
  induction ts generalizing xs as with
  | nil => rfl
  | cons t ts ih => cases xs with
    | nil => rfl
    | cons x xs => cases as with
      | nil => rfl
      | cons a as => simp only[XdU,ih]; cases x<;>rfl
def Xcw{cx:Cx}{n:Nat}:X1 {cx with rounds :=n}=X1 cx :=by
  funext st ms ts xs
  induction ms generalizing st ts xs with
  | nil => rfl
  | cons m ms ih => cases ts with
    | nil => rfl
    | cons t ts => cases xs with
      | nil => rfl
      | cons x xs => simp only[X1,ih]; rfl
def XaG{cx:Cx}{n:Nat}(st:St)(o:Oper):Xl {cx with rounds :=n} st o=Xl cx st o :=by
  have h:∀d c,YE {cx with rounds :=n} st d c=YE cx st d c :=λd c => by
    have h2:∀f ts xs,U4 {cx with rounds :=n} st f ts xs=U4 cx st f ts xs :=λf ts xs => by
      have h3:∀st,Ub {cx with rounds :=n} st f ts xs=Ub cx st f ts xs :=λst => by simp only[Ub,XfY]
      have h4:∀st g fs k m,Xcp {cx with rounds :=n} st g fs k m f ts xs=Xcp cx st g fs k m f ts xs :=λst g fs k m => by simp only[Xcp,h3]; rfl
      have h5:∀st g fs,XbK {cx with rounds :=n} st g fs f ts xs=XbK cx st g fs f ts xs :=λst g fs => by simp only[XbK,h3,Xcw]
      have h6:∀st g fs,XbL {cx with rounds :=n} st g fs f ts xs=XbL cx st g fs f ts xs :=λst g fs => by simp only[XbL,h4,h5]
      simp only[U4,h3,XbM,h6]
    simp only[YE,h2]
  simp only[Xl,h]
  rfl
def Uq{cx:Cx}{n:Nat}(ops:List Oper)(st:St)(o:Oper):Z9 {cx with rounds :=n} ops st o=Z9 cx ops st o :=by simp only[Z9,XaG]
def U7{cx:Cx}{n:Nat}{ops:List Oper}:∀(l:List Oper) (cs:List (Option (List Nat))) (st:St),XQ {cx with rounds :=n} ops cs st l=XQ cx ops cs st l
  | [],_,_ => rfl
  | o :: l,cs,st => by
    simp only[XQ,XaG,U7 l]
def ZG{cx:Cx}{id n:Nat}{ops:List Oper}:∀(p:Xck) (st:St),Yz {cx with rounds :=n} id ops p st=Yz cx id ops p st
  | .done,_ => rfl
  | .take i p,st => by
    simp only[Yz,Uq,ZG p]
  | .one i p,st => by
    have h2:∀o,UD {cx with rounds :=n} o=UD cx o :=λ_ => rfl
    have h3:∀s o,QZ {cx with rounds :=n} s o=QZ cx s o :=λ_ _ => rfl
    simp only[Yz,Uq,h2,h3,ZG p]
  | .alt i p q,st => by
    have h2:∀o,UD {cx with rounds :=n} o=UD cx o :=λ_ => rfl
    have h3:∀s o,QZ {cx with rounds :=n} s o=QZ cx s o :=λ_ _ => rfl
    simp only[Yz,Uq,h2,h3,ZG p,ZG q]
def XeN{f g:St->Option (Ex×St)}(h:∀s r,f s=some r->g s=some r):∀(n m:Nat) (s:St) (r:Ex×St),n<=m->Xlt f n s=some r->Xlt g m s=some r
  | 0,_,_,_,_,hr => by cases hr
  | n+1,0,_,_,hm,_ => by omega
  | n+1,m+1,s,r,hm,hr => by
    simp only[Xlt] at hr ⊢
    cases hf:f s with
    | none => rw[hf] at hr; cases hr
    | some p =>
      obtain⟨e,s'⟩ :=p
      rw[hf] at hr
      rw[h s _ hf]
      cases e with
      | nor => exact XeN h n m s' r (by omega) hr
      | _ => exact hr
def Xcb{cx:Cx}{n m:Nat}(hnm:n<=m):∀(c:Code) (blk:Nat) (st:St) (r:Ex×St),Xs {cx with rounds :=n} blk c st=some r->Xs {cx with rounds :=m} blk c st=some r :=by
  intro c
  induction c with
  | region id ops draw =>
    intro blk st r h
    simp only[Xs,U7,ZG] at h ⊢
    exact h
  | seq a b iha ihb =>
    intro blk st r h
    simp only[Xs] at h ⊢
    cases ha:Xs {cx with rounds :=n} blk a st with
    | none => rw[ha] at h; cases h
    | some p =>
      obtain⟨e,s⟩ :=p
      rw[ha] at h
      rw[iha blk st _ ha]
      cases e with
      | nor => exact ihb blk s r h
      | _ => exact h
  | cond c a b iha ihb =>
    intro blk st r h
    simp only[Xs] at h ⊢
    split at h
    · exact iha blk st r h
    · exact ihb blk st r h
    · cases h
  | block id c ih =>
    intro blk st r h
    simp only[Xs] at h ⊢
    cases hc:Xs {cx with rounds :=n} id c st with
    | none => rw[hc] at h; cases h
    | some p => rw[hc] at h; rw[ih id st _ hc]; exact h
  | loop c ih =>
    intro blk st r h
    simp only[Xs] at h ⊢
    exact XeN (λs r hs => ih blk _ r hs) n m st r hnm h
  | _ => intro blk st r h; exact h
def Xk8{cx:Cx}{n m:Nat}(hnm:n<=m):∀(c:Code) (K K':St->Option (Ex×St)) (_:∀s r,K s=some r->K' s=some r) (st:St) (r:Ex×St),evN {cx with rounds :=n} c K st=some r->evN {cx with rounds :=m} c K' st=some r :=by
  have other:∀(c:Code) (K K':St->Option (Ex×St)) (_:∀s r,K s=some r->K' s=some r) (st:St) (r:Ex×St),XcL (Xs {cx with rounds :=n} 0 c st) K=some r->XcL (Xs {cx with rounds :=m} 0 c st) K'=some r :=by
    intro c K K' hK st r h
    cases hc:Xs {cx with rounds :=n} 0 c st with
    | none => rw[hc] at h; cases h
    | some p =>
      rw[hc] at h
      rw[Xcb hnm c 0 st _ hc]
      obtain⟨e,s⟩ :=p
      cases e with
      | nor => exact hK s r h
      | _ => exact h
  intro c
  induction c with
  | skip => intro K K' hK st r h; exact hK st r h
  | seq a b iha ihb => intro K K' hK st r h; exact iha _ _ (λs r hs => ihb K K' hK s r hs) st r h
  | cond c a b iha ihb =>
    intro K K' hK st r h
    simp only[evN] at h ⊢
    split at h
    · exact iha K K' hK st r h
    · exact ihb K K' hK st r h
    · unfold Xfk at h ⊢
      split at h
      · rename_i he
        have h1 :=iha K K' hK st r h
        have h2 :=ihb K K' hK st r (he▸h)
        rw[if_pos (h1.trans h2.symm)]
        exact h1
      · cases h
    · cases h
  | _ => intro K K' hK st r h; exact other _ K K' hK st r h
def Xcc{cx:Cx}{md:List Md}{f:Func}{as:List AV}{r:AV×List AV}{n m:Nat}(hnm:n<=m)(h:Q1 {cx with rounds :=n} md f as=some r):Q1 {cx with rounds :=m} md f as=some r :=by
  unfold Q1 at h ⊢
  cases hb:f.body with
  | none => rw[hb] at h; cases h
  | some c =>
    rw[hb] at h
    simp only at h ⊢
    have hB:∀r,evB {cx with rounds :=n} c (Uw md as)=some r->evB {cx with rounds :=m} c (Uw md as)=some r :=by
      intro r hr
      unfold evB at hr ⊢
      by_cases hz:cx.nz=true
      · rw[if_pos (show({cx with rounds :=n}:Cx).nz=true from hz)] at hr
        rw[if_pos (show({cx with rounds :=m}:Cx).nz=true from hz)]
        exact Xk8 hnm c _ _ (λ_ _ h => h) _ r hr
      · rw[if_neg (show ¬({cx with rounds :=n}:Cx).nz=true from hz)] at hr
        rw[if_neg (show ¬({cx with rounds :=m}:Cx).nz=true from hz)]
        exact Xcb hnm c 0 _ r hr
    cases hc:evB {cx with rounds :=n} c (Uw md as) with
    | none => rw[hc] at h; cases h
    | some p =>
      rw[hc] at h
      rw[hB _ hc]
      have hres:∀(l:List ResultVar) (st:St),Xav {cx with rounds :=n} st l=Xav {cx with rounds :=m} st l :=by
        intro l
        induction l with
        | nil => intro st; rfl
        | cons x l ih => intro st; cases x<;>simp only[Xav,ih]
      have hfin:∀st,Qb {cx with rounds :=n} md f.results.toList st=Qb {cx with rounds :=m} md f.results.toList st :=λst => by simp only[Qb,XpF,Xmi,hres]
      obtain⟨e,s⟩ :=p
      cases e<;>simp only[hfin] at h ⊢<;>exact h
def ZH(wk:Bool)(r:AV)(os:List AV):Bool :=wk||(!XF r&&os.all λo => !XF o)
noncomputable def FR(cx:Cx)(md:List Md)(wk:Bool)(f:Func)(as:List AV):Option (AV×List AV) :=
  open Classical in if h : ∃ (r : AV × List AV) (n : Nat), Q1 { cx with rounds := n } md f as = some r /\ ZH wk r.1 r.2 = true then some h.choose else none
def Xpl{cx:Cx}{md:List Md}{wk:Bool}{f:Func}{as:List AV}{r:AV×List AV}{n:Nat}(h:Q1 {cx with rounds :=n} md f as=some r)(hr:ZH wk r.1 r.2=true):FR cx md wk f as=some r :=by
  have hx:∃(r:AV×List AV) (n:Nat),Q1 {cx with rounds :=n} md f as=some r/\ZH wk r.1 r.2=true :=⟨r,n,h,hr⟩
  unfold FR
  rw[dif_pos hx]
  obtain⟨m,h1,h2⟩ :=hx.choose_spec
  have a1 :=Xcc (Nat.le_max_left n m) h
  have a2 :=Xcc (Nat.le_max_right n m) h1
  exact a2.symm.trans a1
def XlN{cx:Cx}{md:List Md}{wk:Bool}{f:Func}{as:List AV}{r:AV×List AV}(h:FR cx md wk f as=some r):∃n,Q1 {cx with rounds :=n} md f as=some r/\ZH wk r.1 r.2=true :=by
  unfold FR at h
  split at h
  · rename_i hx
    obtain⟨m,h1,h2⟩ :=hx.choose_spec
    injection h with h
    rw[<-h]
    exact⟨m,h1,h2⟩
  · cases h
structure SP (P:Program) [HasTb P] where
  g:Nat
  fs:FS
  ok:Qi P g fs
def SP.F{P:Program}[HasTb P](s:SP P):List AV->Option (AV×List AV) :=s.fs.F
def Xk9{P:Program}[HasTb P]:List (SP P)->Nat->Option FS
  | [],_ => none
  | s :: l,g => if g=s.g then some s.fs else Xk9 l g
@[go_sem] def XpP{P:Program}[HasTb P](g:Nat):Xk9 ([]:List (SP P)) g=none :=nr rfl
@[go_sem] def Xpm{P:Program}[HasTb P](s:SP P)(l:List (SP P))(g:Nat):Xk9 (s :: l) g=if g=s.g then some s.fs else Xk9 l g :=nr rfl
def Xi7{P:Program}[HasTb P]:∀(l:List (SP P)) (g:Nat) (fs:FS),Xk9 l g=some fs->Qi P g fs
  | [],g,fs,h => by cases h
  | s :: l,g,fs,h => by
    simp only[Xk9] at h
    split at h
    · rename_i hg
      injection h with h
      subst h hg
      exact s.ok
    · exact Xi7 l g fs h
def asc{α:Type}:List (Nat×α)->Nat->Option α
  | [],_ => none
  | (k,a) :: l,n => if n=k then some a else asc l n
@[go_sem] def XqF{α:Type}(n:Nat):asc ([]:List (Nat×α)) n=none :=nr rfl
@[go_sem] def XpQ{α:Type}(k:Nat)(a:α)(l:List (Nat×α))(n:Nat):asc ((k,a) :: l) n=if n=k then some a else asc l n :=nr rfl
def XnD{α:Type}:List (Nat×List α)->Nat->List α
  | [],_ => []
  | (k,a) :: l,n => if n=k then a else XnD l n
@[go_sem] def XpR{α:Type}(n:Nat):XnD ([]:List (Nat×List α)) n=[] :=nr rfl
@[go_sem] def Xpn{α:Type}(k:Nat)(a:List α)(l:List (Nat×List α))(n:Nat):XnD ((k,a) :: l) n=if n=k then a else XnD l n :=nr rfl
abbrev LV :=List (Nat×List Nat×List Nat)
structure FD where
  md:List Md
  wk:Bool :=false
  rg:LV :=[]
  lv:LV :=[]
  out:LV :=[]
  rets:Option (List Nat×List Nat) :=none
  al:List Nat :=[]
  plan:List (Nat×Xck) :=[]
  fz:List Nat :=[]
  nz:Bool :=false
  ws:List (Nat×List (Bool×Nat×Nat)) :=[]
structure XnE (P:Program) where
  T:TypeId->Option TI
  Q:TypeId->Option (List Nat)
  ok:∀cx:Cx,cx.T=T->cx.eqs=Q->Xeg P cx
  wide:P.follows .mixedOrders=true
def Xod{P:Program}[HasTb P](ty:XnE P)(tab:List (SP P))(d:FD)(n:Nat):Cx :=
  {T :=ty.T,fns :=Xk9 tab,cuts :=λ_ => [],rg :=asc d.rg,live :=asc d.lv,out :=asc d.out,rets :=d.rets,al :=d.al,plan :=asc d.plan,fz :=d.fz,eqs :=ty.Q,rounds :=n,nz :=d.nz,ws :=XnD d.ws}
def XqG(md:List Md)(j:Nat):Bool :=match md[j]? with
  | some m => !Zv m
  | none => false
def ckS{P:Program}[HasTb P](ty:XnE P)(tab:List (SP P))(d:FD)(f:Func):Bool :=match f.body with
  | some c => (!(f.name == "runtime.NumGoroutine")) && YR (Xod ty tab d 0) (XqG d.md) f.ntmps c && decide (d.md.length <= f.ntmps) && Xo0 d.md
  | none => false
def Xpo{P:Program}[HasTb P](ty:XnE P)(g:Nat)(f:Func)(tab:List (SP P))(d:FD)(hf:P.funcs[g]?=some f)(hk:ckS ty tab d f=true):Qi P g ⟨d.md,FR (Xod ty tab d 0) d.md d.wk f,d.wk⟩ :=by
  unfold ckS at hk
  cases hb:f.body with
  | none => rw[hb] at hk; cases hk
  | some c =>
    rw[hb] at hk
    simp only[Bool.and_eq_true,Bool.not_eq_true',decide_eq_true_eq] at hk
    obtain⟨⟨⟨h1,h2⟩,h3⟩,h4⟩ :=hk
    refine XmA (cx :=Xod ty tab d 0) (c :=c) ty.wide (ty.ok _ rfl rfl) (Xi7 tab) hf h1 hb (XqG d.md) (λj m hj hm => ?_) h2 h3 h4 (λas r os h _ _ => ?_) (λhw as r os h => ?_)
    · simp only[XqG,hj,hm,Bool.not_false]
    · obtain⟨n,h5,_⟩ :=XlN h
      exact⟨n,h5⟩
    · obtain⟨n,_,h6⟩ :=XlN h
      have hw':d.wk=false :=hw
      simp only[ZH,hw',Bool.false_or,Bool.and_eq_true,Bool.not_eq_true',List.all_eq_true] at h6
      exact⟨h6.1,λo ho => by simpa using h6.2 o ho⟩
noncomputable def mkS{P:Program}[HasTb P](ty:XnE P)(g:Nat)(f:Func)(tab:List (SP P))(d:FD)(hf:P.funcs[g]?=some f)(hk:ckS ty tab d f=true):SP P :=⟨g,⟨d.md,FR (Xod ty tab d 0) d.md d.wk f,d.wk⟩,Xpo ty g f tab d hf hk⟩
def Xm{P:Program}[HasTb P]{ty:XnE P}{f:Func}{tab:List (SP P)}{d:FD}{as:List AV}{r:AV}{os:List AV}{c:Code}{rv:List ResultVar}(n:Nat)(hb:f.body=some c)(hr:f.results=rv.toArray)
    (h:∀cx:Cx,(cx.T=ty.T/\cx.fns=Xk9 tab/\cx.rg=asc d.rg/\cx.live=asc d.lv/\cx.out=asc d.out/\cx.rets=d.rets/\cx.al=d.al/\cx.plan=asc d.plan/\cx.fz=d.fz/\cx.eqs=ty.Q/\cx.rounds=n/\cx.ws=XnD d.ws/\∀k,cx.cuts k=[])->Xjr cx d.md rv (Xs cx 0 c (Uw d.md as))=some (r,os)) (hw:ZH d.wk r os=true) (hz:d.nz=false :=by rfl):FR (Xod ty tab d 0) d.md d.wk f as=some (r,os) :=by
  refine Xpl (n :=n) ?_ hw
  rw[XiF _ _ f _ c rv hb hr hz]
  exact h _ ⟨rfl,rfl,rfl,rfl,rfl,rfl,rfl,rfl,rfl,rfl,rfl,rfl,λ_ => rfl⟩
def Xi8{P:Program}[HasTb P]{ty:XnE P}{f:Func}{tab:List (SP P)}{d:FD}{as:List AV}{r:AV}{os:List AV}{c:Code}{rv:List ResultVar}(n:Nat)(hb:f.body=some c)(hr:f.results=rv.toArray)
    (h:∀cx:Cx,(cx.T=ty.T/\cx.fns=Xk9 tab/\cx.rg=asc d.rg/\cx.live=asc d.lv/\cx.out=asc d.out/\cx.rets=d.rets/\cx.al=d.al/\cx.plan=asc d.plan/\cx.fz=d.fz/\cx.eqs=ty.Q/\cx.rounds=n/\cx.ws=XnD d.ws/\∀k,cx.cuts k=[])->Xjr cx d.md rv (evN cx c (λs => some (.nor,s)) (Uw d.md as))=some (r,os)) (hw:ZH d.wk r os=true) (hz:d.nz=true :=by rfl):FR (Xod ty tab d 0) d.md d.wk f as=some (r,os) :=by
  refine Xpl (n :=n) ?_ hw
  rw[Xg6 _ _ f _ c rv hb hr hz]
  exact h _ ⟨rfl,rfl,rfl,rfl,rfl,rfl,rfl,rfl,rfl,rfl,rfl,rfl,λ_ => rfl⟩
def UO:Code->List Code
  | .loop c => c :: UO c
  | .seq a b => UO a++UO b
  | .cond _ a b => UO a++UO b
  | .block _ c => UO c
  | _ => []
def Zt(f:Func)(i:Nat):Code :=match f.body with
  | some b => ((UO b)[i]?).getD .skip
  | none => .skip
def XR(f:Func)(i:Nat)(b c:Code)(hb:f.body=some b)(hl:(UO b)[i]?=some c):Zt f i=c :=by simp only[Zt,hb,hl,Option.getD_some]
def Xgu{σ:Type}{cx:Cx}{blk:Nat}{body:Code}(S:σ->St)(I:σ->Prop)(μ:σ->Nat)(Q:σ->Option (Ex×St)->Prop)
    (h:∀s,I s->(∀G,Q s (Xb7 (Xs cx blk body (S s)) G))\/∃st' s',keep (cx.live blk) st'=S s'/\I s'/\μ s'<μ s/\(∀r,Q s' r->Q s r)/\∀G,Xb7 (Xs cx blk body (S s)) G=G st') :
    ∀(N:Nat) (s:σ),I s->μ s<N->∀st,keep (cx.live blk) st=S s->Q s (Xbn cx blk body N st) :=by
  intro N
  induction N with
  | zero => intro s hI hN; omega
  | succ N ih =>
    intro s hI hN st hst
    rw[Xa0,hst]
    rcases h s hI with h1 | ⟨st',s',h1,h2,h3,h4,h5⟩
    · exact h1 _
    · rw[h5]
      exact h4 _ (ih s' h2 (by omega) st' h1)
def Xci{α σ:Type}(c:α->σ->Bool)(g:α->σ->σ):List α->σ->σ⊕(α×σ)
  | [],s => .inl s
  | x :: xs,s => if c x s=true then .inr (x,s) else Xci c g xs (g x s)
def YJ{α σ:Type}(c:α->σ->Bool)(g:α->σ->σ)(x:α)(xs:List α)(s:σ):Xci c g (x :: xs) s=if c x s=true then .inr (x,s) else Xci c g xs (g x s) :=rfl
def XeO{α σ:Type}(g:α->σ->σ):∀(xs:List α) (s:σ),Xci (λ_ _ => false) g xs s=.inl (xs.foldl (λs x => g x s) s)
  | [],s => rfl
  | x :: xs,s => by simp only[Xci,Bool.false_eq_true,if_false,List.foldl_cons]; exact XeO g xs _
def Xcd{α σ:Type}{cx:Cx}{blk:Nat}{body:Code}(xs:List α)(S:Nat->σ->St)(X:σ->St)(c:α->σ->Bool)(g:α->σ->σ)(R:α->σ->Ex×St)(I:Nat->σ->Prop)
    (hend:∀s,I xs.length s->∀G,Xb7 (Xs cx blk body (S xs.length s)) G=some (.ex blk,X s))
    (hstep:∀k (hk:k<xs.length) s,I k s->(c xs[k] s=true/\∀G,Xb7 (Xs cx blk body (S k s)) G=some (R xs[k] s))\/(c xs[k] s=false/\I (k+1) (g xs[k] s)/\∃st',(∀G,Xb7 (Xs cx blk body (S k s)) G=G st')/\keep (cx.live blk) st'=S (k+1) (g xs[k] s)))
    (s:σ) (hI:I 0 s) (N:Nat) (hN:xs.length+1<=N) :
    ∃r,(∀st,keep (cx.live blk) st=S 0 s->Xbn cx blk body N st=r)/\((∃s',Xci c g xs s=.inl s'/\I xs.length s'/\r=some (.ex blk,X s'))\/∃x s',Xci c g xs s=.inr (x,s')/\r=some (R x s')) :=by
  obtain⟨M,rfl⟩:∃M,N=M+1 :=⟨N-1,by omega⟩
  have key:∀(k:Nat) (s:σ) (M:Nat),k<=xs.length->I k s->xs.length-k<=M->(∃s',Xci c g (xs.drop k) s=.inl s'/\I xs.length s'/\Xb7 (Xs cx blk body (S k s)) (λs => Xbn cx blk body M s)=some (.ex blk,X s'))\/∃x s',Xci c g (xs.drop k) s=.inr (x,s')/\Xb7 (Xs cx blk body (S k s)) (λs => Xbn cx blk body M s)=some (R x s') :=by
    intro k s M
    induction M generalizing k s with
    | zero =>
      intro hk hI hM
      obtain rfl:k=xs.length :=by omega
      exact .inl ⟨s,by rw[List.drop_length]; rfl,hI,hend s hI _⟩
    | succ M ih =>
      intro hk hI hM
      by_cases he:k=xs.length
      · subst he
        exact .inl ⟨s,by rw[List.drop_length]; rfl,hI,hend s hI _⟩
      · have hlt:k<xs.length :=by omega
        rcases hstep k hlt s hI with⟨h1,h2⟩ | ⟨h1,h2,st',h4,h3⟩
        · exact .inr ⟨xs[k],s,by rw[List.drop_eq_getElem_cons hlt,YJ,if_pos h1],h2 _⟩
        · rw[h4,Xa0,h3,List.drop_eq_getElem_cons hlt,YJ,if_neg (by simp[h1])]
          exact ih (k+1) _ (by omega) h2 (by omega)
  exact⟨_,λst hst => by rw[Xa0,hst],key 0 s M (Nat.zero_le _) hI (by omega)⟩
def YK{α σ:Type}{cx:Cx}{blk:Nat}{body:Code}(xs:List α)(S:Nat->σ->St)(X:σ->St)(g:α->σ->σ)(I:Nat->σ->Prop)
    (hend:∀s,I xs.length s->∀G,Xb7 (Xs cx blk body (S xs.length s)) G=some (.ex blk,X s))
    (hstep:∀k (hk:k<xs.length) s,I k s->I (k+1) (g xs[k] s)/\∃st',(∀G,Xb7 (Xs cx blk body (S k s)) G=G st')/\keep (cx.live blk) st'=S (k+1) (g xs[k] s))
    (s:σ) (hI:I 0 s) (N:Nat) (hN:xs.length+1<=N) :
    I xs.length (xs.foldl (λs x => g x s) s)/\∀st,keep (cx.live blk) st=S 0 s->Xbn cx blk body N st=some (.ex blk,X (xs.foldl (λs x => g x s) s)) :=by
  obtain⟨r,h1,h⟩ :=Xcd (cx :=cx) (blk :=blk) (body :=body) xs S X (λ_ _ => false) g (λ_ s => (.ret,X s)) I hend (λk hk s hI => .inr ⟨rfl,hstep k hk s hI⟩) s hI N hN
  rw[XeO] at h
  rcases h with⟨s',h2,h3,h4⟩ | ⟨x,s',h2,h3⟩
  · injection h2 with h2
    subst h2
    exact⟨h3,λst hst => by rw[h1 st hst,h4]⟩
  · cases h2
def YL{α σ:Type}{cx:Cx}{blk:Nat}{body:Code}(xs:List α)(S:Nat->σ->St)(X:σ->St)(c:α->σ->Bool)(g:α->σ->σ)(R:α->σ->Ex×St)(I:Nat->σ->Prop)
    (hend:∀s,I xs.length s->∀G,Xb7 (Xs cx blk body (S xs.length s)) G=some (.ex blk,X s))
    (hstep:∀k (hk:k<xs.length) s,I k s->∃(C:Prop) (_:Decidable C) (st':St),(∀G,Xb7 (Xs cx blk body (S k s)) G=if C then some (R xs[k] s) else G st')/\(C↔c xs[k] s=true)/\(c xs[k] s=false->I (k+1) (g xs[k] s)/\keep (cx.live blk) st'=S (k+1) (g xs[k] s)))
    (s:σ) (hI:I 0 s) (N:Nat) (hN:xs.length+1<=N) :
    ∃r,(∀st,keep (cx.live blk) st=S 0 s->Xbn cx blk body N st=r)/\((∃s',Xci c g xs s=.inl s'/\I xs.length s'/\r=some (.ex blk,X s'))\/∃x s',Xci c g xs s=.inr (x,s')/\r=some (R x s')) :=by
  refine Xcd xs S X c g R I hend (λk hk s hI => ?_) s hI N hN
  obtain⟨C,_,st',h1,h2,h3⟩ :=hstep k hk s hI
  cases hc:c xs[k] s with
  | true => exact .inl ⟨rfl,λG => (h1 G).trans (if_pos (h2.2 hc))⟩
  | false =>
    obtain⟨h4,h5⟩ :=h3 hc
    exact .inr ⟨rfl,h4,st',λG => (h1 G).trans (if_neg (λhC => by rw[h2.1 hC] at hc; cases hc)),h5⟩
def runS_any{α:Type}{p:α->Bool}:∀{xs:List α} {u u':Unit},Xci (λx _ => p x) (λ_ _ => ()) xs u=.inl u'->xs.any p=false
  | [],_,_,_ => rfl
  | x :: xs,u,u',h => by
    rw[YJ] at h
    split at h
    · cases h
    · rename_i hc
      rw[List.any_cons,runS_any h]
      simpa using hc
def XdW{α:Type}(p:α->Bool):List α->Nat->Int
  | [],_ => -1
  | x :: xs,k => if p x=true then(k:Int) else XdW p xs (k+1)
def Xgv{α:Type}{p:α->Bool}:∀{xs:List α} {k k':Nat},Xci (λx _ => p x) (λ_ k => k+1) xs k=.inl k'->XdW p xs k =-1
  | [],_,_,_ => rfl
  | x :: xs,k,k',h => by
    rw[YJ] at h
    split at h
    · cases h
    · rename_i hc
      rw[XdW,if_neg hc,Xgv h]
def XeP{α:Type}{p:α->Bool}:∀{xs:List α} {k:Nat} {q:α×Nat},Xci (λx _ => p x) (λ_ k => k+1) xs k=.inr q->XdW p xs k=(q.2:Int)
  | [],_,_,h => by cases h
  | x :: xs,k,q,h => by
    rw[YJ] at h
    split at h
    · rename_i hc
      injection h with h
      subst h
      rw[XdW,if_pos hc]
    · rename_i hc
      rw[XdW,if_neg hc,XeP h]
end Go.Vm
set_option autoImplicit false
namespace Go.Vm
@[go_sem] def XEo:((0:Nat):Int)=0 :=nr rfl
@[go_sem] def XEp:((1:Nat):Int)=1 :=nr rfl
@[go_sem] def Xoe:XgG .nilFunc=.u :=nr rfl
def YC{k:Int}(h0:-9223372036854775808<=k)(h:k<=9223372036854775807):(IntKind.i64).wrap k=k :=by
  simp[IntKind.wrap,IntKind.bits,IntKind.signed]
  omega
def XD{k:Nat}(h:k<9223372036854775807):(IntKind.i64).wrap ((k:Int)+1)=((k+1:Nat):Int) :=by
  rw[YC (by omega) (by omega)]; rfl
def Yb(n k:Nat)(h:k<n):Zg n (k:Int)=some k :=by
  simp only[Zg]
  rw[if_pos ⟨by omega,by omega⟩]; rfl
def QJ{α:Type}(f:α->List AV)(xs:List α)(k:Nat)(h:k<xs.length):(xs.map f).getD k []=f xs[k] :=by simp[List.getD,h]
@[go_sem] def Xpp{α:Type}(f:α->List AV)(xs:List α):(xs.map f).take xs.length=xs.map f :=by
  have :=List.take_length (l :=xs.map f)
  rwa [List.length_map] at this
noncomputable def eqv{α:Type}(a b:α):Bool :=open Classical in decide (a=b)
def Za{α:Type}{a b:α}:eqv a b=true↔a=b :=by simp[eqv]
def Yu{α:Type}(a:α):eqv a a=true :=by simp[eqv]
def QK{α:Type}{p:Bool}{a b:α}(h:p=true↔a=b):p=eqv a b :=by
  cases p with
  | true => exact(Za.2 (h.1 rfl)).symm
  | false =>
    cases he:eqv a b with
    | false => rfl
    | true => exact absurd (h.2 (Za.1 he)) (by simp)
def Xla(a b:Bool):(a==b)=eqv a b :=QK (by simp)
def Xc8(a b:Bool):(a !=b)=!eqv a b :=by rw[bne,Xla]
def Xpq{a b:ByteArray}(h:a.toList=b.toList):a=b :=by
  rw[ByteArray.toList_eq,ByteArray.toList_eq] at h
  cases a; cases b
  simp only[ByteArray.mk.injEq] at h ⊢
  exact Array.ext' h
def Xt(a b:ByteArray):(a.toList==b.toList)=eqv a b :=QK (by
  constructor
  · intro h; exact Xpq (by simpa using h)
  · rintro rfl; simp)
def Xc9:∀xs:List UInt8,Xcq (xs.map λb => [.i .u8 b.toNat])=some xs
  | [] => rfl
  | x :: xs => by
    simp only[List.map_cons,Xcq,Xc9 xs,Int.toNat_natCast,UInt8.ofNat_toNat]
@[go_sem] def XpS(o:Oper)(a b:List Oper):Ud (List.append (o :: a) b) 0=some o :=nr rfl
@[go_sem] def XpT(o:Oper)(a b:List Oper)(n:Nat):Ud (List.append (o :: a) b) (n+1)=Ud (List.append a b) n :=nr rfl
@[go_sem] def XpU(b:List Oper)(n:Nat):Ud (List.append [] b) n=Ud b n :=nr rfl
@[go_sem] def XpV(o:Oper)(a b:List Oper):Q0 (List.append (o :: a) b) 0=o.dst :=nr rfl
@[go_sem] def XpW(o:Oper)(a b:List Oper)(n:Nat):Q0 (List.append (o :: a) b) (n+1)=Q0 (List.append a b) n :=nr rfl
@[go_sem] def XpX(b:List Oper)(n:Nat):Q0 (List.append [] b) n=Q0 b n :=nr rfl
@[go_sem] def Xof(cx:Cx)(ops:List Oper)(cs:List (Option (List Nat)))(st:St)(o:Oper)(a b:List Oper):XQ cx ops cs st (List.append (o :: a) b)=XQ cx ops cs st (o :: List.append a b) :=nr rfl
@[go_sem] def Xog(cx:Cx)(ops:List Oper)(cs:List (Option (List Nat)))(st:St)(b:List Oper):XQ cx ops cs st (List.append [] b)=XQ cx ops cs st b :=nr rfl
def Xlb{α:Type}(p:α->Prop)(xs:List α):Prop :=∀x∈xs,p x
@[go_sem] def XqH{α β γ:Type}(f:β->γ)(g:α->β)(xs:List α):List.take xs.length ((xs.map g).map f)=(xs.map g).map f :=List.take_of_length_le (by simp)
end Go.Vm
set_option autoImplicit false
namespace Go.Vm
open Go.ChangeShapes Go.WideShapes
inductive Sh
  | b | i (k:IntKind) | s | sl (r:List Sh)
def XpY(g:TypeId->Option (List Sh))(P:Program):List Field->Nat->Option (List Sh)
  | [],_ => some []
  | f :: r,off => match g f.type with
    | some q => if f.offset=off/\P.cellsOf f.type=q.length then(match XpY g P r (off+q.length) with
      | some l => some (q++l)
      | none => none) else none
    | none => none
def XnF(P:Program):Nat->TypeId->Option (List Sh)
  | 0,_ => none
  | n+1,t => match P.underlying t with
    | some .bool => some [.b]
    | some (.int k) => some [.i k]
    | some .string => some [.s]
    | some (.slice e) => match XnF P n e with
      | some (x :: r) => if P.cellsOf e=(x :: r).length then some [.sl (x :: r)] else none
      | _ => none
    | some (.struct fs) => match XpY (XnF P n) P fs.toList 0 with
      | some l => if P.cellsOf t=l.length then some l else none
      | none => none
    | _ => none
inductive XdQ:Sh->AV->Prop
  | b {x:Bool}:XdQ .b (.b x)
  | i {k:IntKind} {n:Int} (h:(Lit.int k n).wf=true):XdQ (.i k) (.i k n)
  | s {x:ByteArray} (h:x.size<=maxLen):XdQ .s (.s x)
  | sl {r:List Sh} {es:List (List AV)} (hl:es.length<=maxLen) (hz:∀row∈es,row.length=r.length) (h:∀row∈es,∀(j:Nat) (sh:Sh) (a:AV),r[j]?=some sh->row[j]?=some a->XdQ sh a):XdQ (.sl r) (.sl .ro r.length es)
def XdR(r:List Sh)(row:List AV):Prop :=row.length=r.length/\∀(j:Nat) (sh:Sh) (a:AV),r[j]?=some sh->row[j]?=some a->XdQ sh a
def Xlc(w:World):CS :=λg k => ∃v,Xw w g k=some v
def XnG{w:World}{g k:Nat}(h:Xlc w g k):g<w.heap.size :=by
  obtain⟨v,hv⟩ :=h
  exact World.block_lt_of_cell? w ⟨g,k,none⟩ hv
def XaH(w:World)(shs:List Sh)(cs:List Value)(as:List AV):Prop :=cs.length=shs.length/\XdR shs as/\∀(j:Nat) (v:Value) (a:AV),cs[j]?=some v->as[j]?=some a->Rep w (Xlc w) v a nos
def XaH.one{w:World}{sh:Sh}{v:Value}{a:AV}(h:XdQ sh a)(hr:Rep w (Xlc w) v a nos):XaH w [sh] [v] [a] :=by
  refine⟨rfl,⟨rfl,λj q b hs hb => ?_⟩,λj u b hu hb => ?_⟩
  · rcases j with _ | j
    · simp only[List.getElem?_cons_zero,Option.some.injEq] at hs hb; subst hs hb; exact h
    · simp at hs
  · rcases j with _ | j
    · simp only[List.getElem?_cons_zero,Option.some.injEq] at hu hb; subst hu hb; exact hr
    · simp at hu
def Xbh{α:Type}{l r:List α}{j:Nat}{x:α}(h:(l++r)[j]?=some x):l[j]?=some x\/(l.length<=j/\r[j-l.length]?=some x) :=by
  by_cases hj:j<l.length
  · rw[List.getElem?_append_left hj] at h; exact .inl h
  · rw[List.getElem?_append_right (by omega)] at h; exact .inr ⟨by omega,h⟩
def XaH.app{w:World}{s1 s2:List Sh}{c1 c2:List Value}{a1 a2:List AV}(h1:XaH w s1 c1 a1)(h2:XaH w s2 c2 a2):XaH w (s1++s2) (c1++c2) (a1++a2) :=by
  obtain⟨l1,⟨m1,p1⟩,q1⟩ :=h1
  obtain⟨l2,⟨m2,p2⟩,q2⟩ :=h2
  refine⟨by simp[l1,l2],⟨by simp[m1,m2],λj q a hs ha => ?_⟩,λj v a hv ha => ?_⟩
  · rcases Xbh hs with hs | ⟨h0,hs⟩
    · have hlt :=(List.getElem?_eq_some_iff.1 hs).1
      rw[List.getElem?_append_left (by omega)] at ha
      exact p1 j q a hs ha
    · rw[List.getElem?_append_right (by omega),m1] at ha
      exact p2 _ q a hs ha
  · rcases Xbh hv with hv | ⟨h0,hv⟩
    · have hlt :=(List.getElem?_eq_some_iff.1 hv).1
      rw[List.getElem?_append_left (by omega)] at ha
      exact q1 j v a hv ha
    · rw[List.getElem?_append_right (by omega),m1,<-l1] at ha
      exact q2 _ v a hv ha
def Xpr{a:Addr}(h:a.spot=none)(n:Nat):a.add n=⟨a.block,a.off+n,none⟩ :=by
  unfold Addr.add
  split
  · rename_i h0; subst h0; cases a; simp only at h; subst h; rfl
  · cases a; rfl
section
variable {H : Type} {enc : TypeId × Value -> H} {P : Program} {w : World}
def Xhq(n:Nat):∀{fuel:Nat} {t:TypeId} {cs:List Value} {x:DataW H×List MemPlace} {shs:List Sh},DataW.trod enc P w 0 (λ_ => true) true fuel t cs=some x->XnF P n t=some shs->∃as,XaH w shs cs as :=by
  induction n with
  | zero => intro fuel t cs x shs _ h; cases h
  | succ n ih =>
    intro fuel t cs x shs ht hs
    unfold XnF at hs
    split at hs
    · rename_i hu
      injection hs with hs; subst hs
      obtain⟨b,rfl,_⟩ :=DataW.trod_bool hu ht
      exact⟨_,XaH.one .b .b⟩
    · rename_i k hu
      injection hs with hs; subst hs
      obtain⟨m,rfl,_,hwf⟩ :=DataW.trod_int hu ht
      exact⟨_,XaH.one (.i hwf) .i⟩
    · rename_i hu
      injection hs with hs; subst hs
      obtain⟨s,rfl,_,hsz⟩ :=DataW.trod_string hu ht
      exact⟨_,XaH.one (.s hsz) .s⟩
    · rename_i e hu
      split at hs
      · rename_i x0 r hr
        split at hs
        · rename_i hce
          injection hs with hs; subst hs
          rcases Go.Deep.open_slice hu ht with⟨rfl,_⟩ | ⟨a,len,cap,m,n',D,Pl,rfl,_,hl,hm,hmm,_,hi⟩
          · refine⟨_,XaH.one (.sl (es :=[]) (Nat.zero_le _) (λ_ h => by cases h) (λ_ h => by cases h)) ?_⟩
            exact .sl 0 0 (λ_ _ => undef) (λ_ _ => nos) rfl (Nat.le_refl _) (by simp) (λh => absurd h (by omega)) (λi row hi => by simp at hi) (λi row j a hi => by simp at hi) (λi row j a hi => by simp at hi)
              ⟨(λe => by cases e),(λe => by cases e),(λe => absurd rfl e),λ_ k hk => absurd hk (by simp)⟩ (λ_ _ => Xv _) (λ_ _ _ _ _ => Xk _) (λe => by cases e) (λ_ _ _ => rfl)
          · simp only[if_true] at hmm
            subst hmm
            generalize hzz:(x0 :: r).length=z at hce
            have hz0:0<z :=by rw[<-hzz]; simp
            rw[hce] at hi
            have hsp:0<m->a.spot=none :=by
              intro h0
              obtain⟨cs',h1,_⟩ :=hi 0 h0
              obtain⟨_,h3,h4⟩ :=World.cells?_some h1
              have :=h4 0 hz0
              rw[List.getElem?_eq_getElem (by omega),Nat.zero_mul] at this
              unfold World.cell? at this
              simp only[Addr.add,if_true] at this
              split at this
              · cases hs:a.spot with
                | none => rfl
                | some q => rw[hs] at this; simp at this
              · cases this
            have hrow:∀i,i<len->∃p:List Value×List AV,(∀j,j<z->Xw w a.block (a.off+(i*z+j))=p.1[j]?)/\XaH w (x0 :: r) p.1 p.2 :=by
              intro i hil
              obtain⟨cs',h1,h2⟩ :=hi i (by omega)
              obtain⟨as,h3⟩ :=ih h2 hr
              obtain⟨_,_,h6⟩ :=World.cells?_some h1
              refine⟨(cs',as),λj hj => ?_,h3⟩
              have :=h6 j hj
              rw[Go.Deep.add_add,Xpr (hsp (by omega))] at this
              exact this
            obtain⟨f,hf⟩ :=Go.Deep.choose_lt hrow
            let es:List (List AV) :=(List.range len).map λi => (f i).2
            have hes:∀(i:Nat) (row:List AV),es[i]?=some row->i<len/\row=(f i).2 :=by
              intro i row h
              have hlt:i<len :=Decidable.byContradiction λhn => by
                rw[List.getElem?_eq_none (by simp only[es,List.length_map,List.length_range]; omega)] at h
                cases h
              simp only[es,List.getElem?_map,List.getElem?_range hlt,Option.map_some,Option.some.injEq] at h
              exact⟨hlt,h.symm⟩
            have hmem:∀row∈es,∃i,i<len/\row=(f i).2 :=by
              intro row h
              obtain⟨i,h⟩ :=List.getElem?_of_mem h
              exact⟨i,hes i row h⟩
            have hcell:∀i j,i<len->j<z->Xw w a.block (a.off+(i*z+j))=some ((f i).1.getD j undef) :=by
              intro i j h1 h2
              obtain⟨q1,q2,_⟩ :=hf i h1
              rw[q1 j h2,List.getD_eq_getElem?_getD,List.getElem?_eq_getElem (by rw[q2,hzz]; exact h2)]
              rfl
            refine⟨_,XaH.one (.sl (es :=es) (by simp only[es,List.length_map,List.length_range]; omega) (λrow h => ?_) (λrow h => ?_)) ?_⟩
            · obtain⟨i,h1,rfl⟩ :=hmem row h
              exact(hf i h1).2.2.1.1
            · obtain⟨i,h1,rfl⟩ :=hmem row h
              exact(hf i h1).2.2.1.2
            · rw[hzz]
              have hM:maxLen=9223372036854775807 :=rfl
              refine .sl a.block a.off (λi j => (f i).1.getD j undef) (λ_ _ => nos) (by simp[es]) hl (by omega) (λh0 => ?_) (λi row h => ?_) (λi row j b h hj => ?_) (λi row j b h hj => ?_)
                ⟨(λe => by cases e),(λe => by cases e),(λe => absurd rfl e),λ_ k hk => ?_⟩ (λ_ _ => Xv _) (λ_ _ _ _ _ => Xk _) (λe => by cases e) (λ_ _ _ => rfl)
              · have :=hsp h0
                cases a; simp only at this; subst this; rfl
              · obtain⟨h1,rfl⟩ :=hes i row h
                rw[<-hzz]; exact(hf i h1).2.2.1.1
              · obtain⟨h1,rfl⟩ :=hes i row h
                have hlt :=(List.getElem?_eq_some_iff.1 hj).1
                rw[(hf i h1).2.2.1.1,hzz] at hlt
                exact hcell i j h1 hlt
              · obtain⟨h1,rfl⟩ :=hes i row h
                have hlt :=(List.getElem?_eq_some_iff.1 hj).1
                obtain⟨_,q2,q3,q4⟩ :=hf i h1
                rw[q3.1] at hlt
                refine q4 j _ b ?_ hj
                rw[List.getD_eq_getElem?_getD,List.getElem?_eq_getElem (by rw[q2]; exact hlt)]
                rfl
              · have h1:k / z<len :=by rw[Nat.div_lt_iff_lt_mul hz0]; exact hk
                have h2:k%z<z :=Nat.mod_lt _ hz0
                have :=hcell (k / z) (k%z) h1 h2
                rw[Nat.mul_comm,Nat.div_add_mod] at this
                exact⟨_,this⟩
        · cases hs
      · cases hs
    · rename_i fs hu
      obtain⟨xs,n',rfl,_,hlen,hxl,hi⟩ :=DataW.trod_struct hu ht
      split at hs
      · rename_i l hl
        split at hs
        · rename_i hcl
          injection hs with hs; subst hs
          have key:∀(fl:List Field) (off:Nat) (l:List Sh),XpY (XnF P n) P fl off=some l->(∀f∈fl,∃y,DataW.trod enc P w 0 (λ_ => true) true n' f.type ((cs.drop f.offset).take (P.cellsOf f.type))=some y)->∃as,XaH w l ((cs.drop off).take l.length) as :=by
            intro fl
            induction fl with
            | nil =>
              intro off l h _
              injection h with h; subst h
              exact⟨[],by simp,⟨rfl,λj q a h => by simp at h⟩,λj v a h => by simp at h⟩
            | cons f fl ihf =>
              intro off l h hy
              unfold XpY at h
              split at h
              · rename_i s hfs
                split at h
                · rename_i hc
                  obtain⟨rfl,hc2⟩ :=hc
                  split at h
                  · rename_i l' hl'
                    injection h with h; subst h
                    obtain⟨y,hyy⟩ :=hy f (by simp)
                    obtain⟨a1,h1⟩ :=ih hyy hfs
                    obtain⟨a2,h2⟩ :=ihf _ _ hl' (λg hg => hy g (by simp[hg]))
                    refine⟨a1++a2,?_⟩
                    have e:(cs.drop f.offset).take (s++l').length=(cs.drop f.offset).take (P.cellsOf f.type)++(cs.drop (f.offset+s.length)).take l'.length :=by
                      rw[List.length_append,List.take_add,List.drop_drop,hc2]
                    rw[e]
                    exact h1.app h2
                  · cases h
                · cases h
              · cases h
          obtain⟨as,h⟩ :=key fs.toList 0 l hl (λf hf => by
            obtain⟨i,hi'⟩ :=List.getElem?_of_mem hf
            have hi2:fs[i]?=some f :=by simpa using hi'
            have :=hi i f hi2
            have hlt:i<fs.size :=(Array.getElem?_eq_some_iff.1 hi2).1
            rw[List.getElem?_eq_getElem (by omega)] at this
            exact⟨_,this⟩)
          rw[List.drop_zero,List.take_of_length_le (by omega)] at h
          exact⟨as,h⟩
        · cases hs
      · cases hs
    · cases hs
end
def XdR.cons{sh:Sh}{r:List Sh}{row:List AV}(h:XdR (sh :: r) row):∃a row',row=a :: row'/\XdQ sh a/\XdR r row' :=by
  obtain⟨h1,h2⟩ :=h
  cases row with
  | nil => simp at h1
  | cons a row => exact⟨a,row,rfl,h2 0 sh a rfl rfl,by simpa using h1,λj q b hs hb => h2 (j+1) q b (by simpa using hs) (by simpa using hb)⟩
def XdR.nil{row:List AV}(h:XdR [] row):row=[] :=List.length_eq_zero_iff.1 h.1
def XdQ.bool{a:AV}(h:XdQ .b a):∃x:Bool,a=.b x/\True :=by cases h; exact⟨_,rfl,trivial⟩
def XdQ.int{a:AV}(h:XdQ (.i .i64) a):∃x:Int,a=.i .i64 x/\(-9223372036854775808<=x/\x<=9223372036854775807) :=by
  cases h with
  | i h =>
    refine⟨_,rfl,?_⟩
    simp only[Lit.wf,Bool.and_eq_true,decide_eq_true_eq,IntKind.min,IntKind.max,IntKind.signed,IntKind.bits] at h
    simpa using h
def XdQ.byte{a:AV}(h:XdQ (.i .u8) a):∃x:UInt8,a=.i .u8 x.toNat/\True :=by
  cases h with
  | @i _ n h =>
    simp only[Lit.wf,Bool.and_eq_true,IntKind.min,IntKind.max,IntKind.signed,IntKind.bits] at h
    have h1:0<=n :=by simpa using h.1
    have h2:n<=255 :=by simpa using h.2
    refine⟨UInt8.ofNat n.toNat,?_,trivial⟩
    congr 1
    have:(UInt8.ofNat n.toNat).toNat=n.toNat%256 :=UInt8.toNat_ofNat'
    omega
def XdQ.str{a:AV}(h:XdQ .s a):∃x:ByteArray,a=.s x/\x.size<=9223372036854775807 :=by cases h with | s h => exact⟨_,rfl,h⟩
def XdQ.list{α:Type}{r:List Sh}{f:α->List AV}{ok:α->Prop}(hf:∀row,XdR r row->∃x,row=f x/\ok x){a:AV}(h:XdQ (.sl r) a):∃xs:List α,a=.sl .ro r.length (xs.map f)/\(xs.length<=9223372036854775807/\∀x∈xs,ok x) :=by
  cases h with
  | @sl _ es hl hz h =>
    have key:∀es:List (List AV),(∀row∈es,XdR r row)->∃xs:List α,es=xs.map f/\∀x∈xs,ok x :=by
      intro es
      induction es with
      | nil => intro _; exact⟨[],rfl,λ_ h => by cases h⟩
      | cons row es ih =>
        intro hr
        obtain⟨x,rfl,hx⟩ :=hf row (hr row (by simp))
        obtain⟨xs,rfl,hxs⟩ :=ih (λq hq => hr q (by simp[hq]))
        exact⟨x :: xs,rfl,λy hy => (List.mem_cons.1 hy).elim (λe => e▸hx) (hxs y)⟩
    obtain⟨xs,rfl,hxs⟩ :=key es (λrow hr => ⟨hz row hr,h row hr⟩)
    have hM:maxLen=9223372036854775807 :=rfl
    exact⟨xs,rfl,by simp only[List.length_map] at hl; omega,hxs⟩
def Xld(row:List AV)(h:XdR [.i .u8] row):∃x:UInt8,row=[.i .u8 x.toNat]/\True :=by
  obtain⟨a,_,rfl,h0,h⟩ :=h.cons; obtain rfl :=h.nil; obtain⟨x,rfl,_⟩ :=h0.byte; exact⟨x,rfl,trivial⟩
section
variable {H : Type} {enc : TypeId × Value -> H} {P : Program} {w : World}
def XnH{r:Reach}{base:Nat}{t:TypeId}{v:Value}{d:DataW H}{p:List MemPlace}(n:Nat){u:TypeDesc}(hu:P.underlying t=some u)(hn:∀fs,u≠.struct fs){sh:Sh}(hs:XnF P n t=some [sh])(hval:Value.okWide P w r base t v)(hd:DataW.Trod enc P w 0 (λ_ => true) true t v d p) :
    ∃a,XdQ sh a/\Cl w (Xlc w) v a nos :=by
  obtain⟨fuel,hf⟩ :=hd
  obtain⟨as,h1⟩ :=Xhq n hf hs
  have hc:v.cells.toList=[v] :=by
    cases n with
    | zero => cases hs
    | succ n =>
      unfold XnF at hs
      rw[hu] at hs
      cases u with
      | bool => obtain⟨b,rfl⟩ :=okWide_bool hu hval; rfl
      | int k => obtain⟨b,rfl⟩ :=okWide_int hu hval; rfl
      | string => obtain⟨b,rfl⟩ :=okWide_string hu hval; rfl
      | slice e => obtain⟨a,b,c,rfl⟩ :=okWide_slice hu hval; rfl
      | struct fs => exact absurd rfl (hn fs)
      | _ => cases hs
  rw[hc] at h1
  obtain⟨_,⟨h2,h3⟩,h4⟩ :=h1
  match as,h2 with
  | [a],_ => exact⟨a,h3 0 sh a rfl rfl,.leaf (.rep (h4 0 v a rfl rfl))⟩
end
def Xle{w w':World}(h:Vm.Frame w w' nos):Go.RowKit.Below w.heap.size w w' :=by
  refine⟨h.os,h.tape,h.output,h.size,λk hk => ?_⟩
  rcases h.block k hk with h1 | ⟨c,c',e,fr,h1,h2,h3,h4⟩
  · exact h1
  · rw[h1,h2]
    congr 2
    apply Array.ext_getElem?
    intro i
    exact h4 i (λh => h)
def Xlf{P:Program}[HasTb P]{g:FuncId}{f:Func}{c:Code}{md:List Md}{F:List AV->Option (AV×List AV)}{wk:Bool}{W:World}{vs:List Value}{xs os:List AV}(hsp:Qi P g ⟨md,F,wk⟩)(hro:md.all Zv=true)(hF:F xs=some (.b true,os))(hl1:vs.length=md.length)(hl2:xs.length=md.length)
    (hargs : ∀ (j : Nat) (v : Value) (a : AV), vs[j]? = some v -> xs[j]? = some a -> Cl W (Xlc W) v a nos) (hf : P.funcs[g]? = some f) (hname : ¬ f.name = "runtime.NumGoroutine") (hb : f.body = some c) (hT : Tb P (Xlc W) W) :
    Calls P g vs.toArray W λe w' => e=.returned (.bool true)/\Go.RowKit.Below W.heap.size W w' :=by
  have h :=hsp W (Xlc W) vs xs (λ_ => nos) (.b true) os hF hl1 hl2 (λj m v a hm hv ha => by
    have :=List.all_eq_true.1 hro m (List.mem_of_getElem? hm)
    cases m with
    | ro n => exact hargs j v a hv ha
    | _ => cases this) (λ_ _ _ => Xk _) (λ_ => Xk _) (λ_ _ _ h => h.elim) (λ_ _ h => XnG h) hT
  rcases h with⟨v,w',h1,_⟩ | ⟨_,h2⟩
  · exfalso
    have:(callFunc g vs.toArray).run P W=.ok (.enter g vs.toArray) W :=by simp[callFunc,hf,hname,hb]
    rw[this] at h1
    cases h1
  · intro cs
    obtain⟨e,w',fr,k1,k2⟩ :=h2 cs
    refine⟨e,w',fr,?_,k2⟩
    cases e with
    | returned v =>
      obtain⟨Im',S,Of,b,_⟩ :=k1
      have hv:v=.bool true :=by
        have :=b.res
        cases this with
        | leaf h => cases h with
          | rep h => cases h; rfl
      exact⟨by rw[hv],Xle (b.frame.mono (λg k ⟨j,hb⟩ => hb))⟩
    | panicked => exact k1.elim
    | outgrown => exact k1.elim
def Xps{P:Program}[HasTb P]{s:SP P}{f:Func}{c:Code}{W:World}{vs:List Value}{xs os:List AV}(hF:s.F xs=some (.b true,os))(hro:s.fs.md.all Zv=true)(hl1:vs.length=s.fs.md.length)(hl2:xs.length=s.fs.md.length)
    (hargs : ∀ (j : Nat) (v : Value) (a : AV), vs[j]? = some v -> xs[j]? = some a -> Cl W (Xlc W) v a nos) (hf : P.funcs[s.g]? = some f) (hname : ¬ f.name = "runtime.NumGoroutine") (hb : f.body = some c) (hT : Tb P (Xlc W) W) :
    Calls P s.g vs.toArray W λe w' => e=.returned (.bool true)/\Go.RowKit.Below W.heap.size W w' :=Xlf (md :=s.fs.md) (F :=s.fs.F) (wk :=s.fs.wk) s.ok hro hF hl1 hl2 hargs hf hname hb hT
end Go.Vm
set_option autoImplicit false
namespace Go.Vm
@[go_sem] def XpZ{α:Type}(l:List α)(i:Nat)(y z:α):(l.set i y).set i z=l.set i z :=by simp
@[go_sem] def Xp0{α:Type}(l:List α)(i:Nat)(y:α):(l.set i y).length=l.length :=by simp
end Go.Vm
set_option autoImplicit false
namespace Go.Vm
def Xlg{P:Program}[HasTb P]{g:FuncId}{md:List Md}{F:List AV->Option (AV×List AV)}{wk:Bool}(hro:md.all Zv=true)
    (h:∀(w:World) (Im:CS) (vs:List Value) (as:List AV) (r:AV) (os:List AV),F as=some (r,os)->vs.length=md.length->as.length=md.length ->
      (∀(j:Nat) (v:Value) (a:AV),vs[j]?=some v->as[j]?=some a->Cl w Im v a nos)->Tb P Im w ->
      XpG r=true/\(wk=false->XF r=false/\∀o∈os,XF o=false)/\Ans P g vs.toArray w λv w' => Frame w w' nos/\Cl w' Im v r nos):Qi P g ⟨md,F,wk⟩ :=by
  intro w Im vs as Sf r os hF hv ha harg hd hdI hin hI hT
  have hmd:∀(j:Nat) (m:Md),md[j]?=some m->Zv m=true :=λj m hm => List.all_eq_true.1 hro m (List.mem_of_getElem? hm)
  obtain⟨h1,h2,h3⟩ :=h w Im vs as r os hF hv ha (λj v a hj hj' => by
    have hlt:j<md.length :=by rw[<-hv]; exact(List.getElem?_eq_some_iff.1 hj).1
    have hm :=List.getElem?_eq_getElem hlt
    have :=harg j _ v a hm hj hj'
    have h0 :=hmd j _ hm
    generalize md[j]=m at this h0
    cases m with
    | ro n => exact this
    | _ => cases h0) hT
  refine h3.mono λv w' ⟨hfr,hc⟩ => ?_
  refine⟨Im,nos,λ_ => nos,⟨hfr.mono (Xv _),Sub.rfl' _,λg k hx => .inl hx,λg k hx => Nat.lt_of_lt_of_le (hI g k hx) hfr.size,?_,λj m u o hm _ _ => ?_,λ_ _ _ => Xk _,λ_ => Xk _,Xk _,λ_ => Xk _,λ_ _ hx => hx.elim,λ_ _ _ hx => hx.elim,λ_ _ hx => hx.elim,λ_ _ _ hx => hx.elim⟩,h2⟩
  · unfold XdH; rw[(XlA h1).1,(XlA h1).2]; exact hc
  · have h0 :=hmd j m hm
    cases m with
    | ro n => trivial
    | _ => cases h0
def XdS{P:Program}[HasTb P]{g:FuncId}{md:List Md}{F:List AV->Option (AV×List AV)}{wk:Bool}(hro:md.all Zv=true)
    (h:∀(w:World) (Im:CS) (vs:List Value) (as:List AV) (r:AV) (os:List AV),F as=some (r,os)->vs.length=md.length->as.length=md.length ->
      (∀(j:Nat) (v:Value) (a:AV),vs[j]?=some v->as[j]?=some a->Cl w Im v a nos) ->
      XpG r=true/\(wk=false->XF r=false/\∀o∈os,XF o=false)/\Ans P g vs.toArray w λv w' => Frame w w' nos/\Cl w' Im v r nos):Qi P g ⟨md,F,wk⟩ :=
  Xlg hro λw Im vs as r os hF hv ha harg _ => h w Im vs as r os hF hv ha harg
def Cl.str{w:World}{Im:CS}{v:Value}{x:ByteArray}{S:CS}(h:Cl w Im v (.s x) S):v=.string x :=by
  cases h with
  | leaf h => cases h with
    | rep h => cases h; rfl
def Cl.int{w:World}{Im:CS}{v:Value}{k:IntKind}{n:Int}{S:CS}(h:Cl w Im v (.i k n) S):v=.int k n :=by
  cases h with
  | leaf h => cases h with
    | rep h => cases h; rfl
def Xp1:List AV->Option (AV×List AV)
  | [.s s,.i .u8 c] => some (.i .i64 (Lib.indexByte s.data.toList c.toNat.toUInt8),[.u,.u])
  | _ => none
def Xpt {P : Program} [HasTb P] {g : FuncId} {fn : Func} (hf : P.funcs[g]? = some fn) (hname : (fn.name == "runtime.NumGoroutine") = false) (hb : fn.body.isNone = true) (hn : Extern.findNext fn = none) (he : Extern.find fn = some Extern.BytealgIndexByte.indexByte) : Qi P g ⟨[.ro 1, .ro 1], Xp1, false⟩ := by
  refine XdS rfl λw Im vs as r os hF hv ha harg => ?_
  match as,ha,hF with
  | [.s s,.i .u8 c],_,hF =>
    match vs,hv with
    | [v0,v1],_ =>
      injection hF with hF
      injection hF with h1 h2
      subst h1 h2
      refine⟨rfl,λ_ => ⟨rfl,λo ho => by rcases List.mem_cons.1 ho with rfl | ho; rfl; rcases List.mem_cons.1 ho with rfl | ho; rfl; cases ho⟩,?_⟩
      obtain rfl :=(harg 0 v0 _ rfl rfl).str
      obtain rfl :=(harg 1 v1 _ rfl rfl).int
      refine .inl ⟨.int .i64 (Lib.indexByte s.data.toList c.toNat.toUInt8),w,?_,Frame.refl _ _,.leaf (.rep .i)⟩
      rw[run_callFunc_extern hf hname hb hn he]
      rw[Lib.run_indexByteString]
      rfl
@[go_sem] def XnI(s:ByteArray)(c:Int):Xp1 [.s s,.i .u8 c]=some (.i .i64 (Lib.indexByte s.data.toList c.toNat.toUInt8),[.u,.u]) :=nr rfl
def QR {P : Program} {g : FuncId} {fn : Func} {c : Code} (hf : P.funcs[g]? = some fn) (hname : (fn.name == "runtime.NumGoroutine") = false) (hb : fn.body = some c) {args : Array Value} (w : World) : (callFunc g args).run P w = .ok (.enter g args) w := by
  have h1 : fn.name ≠ "runtime.NumGoroutine" := by simpa using hname
  simp[callFunc,hf,h1,hb,Sem.run]
@[go_sem] def Xrx:((2:Nat):Int)=2 :=nr rfl
@[go_sem] def Xry:((3:Nat):Int)=3 :=nr rfl
@[go_sem] def Xrz:((4:Nat):Int)=4 :=nr rfl
@[go_sem] def XrA:((5:Nat):Int)=5 :=nr rfl
@[go_sem] def XrB:((6:Nat):Int)=6 :=nr rfl
@[go_sem] def XrC:((7:Nat):Int)=7 :=nr rfl
@[go_sem] def XrD:((8:Nat):Int)=8 :=nr rfl
@[go_sem] def XqI:Zg 1 0=some 0 :=nr rfl
@[go_sem] def XqJ:Zg 2 0=some 0 :=nr rfl
@[go_sem] def XqK:Zg 2 1=some 1 :=nr rfl
@[go_sem] def XqL:Zg 3 0=some 0 :=nr rfl
@[go_sem] def XqM:Zg 3 1=some 1 :=nr rfl
@[go_sem] def XqN:Zg 3 2=some 2 :=nr rfl
@[go_sem] def XqO:Zg 4 0=some 0 :=nr rfl
@[go_sem] def XqP:Zg 4 1=some 1 :=nr rfl
@[go_sem] def XqQ:Zg 4 2=some 2 :=nr rfl
@[go_sem] def XqR:Zg 4 3=some 3 :=nr rfl
@[go_sem] def XqS:Zg 5 0=some 0 :=nr rfl
@[go_sem] def XqT:Zg 5 1=some 1 :=nr rfl
@[go_sem] def XqU:Zg 5 2=some 2 :=nr rfl
@[go_sem] def XqV:Zg 5 3=some 3 :=nr rfl
@[go_sem] def XqW:Zg 5 4=some 4 :=nr rfl
@[go_sem] def XqX:Zg 6 0=some 0 :=nr rfl
@[go_sem] def XqY:Zg 6 1=some 1 :=nr rfl
@[go_sem] def XqZ:Zg 6 2=some 2 :=nr rfl
@[go_sem] def Xq0:Zg 6 3=some 3 :=nr rfl
@[go_sem] def Xq1:Zg 6 4=some 4 :=nr rfl
@[go_sem] def Xq2:Zg 6 5=some 5 :=nr rfl
@[go_sem] def Xq3:Zg 7 0=some 0 :=nr rfl
@[go_sem] def Xq4:Zg 7 1=some 1 :=nr rfl
@[go_sem] def Xq5:Zg 7 2=some 2 :=nr rfl
@[go_sem] def Xq6:Zg 7 3=some 3 :=nr rfl
@[go_sem] def Xq7:Zg 7 4=some 4 :=nr rfl
@[go_sem] def Xq8:Zg 7 5=some 5 :=nr rfl
@[go_sem] def Xq9:Zg 7 6=some 6 :=nr rfl
@[go_sem] def Xra:Zg 8 0=some 0 :=nr rfl
@[go_sem] def Xrb:Zg 8 1=some 1 :=nr rfl
@[go_sem] def Xrc:Zg 8 2=some 2 :=nr rfl
@[go_sem] def Xrd:Zg 8 3=some 3 :=nr rfl
@[go_sem] def Xre:Zg 8 4=some 4 :=nr rfl
@[go_sem] def Xrf:Zg 8 5=some 5 :=nr rfl
@[go_sem] def Xrg:Zg 8 6=some 6 :=nr rfl
@[go_sem] def Xrh:Zg 8 7=some 7 :=nr rfl
def Xce:List Int->Int
  | [] => 0
  | v :: r => if(v !=0)=true then v else Xce r
def Ur(v:Int)(r:List Int):Xce (v :: r)=if(v !=0)=true then v else Xce r :=rfl
def Xri:List AV->Option (AV×List AV)
  | [.nil,.i .i64 0] => some (.nil,[.u,.u])
  | _ => none
@[go_sem] def Xp2:Xri [.nil,.i .i64 0]=some (.nil,[.u,.u]) :=nr rfl
def Xcf{w w':World}(h:Go.RowKit.Below w.heap.size w w'):Frame w w' nos :=let ⟨a,b,c,d,e⟩ :=h; ⟨a,b,c,d,λg hg => .inl (e g hg)⟩
def Xlh:List AV->Option (AV×List AV)
  | [.s x,.s c] => if c.data.toList=[32,9]/\x.size<=9223372036854775807 then some (.s ⟨(Lib.trimS x.data.toList [32,9]).toArray⟩,[.u,.u]) else none
  | _ => none
def XnJ {P : Program} [HasTb P] {g : FuncId} {fn : Func} {c : Code} (hf : P.funcs[g]? = some fn) (hname : (fn.name == "runtime.NumGoroutine") = false) (hb : fn.body = some c)
    (h:∀(s:ByteArray) (w:World),s.size<=9223372036854775807->Calls P g #[.string s,.string ⟨#[32,9]⟩] w λe w' => e=.returned (.string ⟨(Lib.trimS s.data.toList [32,9]).toArray⟩)/\Go.RowKit.Below w.heap.size w w'):Qi P g ⟨[.ro 1,.ro 1],Xlh,false⟩ :=by
  refine XdS rfl λw Im vs as r os hF hv ha harg => ?_
  match as,ha,hF with
  | [.s x,.s c],_,hF =>
    match vs,hv with
    | [v0,v1],_ =>
      simp only[Xlh] at hF
      split at hF
      · rename_i hc
        injection hF with hF
        injection hF with h1 h2
        subst h1 h2
        refine⟨rfl,λ_ => ⟨rfl,λo ho => by rcases List.mem_cons.1 ho with rfl | ho; rfl; rcases List.mem_cons.1 ho with rfl | ho; rfl; cases ho⟩,?_⟩
        obtain rfl :=(harg 0 v0 _ rfl rfl).str
        obtain rfl :=(harg 1 v1 _ rfl rfl).str
        have hcs:c=⟨#[32,9]⟩ :=by
          cases c
          have :=hc.1
          congr 1
          exact Array.ext' this
        subst hcs
        refine .inr ⟨QR hf hname hb w,λcs => ?_⟩
        obtain⟨e,w',fr,⟨k1,k2⟩,k3⟩ :=h x w hc.2 cs
        subst k1
        exact⟨.returned _,w',fr,(⟨Xcf k2,.leaf (.rep .s)⟩:Frame w w' nos/\Cl w' Im (.string ⟨(Lib.trimS x.data.toList [32,9]).toArray⟩) (.s ⟨(Lib.trimS x.data.toList [32,9]).toArray⟩) nos),k3⟩
      · cases hF
end Go.Vm
set_option autoImplicit false
namespace Go.Vm
@[go_sem] def XnK(z:Nat)(es:List (List AV)):plain (.sl .mut z es)=false :=nr rfl
@[go_sem] def XnL(z:Nat)(es:List (List AV)):plain (.sl .app z es)=false :=nr rfl
def Xpu(z bytes:Nat):List AV->Option (AV×List AV)
  | [.nil,.i .i64 n] => if 0<=n/\n*bytes<=140737488355328/\n<=4611686018427387904 then some (.sl .mut z [],[.u,.u]) else none
  | _ => none
@[go_sem] def Xpv(z bytes:Nat)(n:Int):Xpu z bytes [.nil,.i .i64 n]=if 0<=n/\n*bytes<=140737488355328/\n<=4611686018427387904 then some (.sl .mut z [],[.u,.u]) else none :=nr rfl
def XrE(n:Int):ByteArray :=⟨(Lib.itoa n).toArray⟩
def XEq:List AV->Option (AV×List AV)
  | [.i .i64 n,.i .i64 10] => if -9223372036854775808<=n/\n<=9223372036854775807 then some (.s (XrE n),[.u,.u]) else none
  | _ => none
@[go_sem] def Xrj(n:Int):XEq [.i .i64 n,.i .i64 10]=if -9223372036854775808<=n/\n<=9223372036854775807 then some (.s (XrE n),[.u,.u]) else none :=nr rfl
end Go.Vm
set_option autoImplicit false
namespace Go.Vm
def Xp3:AV->Option ByteArray
  | .s x => some x
  | _ => none
def XlO{a:AV}{x:ByteArray}(h:Xp3 a=some x):a=.s x :=by
  unfold Xp3 at h
  split at h
  · injection h with h; subst h; rfl
  · cases h
def Xgw:List AV->Option (ByteArray×ByteArray)
  | [a,b] => (Xp3 a).bind λx => (Xp3 b).bind λy => some (x,y)
  | _ => none
def Xhr{e:List AV}{p:ByteArray×ByteArray}(h:Xgw e=some p):e=[.s p.1,.s p.2] :=by
  match e,h with
  | [a,b],h =>
    simp only[Xgw,Option.bind_eq_some_iff] at h
    obtain⟨x,hx,y,hy,he⟩ :=h
    injection he with he
    subst he
    rw[XlO hx,XlO hy]
def UP:List (List AV)->Option (List (ByteArray×ByteArray))
  | [] => some []
  | e :: r => (Xgw e).bind λp => (UP r).bind λl => some (p :: l)
def Xag:∀{es:List (List AV)} {hs:List (ByteArray×ByteArray)},UP es=some hs->es=hs.map λp => [.s p.1,.s p.2]
  | [],hs,h => by injection h with h; subst h; rfl
  | e :: r,hs,h => by
    simp only[UP,Option.bind_eq_some_iff] at h
    obtain⟨p,hp,l,hl,he⟩ :=h
    injection he with he
    subst he
    rw[Xhr hp,Xag hl]; rfl
def XnM{w:World}{g k:Nat}{v:Value}(h:Xw w g k=some v):g<w.heap.size :=by
  unfold Xw World.cell? at h
  split at h
  · rename_i hc; exact(Array.getElem?_eq_some_iff.1 hc).1
  · cases h
end Go.Vm
set_option autoImplicit false
namespace Go.Vm
def run_copy_rows{P:Program}(w:World)(dT sT ty elem:TypeId)(z k:Nat)(b o dLen dCap:Nat)(a:Addr)(sLen sCap:Nat)(cs:List Value)
    (hu:P.underlying dT=some (.slice elem)) (hs:(P.info? elem).map (·.size)=some z) (hk:k=Nat.min sLen dLen) (hn:cs.length=k*z)
    (hsrc:∀j v,cs[j]?=some v->w.cell? (a.add j)=some v) (hc:∀j,j<cs.length->(w.cell? ⟨b,o+j,none⟩).isSome=true) (hf:∀j,j<cs.length->w.frozen? ⟨b,o+j,none⟩=false) (h1:∀v∈cs,v.oneCell'=true) :
    (Builtin.copy_ #[dT,sT] ty #[.slice (some ⟨b,o,none⟩) dLen dCap,.slice (some a) sLen sCap]).run P w=.ok (goInt k) (w.setCells b o cs) :=by
  have hl :=run_loadCells_list (P :=P) w a cs hsrc
  have hst :=run_storeCells_cells (P :=P) b o cs 0 w (by simpa using hc) (by simpa using hf) h1
  rw[hn] at hl
  cases hq:P.info? elem with
  | none => simp[hq] at hs
  | some i =>
    have hi:i.size=z :=by simpa[hq] using hs
    simp[Builtin.copy_,run_underlying hu,Builtin.lenOf,Builtin.firstCells,sizeOf,typeInfo,hq,hi,<-hk,hl,hst]
def run_overlaps_own{P:Program}(w:World)(tS tR e:TypeId)(ht:P.underlying tS=some (.slice e))(size:Nat)(hz:∀w,(Go.sizeOf e).run P w=.ok size w)
    (a b:Addr) (la ca lb cb:Nat) (tA tB:TypeId) (kA kB:Nat) (hsa:w.shape? a.block=some (tA,kA)) (hsb:w.shape? b.block=some (tB,kB)) (hkB:kB≠0)
    (hfa:a.block≠b.block->∀j,w.frozen? ⟨a.block,j,none⟩=false) (hsp:a.spot=none)
    (hap:a.block=b.block->¬(a.off<b.off+lb*size/\b.off<a.off+la*size)) :
    (Extern.SlicesOverlaps.overlaps #[tS,tS] #[tR] #[.slice (some a) la ca,.slice (some b) lb cb]).run P w=.ok (.bool false) w :=by
  by_cases hne:a.block=b.block
  · have hnb:(a.block !=b.block)=false :=by simpa using hne
    have hnb':(a.block==b.block)=true :=by simpa using hne
    have hap' :=hap hne
    change Sem.run P (α :=Value) (do
      let some t := (#[tS, tS] : Array TypeId)[0]? | stuck "slices.overlaps: no parameter types"
      let .slice elem <- underlying t | stuck "slices.overlaps: slice type expected"
      let size <-sizeOf elem
      match (some a:Option Addr),(some b:Option Addr) with
      | some a,some b =>
        if la=0\/lb=0\/size=0 then pure (Value.bool false)
        else if a.block !=b.block&&(<-frozen a)&&(<-frozen b) then unsupported .addressObserved
        else do
          if a.block !=b.block then do
            noView a; noView b
            if <- mayBeOne a b then return Value.bool ((<- choose (.extern "sameAddr.stringBytes" 2)) == 1)
          pure (Value.bool (a.block==b.block&&a.off<b.off+lb*size&&b.off<a.off+la*size))
      | _,_ => pure (Value.bool false)) w=_
    by_cases h0:la=0\/lb=0\/size=0
    · simp[run_underlying ht,hz,h0]
    · have hd:(decide (a.off<b.off+lb*size)&&decide (b.off<a.off+la*size))=false :=by
        rw[Bool.and_eq_false_iff,decide_eq_false_iff_not,decide_eq_false_iff_not]
        exact Decidable.not_and_iff_not_or_not.1 hap'
      simp[run_underlying ht,hz,h0,hnb,hnb',Sem.run,frozen]
      simpa using hd
  · have h :=hfa hne
    have e:a=⟨a.block,a.off,none⟩ :=by cases a; simp only at hsp; subst hsp; rfl
    exact Lib.run_overlaps_apart w tS tR _ ht size hz a b la ca lb cb hne tA tB kA kB hsa hsb hkB (by rw[e]; exact h _) (h _)
def QD(b:Nat)(vs:List Value)(o:Nat)(w:World)(h:∀j,j<vs.length->(w.cell? ⟨b,o+j,none⟩).isSome=true)(k:Nat)(hk:(w.cell? ⟨b,k,none⟩).isSome=true):((w.setCells b o vs).cell? ⟨b,k,none⟩).isSome=true :=by
  by_cases hin:o<=k/\k<o+vs.length
  · have :=World.cell?_setCells_in b vs o w h (k-o) (by omega)
    rw[show o+(k-o)=k by omega] at this
    rw[this]; rfl
  · rw[World.cell?_setCells_out b vs o w ⟨b,k,none⟩ (λ_ _ => by show k<o\/o+vs.length<=k; omega)]
    exact hk
def XE(hs:List (ByteArray×ByteArray)):List Value :=hs.flatMap λp => [.string p.1,.string p.2]
def XfZ(p:ByteArray×ByteArray):List AV :=[.s p.1,.s p.2]
def Zb(p:ByteArray×ByteArray)(hs:List (ByteArray×ByteArray)):XE (p :: hs)=.string p.1 :: .string p.2 :: XE hs :=rfl
def Xa1:∀hs:List (ByteArray×ByteArray),(XE hs).length=hs.length*2
  | [] => rfl
  | p :: hs => by rw[Zb,List.length_cons,List.length_cons,Xa1 hs,List.length_cons]; omega
def Xda(a b:List (ByteArray×ByteArray)):XE (a++b)=XE a++XE b :=by unfold XE; rw[List.flatMap_append]
def Xcg:∀(i:Nat) (hs:List (ByteArray×ByteArray)),(XE hs).take (i*2)=XE (hs.take i)
  | 0,hs => by simp[XE]
  | i+1,[] => by simp[XE]
  | i+1,p :: hs => by rw[List.take_succ_cons,Zb,Zb,show(i+1)*2=i*2+1+1 by omega,List.take_succ_cons,List.take_succ_cons,Xcg i hs]
def Xah:∀(i:Nat) (hs:List (ByteArray×ByteArray)),(XE hs).drop (i*2)=XE (hs.drop i)
  | 0,hs => by simp
  | i+1,[] => by simp[XE]
  | i+1,p :: hs => by rw[List.drop_succ_cons,Zb,show(i+1)*2=i*2+1+1 by omega,List.drop_succ_cons,List.drop_succ_cons,Xah i hs]
def Q5{hs:List (ByteArray×ByteArray)}:∀v∈XE hs,v.oneCell'=true :=by
  intro v hv
  unfold XE at hv
  obtain⟨p,_,hp⟩ :=List.mem_flatMap.1 hv
  simp only[List.mem_cons,List.not_mem_nil,or_false] at hp
  rcases hp with rfl | rfl<;>rfl
def Xdb:∀{hs:List (ByteArray×ByteArray)} {j:Nat} {v:Value},(XE hs)[j]?=some v->∃(i:Nat) (p:ByteArray×ByteArray),hs[i]?=some p/\((j=i*2/\v=.string p.1)\/(j=i*2+1/\v=.string p.2))
  | [],j,v,h => by simp[XE] at h
  | p :: hs,0,v,h => by rw[Zb] at h; simp at h; exact⟨0,p,rfl,.inl ⟨rfl,h.symm⟩⟩
  | p :: hs,1,v,h => by rw[Zb] at h; simp at h; exact⟨0,p,rfl,.inr ⟨rfl,h.symm⟩⟩
  | p :: hs,j+2,v,h => by
    rw[Zb] at h
    simp only[List.getElem?_cons_succ] at h
    obtain⟨i,q,h1,h2⟩ :=Xdb h
    refine⟨i+1,q,by simpa using h1,?_⟩
    rcases h2 with⟨e,h2⟩ | ⟨e,h2⟩
    · exact .inl ⟨by omega,h2⟩
    · exact .inr ⟨by omega,h2⟩
def Xi9{hs:List (ByteArray×ByteArray)}{i:Nat}{p:ByteArray×ByteArray}(h:hs[i]?=some p):(XE hs)[i*2]?=some (.string p.1)/\(XE hs)[i*2+1]?=some (.string p.2) :=by
  have h1 :=Xah i hs
  obtain⟨hi,hp⟩ :=List.getElem?_eq_some_iff.1 h
  rw[List.drop_eq_getElem_cons hi,hp,Zb] at h1
  constructor
  · have :=congrArg (λl => l[0]?) h1
    simpa[List.getElem?_drop] using this
  · have :=congrArg (λl => l[1]?) h1
    simpa[List.getElem?_drop] using this
def Xja{w:World}{Im S:CS}{v:Value}{x:ByteArray}(h:Rep w Im v (.s x) S):v=.string x :=by cases h; rfl
def XeQ{w:World}{Im:CS}{A:Option Addr}{n cap:Nat}{S:CS}{hs:List (ByteArray×ByteArray)}(h:Rep w Im (.slice A n cap) (.sl .mut 2 (hs.map XfZ)) S) :
    ∃g off,hs.length=n/\n<=cap/\(0<cap->A=some ⟨g,off,none⟩)/\SlF w Im .mut g off 2 n cap S/\∀j v,(XE hs)[j]?=some v->Xw w g (off+j)=some v :=by
  cases h with
  | sl g off vs Sf hn hc hL hA hz hrow hin hf hsub hd hself hnone =>
    refine⟨g,off,by simpa using hn,hc,hA,hf,λj v hj => ?_⟩
    obtain⟨i,p,h1,h2⟩ :=Xdb hj
    have hi:(hs.map XfZ)[i]?=some (XfZ p) :=by rw[List.getElem?_map,h1]; rfl
    rcases h2 with⟨rfl,rfl⟩ | ⟨rfl,rfl⟩
    · have e1 :=hrow i _ 0 (.s p.1) hi rfl
      have e2 :=hin i _ 0 (.s p.1) hi rfl
      have e3:vs i 0=.string p.1 :=Xja e2
      rw[e3] at e1; exact e1
    · have e1 :=hrow i _ 1 (.s p.2) hi rfl
      have e2 :=hin i _ 1 (.s p.2) hi rfl
      have e3:vs i 1=.string p.2 :=Xja e2
      rw[e3] at e1; exact e1
def QL{w:World}{Im:CS}{A:Option Addr}{n cap g off:Nat}{S:CS}{hs:List (ByteArray×ByteArray)}(hn:hs.length=n)(hc:n<=cap)(hL:n<=9223372036854775807)(hA:0<cap->A=some ⟨g,off,none⟩)(hf:SlF w Im .mut g off 2 n cap S)
    (hcell:∀j v,(XE hs)[j]?=some v->Xw w g (off+j)=some v):Rep w Im (.slice A n cap) (.sl .mut 2 (hs.map XfZ)) S :=by
  refine .sl g off (λi j => ((XE hs)[i*2+j]?).getD undef) (λ_ _ => nos) (by simpa using hn) hc hL hA (λi row hi => ?_) (λi row j a hi hj => ?_) (λi row j a hi hj => ?_) hf (λ_ _ => Xv _) (λ_ _ _ _ _ => Xk _) (λ_ _ _ _ _ h => h) (λe => absurd rfl e)
  · rw[List.getElem?_map] at hi
    obtain⟨p,_,rfl⟩ :=Option.map_eq_some_iff.1 hi
    rfl
  all_goals
    rw[List.getElem?_map] at hi
    obtain⟨p,hp,rfl⟩ :=Option.map_eq_some_iff.1 hi
    obtain⟨h1,h2⟩ :=Xi9 hp
    match j,hj with
    | 0,hj =>
      have ha:a=.s p.1 :=by simpa[XfZ] using hj.symm
      subst ha
      simp only[Nat.add_zero,h1,Option.getD_some]
      first | exact hcell _ _ h1 | exact .s
    | 1,hj =>
      have ha:a=.s p.2 :=by simpa[XfZ] using hj.symm
      subst ha
      simp only[h2,Option.getD_some]
      first | exact hcell _ _ h2 | exact .s
    | j+2,hj => simp[XfZ] at hj
def XeR:∀hs:List (ByteArray×ByteArray),XO (hs.map XfZ)=false
  | [] => rfl
  | p :: hs => by rw[List.map_cons]; simp[XO,XfZ,XU,XF,XeR hs]
def Xdc{w:World}{g k:Nat}{v:Value}(h:Xw w g k=some v):∃t q,w.shape? g=some (t,q)/\q≠0 :=by
  unfold Xw World.cell? at h
  simp only at h
  split at h
  · rename_i c e fr hc
    simp only[Option.isSome_none,Bool.false_eq_true,if_false] at h
    refine⟨e,c.size,by simp[World.shape?,hc],λe0 => ?_⟩
    have :=(Array.getElem?_eq_some_iff.1 h).1
    omega
  · cases h
def Xp4(hs:Option (List (ByteArray×ByteArray)))(k:Int)(ps:Option (List (ByteArray×ByteArray))):Option (AV×List AV) :=match hs,ps with
  | some hs,some [p] => if 0<=k/\k<=hs.length/\hs.length+1<=4398046511104 then some (.sl .mut 2 ((hs.take k.toNat++[p]++hs.drop k.toNat).map XfZ),[.u,.u,.u]) else none
  | _,_ => none
def Xpw:List AV->Option (AV×List AV)
  | [.sl .mut 2 es,.i .i64 k,.sl .mut 2 rs] => Xp4 (UP es) k (UP rs)
  | _ => none
def Xbx{w w':World}{Im S:CS}{Sf:Nat->CS}{v0 v1 v2 v:Value}{hs:List (ByteArray×ByteArray)}(h0:v0.oneCell'=true)(h2:v2.oneCell'=true)(fr:Frame w w' (Y6 Sf))(hS:∀g k,S g k->Y6 Sf g k\/w.heap.size<=g)(hSI:Yg S Im)
    (hSlt:∀g k,S g k->g<w'.heap.size) (hI:∀g k,Im g k->g<w.heap.size) (hrep:Rep w' Im v (.sl .mut 2 (hs.map XfZ)) S) :
    ∃(Im' S:CS) (Of:Nat->CS),XpH w w' Im (Y6 Sf) [.mv,.ro 1,.mv] [v0,v1,v2] (.sl .mut 2 (hs.map XfZ)) [.u,.u,.u] v Im' S Of/\(false=false->XF (.sl .mut 2 (hs.map XfZ))=false/\∀o∈[AV.u,.u,.u],XF o=false) :=by
  refine⟨Im,S,λ_ => nos,⟨fr,Sub.rfl' _,λg k hx => .inl hx,λg k hx => Nat.lt_of_lt_of_le (hI g k hx) fr.size,.leaf (.rep hrep),λj m u o hm hu ho => ?_,λ_ _ _ => Xk _,λ_ => X6 _,hSI,λ_ => Xk _,hSlt,λ_ _ _ hx => hx.elim,hS,λ_ _ _ hx => hx.elim⟩,λ_ => ⟨by simp[XF,XeR],λo ho => by simp at ho; subst ho; rfl⟩⟩
  match j,hm,hu,ho with
  | 0,hm,hu,ho =>
    simp at hm hu ho; subst hm hu ho
    exact⟨.leaf (.rep (.u h0)),rfl⟩
  | 1,hm,hu,ho => simp at hm; subst hm; trivial
  | 2,hm,hu,ho =>
    simp at hm hu ho; subst hm hu ho
    exact⟨.leaf (.rep (.u h2)),rfl⟩
  | j+3,hm,_,_ => simp at hm
def Xgx{hs:List (ByteArray×ByteArray)}{p:ByteArray×ByteArray}{i:Nat}(hi:i<=hs.length)(j:Nat):(XE (hs.take i++[p]++hs.drop i))[j]?=if j<i*2 then(XE hs)[j]? else if j<i*2+2 then(XE [p])[j-i*2]? else((XE hs).drop (i*2))[j-(i+1)*2]? :=by
  rw[Xda,Xda,<-Xcg,<-Xah]
  have hl:((XE hs).take (i*2)).length=i*2 :=by rw[List.length_take,Xa1]; omega
  have h2':(XE [p]).length=2 :=rfl
  by_cases h1:j<i*2
  · rw[if_pos h1,List.append_assoc,List.getElem?_append_left (by omega),List.getElem?_take,if_pos h1]
  · rw[if_neg h1]
    by_cases h2:j<i*2+2
    · rw[if_pos h2,List.getElem?_append_left (by rw[List.length_append,hl,h2']; exact h2),List.getElem?_append_right (by omega),hl]
    · rw[if_neg h2,List.getElem?_append_right (by rw[List.length_append,hl,h2']; omega),List.length_append,hl,h2']
      congr 1; omega
def Xjb{w':World}{Im:CS}{g n cap:Nat}(hfz:∀k,Yl w' g k=false)(hc:∀k,k<cap*2->∃v,Xw w' g (0+k)=some v):SlF w' Im .mut g 0 2 n cap (blk g) :=
  ⟨λ_ _ _ => rfl,(λe => by cases e),λ_ k hk => ⟨hc k hk,hfz _,λ_ q => hfz q⟩,λe => absurd rfl e⟩
def Xpx {P : Program} [HasTb P] {g : FuncId} {fn : Func} {c : Code} (hf : P.funcs[g]? = some fn) (hname : (fn.name == "runtime.NumGoroutine") = false) (hb : fn.body = some c) {e : TypeId} {zv : Value} (hzv : zv.cells.size = 2) {ov : FuncId}
    (hOv:∀(w:World) (a b:Addr) (la ca lb cb:Nat) (tA tB:TypeId) (kA kB:Nat),w.shape? a.block=some (tA,kA)->w.shape? b.block=some (tB,kB)->kB≠0 ->
      (a.block≠b.block->∀j,w.frozen? ⟨a.block,j,none⟩=false)->a.spot=none->(a.block=b.block->¬(a.off<b.off+lb*2/\b.off<a.off+la*2)) ->
      (callFunc ov #[.slice (some a) la ca,.slice (some b) lb cb]).run P w=.ok (.value (.bool false)) w)
    (hShift:∀(b off n c i vb voff vc:Nat) (cs vs:List Value) (w:World),i<n->n+1<=c->n+1<=9223372036854775807->cs.length=n*2->vs.length=2 ->
      (∀j v,cs[j]?=some v->w.cell? ⟨b,off+j,none⟩=some v)->(∀j,j<(n+1)*2->(w.cell? ⟨b,off+j,none⟩).isSome=true)->(∀j,j<(n+1)*2->w.frozen? ⟨b,off+j,none⟩=false) ->
      (∀j v,vs[j]?=some v->w.cell? ⟨vb,voff+j,none⟩=some v)->(∀v∈cs,v.oneCell'=true)->(∀v∈vs,v.oneCell'=true) ->
      (∀lb cb,lb=n-i->(callFunc ov #[.slice (some ⟨vb,voff,none⟩) 1 vc,.slice (some ⟨b,off+(i+1)*2,none⟩) lb cb]).run P w=.ok (.value (.bool false)) w) ->
      (vb=b->∀j k,j<2->k<(n+1)*2->voff+j≠off+k) ->
      Calls P g #[.slice (some ⟨b,off,none⟩) n c,.int .i64 i,.slice (some ⟨vb,voff,none⟩) 1 vc] w λe w' =>
        e=.returned (.slice (some ⟨b,off,none⟩) (n+1) c)/\w'=(w.drew.setCells b (off+(i+1)*2) (cs.drop (i*2))).setCells b (off+i*2) vs)
    (hRoom:∀(b off n c vb voff vc:Nat) (vs:List Value) (w:World),n+1<=c->n+1<=9223372036854775807->vs.length=2 ->
      (∀j,j<2->(w.cell? ⟨b,off+n*2+j,none⟩).isSome=true)->(∀j,j<2->w.frozen? ⟨b,off+n*2+j,none⟩=false) ->
      (∀j v,vs[j]?=some v->w.cell? ⟨vb,voff+j,none⟩=some v)->(∀v∈vs,v.oneCell'=true) ->
      Calls P g #[.slice (some ⟨b,off,none⟩) n c,.int .i64 n,.slice (some ⟨vb,voff,none⟩) 1 vc] w λe w' =>
        e=.returned (.slice (some ⟨b,off,none⟩) (n+1) c)/\w'=w.setCells b (off+n*2) vs)
    (hEnd:∀(base:Option Addr) (n c vb voff vc:Nat) (cs vs:List Value) (w:World),n<=c->c<n+1->(n+1)*32<=140737488355328->cs.length=n*2->vs.length=2->(base=none->n=0) ->
      (∀a,base=some a->∀j v,cs[j]?=some v->w.cell? (a.add j)=some v)->(∀j v,vs[j]?=some v->w.cell? ⟨vb,voff+j,none⟩=some v) ->
      Calls P g #[.slice base n c,.int .i64 n,.slice (some ⟨vb,voff,none⟩) 1 vc] w λe' w' =>
        e'=.returned (.slice (some ⟨w.heap.size,0,none⟩) (n+1) (grownCap w (n+1) c e))/\w'=w.drew.alloc (.cells (cs.toArray++vs.toArray++Builtin.zeroCells zv.cells (grownCap w (n+1) c e-(n+1))) e))
    (hGrow:∀(b off n c i vb voff vc:Nat) (cs vs:List Value) (w:World),i<n->n<=c->c<n+1->(n+1)*32<=140737488355328->cs.length=n*2->vs.length=2 ->
      (∀j v,cs[j]?=some v->w.cell? ⟨b,off+j,none⟩=some v)->(∀j v,vs[j]?=some v->w.cell? ⟨vb,voff+j,none⟩=some v)->(∀v∈cs,v.oneCell'=true)->(∀v∈vs,v.oneCell'=true) ->
      Calls P g #[.slice (some ⟨b,off,none⟩) n c,.int .i64 i,.slice (some ⟨vb,voff,none⟩) 1 vc] w λe' w' =>
        e'=.returned (.slice (some ⟨w.heap.size,0,none⟩) (n+1) (grownCap w (n+1) c e)) /\
        w'=(((w.alloc (.cells ((cs.take (i*2)).toArray++Builtin.zeroCells zv.cells (n+1-i)++Builtin.zeroCells zv.cells (grownCap w (n+1) c e-(n+1))) e)).drew.setCells w.heap.size (i*2) vs).drew).setCells w.heap.size ((i+1)*2) (cs.drop (i*2))) :
    Qi P g ⟨[.mv,.ro 1,.mv],Xpw,false⟩ :=by
  intro w Im vs as Sf r os hF hv ha harg hd hdI hin hI hT
  have hF:Xpw as=some (r,os) :=hF
  unfold Xpw at hF
  split at hF
  rotate_left
  · cases hF
  rename_i es k rs hFF
  match vs,hv with
  | [v0,v1,v2],_ =>
    unfold Xp4 at hF
    split at hF
    rotate_left
    · cases hF
    rename_i hs p hhs hps
    split at hF
    rotate_left
    · cases hF
    rename_i hc
    injection hF with hF
    injection hF with e1 e2
    subst e1 e2
    have c0 :=harg 0 .mv v0 _ rfl rfl rfl
    have c1 :=harg 1 (.ro 1) v1 _ rfl rfl rfl
    have c2 :=harg 2 .mv v2 _ rfl rfl rfl
    obtain rfl:v1=.int .i64 k :=(show Cl w Im v1 (.i .i64 k) nos from c1).int
    have r0:Rep w Im v0 (.sl .mut 2 es) (Sf 0) :=by cases c0 with | leaf h => cases h with | rep h => exact h
    have r2:Rep w Im v2 (.sl .mut 2 rs) (Sf 2) :=by cases c2 with | leaf h => cases h with | rep h => exact h
    have o0 :=r0.one
    have o2 :=r2.one
    rw[show es=hs.map XfZ from Xag hhs] at r0
    rw[show rs=[p].map XfZ from Xag hps] at r2
    obtain⟨A,n,cap,rfl⟩:∃A n cap,v0=.slice A n cap :=by cases r0; exact⟨_,_,_,rfl⟩
    obtain⟨B,m,vc,rfl⟩:∃A n cap,v2=.slice A n cap :=by cases r2; exact⟨_,_,_,rfl⟩
    obtain⟨b,off,hn,hnc,hA,hsl,hcell⟩ :=XeQ r0
    obtain⟨vb,voff,hm,hmc,hB,hsv,hvcell⟩ :=XeQ r2
    obtain rfl:m=1 :=by simpa using hm.symm
    obtain rfl:B=some ⟨vb,voff,none⟩ :=hB (by omega)
    obtain⟨i,rfl⟩:∃i:Nat,k=(i:Int) :=⟨k.toNat,by omega⟩
    rw[Int.toNat_natCast]
    have hin':i<=n :=by omega
    have hcl:(XE hs).length=n*2 :=by rw[Xa1,hn]
    have hvl:(XE [p]).length=2 :=rfl
    have hnew:(hs.take i++[p]++hs.drop i).length=n+1 :=by simp only[List.length_append,List.length_take,List.length_drop,List.length_singleton]; omega
    have hnl:n=hs.length :=hn.symm
    have hdj:∀g k,Sf 0 g k->Sf 2 g k->False :=hd 0 2 (by decide)
    have hS0:∀x,x<cap*2->Sf 0 b (off+x) :=λx hx => hsl.own rfl x hx
    have hS2:∀x,x<vc*2->Sf 2 vb (voff+x) :=λx hx => hsv.own rfl x hx
    have hap:vb=b->∀j k,j<2->k<cap*2->voff+j≠off+k :=λe j k hj hk ee => hdj b (off+k) (hS0 k hk) (by rw[<-ee,<-e]; exact hS2 j (by omega))
    refine .inr ⟨QR hf hname hb w,λcs => ?_⟩
    by_cases hr:n+1<=cap
    · obtain rfl:A=some ⟨b,off,none⟩ :=hA (by omega)
      have hex:∀j,j<cap*2->(w.cell? ⟨b,off+j,none⟩).isSome=true :=λj hj => by
        obtain⟨v,hv⟩ :=(hsl.free (by decide) j hj).1
        rw[show w.cell? ⟨b,off+j,none⟩=some v from hv]; rfl
      have hfr:∀j,j<cap*2->w.frozen? ⟨b,off+j,none⟩=false :=λj hj => (hsl.free (by decide) j hj).2.1
      have hseg:∀o l,off<=o->o+l<=off+cap*2->Sub (seg b o l) (Y6 Sf) :=λo l h1 h2 g k ⟨e,h3,h4⟩ => ⟨0,by rw[e,show k=off+(k-off) by omega]; exact hS0 _ (by omega)⟩
      by_cases hi:i<n
      · obtain⟨ts,qs,hss,hqs⟩ :=Xdc (show Xw w b (off+0)=some _ from(Option.eq_some_of_isSome (hex 0 (by omega))))
        obtain⟨tv,qv,hsv',hqv⟩ :=Xdc (hvcell 0 (.string p.1) rfl)
        have hov:∀lb cb,lb=n-i->(callFunc ov #[.slice (some ⟨vb,voff,none⟩) 1 vc,.slice (some ⟨b,off+(i+1)*2,none⟩) lb cb]).run P w=.ok (.value (.bool false)) w :=λlb cb hlb =>
          hOv w ⟨vb,voff,none⟩ ⟨b,off+(i+1)*2,none⟩ 1 vc lb cb tv ts qv qs hsv' hss hqs (λ_ j => (hsv.free (by decide) 0 (by omega)).2.2 (by decide) j) rfl (λe ⟨h1,h2⟩ => by
            simp only at e h1 h2
            rcases Nat.lt_or_ge voff (off+(i+1)*2) with hq | hq
            · exact hap e (off+(i+1)*2-voff) ((i+1)*2) (by omega) (by omega) (by omega)
            · exact hap e 0 (voff-off) (by omega) (by omega) (by omega))
        obtain⟨e',w',fr,⟨k1,k2⟩,k3⟩ :=hShift b off n cap i vb voff vc (XE hs) (XE [p]) w hi hr (by omega) hcl hvl hcell (λj hj => hex j (by omega)) (λj hj => hfr j (by omega)) hvcell Q5 Q5 hov (λe j k hj hk => hap e j k hj (by omega)) cs
        subst k1
        have hdl:((XE hs).drop (i*2)).length=(n-i)*2 :=by rw[List.length_drop,hcl]; omega
        have x1:∀k,k<cap*2->((w.drew.setCells b (off+(i+1)*2) ((XE hs).drop (i*2))).cell? ⟨b,off+k,none⟩).isSome=true :=λk hk =>
          QD b _ _ _ (λj hj => by rw[Nat.add_assoc]; exact hex _ (by omega)) _ (hex k hk)
        have x2:∀k,k<cap*2->(w'.cell? ⟨b,off+k,none⟩).isSome=true :=λk hk => by
          rw[k2]; exact QD b _ _ _ (λj hj => by rw[Nat.add_assoc]; exact x1 _ (by rw[hvl] at hj; omega)) _ (x1 k hk)
        have x3:∀q,Yl w' b q=Yl w b q :=λq => by rw[k2]; unfold Yl; rw[World.frozen?_setCells,World.frozen?_setCells]; rfl
        refine⟨.returned _,w',fr,?_,k3⟩
        refine Xbx o0 o2 ?_ (λg k hx => .inl ⟨0,hx⟩) (hdI 0) (λg k hx => ?_) hI (QL hnew hr (by omega) (λ_ => rfl) ⟨λ_ x hx => hS0 x hx,(λe => by cases e),λ_ x hx => ⟨Option.isSome_iff_exists.1 (x2 x hx),(hsl.free (by decide) x hx).2.to x3⟩,λe => absurd rfl e⟩ (λj v hj => ?_))
        · rw[k2]
          refine(((Qm w).mono (Xv _)).trans ((X4 b _ _ _).mono (hseg _ _ (by omega) ?_))).trans ((X4 b _ _ _).mono (hseg _ _ (by omega) ?_))
          · rw[hdl]; omega
          · rw[hvl]; omega
        · rw[k2,YU,YU]; exact hin 0 g k hx
        · rw[Xgx (by omega)] at hj
          show w'.cell? _=_
          rw[k2]
          split at hj
          · rw[World.cell?_setCells_out b _ _ _ _ (λ_ _ => .inl (by simp only; omega)),World.cell?_setCells_out b _ _ _ _ (λ_ _ => .inl (by simp only; omega))]
            exact hcell j v hj
          · split at hj
            · rename_i h1 h2
              obtain⟨hjl,hje⟩ :=List.getElem?_eq_some_iff.1 hj
              have :=World.cell?_setCells_in b (XE [p]) (off+i*2) (w.drew.setCells b (off+(i+1)*2) ((XE hs).drop (i*2))) (λq hq => by rw[Nat.add_assoc]; exact x1 _ (by rw[hvl] at hq; omega)) (j-i*2) hjl
              rw[show off+i*2+(j-i*2)=off+j by omega] at this
              rw[this,hje]
            · rename_i h1 h2
              obtain⟨hjl,hje⟩ :=List.getElem?_eq_some_iff.1 hj
              rw[World.cell?_setCells_out b _ _ _ _ (λ_ _ => .inr (by rw[hvl]; simp only; omega))]
              have :=World.cell?_setCells_in b ((XE hs).drop (i*2)) (off+(i+1)*2) w.drew (λq hq => by rw[Nat.add_assoc]; exact hex _ (by omega)) (j-(i+1)*2) hjl
              rw[show off+(i+1)*2+(j-(i+1)*2)=off+j by omega] at this
              rw[this,hje]
      · obtain rfl:i=n :=by omega
        obtain⟨e',w',fr,⟨k1,k2⟩,k3⟩ :=hRoom b off i cap vb voff vc (XE [p]) w hr (by omega) hvl (λj hj => by rw[Nat.add_assoc]; exact hex _ (by omega)) (λj hj => by rw[Nat.add_assoc]; exact hfr _ (by omega)) hvcell Q5 cs
        subst k1
        have x2:∀k,k<cap*2->(w'.cell? ⟨b,off+k,none⟩).isSome=true :=λk hk => by
          rw[k2]; exact QD b _ _ _ (λj hj => by rw[Nat.add_assoc]; exact hex _ (by rw[hvl] at hj; omega)) _ (hex k hk)
        have x3:∀q,Yl w' b q=Yl w b q :=λq => by rw[k2]; unfold Yl; rw[World.frozen?_setCells]
        refine⟨.returned _,w',fr,?_,k3⟩
        refine Xbx o0 o2 ?_ (λg k hx => .inl ⟨0,hx⟩) (hdI 0) (λg k hx => ?_) hI (QL hnew hr (by omega) (λ_ => rfl) ⟨λ_ x hx => hS0 x hx,(λe => by cases e),λ_ x hx => ⟨Option.isSome_iff_exists.1 (x2 x hx),(hsl.free (by decide) x hx).2.to x3⟩,λe => absurd rfl e⟩ (λj v hj => ?_))
        · rw[k2]
          refine(X4 b _ _ _).mono (hseg _ _ (by omega) ?_)
          rw[hvl]; omega
        · rw[k2,YU]; exact hin 0 g k hx
        · rw[Xgx (by omega)] at hj
          show w'.cell? _=_
          rw[k2]
          split at hj
          · rw[World.cell?_setCells_out b _ _ _ _ (λ_ _ => .inl (by simp only; omega))]
            exact hcell j v hj
          · split at hj
            · rename_i h1 h2
              obtain⟨hjl,hje⟩ :=List.getElem?_eq_some_iff.1 hj
              have :=World.cell?_setCells_in b (XE [p]) (off+i*2) w (λq hq => by rw[Nat.add_assoc]; exact hex _ (by rw[hvl] at hq; omega)) (j-i*2) hjl
              rw[show off+i*2+(j-i*2)=off+j by omega] at this
              rw[this,hje]
            · have :=(List.getElem?_eq_some_iff.1 hj).1
              rw[List.length_drop,hcl] at this
              omega
    · have hbig:(n+1)*32<=140737488355328 :=by omega
      have hG :=grownCap_ge w (n+1) cap e
      generalize hGe:grownCap w (n+1) cap e=G at hG
      have hzs:∀q,(Builtin.zeroCells zv.cells q).size=q*2 :=λq => by rw[<-hzv]; simp[Builtin.zeroCells]
      by_cases hi:i<n
      · obtain rfl:A=some ⟨b,off,none⟩ :=hA (by omega)
        obtain⟨e',w',fr,⟨k1,k2⟩,k3⟩ :=hGrow b off n cap i vb voff vc (XE hs) (XE [p]) w hi hnc (by omega) hbig hcl hvl hcell hvcell Q5 Q5 cs
        rw[hGe] at k1 k2
        subst k1
        have hdl:((XE hs).drop (i*2)).length=(n-i)*2 :=by rw[List.length_drop,hcl]; omega
        obtain⟨ROW,hROW⟩:∃ROW:Array Value,ROW=((XE hs).take (i*2)).toArray++Builtin.zeroCells zv.cells (n+1-i)++Builtin.zeroCells zv.cells (G-(n+1)) :=⟨_,rfl⟩
        have hRs:ROW.size=G*2 :=by
          rw[hROW]
          simp only[Array.size_append,hzs,List.size_toArray,List.length_take,hcl]
          omega
        rw[<-hROW] at k2
        have y0:∀k,Xw (w.alloc (.cells ROW e)) w.heap.size k=ROW[k]? :=λk => Ze w ROW e k
        have x0:∀k,k<G*2->((w.alloc (.cells ROW e)).drew.cell? ⟨w.heap.size,0+k,none⟩).isSome=true :=λk hk => by
          rw[Nat.zero_add]
          show(Xw (w.alloc (.cells ROW e)) w.heap.size k).isSome=true
          rw[y0,Array.getElem?_eq_getElem (by omega)]; rfl
        have x1:∀k,k<G*2->(((w.alloc (.cells ROW e)).drew.setCells w.heap.size (i*2) (XE [p])).cell? ⟨w.heap.size,0+k,none⟩).isSome=true :=λk hk =>
          QD _ _ _ _ (λj hj => by have :=x0 (i*2+j) (by rw[hvl] at hj; omega); rwa [Nat.zero_add] at this) _ (x0 k hk)
        have x2:∀k,k<G*2->(w'.cell? ⟨w.heap.size,0+k,none⟩).isSome=true :=λk hk => by
          rw[k2]; exact QD _ _ _ _ (λj hj => by have :=x1 ((i+1)*2+j) (by omega); rw[Nat.zero_add] at this; exact this) _ (x1 k hk)
        have x3:∀q,Yl w' w.heap.size q=false :=λq => by
          rw[k2]; unfold Yl; rw[World.frozen?_setCells]
          show World.frozen? ((w.alloc (.cells ROW e)).drew.setCells w.heap.size (i*2) (XE [p])) _=false
          rw[World.frozen?_setCells]
          exact YW w ROW e q
        refine⟨.returned _,w',fr,?_,k3⟩
        have hsz:w.heap.size<w'.heap.size :=by
          rw[k2,YU]
          show w.heap.size<((w.alloc (.cells ROW e)).drew.setCells w.heap.size (i*2) (XE [p])).heap.size
          rw[YU]
          show w.heap.size<(w.heap.push _).size
          rw[Array.size_push]; exact Nat.lt_succ_self _
        refine Xbx (S :=blk w.heap.size) o0 o2 ?_ (λg k hx => .inr (by rw[show g=w.heap.size from hx]; exact Nat.le_refl _)) (λg k hx hy => by have :=hI g k hy; rw[show g=w.heap.size from hx] at this; omega) (λg k hx => by rw[show g=w.heap.size from hx]; exact hsz) hI
          (QL hnew hG (by omega) (λ_ => rfl) (Xjb x3 (λk hk => Option.isSome_iff_exists.1 (x2 k hk))) (λj v hj => ?_))
        · rw[k2]
          have f1:Frame w (w.alloc (.cells ROW e)).drew nos :=(Yf w _).trans (Qm _)
          have f2 :=f1.step (X4 w.heap.size (XE [p]) (i*2) _) (λg k ⟨e1,_,_⟩ => .inr (by rw[e1]; exact Nat.le_refl _))
          have f3 :=(f2.trans (Qm _)).step (X4 w.heap.size ((XE hs).drop (i*2)) ((i+1)*2) _) (λg k ⟨e1,_,_⟩ => .inr (by rw[e1]; exact Nat.le_refl _))
          exact f3.mono (Xv _)
        · rw[Xgx (by omega)] at hj
          show w'.cell? _=_
          rw[k2,Nat.zero_add]
          split at hj
          · rename_i h1
            rw[World.cell?_setCells_out _ _ _ _ _ (λ_ _ => .inl (by simp only; omega))]
            show World.cell? ((w.alloc (.cells ROW e)).drew.setCells w.heap.size (i*2) (XE [p])) _=_
            rw[World.cell?_setCells_out _ _ _ _ _ (λ_ _ => .inl (by simp only; omega))]
            show Xw (w.alloc (.cells ROW e)) w.heap.size j=_
            rw[y0,hROW,Array.getElem?_append_left (by simp only[Array.size_append,List.size_toArray,List.length_take,hcl]; omega),Array.getElem?_append_left (by simp only[List.size_toArray,List.length_take,hcl]; omega),List.getElem?_toArray,List.getElem?_take,if_pos h1]
            exact hj
          · split at hj
            · rename_i h1 h2
              obtain⟨hjl,hje⟩ :=List.getElem?_eq_some_iff.1 hj
              rw[World.cell?_setCells_out _ _ _ _ _ (λ_ _ => .inl (by simp only; omega))]
              have :=World.cell?_setCells_in w.heap.size (XE [p]) (i*2) (w.alloc (.cells ROW e)).drew (λq hq => by have :=x0 (i*2+q) (by rw[hvl] at hq; omega); rwa [Nat.zero_add] at this) (j-i*2) hjl
              rw[show i*2+(j-i*2)=j by omega] at this
              exact this.trans (by rw[hje])
            · rename_i h1 h2
              obtain⟨hjl,hje⟩ :=List.getElem?_eq_some_iff.1 hj
              have :=World.cell?_setCells_in w.heap.size ((XE hs).drop (i*2)) ((i+1)*2) ((w.alloc (.cells ROW e)).drew.setCells w.heap.size (i*2) (XE [p])).drew (λq hq => by have :=x1 ((i+1)*2+q) (by omega); rw[Nat.zero_add] at this; exact this) (j-(i+1)*2) hjl
              rw[show(i+1)*2+(j-(i+1)*2)=j by omega] at this
              rw[this,hje]
      · obtain rfl:i=n :=by omega
        obtain⟨e',w',fr,⟨k1,k2⟩,k3⟩ :=hEnd A i cap vb voff vc (XE hs) (XE [p]) w hnc (by omega) hbig hcl hvl (λh0 => by
            rcases Nat.eq_zero_or_pos cap with hz | hz
            · omega
            · rw[h0] at hA; cases hA hz) (λa ha j v hj => by
            have hpos:0<cap :=by
              have :=(List.getElem?_eq_some_iff.1 hj).1
              omega
            obtain rfl:a=⟨b,off,none⟩ :=by rw[hA hpos] at ha; injection ha with ha; exact ha.symm
            rw[Addr.add_lit]; exact hcell j v hj) hvcell cs
        rw[hGe] at k1 k2
        subst k1
        obtain⟨ROW,hROW⟩:∃ROW:Array Value,ROW=(XE hs).toArray++(XE [p]).toArray++Builtin.zeroCells zv.cells (G-(i+1)) :=⟨_,rfl⟩
        have hRs:ROW.size=G*2 :=by
          rw[hROW]
          simp only[Array.size_append,hzs,List.size_toArray,hcl,hvl]
          omega
        rw[<-hROW] at k2
        have y0:∀k,Xw w' w.heap.size k=ROW[k]? :=λk => by rw[k2]; exact Ze w.drew ROW e k
        have x2:∀k,k<G*2->∃v,Xw w' w.heap.size (0+k)=some v :=λk hk => by
          rw[y0,Nat.zero_add,Array.getElem?_eq_getElem (by omega)]; exact⟨_,rfl⟩
        have x3:∀q,Yl w' w.heap.size q=false :=λq => by rw[k2]; exact YW w.drew ROW e q
        refine⟨.returned _,w',fr,?_,k3⟩
        have hsz:w.heap.size<w'.heap.size :=by
          rw[k2]
          show w.heap.size<(w.heap.push _).size
          rw[Array.size_push]; exact Nat.lt_succ_self _
        refine Xbx (S :=blk w.heap.size) o0 o2 ?_ (λg k hx => .inr (by rw[show g=w.heap.size from hx]; exact Nat.le_refl _)) (λg k hx hy => by have :=hI g k hy; rw[show g=w.heap.size from hx] at this; omega) (λg k hx => by rw[show g=w.heap.size from hx]; exact hsz) hI
          (QL hnew hG (by omega) (λ_ => rfl) (Xjb x3 x2) (λj v hj => ?_))
        · rw[k2]; exact(UY w _).mono (Xv _)
        · rw[Xgx (by omega)] at hj
          rw[y0,Nat.zero_add,hROW]
          split at hj
          · rw[Array.getElem?_append_left (by simp only[Array.size_append,List.size_toArray,hcl,hvl]; omega),Array.getElem?_append_left (by simp only[List.size_toArray,hcl]; omega),List.getElem?_toArray]
            exact hj
          · split at hj
            · rw[Array.getElem?_append_left (by simp only[Array.size_append,List.size_toArray,hcl,hvl]; omega),Array.getElem?_append_right (by simp only[List.size_toArray,hcl]; omega),List.size_toArray,hcl,List.getElem?_toArray]
              exact hj
            · have :=(List.getElem?_eq_some_iff.1 hj).1
              rw[List.length_drop,hcl] at this
              omega
end Go.Vm
set_option autoImplicit false
namespace Go.Vm
end Go.Vm
set_option autoImplicit false
namespace Go.Vm.A
open Go.Vm Go.RowKit
def Xjc:List AV->Option ByteArray
  | [.s x] => some x
  | _ => none
def UQ:List (List AV)->Option (List ByteArray)
  | [] => some []
  | r :: rs => match Xjc r,UQ rs with
    | some x,some xs => some (x :: xs)
    | _,_ => none
def Xdd:∀{es:List (List AV)} {xs:List ByteArray},UQ es=some xs->es=xs.map λx => [AV.s x]
  | [],xs,h => by simp only[UQ,Option.some.injEq] at h; subst h; rfl
  | r :: rs,xs,h => by
    simp only[UQ] at h
    split at h
    · rename_i x ys h1 h2
      injection h with h
      subst h
      have:r=[AV.s x] :=by
        unfold Xjc at h1
        split at h1
        · injection h1 with h1; rw[h1]
        · cases h1
      rw[this,Xdd h2]; rfl
    · cases h
def Xa2:∀xs:List ByteArray,UQ (xs.map λx => [AV.s x])=some xs
  | [] => rfl
  | x :: xs => by simp only[List.map_cons,UQ,Xjc,Xa2 xs]
def Uu(xs:List ByteArray):Bool :=decide (xs.length<=1048576)&&xs.all λx => decide (x.size<=1048576)
def Xpy(xs:List ByteArray):ByteArray :=⟨(Lib.join (xs.map (·.data.toList)) [32]).toArray⟩
def XaI(p:ByteArray)(xs:List ByteArray):ByteArray :=⟨(Lib.join (xs.map (·.data.toList)) p.data.toList).toArray⟩
def Xli:Option (List ByteArray)->ByteArray->Option (AV×List AV)
  | some xs,p => if p.data.toList.length<=4/\Uu xs=true then some (.s (XaI p xs),[.u,.u]) else none
  | none,_ => none
def Xlj:List AV->Option (AV×List AV)
  | [.sl .ro 1 es,.s p] => Xli (UQ es) p
  | _ => none
def Xlk(xs:List ByteArray)(h:Uu xs=true):Xlj [.sl .ro 1 (xs.map λx => [.s x]),.s ⟨#[32]⟩]=some (.s (Xpy xs),[.u,.u]) :=by
  show Xli (UQ _) _=_
  rw[Xa2]
  have hc:(⟨#[32]⟩:ByteArray).data.toList.length<=4/\Uu xs=true :=⟨by decide,h⟩
  exact if_pos hc
def Xjd(p:ByteArray)(hp:p.data.toList.length<=4)(xs:List ByteArray)(h:Uu xs=true):Xlj [.sl .ro 1 (xs.map λx => [.s x]),.s p]=some (.s (XaI p xs),[.u,.u]) :=by
  show Xli (UQ _) _=_
  rw[Xa2]
  exact if_pos ⟨hp,h⟩
def Xje(N:Nat):∀l:List (List UInt8),(∀x∈l,x.length<=N)->Lib.lens l<=N*l.length
  | [],_ => by simp[Lib.lens]
  | x :: l,h => by
    have h1 :=Xje N l λy hy => h y (List.mem_cons_of_mem _ hy)
    have h2 :=h x (List.mem_cons_self ..)
    have e:Lib.lens (x :: l)=x.length+Lib.lens l :=by simp[Lib.lens]
    rw[e,List.length_cons,Nat.mul_succ]
    omega
def Xjf{p:List UInt8}(hp:p.length<=4){xs:List ByteArray}(h:Uu xs=true):(Lib.join (xs.map (·.data.toList)) p).length<=1099516870656 :=by
  simp only[Uu,Bool.and_eq_true,decide_eq_true_eq,List.all_eq_true] at h
  cases xs with
  | nil => simp[Lib.join,List.intercalate]
  | cons x r =>
    rw[List.map_cons,Lib.join_length]
    have h1 :=Xje 1048576 ((x :: r).map (·.data.toList)) (λy hy => by
      obtain⟨z,hz,rfl⟩ :=List.mem_map.1 hy
      have :=h.2 z hz
      simpa using this)
    have h2 :=h.1
    simp only[List.map_cons,List.length_cons,List.length_map] at h1 h2 ⊢
    have h3:1048576*(r.length+1)<=1048576*1048576 :=Nat.mul_le_mul_left _ h2
    have h4:p.length*r.length<=4*1048576 :=Nat.mul_le_mul hp (by have:(x :: r).length=r.length+1 :=rfl; omega)
    omega
def XnN {P : Program} [HasTb P] {g : FuncId} {fn : Func} {c : Code} (hf : P.funcs[g]? = some fn) (hname : (fn.name == "runtime.NumGoroutine") = false) (hb : fn.body = some c)
    (h0:∀(a:Option Addr) (c:Nat) (sep:ByteArray) (w:World),Calls P g #[.slice a 0 c,.string sep] w λe w' => e=.returned (.string ⟨#[]⟩)/\w'=w)
    (h:∀(bk o c:Nat) (xs:List ByteArray) (sep:ByteArray) (w:World),(∀(j:Nat) (x:ByteArray),xs[j]?=some x->w.cell? ⟨bk,o+j,none⟩=some (.string x))->bk<w.heap.size->xs.length<=140737488355328->xs.length<=c ->
      (Lib.join (xs.map (·.data.toList)) sep.data.toList).length<=140737488355328 ->
      Calls P g #[.slice (some ⟨bk,o,none⟩) xs.length c,.string sep] w λe w' => e=.returned (.string ⟨(Lib.join (xs.map (·.data.toList)) sep.data.toList).toArray⟩)/\Below w.heap.size w w'):Qi P g ⟨[.ro 1,.ro 1],Xlj,false⟩ :=by
  refine XdS rfl λw Im vs as r os hF hv ha harg => ?_
  match as,ha,hF with
  | [.sl .ro 1 es,.s p],_,hF =>
    match vs,hv with
    | [v0,v1],_ =>
      have hF:Xli (UQ es) p=some (r,os) :=hF
      cases hp:UQ es with
      | none => rw[hp] at hF; cases hF
      | some xs =>
        rw[hp] at hF
        have hF:(if p.data.toList.length<=4/\Uu xs=true then some (AV.s (XaI p xs),[AV.u,AV.u]) else none)=some (r,os) :=hF
        split at hF
        · rename_i hc
          injection hF with hF
          injection hF with h1 h2
          subst h1 h2
          refine⟨rfl,λ_ => ⟨rfl,λo ho => by simp at ho; subst ho; rfl⟩,?_⟩
          obtain⟨c1,c2⟩ :=hc
          have hlen0 :=Xjf c1 c2
          have hes :=Xdd hp
          obtain rfl :=(harg 1 v1 _ rfl rfl).str
          have hc0 :=harg 0 v0 _ rfl rfl
          have hN:xs.length<=1048576 :=by simp only[Uu,Bool.and_eq_true,decide_eq_true_eq] at c2; exact c2.1
          cases hc0 with
          | leaf hc0 => cases hc0 with
            | rep hc0 => cases hc0 with
              | @sl A n cap _ _ _ _ b off vs' Sf hn hcap hL hA hz hrow hin hf' hsub hd hself hnone =>
                have hlen:xs.length=n :=by rw[<-hn,hes,List.length_map]
                refine .inr ⟨QR hf hname hb w,λcs => ?_⟩
                by_cases hem:n=0
                · subst hem
                  obtain rfl:xs=[] :=List.length_eq_zero_iff.1 hlen
                  obtain⟨e,w',fr,⟨k1,k2⟩,k3⟩ :=h0 A cap p w cs
                  subst k1 k2
                  exact⟨.returned _,_,fr,(⟨⟨rfl,rfl,rfl,Nat.le_refl _,λ_ _ => .inl rfl⟩,.leaf (.rep .s)⟩:Frame w' w' nos/\Cl w' Im (.string (XaI p [])) (.s (XaI p [])) nos),k3⟩
                · have hA' :=hA (by omega)
                  have str:∀{v:Value} {x:ByteArray} {S:CS},Rep w Im v (.s x) S->v=.string x :=λhr => by cases hr; rfl
                  have c3:∀(i:Nat) (x:ByteArray),xs[i]?=some x->Xw w b (off+i)=some (.string x) :=λi x hx => by
                    have hg:es[i]?=some [.s x] :=by rw[hes,List.getElem?_map,hx]; rfl
                    have e1 :=hrow i _ 0 _ hg rfl
                    have e2 :=str (hin i _ 0 _ hg rfl)
                    rw[e2] at e1
                    simpa using e1
                  have hb0:b<w.heap.size :=XnM (c3 0 xs[0] (by simp))
                  obtain⟨e,w',fr,⟨k1,k2⟩,k3⟩ :=h b off cap xs p w c3 hb0 (by omega) (by omega) (Nat.le_trans hlen0 (by decide)) cs
                  subst k1
                  subst hA' hlen
                  exact⟨.returned _,w',fr,(⟨Xcf k2,.leaf (.rep .s)⟩:Frame w w' nos/\Cl w' Im (.string (XaI p xs)) (.s (XaI p xs)) nos),k3⟩
        · cases hF
end Go.Vm.A
set_option autoImplicit false
set_option maxRecDepth 100000
set_option maxHeartbeats 4000000
attribute [go_sem] Nat.add_zero Nat.zero_add List.contains_cons List.contains_nil List.elem_cons List.elem_nil List.length_cons List.length_nil List.map_cons List.map_nil List.all_cons List.all_nil List.any_cons List.any_nil List.getElem?_cons_zero List.getElem?_cons_succ List.getElem?_nil List.getD_cons_zero List.getD_cons_succ List.append_nil List.nil_append List.cons_append List.isEmpty_cons List.isEmpty_nil List.headD_cons List.headD_nil List.tail_cons List.tail_nil List.take_nil List.drop_nil Bool.and_true Bool.true_and Bool.or_false Bool.or_true Bool.false_or Bool.true_or Bool.not_true Bool.not_false Bool.and_false Bool.false_and Bool.false_eq_true Bool.true_eq_false Bool.and_self Bool.not_not decide_true decide_false decide_eq_true_eq beq_self_eq_true Nat.le_refl Nat.zero_le and_self true_and and_true false_and and_false or_true true_or if_true if_false Option.map_some Option.map_none Option.isSome_none Option.isSome_some eq_self_iff_true not_true_eq_false not_false_eq_true ne_eq Nat.not_lt_zero Nat.succ_ne_zero List.length_map List.set_cons_zero List.set_cons_succ gt_iff_lt ge_iff_le List.take_succ_cons List.take_zero List.drop_zero List.drop_succ_cons bne_self_eq_false
namespace Go.Vm
def Xn(b:UInt8):List AV :=[.i .u8 b.toNat]
def Xbi(s:ByteArray):List AV :=[.s s]
def XlP(n:Int):List AV :=[.i .i64 n]
def Xhs(b:Bool):List AV :=[.b b]
@[go_sem] def Xpz(b:UInt8):Xn b=[.i .u8 b.toNat] :=nr rfl
@[go_sem] def Xp5(s:ByteArray):Xbi s=[.s s] :=nr rfl
@[go_sem] def Xp6(n:Int):XlP n=[.i .i64 n] :=nr rfl
@[go_sem] def XpA(b:Bool):Xhs b=[.b b] :=nr rfl
def Yk{α:Type}{f g:α->List AV}(h:∀a,Yp (f a)=g a):∀xs:List α,XI (xs.map f)=xs.map g
  | [] => rfl
  | x :: xs => by simp only[List.map_cons,XI,h,Yk h xs]
def YB{α:Type}{f:α->List AV}(h:∀a,XU (f a)=false):∀xs:List α,XO (xs.map f)=false
  | [] => rfl
  | x :: xs => by simp only[List.map_cons,XO,h,YB h xs,Bool.or_self]
@[go_sem] def ZS(xs:List UInt8):XI (xs.map Xn)=xs.map Xn :=Yk (λa => by simp only[Xn,Yp,strip]) xs
@[go_sem] def Xht(xs:List ByteArray):XI (xs.map Xbi)=xs.map Xbi :=Yk (λa => by simp only[Xbi,Yp,strip]) xs
@[go_sem] def Xoh(xs:List Int):XI (xs.map XlP)=xs.map XlP :=Yk (λa => by simp only[XlP,Yp,strip]) xs
@[go_sem] def XnO(xs:List Bool):XI (xs.map Xhs)=xs.map Xhs :=Yk (λa => by simp only[Xhs,Yp,strip]) xs
@[go_sem] def Qp(xs:List UInt8):XO (xs.map Xn)=false :=YB (λa => by simp only[Xn,XU,XF,Bool.or_self]) xs
@[go_sem] def Xjg(xs:List ByteArray):XO (xs.map Xbi)=false :=YB (λa => by simp only[Xbi,XU,XF,Bool.or_self]) xs
@[go_sem] def XpB(xs:List Int):XO (xs.map XlP)=false :=YB (λa => by simp only[XlP,XU,XF,Bool.or_self]) xs
@[go_sem] def Xoi(xs:List Bool):XO (xs.map Xhs)=false :=YB (λa => by simp only[Xhs,XU,XF,Bool.or_self]) xs
@[go_sem] def XpC(xs:List UInt8):Xcq (xs.map Xn)=some xs :=Xc9 xs
def XlQ(_:UInt8):Prop :=True
def okL{α:Type}(p:α->Prop)(xs:List α):Prop :=xs.length<=9223372036854775807/\∀x∈xs,p x
def XeS(s:ByteArray):Prop :=s.size<=1048576
def XeT(_:UInt8):Prop :=True
def Xrk(_:Int):Prop :=True
def smL{α:Type}(p:α->Prop)(xs:List α):Prop :=xs.length<=1048576/\∀x∈xs,p x
end Go.Vm
namespace Go.Vm
structure Xd where
  Name:ByteArray
  Value:ByteArray
def Xb(t:Tag)(a:Xd):List AV :=[.s a.Name,.s a.Value]
@[go_sem] def XnP(t:Tag)(a:Xd):Xb t a=[.s a.Name,.s a.Value] :=nr rfl
@[go_sem] def YV(t:Tag)(xs:List Xd):XI (xs.map (Xb t))=xs.map (Xb .ro) :=Yk (λa => by simp only[Xb,Yp,strip]) xs
@[go_sem] def Zc(xs:List Xd):XO (xs.map (Xb .mut))=false :=YB (λa => by simp only[Xb,XU,XF,Bool.or_self]) xs
@[go_sem] def Xd.eta(a:Xd):Xd.mk a.Name a.Value=a :=nr rfl
def Xd.eqv(a b:Xd):Vm.eqv a b=(Vm.eqv a.Name b.Name&&(Vm.eqv a.Value b.Value)) :=(QK (by simp only[Bool.and_eq_true,Za]; cases a; cases b; simp only[Xd.mk.injEq,and_assoc])).symm
def Xg(a:Xd):Prop :=XeS a.Name/\XeS a.Value
structure Request where
  Method:ByteArray
  Host:ByteArray
  Path:ByteArray
  Headers:List Xd
def Zs(t:Tag)(a:Request):List AV :=[.s a.Method,.s a.Host,.s a.Path,.sl t 2 (a.Headers.map (Xb t))]
@[go_sem] def XlR(t:Tag)(a:Request):Zs t a=[.s a.Method,.s a.Host,.s a.Path,.sl t 2 (a.Headers.map (Xb t))] :=nr rfl
@[go_sem] def Xjt(t:Tag)(xs:List Request):XI (xs.map (Zs t))=xs.map (Zs .ro) :=Yk (λa => by simp only[Zs,Yp,strip,YV]) xs
@[go_sem] def Xll(xs:List Request):XO (xs.map (Zs .mut))=false :=YB (λa => by simp only[Zs,XU,XF,Bool.or_self,Zc]) xs
@[go_sem] def Request.eta(a:Request):Request.mk a.Method a.Host a.Path a.Headers=a :=nr rfl
def Request.eqv(a b:Request):Vm.eqv a b=(Vm.eqv a.Method b.Method&&(Vm.eqv a.Host b.Host&&(Vm.eqv a.Path b.Path&&(Vm.eqv a.Headers b.Headers)))) :=(QK (by simp only[Bool.and_eq_true,Za]; cases a; cases b; simp only[Request.mk.injEq,and_assoc])).symm
def XeU(a:Request):Prop :=XeS a.Method/\XeS a.Host/\XeS a.Path/\(smL Xg) a.Headers
structure Meta where
  At:Int
  Age:Int
  Life:Int
  Swr:Int
  Sie:Int
  Soft:Bool
  NoCache:Bool
def XeV(t:Tag)(a:Meta):List AV :=[.i .i64 a.At,.i .i64 a.Age,.i .i64 a.Life,.i .i64 a.Swr,.i .i64 a.Sie,.b a.Soft,.b a.NoCache]
@[go_sem] def XpD(t:Tag)(a:Meta):XeV t a=[.i .i64 a.At,.i .i64 a.Age,.i .i64 a.Life,.i .i64 a.Swr,.i .i64 a.Sie,.b a.Soft,.b a.NoCache] :=nr rfl
@[go_sem] def XnQ(t:Tag)(xs:List Meta):XI (xs.map (XeV t))=xs.map (XeV .ro) :=Yk (λa => by simp only[XeV,Yp,strip]) xs
@[go_sem] def Xoj(xs:List Meta):XO (xs.map (XeV .mut))=false :=YB (λa => by simp only[XeV,XU,XF,Bool.or_self]) xs
@[go_sem] def Meta.eta(a:Meta):Meta.mk a.At a.Age a.Life a.Swr a.Sie a.Soft a.NoCache=a :=nr rfl
def Meta.eqv(a b:Meta):Vm.eqv a b=(Vm.eqv a.At b.At&&(Vm.eqv a.Age b.Age&&(Vm.eqv a.Life b.Life&&(Vm.eqv a.Swr b.Swr&&(Vm.eqv a.Sie b.Sie&&(Vm.eqv a.Soft b.Soft&&(Vm.eqv a.NoCache b.NoCache))))))) :=(QK (by simp only[Bool.and_eq_true,Za]; cases a; cases b; simp only[Meta.mk.injEq,and_assoc])).symm
structure X2 where
  Key:ByteArray
  Status:Int
  Headers:List Xd
  Body:List UInt8
  Meta:Meta
  Tags:List ByteArray
  Pins:Int
def XaJ(t:Tag)(a:X2):List AV :=[.s a.Key,.i .i64 a.Status,.sl t 2 (a.Headers.map (Xb t)),.sl t 1 (a.Body.map Xn),.i .i64 a.Meta.At,.i .i64 a.Meta.Age,.i .i64 a.Meta.Life,.i .i64 a.Meta.Swr,.i .i64 a.Meta.Sie,.b a.Meta.Soft,.b a.Meta.NoCache,.sl t 1 (a.Tags.map Xbi),.i .i64 a.Pins]
@[go_sem] def Xok(t:Tag)(a:X2):XaJ t a=[.s a.Key,.i .i64 a.Status,.sl t 2 (a.Headers.map (Xb t)),.sl t 1 (a.Body.map Xn),.i .i64 a.Meta.At,.i .i64 a.Meta.Age,.i .i64 a.Meta.Life,.i .i64 a.Meta.Swr,.i .i64 a.Meta.Sie,.b a.Meta.Soft,.b a.Meta.NoCache,.sl t 1 (a.Tags.map Xbi),.i .i64 a.Pins] :=nr rfl
@[go_sem] def XlS(t:Tag)(xs:List X2):XI (xs.map (XaJ t))=xs.map (XaJ .ro) :=Yk (λa => by simp only[XaJ,Yp,strip,ZS,YV,Xht]) xs
@[go_sem] def XnR(xs:List X2):XO (xs.map (XaJ .mut))=false :=YB (λa => by simp only[XaJ,XU,XF,Bool.or_self,Qp,Zc,Xjg]) xs
@[go_sem] def X2.eta(a:X2):X2.mk a.Key a.Status a.Headers a.Body a.Meta a.Tags a.Pins=a :=nr rfl
def X2.eqv(a b:X2):Vm.eqv a b=(Vm.eqv a.Key b.Key&&(Vm.eqv a.Status b.Status&&(Vm.eqv a.Headers b.Headers&&(Vm.eqv a.Body b.Body&&(Vm.eqv a.Meta b.Meta&&(Vm.eqv a.Tags b.Tags&&(Vm.eqv a.Pins b.Pins))))))) :=(QK (by simp only[Bool.and_eq_true,Za]; cases a; cases b; simp only[X2.mk.injEq,and_assoc])).symm
structure X8 where
  Code:Int
  Request:Request
def Yo(t:Tag)(a:X8):List AV :=[.i .i64 a.Code,.s a.Request.Method,.s a.Request.Host,.s a.Request.Path,.sl t 2 (a.Request.Headers.map (Xb t))]
@[go_sem] def Xgy(t:Tag)(a:X8):Yo t a=[.i .i64 a.Code,.s a.Request.Method,.s a.Request.Host,.s a.Request.Path,.sl t 2 (a.Request.Headers.map (Xb t))] :=nr rfl
@[go_sem] def XeY(t:Tag)(xs:List X8):XI (xs.map (Yo t))=xs.map (Yo .ro) :=Yk (λa => by simp only[Yo,Yp,strip,YV]) xs
@[go_sem] def Xf0(xs:List X8):XO (xs.map (Yo .mut))=false :=YB (λa => by simp only[Yo,XU,XF,Bool.or_self,Zc]) xs
@[go_sem] def X8.eta(a:X8):X8.mk a.Code a.Request=a :=nr rfl
def X8.eqv(a b:X8):Vm.eqv a b=(Vm.eqv a.Code b.Code&&(Vm.eqv a.Request b.Request)) :=(QK (by simp only[Bool.and_eq_true,Za]; cases a; cases b; simp only[X8.mk.injEq,and_assoc])).symm
structure Response where
  Status:Int
  Headers:List Xd
  Body:List UInt8
def Zn(t:Tag)(a:Response):List AV :=[.i .i64 a.Status,.sl t 2 (a.Headers.map (Xb t)),.sl t 1 (a.Body.map Xn)]
@[go_sem] def Xlm(t:Tag)(a:Response):Zn t a=[.i .i64 a.Status,.sl t 2 (a.Headers.map (Xb t)),.sl t 1 (a.Body.map Xn)] :=nr rfl
@[go_sem] def Xjh(t:Tag)(xs:List Response):XI (xs.map (Zn t))=xs.map (Zn .ro) :=Yk (λa => by simp only[Zn,Yp,strip,ZS,YV]) xs
@[go_sem] def Xju(xs:List Response):XO (xs.map (Zn .mut))=false :=YB (λa => by simp only[Zn,XU,XF,Bool.or_self,Qp,Zc]) xs
@[go_sem] def Response.eta(a:Response):Response.mk a.Status a.Headers a.Body=a :=nr rfl
def Response.eqv(a b:Response):Vm.eqv a b=(Vm.eqv a.Status b.Status&&(Vm.eqv a.Headers b.Headers&&(Vm.eqv a.Body b.Body))) :=(QK (by simp only[Bool.and_eq_true,Za]; cases a; cases b; simp only[Response.mk.injEq,and_assoc])).symm
def Xde(a:Response):Prop :=Xrk a.Status/\(smL Xg) a.Headers/\(smL XeT) a.Body
structure XT where
  Code:Int
  Response:Response
def X9(t:Tag)(a:XT):List AV :=[.i .i64 a.Code,.i .i64 a.Response.Status,.sl t 2 (a.Response.Headers.map (Xb t)),.sl t 1 (a.Response.Body.map Xn)]
@[go_sem] def Xf1(t:Tag)(a:XT):X9 t a=[.i .i64 a.Code,.i .i64 a.Response.Status,.sl t 2 (a.Response.Headers.map (Xb t)),.sl t 1 (a.Response.Body.map Xn)] :=nr rfl
@[go_sem] def XeW(t:Tag)(xs:List XT):XI (xs.map (X9 t))=xs.map (X9 .ro) :=Yk (λa => by simp only[X9,Yp,strip,ZS,YV]) xs
@[go_sem] def XeZ(xs:List XT):XO (xs.map (X9 .mut))=false :=YB (λa => by simp only[X9,XU,XF,Bool.or_self,Qp,Zc]) xs
@[go_sem] def XT.eta(a:XT):XT.mk a.Code a.Response=a :=nr rfl
def XT.eqv(a b:XT):Vm.eqv a b=(Vm.eqv a.Code b.Code&&(Vm.eqv a.Response b.Response)) :=(QK (by simp only[Bool.and_eq_true,Za]; cases a; cases b; simp only[XT.mk.injEq,and_assoc])).symm
structure Yx where
  Code:Int
  Text:ByteArray
def Zd(t:Tag)(a:Yx):List AV :=[.i .i64 a.Code,.s a.Text]
@[go_sem] def Xji(t:Tag)(a:Yx):Zd t a=[.i .i64 a.Code,.s a.Text] :=nr rfl
@[go_sem] def Xhu(t:Tag)(xs:List Yx):XI (xs.map (Zd t))=xs.map (Zd .ro) :=Yk (λa => by simp only[Zd,Yp,strip]) xs
@[go_sem] def Xhw(xs:List Yx):XO (xs.map (Zd .mut))=false :=YB (λa => by simp only[Zd,XU,XF,Bool.or_self]) xs
@[go_sem] def Yx.eta(a:Yx):Yx.mk a.Code a.Text=a :=nr rfl
def Yx.eqv(a b:Yx):Vm.eqv a b=(Vm.eqv a.Code b.Code&&(Vm.eqv a.Text b.Text)) :=(QK (by simp only[Bool.and_eq_true,Za]; cases a; cases b; simp only[Yx.mk.injEq,and_assoc])).symm
structure Event where
  Kind:Int
  Id:Int
  Draw:Int
  Request:Request
  Response:Response
  Text:ByteArray
  Hard:Bool
def Xdf(t:Tag)(a:Event):List AV :=[.i .i64 a.Kind,.i .i64 a.Id,.i .i64 a.Draw,.s a.Request.Method,.s a.Request.Host,.s a.Request.Path,.sl t 2 (a.Request.Headers.map (Xb t)),.i .i64 a.Response.Status,.sl t 2 (a.Response.Headers.map (Xb t)),.sl t 1 (a.Response.Body.map Xn),.s a.Text,.b a.Hard]
@[go_sem] def Xol(t:Tag)(a:Event):Xdf t a=[.i .i64 a.Kind,.i .i64 a.Id,.i .i64 a.Draw,.s a.Request.Method,.s a.Request.Host,.s a.Request.Path,.sl t 2 (a.Request.Headers.map (Xb t)),.i .i64 a.Response.Status,.sl t 2 (a.Response.Headers.map (Xb t)),.sl t 1 (a.Response.Body.map Xn),.s a.Text,.b a.Hard] :=nr rfl
@[go_sem] def XlT(t:Tag)(xs:List Event):XI (xs.map (Xdf t))=xs.map (Xdf .ro) :=Yk (λa => by simp only[Xdf,Yp,strip,ZS,YV]) xs
@[go_sem] def XnS(xs:List Event):XO (xs.map (Xdf .mut))=false :=YB (λa => by simp only[Xdf,XU,XF,Bool.or_self,Qp,Zc]) xs
@[go_sem] def Event.eta(a:Event):Event.mk a.Kind a.Id a.Draw a.Request a.Response a.Text a.Hard=a :=nr rfl
def Event.eqv(a b:Event):Vm.eqv a b=(Vm.eqv a.Kind b.Kind&&(Vm.eqv a.Id b.Id&&(Vm.eqv a.Draw b.Draw&&(Vm.eqv a.Request b.Request&&(Vm.eqv a.Response b.Response&&(Vm.eqv a.Text b.Text&&(Vm.eqv a.Hard b.Hard))))))) :=(QK (by simp only[Bool.and_eq_true,Za]; cases a; cases b; simp only[Event.mk.injEq,and_assoc])).symm
structure YD where
  Code:Int
  Event:Event
def Zy(t:Tag)(a:YD):List AV :=[.i .i64 a.Code,.i .i64 a.Event.Kind,.i .i64 a.Event.Id,.i .i64 a.Event.Draw,.s a.Event.Request.Method,.s a.Event.Request.Host,.s a.Event.Request.Path,.sl t 2 (a.Event.Request.Headers.map (Xb t)),.i .i64 a.Event.Response.Status,.sl t 2 (a.Event.Response.Headers.map (Xb t)),.sl t 1 (a.Event.Response.Body.map Xn),.s a.Event.Text,.b a.Event.Hard]
@[go_sem] def Xhx(t:Tag)(a:YD):Zy t a=[.i .i64 a.Code,.i .i64 a.Event.Kind,.i .i64 a.Event.Id,.i .i64 a.Event.Draw,.s a.Event.Request.Method,.s a.Event.Request.Host,.s a.Event.Request.Path,.sl t 2 (a.Event.Request.Headers.map (Xb t)),.i .i64 a.Event.Response.Status,.sl t 2 (a.Event.Response.Headers.map (Xb t)),.sl t 1 (a.Event.Response.Body.map Xn),.s a.Event.Text,.b a.Event.Hard] :=nr rfl
@[go_sem] def Xgz(t:Tag)(xs:List YD):XI (xs.map (Zy t))=xs.map (Zy .ro) :=Yk (λa => by simp only[Zy,Yp,strip,ZS,YV]) xs
@[go_sem] def Xhv(xs:List YD):XO (xs.map (Zy .mut))=false :=YB (λa => by simp only[Zy,XU,XF,Bool.or_self,Qp,Zc]) xs
@[go_sem] def YD.eta(a:YD):YD.mk a.Code a.Event=a :=nr rfl
def YD.eqv(a b:YD):Vm.eqv a b=(Vm.eqv a.Code b.Code&&(Vm.eqv a.Event b.Event)) :=(QK (by simp only[Bool.and_eq_true,Za]; cases a; cases b; simp only[YD.mk.injEq,and_assoc])).symm
structure Xcx where
  Code:List UInt8
  At:Int
def Xdg(t:Tag)(a:Xcx):List AV :=[.sl t 1 (a.Code.map Xn),.i .i64 a.At]
@[go_sem] def Xom(t:Tag)(a:Xcx):Xdg t a=[.sl t 1 (a.Code.map Xn),.i .i64 a.At] :=nr rfl
@[go_sem] def XlU(t:Tag)(xs:List Xcx):XI (xs.map (Xdg t))=xs.map (Xdg .ro) :=Yk (λa => by simp only[Xdg,Yp,strip,ZS]) xs
@[go_sem] def XnT(xs:List Xcx):XO (xs.map (Xdg .mut))=false :=YB (λa => by simp only[Xdg,XU,XF,Bool.or_self,Qp]) xs
@[go_sem] def Xcx.eta(a:Xcx):Xcx.mk a.Code a.At=a :=nr rfl
def Xcx.eqv(a b:Xcx):Vm.eqv a b=(Vm.eqv a.Code b.Code&&(Vm.eqv a.At b.At)) :=(QK (by simp only[Bool.and_eq_true,Za]; cases a; cases b; simp only[Xcx.mk.injEq,and_assoc])).symm
structure Zo where
  Code:Int
  Value:Int
def Qq(t:Tag)(a:Zo):List AV :=[.i .i64 a.Code,.i .i64 a.Value]
@[go_sem] def Xjv(t:Tag)(a:Zo):Qq t a=[.i .i64 a.Code,.i .i64 a.Value] :=nr rfl
@[go_sem] def Xhy(t:Tag)(xs:List Zo):XI (xs.map (Qq t))=xs.map (Qq .ro) :=Yk (λa => by simp only[Qq,Yp,strip]) xs
@[go_sem] def Xjj(xs:List Zo):XO (xs.map (Qq .mut))=false :=YB (λa => by simp only[Qq,XU,XF,Bool.or_self]) xs
@[go_sem] def Zo.eta(a:Zo):Zo.mk a.Code a.Value=a :=nr rfl
def Zo.eqv(a b:Zo):Vm.eqv a b=(Vm.eqv a.Code b.Code&&(Vm.eqv a.Value b.Value)) :=(QK (by simp only[Bool.and_eq_true,Za]; cases a; cases b; simp only[Zo.mk.injEq,and_assoc])).symm
end Go.Vm
set_option autoImplicit false
set_option maxRecDepth 100000
set_option maxHeartbeats 4000000
namespace Go.Vm
end Go.Vm
set_option autoImplicit false
set_option maxRecDepth 100000
set_option maxHeartbeats 4000000
namespace Go.Vm
end Go.Vm
