/- Functions of the program, walked by the evaluator. -/
import Derived.Test.YtebnbhjcfanddaaGreatDoorVf
import Derived.Test.YtebnbhjcfanddaaGreatDoorVe
import Derived.Laws.Strings
import Derived.ChangeShapes
import Derived.ChangeArms
import Derived.Deep.Slices
import Derived.RowKit
import Derived.Below
import Derived.Lib.Bytealg
import Derived.Laws.Externs
import Derived.WalkKit
import Derived.Lib.SlTrimSet
import Derived.Lib.LaidTab
import Derived.Lib.ItoaNum
import Derived.Lib.AppendIntMem
import Derived.Lib.Overlaps
import Derived.Laws.IdiomCopy
set_option linter.unusedVariables false
set_option linter.unusedSimpArgs false
set_option autoImplicit false
set_option linter.defProp false
namespace Go.Vm
def Xfx{cx:Cx}{n:Nat}:XdA {cx with rounds :=n}=XdA cx :=by
  funext ts xs as
  induction ts generalizing xs as with
  | nil => rfl
  | cons t ts ih => cases xs with
    | nil => rfl
    | cons x xs => cases as with
      | nil => rfl
      | cons a as => simp only[XdA,ih]; cases x<;>rfl
def Xck{cx:Cx}{n:Nat}:XX {cx with rounds :=n}=XX cx :=by
  funext st ms ts xs
  induction ms generalizing st ts xs with
  | nil => rfl
  | cons m ms ih => cases ts with
    | nil => rfl
    | cons t ts => cases xs with
      | nil => rfl
      | cons x xs => simp only[XX,ih]; rfl
def Xap{cx:Cx}{n:Nat}(st:St)(o:Oper):Xi {cx with rounds :=n} st o=Xi cx st o :=by
  have h:∀d c,Yx {cx with rounds :=n} st d c=Yx cx st d c :=λd c => by
    have h2:∀f ts xs,UN {cx with rounds :=n} st f ts xs=UN cx st f ts xs :=λf ts xs => by
      have h3:∀st,QU {cx with rounds :=n} st f ts xs=QU cx st f ts xs :=λst => by simp only[QU,Xfx]
      have h4:∀st g fs k m,Xcf {cx with rounds :=n} st g fs k m f ts xs=Xcf cx st g fs k m f ts xs :=λst g fs k m => by simp only[Xcf,h3]; rfl
      have h5:∀st g fs,Xbz {cx with rounds :=n} st g fs f ts xs=Xbz cx st g fs f ts xs :=λst g fs => by simp only[Xbz,h3,Xck]
      have h6:∀st g fs,XbA {cx with rounds :=n} st g fs f ts xs=XbA cx st g fs f ts xs :=λst g fs => by simp only[XbA,h4,h5]
      simp only[UN,h3,XbB,h6]
    simp only[Yx,h2]
  simp only[Xi,h]
  rfl
def Q8{cx:Cx}{n:Nat}(ops:List Oper)(st:St)(o:Oper):ZZ {cx with rounds :=n} ops st o=ZZ cx ops st o :=by simp only[ZZ,Xap]
def UP{cx:Cx}{n:Nat}{ops:List Oper}:∀(l:List Oper) (cs:List (Option (List Nat))) (st:St),XM {cx with rounds :=n} ops cs st l=XM cx ops cs st l
  | [],_,_ => rfl
  | o :: l,cs,st => by
    simp only[XM,Xap,UP l]
def Zv{cx:Cx}{id n:Nat}{ops:List Oper}:∀(p:Xca) (st:St),Yt {cx with rounds :=n} id ops p st=Yt cx id ops p st
  | .done,_ => rfl
  | .take i p,st => by
    simp only[Yt,Q8,Zv p]
  | .one i p,st => by
    have h2:∀o,Up {cx with rounds :=n} o=Up cx o :=λ_ => rfl
    have h3:∀s o,QI {cx with rounds :=n} s o=QI cx s o :=λ_ _ => rfl
    simp only[Yt,Q8,h2,h3,Zv p]
  | .alt i p q,st => by
    have h2:∀o,Up {cx with rounds :=n} o=Up cx o :=λ_ => rfl
    have h3:∀s o,QI {cx with rounds :=n} s o=QI cx s o :=λ_ _ => rfl
    simp only[Yt,Q8,h2,h3,Zv p,Zv q]
def Xeq{f g:St->Option (Ex×St)}(h:∀s r,f s=some r->g s=some r):∀(n m:Nat) (s:St) (r:Ex×St),n<=m->XkQ f n s=some r->XkQ g m s=some r
  | 0,_,_,_,_,hr => by cases hr
  | n+1,0,_,_,hm,_ => by omega
  | n+1,m+1,s,r,hm,hr => by
    simp only[XkQ] at hr ⊢
    cases hf:f s with
    | none => rw[hf] at hr; cases hr
    | some p =>
      obtain⟨e,s'⟩ :=p
      rw[hf] at hr
      rw[h s _ hf]
      cases e with
      | nor => exact Xeq h n m s' r (by omega) hr
      | _ => exact hr
def XbZ{cx:Cx}{n m:Nat}(hnm:n<=m):∀(c:Code) (blk:Nat) (st:St) (r:Ex×St),Xp {cx with rounds :=n} blk c st=some r->Xp {cx with rounds :=m} blk c st=some r :=by
  intro c
  induction c with
  | region id ops draw =>
    intro blk st r h
    simp only[Xp,UP,Zv] at h ⊢
    exact h
  | seq a b iha ihb =>
    intro blk st r h
    simp only[Xp] at h ⊢
    cases ha:Xp {cx with rounds :=n} blk a st with
    | none => rw[ha] at h; cases h
    | some p =>
      obtain⟨e,s⟩ :=p
      rw[ha] at h
      rw[iha blk st _ ha]
      cases e with
      | nor => exact ihb blk s r h
      | _ => exact h
  | cond c a b iha ihb =>
    intro blk st r h
    simp only[Xp] at h ⊢
    split at h
    · exact iha blk st r h
    · exact ihb blk st r h
    · cases h
  | block id c ih =>
    intro blk st r h
    simp only[Xp] at h ⊢
    cases hc:Xp {cx with rounds :=n} id c st with
    | none => rw[hc] at h; cases h
    | some p => rw[hc] at h; rw[ih id st _ hc]; exact h
  | loop c ih =>
    intro blk st r h
    simp only[Xp] at h ⊢
    exact Xeq (λs r hs => ih blk _ r hs) n m st r hnm h
  | _ => intro blk st r h; exact h
def XkA{cx:Cx}{n m:Nat}(hnm:n<=m):∀(c:Code) (K K':St->Option (Ex×St)) (_:∀s r,K s=some r->K' s=some r) (st:St) (r:Ex×St),evN {cx with rounds :=n} c K st=some r->evN {cx with rounds :=m} c K' st=some r :=by
  have other:∀(c:Code) (K K':St->Option (Ex×St)) (_:∀s r,K s=some r->K' s=some r) (st:St) (r:Ex×St),Xcu (Xp {cx with rounds :=n} 0 c st) K=some r->Xcu (Xp {cx with rounds :=m} 0 c st) K'=some r :=by
    intro c K K' hK st r h
    cases hc:Xp {cx with rounds :=n} 0 c st with
    | none => rw[hc] at h; cases h
    | some p =>
      rw[hc] at h
      rw[XbZ hnm c 0 st _ hc]
      obtain⟨e,s⟩ :=p
      cases e with
      | nor => exact hK s r h
      | _ => exact h
  intro c
  induction c with
  | skip => intro K K' hK st r h; exact hK st r h
  | seq a b iha ihb => intro K K' hK st r h; exact iha _ _ (λs r hs => ihb K K' hK s r hs) st r h
  | cond c a b iha ihb =>
    intro K K' hK st r h
    simp only[evN] at h ⊢
    split at h
    · exact iha K K' hK st r h
    · exact ihb K K' hK st r h
    · unfold XeT at h ⊢
      split at h
      · rename_i he
        have h1 :=iha K K' hK st r h
        have h2 :=ihb K K' hK st r (he▸h)
        rw[if_pos (h1.trans h2.symm)]
        exact h1
      · cases h
    · cases h
  | _ => intro K K' hK st r h; exact other _ K K' hK st r h
def Xb0{cx:Cx}{md:List Md}{f:Func}{as:List AV}{r:AV×List AV}{n m:Nat}(hnm:n<=m)(h:QK {cx with rounds :=n} md f as=some r):QK {cx with rounds :=m} md f as=some r :=by
  unfold QK at h ⊢
  cases hb:f.body with
  | none => rw[hb] at h; cases h
  | some c =>
    rw[hb] at h
    simp only at h ⊢
    have hB:∀r,evB {cx with rounds :=n} c (Uh md as)=some r->evB {cx with rounds :=m} c (Uh md as)=some r :=by
      intro r hr
      unfold evB at hr ⊢
      by_cases hz:cx.nz=true
      · rw[if_pos (show({cx with rounds :=n}:Cx).nz=true from hz)] at hr
        rw[if_pos (show({cx with rounds :=m}:Cx).nz=true from hz)]
        exact XkA hnm c _ _ (λ_ _ h => h) _ r hr
      · rw[if_neg (show ¬({cx with rounds :=n}:Cx).nz=true from hz)] at hr
        rw[if_neg (show ¬({cx with rounds :=m}:Cx).nz=true from hz)]
        exact XbZ hnm c 0 _ r hr
    cases hc:evB {cx with rounds :=n} c (Uh md as) with
    | none => rw[hc] at h; cases h
    | some p =>
      rw[hc] at h
      rw[hB _ hc]
      have hres:∀(l:List ResultVar) (st:St),Xbc {cx with rounds :=n} st l=Xbc {cx with rounds :=m} st l :=by
        intro l
        induction l with
        | nil => intro st; rfl
        | cons x l ih => intro st; cases x<;>simp only[Xbc,ih]
      have hfin:∀st,Z0 {cx with rounds :=n} md f.results.toList st=Z0 {cx with rounds :=m} md f.results.toList st :=λst => by simp only[Z0,Xpc,hres]
      obtain⟨e,s⟩ :=p
      cases e<;>simp only[hfin] at h ⊢<;>exact h
def Zl(wk:Bool)(r:AV)(os:List AV):Bool :=wk||(!XB r&&os.all λo => !XB o)
noncomputable def FR(cx:Cx)(md:List Md)(wk:Bool)(f:Func)(as:List AV):Option (AV×List AV) :=
  open Classical in if h : ∃ (r : AV × List AV) (n : Nat), QK { cx with rounds := n } md f as = some r /\ Zl wk r.1 r.2 = true then some h.choose else none
def XoH{cx:Cx}{md:List Md}{wk:Bool}{f:Func}{as:List AV}{r:AV×List AV}{n:Nat}(h:QK {cx with rounds :=n} md f as=some r)(hr:Zl wk r.1 r.2=true):FR cx md wk f as=some r :=by
  have hx:∃(r:AV×List AV) (n:Nat),QK {cx with rounds :=n} md f as=some r/\Zl wk r.1 r.2=true :=⟨r,n,h,hr⟩
  unfold FR
  rw[dif_pos hx]
  obtain⟨m,h1,h2⟩ :=hx.choose_spec
  have a1 :=Xb0 (Nat.le_max_left n m) h
  have a2 :=Xb0 (Nat.le_max_right n m) h1
  exact a2.symm.trans a1
def Xk7{cx:Cx}{md:List Md}{wk:Bool}{f:Func}{as:List AV}{r:AV×List AV}(h:FR cx md wk f as=some r):∃n,QK {cx with rounds :=n} md f as=some r/\Zl wk r.1 r.2=true :=by
  unfold FR at h
  split at h
  · rename_i hx
    obtain⟨m,h1,h2⟩ :=hx.choose_spec
    injection h with h
    rw[<-h]
    exact⟨m,h1,h2⟩
  · cases h
structure SP (P:Program) [HasTb P] where
  g:Nat
  fs:FS
  ok:Zk P g fs
def SP.F{P:Program}[HasTb P](s:SP P):List AV->Option (AV×List AV) :=s.fs.F
def XkB{P:Program}[HasTb P]:List (SP P)->Nat->Option FS
  | [],_ => none
  | s :: l,g => if g=s.g then some s.fs else XkB l g
@[go_sem] def Xpk{P:Program}[HasTb P](g:Nat):XkB ([]:List (SP P)) g=none :=nr rfl
@[go_sem] def XoI{P:Program}[HasTb P](s:SP P)(l:List (SP P))(g:Nat):XkB (s :: l) g=if g=s.g then some s.fs else XkB l g :=nr rfl
def XiH{P:Program}[HasTb P]:∀(l:List (SP P)) (g:Nat) (fs:FS),XkB l g=some fs->Zk P g fs
  | [],g,fs,h => by cases h
  | s :: l,g,fs,h => by
    simp only[XkB] at h
    split at h
    · rename_i hg
      injection h with h
      subst h hg
      exact s.ok
    · exact XiH l g fs h
def asc{α:Type}:List (Nat×α)->Nat->Option α
  | [],_ => none
  | (k,a) :: l,n => if n=k then some a else asc l n
@[go_sem] def Xp8{α:Type}(n:Nat):asc ([]:List (Nat×α)) n=none :=nr rfl
@[go_sem] def Xpl{α:Type}(k:Nat)(a:α)(l:List (Nat×α))(n:Nat):asc ((k,a) :: l) n=if n=k then some a else asc l n :=nr rfl
def XmH{α:Type}:List (Nat×List α)->Nat->List α
  | [],_ => []
  | (k,a) :: l,n => if n=k then a else XmH l n
@[go_sem] def Xpm{α:Type}(n:Nat):XmH ([]:List (Nat×List α)) n=[] :=nr rfl
@[go_sem] def XoJ{α:Type}(k:Nat)(a:List α)(l:List (Nat×List α))(n:Nat):XmH ((k,a) :: l) n=if n=k then a else XmH l n :=nr rfl
abbrev LV :=List (Nat×List Nat×List Nat)
structure FD where
  md:List Md
  wk:Bool :=false
  rg:LV :=[]
  lv:LV :=[]
  out:LV :=[]
  rets:Option (List Nat×List Nat) :=none
  al:List Nat :=[]
  plan:List (Nat×Xca) :=[]
  fz:List Nat :=[]
  nz:Bool :=false
  ws:List (Nat×List (Bool×Nat×Nat)) :=[]
structure XmI (P:Program) where
  T:TypeId->Option TI
  Q:TypeId->Option (List Nat)
  ok:∀cx:Cx,cx.T=T->cx.eqs=Q->XdS P cx
  wide:P.follows .mixedOrders=true
def Xnn{P:Program}[HasTb P](ty:XmI P)(tab:List (SP P))(d:FD)(n:Nat):Cx :=
  {T :=ty.T,fns :=XkB tab,cuts :=λ_ => [],rg :=asc d.rg,live :=asc d.lv,out :=asc d.out,rets :=d.rets,al :=d.al,plan :=asc d.plan,fz :=d.fz,eqs :=ty.Q,rounds :=n,nz :=d.nz,ws :=XmH d.ws}
def Xp9(md:List Md)(j:Nat):Bool :=match md[j]? with
  | some m => !Zm m
  | none => false
def ckS{P:Program}[HasTb P](ty:XmI P)(tab:List (SP P))(d:FD)(f:Func):Bool :=match f.body with
  | some c => (!(f.name == "runtime.NumGoroutine")) && YI (Xnn ty tab d 0) (Xp9 d.md) f.ntmps c && decide (d.md.length <= f.ntmps) && Xoq d.md
  | none => false
def XoK{P:Program}[HasTb P](ty:XmI P)(g:Nat)(f:Func)(tab:List (SP P))(d:FD)(hf:P.funcs[g]?=some f)(hk:ckS ty tab d f=true):Zk P g ⟨d.md,FR (Xnn ty tab d 0) d.md d.wk f,d.wk⟩ :=by
  unfold ckS at hk
  cases hb:f.body with
  | none => rw[hb] at hk; cases hk
  | some c =>
    rw[hb] at hk
    simp only[Bool.and_eq_true,Bool.not_eq_true',decide_eq_true_eq] at hk
    obtain⟨⟨⟨h1,h2⟩,h3⟩,h4⟩ :=hk
    refine XlH (cx :=Xnn ty tab d 0) (c :=c) ty.wide (ty.ok _ rfl rfl) (XiH tab) hf h1 hb (Xp9 d.md) (λj m hj hm => ?_) h2 h3 h4 (λas r os h _ _ => ?_) (λhw as r os h => ?_)
    · simp only[Xp9,hj,hm,Bool.not_false]
    · obtain⟨n,h5,_⟩ :=Xk7 h
      exact⟨n,h5⟩
    · obtain⟨n,_,h6⟩ :=Xk7 h
      have hw':d.wk=false :=hw
      simp only[Zl,hw',Bool.false_or,Bool.and_eq_true,Bool.not_eq_true',List.all_eq_true] at h6
      exact⟨h6.1,λo ho => by simpa using h6.2 o ho⟩
noncomputable def mkS{P:Program}[HasTb P](ty:XmI P)(g:Nat)(f:Func)(tab:List (SP P))(d:FD)(hf:P.funcs[g]?=some f)(hk:ckS ty tab d f=true):SP P :=⟨g,⟨d.md,FR (Xnn ty tab d 0) d.md d.wk f,d.wk⟩,XoK ty g f tab d hf hk⟩
def Xm{P:Program}[HasTb P]{ty:XmI P}{f:Func}{tab:List (SP P)}{d:FD}{as:List AV}{r:AV}{os:List AV}{c:Code}{rv:List ResultVar}(n:Nat)(hb:f.body=some c)(hr:f.results=rv.toArray)
    (h:∀cx:Cx,(cx.T=ty.T/\cx.fns=XkB tab/\cx.rg=asc d.rg/\cx.live=asc d.lv/\cx.out=asc d.out/\cx.rets=d.rets/\cx.al=d.al/\cx.plan=asc d.plan/\cx.fz=d.fz/\cx.eqs=ty.Q/\cx.rounds=n/\cx.ws=XmH d.ws/\∀k,cx.cuts k=[])->Xi0 cx d.md rv (Xp cx 0 c (Uh d.md as))=some (r,os)) (hw:Zl d.wk r os=true) (hz:d.nz=false :=by rfl):FR (Xnn ty tab d 0) d.md d.wk f as=some (r,os) :=by
  refine XoH (n :=n) ?_ hw
  rw[Xih _ _ f _ c rv hb hr hz]
  exact h _ ⟨rfl,rfl,rfl,rfl,rfl,rfl,rfl,rfl,rfl,rfl,rfl,rfl,λ_ => rfl⟩
def XmJ{P:Program}[HasTb P]{ty:XmI P}{f:Func}{tab:List (SP P)}{d:FD}{as:List AV}{r:AV}{os:List AV}{c:Code}{rv:List ResultVar}(n:Nat)(hb:f.body=some c)(hr:f.results=rv.toArray)
    (h:∀cx:Cx,(cx.T=ty.T/\cx.fns=XkB tab/\cx.rg=asc d.rg/\cx.live=asc d.lv/\cx.out=asc d.out/\cx.rets=d.rets/\cx.al=d.al/\cx.plan=asc d.plan/\cx.fz=d.fz/\cx.eqs=ty.Q/\cx.rounds=n/\cx.ws=XmH d.ws/\∀k,cx.cuts k=[])->Xi0 cx d.md rv (evN cx c (λs => some (.nor,s)) (Uh d.md as))=some (r,os)) (hw:Zl d.wk r os=true) (hz:d.nz=true :=by rfl):FR (Xnn ty tab d 0) d.md d.wk f as=some (r,os) :=by
  refine XoH (n :=n) ?_ hw
  rw[XgL _ _ f _ c rv hb hr hz]
  exact h _ ⟨rfl,rfl,rfl,rfl,rfl,rfl,rfl,rfl,rfl,rfl,rfl,rfl,λ_ => rfl⟩
def Ux:Code->List Code
  | .loop c => c :: Ux c
  | .seq a b => Ux a++Ux b
  | .cond _ a b => Ux a++Ux b
  | .block _ c => Ux c
  | _ => []
def Za(f:Func)(i:Nat):Code :=match f.body with
  | some b => ((Ux b)[i]?).getD .skip
  | none => .skip
def XG(f:Func)(i:Nat)(b c:Code)(hb:f.body=some b)(hl:(Ux b)[i]?=some c):Za f i=c :=by simp only[Za,hb,hl,Option.getD_some]
def Xdn{σ:Type}{cx:Cx}{blk:Nat}{body:Code}(S:σ->St)(I:σ->Prop)(μ:σ->Nat)(Q:σ->Option (Ex×St)->Prop)
    (h:∀s,I s->(∀G,Q s (XbV (Xp cx blk body (S s)) G))\/∃st' s',keep (cx.live blk) st'=S s'/\I s'/\μ s'<μ s/\(∀r,Q s' r->Q s r)/\∀G,XbV (Xp cx blk body (S s)) G=G st') :
    ∀(N:Nat) (s:σ),I s->μ s<N->∀st,keep (cx.live blk) st=S s->Q s (Xbe cx blk body N st) :=by
  intro N
  induction N with
  | zero => intro s hI hN; omega
  | succ N ih =>
    intro s hI hN st hst
    rw[XaO,hst]
    rcases h s hI with h1 | ⟨st',s',h1,h2,h3,h4,h5⟩
    · exact h1 _
    · rw[h5]
      exact h4 _ (ih s' h2 (by omega) st' h1)
def UQ{α σ:Type}(c:α->σ->Bool)(g:α->σ->σ):List α->σ->σ⊕(α×σ)
  | [],s => .inl s
  | x :: xs,s => if c x s=true then .inr (x,s) else UQ c g xs (g x s)
def Y2{α σ:Type}(c:α->σ->Bool)(g:α->σ->σ)(x:α)(xs:List α)(s:σ):UQ c g (x :: xs) s=if c x s=true then .inr (x,s) else UQ c g xs (g x s) :=rfl
def Xer{α σ:Type}(g:α->σ->σ):∀(xs:List α) (s:σ),UQ (λ_ _ => false) g xs s=.inl (xs.foldl (λs x => g x s) s)
  | [],s => rfl
  | x :: xs,s => by simp only[UQ,Bool.false_eq_true,if_false,List.foldl_cons]; exact Xer g xs _
def Qo{α σ:Type}{cx:Cx}{blk:Nat}{body:Code}(xs:List α)(S:Nat->σ->St)(X:σ->St)(c:α->σ->Bool)(g:α->σ->σ)(R:α->σ->Ex×St)(I:Nat->σ->Prop)
    (hend:∀s,I xs.length s->∀G,XbV (Xp cx blk body (S xs.length s)) G=some (.ex blk,X s))
    (hstep:∀k (hk:k<xs.length) s,I k s->(c xs[k] s=true/\∀G,XbV (Xp cx blk body (S k s)) G=some (R xs[k] s))\/(c xs[k] s=false/\I (k+1) (g xs[k] s)/\∃st',(∀G,XbV (Xp cx blk body (S k s)) G=G st')/\keep (cx.live blk) st'=S (k+1) (g xs[k] s)))
    (s:σ) (hI:I 0 s) (N:Nat) (hN:xs.length+1<=N) :
    ∃r,(∀st,keep (cx.live blk) st=S 0 s->Xbe cx blk body N st=r)/\((∃s',UQ c g xs s=.inl s'/\I xs.length s'/\r=some (.ex blk,X s'))\/∃x s',UQ c g xs s=.inr (x,s')/\r=some (R x s')) :=by
  obtain⟨M,rfl⟩:∃M,N=M+1 :=⟨N-1,by omega⟩
  have key:∀(k:Nat) (s:σ) (M:Nat),k<=xs.length->I k s->xs.length-k<=M->(∃s',UQ c g (xs.drop k) s=.inl s'/\I xs.length s'/\XbV (Xp cx blk body (S k s)) (λs => Xbe cx blk body M s)=some (.ex blk,X s'))\/∃x s',UQ c g (xs.drop k) s=.inr (x,s')/\XbV (Xp cx blk body (S k s)) (λs => Xbe cx blk body M s)=some (R x s') :=by
    intro k s M
    induction M generalizing k s with
    | zero =>
      intro hk hI hM
      obtain rfl:k=xs.length :=by omega
      exact .inl ⟨s,by rw[List.drop_length]; rfl,hI,hend s hI _⟩
    | succ M ih =>
      intro hk hI hM
      by_cases he:k=xs.length
      · subst he
        exact .inl ⟨s,by rw[List.drop_length]; rfl,hI,hend s hI _⟩
      · have hlt:k<xs.length :=by omega
        rcases hstep k hlt s hI with⟨h1,h2⟩ | ⟨h1,h2,st',h4,h3⟩
        · exact .inr ⟨xs[k],s,by rw[List.drop_eq_getElem_cons hlt,Y2,if_pos h1],h2 _⟩
        · rw[h4,XaO,h3,List.drop_eq_getElem_cons hlt,Y2,if_neg (by simp[h1])]
          exact ih (k+1) _ (by omega) h2 (by omega)
  exact⟨_,λst hst => by rw[XaO,hst],key 0 s M (Nat.zero_le _) hI (by omega)⟩
def YB{α σ:Type}{cx:Cx}{blk:Nat}{body:Code}(xs:List α)(S:Nat->σ->St)(X:σ->St)(g:α->σ->σ)(I:Nat->σ->Prop)
    (hend:∀s,I xs.length s->∀G,XbV (Xp cx blk body (S xs.length s)) G=some (.ex blk,X s))
    (hstep:∀k (hk:k<xs.length) s,I k s->I (k+1) (g xs[k] s)/\∃st',(∀G,XbV (Xp cx blk body (S k s)) G=G st')/\keep (cx.live blk) st'=S (k+1) (g xs[k] s))
    (s:σ) (hI:I 0 s) (N:Nat) (hN:xs.length+1<=N) :
    I xs.length (xs.foldl (λs x => g x s) s)/\∀st,keep (cx.live blk) st=S 0 s->Xbe cx blk body N st=some (.ex blk,X (xs.foldl (λs x => g x s) s)) :=by
  obtain⟨r,h1,h⟩ :=Qo (cx :=cx) (blk :=blk) (body :=body) xs S X (λ_ _ => false) g (λ_ s => (.ret,X s)) I hend (λk hk s hI => .inr ⟨rfl,hstep k hk s hI⟩) s hI N hN
  rw[Xer] at h
  rcases h with⟨s',h2,h3,h4⟩ | ⟨x,s',h2,h3⟩
  · injection h2 with h2
    subst h2
    exact⟨h3,λst hst => by rw[h1 st hst,h4]⟩
  · cases h2
def Y3{α σ:Type}{cx:Cx}{blk:Nat}{body:Code}(xs:List α)(S:Nat->σ->St)(X:σ->St)(c:α->σ->Bool)(g:α->σ->σ)(R:α->σ->Ex×St)(I:Nat->σ->Prop)
    (hend:∀s,I xs.length s->∀G,XbV (Xp cx blk body (S xs.length s)) G=some (.ex blk,X s))
    (hstep:∀k (hk:k<xs.length) s,I k s->∃(C:Prop) (_:Decidable C) (st':St),(∀G,XbV (Xp cx blk body (S k s)) G=if C then some (R xs[k] s) else G st')/\(C↔c xs[k] s=true)/\(c xs[k] s=false->I (k+1) (g xs[k] s)/\keep (cx.live blk) st'=S (k+1) (g xs[k] s)))
    (s:σ) (hI:I 0 s) (N:Nat) (hN:xs.length+1<=N) :
    ∃r,(∀st,keep (cx.live blk) st=S 0 s->Xbe cx blk body N st=r)/\((∃s',UQ c g xs s=.inl s'/\I xs.length s'/\r=some (.ex blk,X s'))\/∃x s',UQ c g xs s=.inr (x,s')/\r=some (R x s')) :=by
  refine Qo xs S X c g R I hend (λk hk s hI => ?_) s hI N hN
  obtain⟨C,_,st',h1,h2,h3⟩ :=hstep k hk s hI
  cases hc:c xs[k] s with
  | true => exact .inl ⟨rfl,λG => (h1 G).trans (if_pos (h2.2 hc))⟩
  | false =>
    obtain⟨h4,h5⟩ :=h3 hc
    exact .inr ⟨rfl,h4,st',λG => (h1 G).trans (if_neg (λhC => by rw[h2.1 hC] at hc; cases hc)),h5⟩
def runS_any{α:Type}{p:α->Bool}:∀{xs:List α} {u u':Unit},UQ (λx _ => p x) (λ_ _ => ()) xs u=.inl u'->xs.any p=false
  | [],_,_,_ => rfl
  | x :: xs,u,u',h => by
    rw[Y2] at h
    split at h
    · cases h
    · rename_i hc
      rw[List.any_cons,runS_any h]
      simpa using hc
def XdC{α:Type}(p:α->Bool):List α->Nat->Int
  | [],_ => -1
  | x :: xs,k => if p x=true then(k:Int) else XdC p xs (k+1)
def Xga{α:Type}{p:α->Bool}:∀{xs:List α} {k k':Nat},UQ (λx _ => p x) (λ_ k => k+1) xs k=.inl k'->XdC p xs k =-1
  | [],_,_,_ => rfl
  | x :: xs,k,k',h => by
    rw[Y2] at h
    split at h
    · cases h
    · rename_i hc
      rw[XdC,if_neg hc,Xga h]
def Xes{α:Type}{p:α->Bool}:∀{xs:List α} {k:Nat} {q:α×Nat},UQ (λx _ => p x) (λ_ k => k+1) xs k=.inr q->XdC p xs k=(q.2:Int)
  | [],_,_,h => by cases h
  | x :: xs,k,q,h => by
    rw[Y2] at h
    split at h
    · rename_i hc
      injection h with h
      subst h
      rw[XdC,if_pos hc]
    · rename_i hc
      rw[XdC,if_neg hc,Xes h]
end Go.Vm
set_option autoImplicit false
namespace Go.Vm
@[go_sem] def XC4:((0:Nat):Int)=0 :=nr rfl
@[go_sem] def XC5:((1:Nat):Int)=1 :=nr rfl
@[go_sem] def Xno:Xgn .nilFunc=.u :=nr rfl
def Yl{k:Int}(h0:-9223372036854775808<=k)(h:k<=9223372036854775807):(IntKind.i64).wrap k=k :=by
  simp[IntKind.wrap,IntKind.bits,IntKind.signed]
  omega
def Xz{k:Nat}(h:k<9223372036854775807):(IntKind.i64).wrap ((k:Int)+1)=((k+1:Nat):Int) :=by
  rw[Yl (by omega) (by omega)]; rfl
def X0(n k:Nat)(h:k<n):Zj n (k:Int)=some k :=by
  simp only[Zj]
  rw[if_pos ⟨by omega,by omega⟩]; rfl
def YJ{α:Type}(f:α->List AV)(xs:List α)(k:Nat)(h:k<xs.length):(xs.map f).getD k []=f xs[k] :=by simp[List.getD,h]
@[go_sem] def XoL{α:Type}(f:α->List AV)(xs:List α):(xs.map f).take xs.length=xs.map f :=by
  have :=List.take_length (l :=xs.map f)
  rwa [List.length_map] at this
noncomputable def eqv{α:Type}(a b:α):Bool :=open Classical in decide (a=b)
def YS{α:Type}{a b:α}:eqv a b=true↔a=b :=by simp[eqv]
def Xaq{α:Type}(a:α):eqv a a=true :=by simp[eqv]
def Z1{α:Type}{p:Bool}{a b:α}(h:p=true↔a=b):p=eqv a b :=by
  cases p with
  | true => exact(YS.2 (h.1 rfl)).symm
  | false =>
    cases he:eqv a b with
    | false => rfl
    | true => exact absurd (h.2 (YS.1 he)) (by simp)
def XmK(a b:Int):(a==b)=eqv a b :=Z1 (by simp)
def Xar(a b:Int):(a !=b)=!eqv a b :=by rw[bne,XmK]
def XkC(a b:Bool):(a==b)=eqv a b :=Z1 (by simp)
def Xgb(a b:UInt8):((a.toNat:Int) !=(b.toNat:Int))=!eqv a b :=by
  rw[bne,Z1 (p :=((a.toNat:Int)==(b.toNat:Int))) (a :=a) (b :=b)]
  simp only[beq_iff_eq,Int.ofNat_inj]
  exact UInt8.toNat_inj
def XoM{a b:ByteArray}(h:a.toList=b.toList):a=b :=by
  rw[ByteArray.toList_eq,ByteArray.toList_eq] at h
  cases a; cases b
  simp only[ByteArray.mk.injEq] at h ⊢
  exact Array.ext' h
def ZP(a b:ByteArray):(a.toList==b.toList)=eqv a b :=Z1 (by
  constructor
  · intro h; exact XoM (by simpa using h)
  · rintro rfl; simp)
def XcP:∀xs:List UInt8,Xaz (xs.map λb => [.i .u8 b.toNat])=some xs
  | [] => rfl
  | x :: xs => by
    simp only[List.map_cons,Xaz,XcP xs,Int.toNat_natCast,UInt8.ofNat_toNat]
@[go_sem] def Xpn(o:Oper)(a b:List Oper):QW (List.append (o :: a) b) 0=some o :=nr rfl
@[go_sem] def Xpo(o:Oper)(a b:List Oper)(n:Nat):QW (List.append (o :: a) b) (n+1)=QW (List.append a b) n :=nr rfl
@[go_sem] def Xpp(b:List Oper)(n:Nat):QW (List.append [] b) n=QW b n :=nr rfl
@[go_sem] def Xpq(o:Oper)(a b:List Oper):QJ (List.append (o :: a) b) 0=o.dst :=nr rfl
@[go_sem] def Xpr(o:Oper)(a b:List Oper)(n:Nat):QJ (List.append (o :: a) b) (n+1)=QJ (List.append a b) n :=nr rfl
@[go_sem] def Xps(b:List Oper)(n:Nat):QJ (List.append [] b) n=QJ b n :=nr rfl
@[go_sem] def Xnp(cx:Cx)(ops:List Oper)(cs:List (Option (List Nat)))(st:St)(o:Oper)(a b:List Oper):XM cx ops cs st (List.append (o :: a) b)=XM cx ops cs st (o :: List.append a b) :=nr rfl
@[go_sem] def Xnq(cx:Cx)(ops:List Oper)(cs:List (Option (List Nat)))(st:St)(b:List Oper):XM cx ops cs st (List.append [] b)=XM cx ops cs st b :=nr rfl
def XkD{α:Type}(p:α->Prop)(xs:List α):Prop :=∀x∈xs,p x
@[go_sem] def Xqa{α β γ:Type}(f:β->γ)(g:α->β)(xs:List α):List.take xs.length ((xs.map g).map f)=(xs.map g).map f :=List.take_of_length_le (by simp)
end Go.Vm
set_option autoImplicit false
namespace Go.Vm
open Go.ChangeShapes Go.WideShapes
inductive Sh
  | b | i (k:IntKind) | s | sl (r:List Sh)
def Xpt(g:TypeId->Option (List Sh))(P:Program):List Field->Nat->Option (List Sh)
  | [],_ => some []
  | f :: r,off => match g f.type with
    | some q => if f.offset=off/\P.cellsOf f.type=q.length then(match Xpt g P r (off+q.length) with
      | some l => some (q++l)
      | none => none) else none
    | none => none
def Xk8(P:Program):Nat->TypeId->Option (List Sh)
  | 0,_ => none
  | n+1,t => match P.underlying t with
    | some .bool => some [.b]
    | some (.int k) => some [.i k]
    | some .string => some [.s]
    | some (.slice e) => match Xk8 P n e with
      | some (x :: r) => if P.cellsOf e=(x :: r).length then some [.sl (x :: r)] else none
      | _ => none
    | some (.struct fs) => match Xpt (Xk8 P n) P fs.toList 0 with
      | some l => if P.cellsOf t=l.length then some l else none
      | none => none
    | _ => none
inductive Xdo:Sh->AV->Prop
  | b {x:Bool}:Xdo .b (.b x)
  | i {k:IntKind} {n:Int} (h:(Lit.int k n).wf=true):Xdo (.i k) (.i k n)
  | s {x:ByteArray} (h:x.size<=maxLen):Xdo .s (.s x)
  | sl {r:List Sh} {es:List (List AV)} (hl:es.length<=maxLen) (hz:∀row∈es,row.length=r.length) (h:∀row∈es,∀(j:Nat) (sh:Sh) (a:AV),r[j]?=some sh->row[j]?=some a->Xdo sh a):Xdo (.sl r) (.sl .ro r.length es)
def XaP(r:List Sh)(row:List AV):Prop :=row.length=r.length/\∀(j:Nat) (sh:Sh) (a:AV),r[j]?=some sh->row[j]?=some a->Xdo sh a
def Xhc(w:World):CS :=λg k => ∃v,Xr w g k=some v
def XmL{w:World}{g k:Nat}(h:Xhc w g k):g<w.heap.size :=by
  obtain⟨v,hv⟩ :=h
  exact World.block_lt_of_cell? w ⟨g,k,none⟩ hv
def Xas(w:World)(shs:List Sh)(cs:List Value)(as:List AV):Prop :=cs.length=shs.length/\XaP shs as/\∀(j:Nat) (v:Value) (a:AV),cs[j]?=some v->as[j]?=some a->Rep w (Xhc w) v a nos
def Xas.one{w:World}{sh:Sh}{v:Value}{a:AV}(h:Xdo sh a)(hr:Rep w (Xhc w) v a nos):Xas w [sh] [v] [a] :=by
  refine⟨rfl,⟨rfl,λj q b hs hb => ?_⟩,λj u b hu hb => ?_⟩
  · rcases j with _ | j
    · simp only[List.getElem?_cons_zero,Option.some.injEq] at hs hb; subst hs hb; exact h
    · simp at hs
  · rcases j with _ | j
    · simp only[List.getElem?_cons_zero,Option.some.injEq] at hu hb; subst hu hb; exact hr
    · simp at hu
def Xba{α:Type}{l r:List α}{j:Nat}{x:α}(h:(l++r)[j]?=some x):l[j]?=some x\/(l.length<=j/\r[j-l.length]?=some x) :=by
  by_cases hj:j<l.length
  · rw[List.getElem?_append_left hj] at h; exact .inl h
  · rw[List.getElem?_append_right (by omega)] at h; exact .inr ⟨by omega,h⟩
def Xas.app{w:World}{s1 s2:List Sh}{c1 c2:List Value}{a1 a2:List AV}(h1:Xas w s1 c1 a1)(h2:Xas w s2 c2 a2):Xas w (s1++s2) (c1++c2) (a1++a2) :=by
  obtain⟨l1,⟨m1,p1⟩,q1⟩ :=h1
  obtain⟨l2,⟨m2,p2⟩,q2⟩ :=h2
  refine⟨by simp[l1,l2],⟨by simp[m1,m2],λj q a hs ha => ?_⟩,λj v a hv ha => ?_⟩
  · rcases Xba hs with hs | ⟨h0,hs⟩
    · have hlt :=(List.getElem?_eq_some_iff.1 hs).1
      rw[List.getElem?_append_left (by omega)] at ha
      exact p1 j q a hs ha
    · rw[List.getElem?_append_right (by omega),m1] at ha
      exact p2 _ q a hs ha
  · rcases Xba hv with hv | ⟨h0,hv⟩
    · have hlt :=(List.getElem?_eq_some_iff.1 hv).1
      rw[List.getElem?_append_left (by omega)] at ha
      exact q1 j v a hv ha
    · rw[List.getElem?_append_right (by omega),m1,<-l1] at ha
      exact q2 _ v a hv ha
def XoN{a:Addr}(h:a.spot=none)(n:Nat):a.add n=⟨a.block,a.off+n,none⟩ :=by
  unfold Addr.add
  split
  · rename_i h0; subst h0; cases a; simp only at h; subst h; rfl
  · cases a; rfl
section
variable {H : Type} {enc : TypeId × Value -> H} {P : Program} {w : World}
def XcQ(n:Nat):∀{fuel:Nat} {t:TypeId} {cs:List Value} {x:DataW H×List MemPlace} {shs:List Sh},DataW.trod enc P w 0 (λ_ => true) true fuel t cs=some x->Xk8 P n t=some shs->∃as,Xas w shs cs as :=by
  induction n with
  | zero => intro fuel t cs x shs _ h; cases h
  | succ n ih =>
    intro fuel t cs x shs ht hs
    unfold Xk8 at hs
    split at hs
    · rename_i hu
      injection hs with hs; subst hs
      obtain⟨b,rfl,_⟩ :=DataW.trod_bool hu ht
      exact⟨_,Xas.one .b .b⟩
    · rename_i k hu
      injection hs with hs; subst hs
      obtain⟨m,rfl,_,hwf⟩ :=DataW.trod_int hu ht
      exact⟨_,Xas.one (.i hwf) .i⟩
    · rename_i hu
      injection hs with hs; subst hs
      obtain⟨s,rfl,_,hsz⟩ :=DataW.trod_string hu ht
      exact⟨_,Xas.one (.s hsz) .s⟩
    · rename_i e hu
      split at hs
      · rename_i x0 r hr
        split at hs
        · rename_i hce
          injection hs with hs; subst hs
          rcases Go.Deep.open_slice hu ht with⟨rfl,_⟩ | ⟨a,len,cap,m,n',D,Pl,rfl,_,hl,hm,hmm,_,hi⟩
          · refine⟨_,Xas.one (.sl (es :=[]) (Nat.zero_le _) (λ_ h => by cases h) (λ_ h => by cases h)) ?_⟩
            exact .sl 0 0 (λ_ _ => undef) (λ_ _ => nos) rfl (Nat.le_refl _) (by simp) (λh => absurd h (by omega)) (λi row hi => by simp at hi) (λi row j a hi => by simp at hi) (λi row j a hi => by simp at hi)
              ⟨(λe => by cases e),(λe => by cases e),(λe => absurd rfl e),λ_ k hk => absurd hk (by simp)⟩ (λ_ _ => Xq _) (λ_ _ _ _ _ => Xe _) (λe => by cases e) (λ_ _ _ => rfl)
          · simp only[if_true] at hmm
            subst hmm
            generalize hzz:(x0 :: r).length=z at hce
            have hz0:0<z :=by rw[<-hzz]; simp
            rw[hce] at hi
            have hsp:0<m->a.spot=none :=by
              intro h0
              obtain⟨cs',h1,_⟩ :=hi 0 h0
              obtain⟨_,h3,h4⟩ :=World.cells?_some h1
              have :=h4 0 hz0
              rw[List.getElem?_eq_getElem (by omega),Nat.zero_mul] at this
              unfold World.cell? at this
              simp only[Addr.add,if_true] at this
              split at this
              · cases hs:a.spot with
                | none => rfl
                | some q => rw[hs] at this; simp at this
              · cases this
            have hrow:∀i,i<len->∃p:List Value×List AV,(∀j,j<z->Xr w a.block (a.off+(i*z+j))=p.1[j]?)/\Xas w (x0 :: r) p.1 p.2 :=by
              intro i hil
              obtain⟨cs',h1,h2⟩ :=hi i (by omega)
              obtain⟨as,h3⟩ :=ih h2 hr
              obtain⟨_,_,h6⟩ :=World.cells?_some h1
              refine⟨(cs',as),λj hj => ?_,h3⟩
              have :=h6 j hj
              rw[Go.Deep.add_add,XoN (hsp (by omega))] at this
              exact this
            obtain⟨f,hf⟩ :=Go.Deep.choose_lt hrow
            let es:List (List AV) :=(List.range len).map λi => (f i).2
            have hes:∀(i:Nat) (row:List AV),es[i]?=some row->i<len/\row=(f i).2 :=by
              intro i row h
              have hlt:i<len :=Decidable.byContradiction λhn => by
                rw[List.getElem?_eq_none (by simp only[es,List.length_map,List.length_range]; omega)] at h
                cases h
              simp only[es,List.getElem?_map,List.getElem?_range hlt,Option.map_some,Option.some.injEq] at h
              exact⟨hlt,h.symm⟩
            have hmem:∀row∈es,∃i,i<len/\row=(f i).2 :=by
              intro row h
              obtain⟨i,h⟩ :=List.getElem?_of_mem h
              exact⟨i,hes i row h⟩
            have hcell:∀i j,i<len->j<z->Xr w a.block (a.off+(i*z+j))=some ((f i).1.getD j undef) :=by
              intro i j h1 h2
              obtain⟨q1,q2,_⟩ :=hf i h1
              rw[q1 j h2,List.getD_eq_getElem?_getD,List.getElem?_eq_getElem (by rw[q2,hzz]; exact h2)]
              rfl
            refine⟨_,Xas.one (.sl (es :=es) (by simp only[es,List.length_map,List.length_range]; omega) (λrow h => ?_) (λrow h => ?_)) ?_⟩
            · obtain⟨i,h1,rfl⟩ :=hmem row h
              exact(hf i h1).2.2.1.1
            · obtain⟨i,h1,rfl⟩ :=hmem row h
              exact(hf i h1).2.2.1.2
            · rw[hzz]
              have hM:maxLen=9223372036854775807 :=rfl
              refine .sl a.block a.off (λi j => (f i).1.getD j undef) (λ_ _ => nos) (by simp[es]) hl (by omega) (λh0 => ?_) (λi row h => ?_) (λi row j b h hj => ?_) (λi row j b h hj => ?_)
                ⟨(λe => by cases e),(λe => by cases e),(λe => absurd rfl e),λ_ k hk => ?_⟩ (λ_ _ => Xq _) (λ_ _ _ _ _ => Xe _) (λe => by cases e) (λ_ _ _ => rfl)
              · have :=hsp h0
                cases a; simp only at this; subst this; rfl
              · obtain⟨h1,rfl⟩ :=hes i row h
                rw[<-hzz]; exact(hf i h1).2.2.1.1
              · obtain⟨h1,rfl⟩ :=hes i row h
                have hlt :=(List.getElem?_eq_some_iff.1 hj).1
                rw[(hf i h1).2.2.1.1,hzz] at hlt
                exact hcell i j h1 hlt
              · obtain⟨h1,rfl⟩ :=hes i row h
                have hlt :=(List.getElem?_eq_some_iff.1 hj).1
                obtain⟨_,q2,q3,q4⟩ :=hf i h1
                rw[q3.1] at hlt
                refine q4 j _ b ?_ hj
                rw[List.getD_eq_getElem?_getD,List.getElem?_eq_getElem (by rw[q2]; exact hlt)]
                rfl
              · have h1:k / z<len :=by rw[Nat.div_lt_iff_lt_mul hz0]; exact hk
                have h2:k%z<z :=Nat.mod_lt _ hz0
                have :=hcell (k / z) (k%z) h1 h2
                rw[Nat.mul_comm,Nat.div_add_mod] at this
                exact⟨_,this⟩
        · cases hs
      · cases hs
    · rename_i fs hu
      obtain⟨xs,n',rfl,_,hlen,hxl,hi⟩ :=DataW.trod_struct hu ht
      split at hs
      · rename_i l hl
        split at hs
        · rename_i hcl
          injection hs with hs; subst hs
          have key:∀(fl:List Field) (off:Nat) (l:List Sh),Xpt (Xk8 P n) P fl off=some l->(∀f∈fl,∃y,DataW.trod enc P w 0 (λ_ => true) true n' f.type ((cs.drop f.offset).take (P.cellsOf f.type))=some y)->∃as,Xas w l ((cs.drop off).take l.length) as :=by
            intro fl
            induction fl with
            | nil =>
              intro off l h _
              injection h with h; subst h
              exact⟨[],by simp,⟨rfl,λj q a h => by simp at h⟩,λj v a h => by simp at h⟩
            | cons f fl ihf =>
              intro off l h hy
              unfold Xpt at h
              split at h
              · rename_i s hfs
                split at h
                · rename_i hc
                  obtain⟨rfl,hc2⟩ :=hc
                  split at h
                  · rename_i l' hl'
                    injection h with h; subst h
                    obtain⟨y,hyy⟩ :=hy f (by simp)
                    obtain⟨a1,h1⟩ :=ih hyy hfs
                    obtain⟨a2,h2⟩ :=ihf _ _ hl' (λg hg => hy g (by simp[hg]))
                    refine⟨a1++a2,?_⟩
                    have e:(cs.drop f.offset).take (s++l').length=(cs.drop f.offset).take (P.cellsOf f.type)++(cs.drop (f.offset+s.length)).take l'.length :=by
                      rw[List.length_append,List.take_add,List.drop_drop,hc2]
                    rw[e]
                    exact h1.app h2
                  · cases h
                · cases h
              · cases h
          obtain⟨as,h⟩ :=key fs.toList 0 l hl (λf hf => by
            obtain⟨i,hi'⟩ :=List.getElem?_of_mem hf
            have hi2:fs[i]?=some f :=by simpa using hi'
            have :=hi i f hi2
            have hlt:i<fs.size :=(Array.getElem?_eq_some_iff.1 hi2).1
            rw[List.getElem?_eq_getElem (by omega)] at this
            exact⟨_,this⟩)
          rw[List.drop_zero,List.take_of_length_le (by omega)] at h
          exact⟨as,h⟩
        · cases hs
      · cases hs
    · cases hs
end
def XaP.cons{sh:Sh}{r:List Sh}{row:List AV}(h:XaP (sh :: r) row):∃a row',row=a :: row'/\Xdo sh a/\XaP r row' :=by
  obtain⟨h1,h2⟩ :=h
  cases row with
  | nil => simp at h1
  | cons a row => exact⟨a,row,rfl,h2 0 sh a rfl rfl,by simpa using h1,λj q b hs hb => h2 (j+1) q b (by simpa using hs) (by simpa using hb)⟩
def XaP.nil{row:List AV}(h:XaP [] row):row=[] :=List.length_eq_zero_iff.1 h.1
def Xdo.bool{a:AV}(h:Xdo .b a):∃x:Bool,a=.b x/\True :=by cases h; exact⟨_,rfl,trivial⟩
def Xdo.int{a:AV}(h:Xdo (.i .i64) a):∃x:Int,a=.i .i64 x/\(-9223372036854775808<=x/\x<=9223372036854775807) :=by
  cases h with
  | i h =>
    refine⟨_,rfl,?_⟩
    simp only[Lit.wf,Bool.and_eq_true,decide_eq_true_eq,IntKind.min,IntKind.max,IntKind.signed,IntKind.bits] at h
    simpa using h
def Xdo.byte{a:AV}(h:Xdo (.i .u8) a):∃x:UInt8,a=.i .u8 x.toNat/\True :=by
  cases h with
  | @i _ n h =>
    simp only[Lit.wf,Bool.and_eq_true,IntKind.min,IntKind.max,IntKind.signed,IntKind.bits] at h
    have h1:0<=n :=by simpa using h.1
    have h2:n<=255 :=by simpa using h.2
    refine⟨UInt8.ofNat n.toNat,?_,trivial⟩
    congr 1
    have:(UInt8.ofNat n.toNat).toNat=n.toNat%256 :=UInt8.toNat_ofNat'
    omega
def Xdo.str{a:AV}(h:Xdo .s a):∃x:ByteArray,a=.s x/\x.size<=9223372036854775807 :=by cases h with | s h => exact⟨_,rfl,h⟩
def Xdo.list{α:Type}{r:List Sh}{f:α->List AV}{ok:α->Prop}(hf:∀row,XaP r row->∃x,row=f x/\ok x){a:AV}(h:Xdo (.sl r) a):∃xs:List α,a=.sl .ro r.length (xs.map f)/\(xs.length<=9223372036854775807/\∀x∈xs,ok x) :=by
  cases h with
  | @sl _ es hl hz h =>
    have key:∀es:List (List AV),(∀row∈es,XaP r row)->∃xs:List α,es=xs.map f/\∀x∈xs,ok x :=by
      intro es
      induction es with
      | nil => intro _; exact⟨[],rfl,λ_ h => by cases h⟩
      | cons row es ih =>
        intro hr
        obtain⟨x,rfl,hx⟩ :=hf row (hr row (by simp))
        obtain⟨xs,rfl,hxs⟩ :=ih (λq hq => hr q (by simp[hq]))
        exact⟨x :: xs,rfl,λy hy => (List.mem_cons.1 hy).elim (λe => e▸hx) (hxs y)⟩
    obtain⟨xs,rfl,hxs⟩ :=key es (λrow hr => ⟨hz row hr,h row hr⟩)
    have hM:maxLen=9223372036854775807 :=rfl
    exact⟨xs,rfl,by simp only[List.length_map] at hl; omega,hxs⟩
def XkE(row:List AV)(h:XaP [.i .u8] row):∃x:UInt8,row=[.i .u8 x.toNat]/\True :=by
  obtain⟨a,_,rfl,h0,h⟩ :=h.cons; obtain rfl :=h.nil; obtain⟨x,rfl,_⟩ :=h0.byte; exact⟨x,rfl,trivial⟩
def XmM(row:List AV)(h:XaP [.s] row):∃x:ByteArray,row=[.s x]/\x.size<=9223372036854775807 :=by
  obtain⟨a,_,rfl,h0,h⟩ :=h.cons; obtain rfl :=h.nil; obtain⟨x,rfl,h1⟩ :=h0.str; exact⟨x,rfl,h1⟩
section
variable {H : Type} {enc : TypeId × Value -> H} {P : Program} {w : World}
def Xfy{r:Reach}{base:Nat}{t:TypeId}{v:Value}{d:DataW H}{p:List MemPlace}(n:Nat){u:TypeDesc}(hu:P.underlying t=some u)(hn:∀fs,u≠.struct fs){sh:Sh}(hs:Xk8 P n t=some [sh])(hval:Value.okWide P w r base t v)(hd:DataW.Trod enc P w 0 (λ_ => true) true t v d p) :
    ∃a,Xdo sh a/\Cl w (Xhc w) v a nos :=by
  obtain⟨fuel,hf⟩ :=hd
  obtain⟨as,h1⟩ :=XcQ n hf hs
  have hc:v.cells.toList=[v] :=by
    cases n with
    | zero => cases hs
    | succ n =>
      unfold Xk8 at hs
      rw[hu] at hs
      cases u with
      | bool => obtain⟨b,rfl⟩ :=okWide_bool hu hval; rfl
      | int k => obtain⟨b,rfl⟩ :=okWide_int hu hval; rfl
      | string => obtain⟨b,rfl⟩ :=okWide_string hu hval; rfl
      | slice e => obtain⟨a,b,c,rfl⟩ :=okWide_slice hu hval; rfl
      | struct fs => exact absurd rfl (hn fs)
      | _ => cases hs
  rw[hc] at h1
  obtain⟨_,⟨h2,h3⟩,h4⟩ :=h1
  match as,h2 with
  | [a],_ => exact⟨a,h3 0 sh a rfl rfl,.leaf (.rep (h4 0 v a rfl rfl))⟩
def XmN{r:Reach}{base:Nat}{t:TypeId}{v:Value}{d:DataW H}{p:List MemPlace}(n:Nat){fs:Array Field}(hu:P.underlying t=some (.struct fs)){shs:List Sh}(hs:Xk8 P n t=some shs)(hval:Value.okWide P w r base t v)(hd:DataW.Trod enc P w 0 (λ_ => true) true t v d p) :
    ∃as,XaP shs as/\Cl w (Xhc w) v (.agg as) nos :=by
  obtain⟨fuel,hf⟩ :=hd
  obtain⟨as,h1⟩ :=XcQ n hf hs
  simp only[Value.okWide,hu] at hval
  obtain⟨cs,rfl,_,_⟩ :=hval
  obtain⟨h0,h2,h3⟩ :=h1
  have h0':cs.toList.length=shs.length :=h0
  refine⟨as,h2,?_⟩
  have:Cl w (Xhc w) (.agg cs.toList.toArray) (.agg as) nos :=.agg cs.toList (λ_ => nos) (by rw[h0',h2.1]) (λj v a hv ha => .rep (h3 j v a hv ha)) (λ_ => Xq _) (λ_ _ _ => Xe _)
  rwa [Array.toArray_toList] at this
end
def XkF{w w':World}(h:Vm.Frame w w' nos):Go.RowKit.Below w.heap.size w w' :=by
  refine⟨h.os,h.tape,h.output,h.size,λk hk => ?_⟩
  rcases h.block k hk with h1 | ⟨c,c',e,fr,h1,h2,h3,h4⟩
  · exact h1
  · rw[h1,h2]
    congr 2
    apply Array.ext_getElem?
    intro i
    exact h4 i (λh => h)
def XkG{P:Program}[HasTb P]{g:FuncId}{f:Func}{c:Code}{md:List Md}{F:List AV->Option (AV×List AV)}{wk:Bool}{W:World}{vs:List Value}{xs os:List AV}(hsp:Zk P g ⟨md,F,wk⟩)(hro:md.all Zm=true)(hF:F xs=some (.b true,os))(hl1:vs.length=md.length)(hl2:xs.length=md.length)
    (hargs : ∀ (j : Nat) (v : Value) (a : AV), vs[j]? = some v -> xs[j]? = some a -> Cl W (Xhc W) v a nos) (hf : P.funcs[g]? = some f) (hname : ¬ f.name = "runtime.NumGoroutine") (hb : f.body = some c) (hT : Tb P (Xhc W) W) :
    Calls P g vs.toArray W λe w' => e=.returned (.bool true)/\Go.RowKit.Below W.heap.size W w' :=by
  have h :=hsp W (Xhc W) vs xs (λ_ => nos) (.b true) os hF hl1 hl2 (λj m v a hm hv ha => by
    have :=List.all_eq_true.1 hro m (List.mem_of_getElem? hm)
    cases m with
    | ro n => exact hargs j v a hv ha
    | _ => cases this) (λ_ _ _ => Xe _) (λ_ => Xe _) (λ_ _ _ h => h.elim) (λ_ _ h => XmL h) hT
  rcases h with⟨v,w',h1,_⟩ | ⟨_,h2⟩
  · exfalso
    have:(callFunc g vs.toArray).run P W=.ok (.enter g vs.toArray) W :=by simp[callFunc,hf,hname,hb]
    rw[this] at h1
    cases h1
  · intro cs
    obtain⟨e,w',fr,k1,k2⟩ :=h2 cs
    refine⟨e,w',fr,?_,k2⟩
    cases e with
    | returned v =>
      obtain⟨Im',S,Of,b,_⟩ :=k1
      have hv:v=.bool true :=by
        have :=b.res
        cases this with
        | leaf h => cases h with
          | rep h => cases h; rfl
      exact⟨by rw[hv],XkF (b.frame.mono (λg k ⟨j,hb⟩ => hb))⟩
    | panicked => exact k1.elim
    | outgrown => exact k1.elim
def XoO{P:Program}[HasTb P]{s:SP P}{f:Func}{c:Code}{W:World}{vs:List Value}{xs os:List AV}(hF:s.F xs=some (.b true,os))(hro:s.fs.md.all Zm=true)(hl1:vs.length=s.fs.md.length)(hl2:xs.length=s.fs.md.length)
    (hargs : ∀ (j : Nat) (v : Value) (a : AV), vs[j]? = some v -> xs[j]? = some a -> Cl W (Xhc W) v a nos) (hf : P.funcs[s.g]? = some f) (hname : ¬ f.name = "runtime.NumGoroutine") (hb : f.body = some c) (hT : Tb P (Xhc W) W) :
    Calls P s.g vs.toArray W λe w' => e=.returned (.bool true)/\Go.RowKit.Below W.heap.size W w' :=XkG (md :=s.fs.md) (F :=s.fs.F) (wk :=s.fs.wk) s.ok hro hF hl1 hl2 hargs hf hname hb hT
end Go.Vm
set_option autoImplicit false
namespace Go.Vm
def mkL{α:Type}(f:α->Int->α×Int):List α->Int->List α×Int
  | [],k => ([],k)
  | x :: xs,k => ((f x k).1 :: (mkL f xs (f x k).2).1,(mkL f xs (f x k).2).2)
def Qp{α:Type}{f:α->Int->α×Int}(hf:∀x k,k+1<=(f x k).2):∀(xs:List α) (k:Int),k<=(mkL f xs k).2
  | [],k => Int.le_refl k
  | x :: xs,k => by
    have h1 :=hf x k
    have h2 :=Qp hf xs (f x k).2
    simp only[mkL]; omega
def Xet{α:Type}{f:α->Int->α×Int}{p:α->Prop}{c:Nat}(hf:∀x k,p x->(f x k).2<=k+c)(xs:List α)(k:Int)(h:xs.length<=1048576/\∀x∈xs,p x):(mkL f xs k).2<=k+(c*1048576:Nat) :=by
  have key:∀(xs:List α) (k:Int),(∀x∈xs,p x)->(mkL f xs k).2<=k+(c*xs.length:Nat) :=by
    intro xs
    induction xs with
    | nil => intro k _; simp[mkL]
    | cons x xs ih =>
      intro k h
      have h1 :=hf x k (h x (by simp))
      have h2 :=ih (f x k).2 (λy hy => h y (by simp[hy]))
      simp only[mkL,List.length_cons]
      rw[Nat.mul_succ]
      omega
  have h1 :=key xs k h.2
  have h2:c*xs.length<=c*1048576 :=Nat.mul_le_mul_left c h.1
  omega
def YC{α:Type}{f:α->Int->α×Int}:∀(xs:List α) (k:Int),(mkL f xs k).1.length=xs.length
  | [],k => rfl
  | x :: xs,k => by simp only[mkL,List.length_cons,YC xs]
def Xbm{α:Type}{f:α->Int->α×Int}:∀(xs:List α) (k:Int) (y:α),mkL f (xs++[y]) k=((mkL f xs k).1++[(f y (mkL f xs k).2).1],(f y (mkL f xs k).2).2)
  | [],k,y => rfl
  | x :: xs,k,y => by simp only[List.cons_append,mkL,Xbm xs,List.cons_append]
def Xfz{α:Type}{f:α->Int->α×Int}:∀(xs ys:List α) (k:Int),mkL f (xs++ys) k=((mkL f xs k).1++(mkL f ys (mkL f xs k).2).1,(mkL f ys (mkL f xs k).2).2)
  | [],ys,k => rfl
  | x :: xs,ys,k => by simp only[List.cons_append,mkL,Xfz xs]
def XdD{α:Type}(f:α->Int->α×Int)(xs:List α)(k:Int)(i:Nat):Int :=(mkL f (xs.take i) k).2
def Xbf{α:Type}(f:α->Int->α×Int)(xs:List α)(k:Int)(i:Nat):List α :=(mkL f (xs.take i) k).1++xs.drop i
def Xat{α:Type}{f:α->Int->α×Int}(xs:List α)(k:Int):XdD f xs k xs.length=(mkL f xs k).2 :=by simp[XdD]
def QO{α:Type}{f:α->Int->α×Int}(xs:List α)(k:Int)(i:Nat)(h:i<xs.length):XdD f xs k (i+1)=(f xs[i] (XdD f xs k i)).2 :=by
  simp only[XdD]
  rw[List.take_succ_eq_append_getElem h,Xbm]
def Xb1{α:Type}{f:α->Int->α×Int}(hf:∀x k,k+1<=(f x k).2)(xs:List α)(k:Int)(i:Nat):k<=XdD f xs k i :=Qp hf _ _
def Xb2{α:Type}{f:α->Int->α×Int}(hf:∀x k,k+1<=(f x k).2)(xs:List α)(k:Int)(i:Nat)(h:i<xs.length):(f xs[i] (XdD f xs k i)).2<=(mkL f xs k).2 :=by
  rw[<-QO xs k i h]
  have :=Xfz (f :=f) (xs.take (i+1)) (xs.drop (i+1)) k
  rw[List.take_append_drop] at this
  rw[this]
  exact Qp hf _ _
def Xb3{α:Type}{f:α->Int->α×Int}(xs:List α)(k:Int):Xbf f xs k 0=xs :=rfl
def Xdp{α:Type}{f:α->Int->α×Int}(xs:List α)(k:Int):Xbf f xs k xs.length=(mkL f xs k).1 :=by simp[Xbf]
def Q9{α:Type}{f:α->Int->α×Int}(xs:List α)(k:Int)(i:Nat):(Xbf f xs k i).length=xs.length :=by simp[Xbf,YC]; omega
def Xb4{α:Type}{f:α->Int->α×Int}(g:α->List AV)(xs:List α)(k:Int)(i:Nat):((Xbf f xs k i).map g).take xs.length=(Xbf f xs k i).map g :=List.take_of_length_le (by rw[List.length_map,Q9]; exact Nat.le_refl _)
def Xdq{α:Type}{f:α->Int->α×Int}(g:α->List AV)(xs:List α)(k:Int):((mkL f xs k).1.map g).take xs.length=(mkL f xs k).1.map g :=List.take_of_length_le (by rw[List.length_map,YC]; exact Nat.le_refl _)
def Xbn{α:Type}{f:α->Int->α×Int}(g:α->List AV)(xs:List α)(k:Int)(i:Nat)(h:i<xs.length):((Xbf f xs k i).map g)[i]?=some (g xs[i]) :=by
  simp only[Xbf,List.map_append]
  rw[List.getElem?_append_right (by simp[YC]; omega)]
  simp only[List.length_map,YC,List.length_take]
  rw[show i-min i xs.length=0 by omega,List.drop_eq_getElem_cons h]; rfl
def Xb5{α:Type}{f:α->Int->α×Int}(g:α->List AV)(xs:List α)(k:Int)(i:Nat)(h:i<xs.length):((Xbf f xs k i).map g).getD i []=g xs[i] :=by
  rw[List.getD_eq_getElem?_getD,Xbn g xs k i h]; rfl
def Xdr{α:Type}{f:α->Int->α×Int}(g:α->List AV)(xs:List α)(k:Int)(i:Nat)(h:i<xs.length):((Xbf f xs k i).map g).set i (g (f xs[i] (XdD f xs k i)).1)=(Xbf f xs k (i+1)).map g :=by
  simp only[Xbf,XdD,List.map_append]
  rw[List.set_append_right _ _ (by simp[YC]; omega)]
  simp only[List.length_map,YC,List.length_take]
  rw[show i-min i xs.length=0 by omega,List.drop_eq_getElem_cons h,List.take_succ_eq_append_getElem h,Xbm,List.map_cons,List.set_cons_zero,List.map_append]
  simp
def XfA{α:Type}(l:List α)(i:Nat)(y:α)(h:i<l.length):(l.set i y)[i]?=some y :=by simp[h]
def Xds(l:List (List AV))(i:Nat)(y:List AV)(h:i<l.length):(l.set i y).getD i []=y :=by simp[h]
@[go_sem] def Xpu{α:Type}(l:List α)(i:Nat)(y z:α):(l.set i y).set i z=l.set i z :=by simp
@[go_sem] def Xpv{α:Type}(l:List α)(i:Nat)(y:α):(l.set i y).length=l.length :=by simp
def XmO{α:Type}{f:α->Int->α×Int}(xs:List α)(k:Int)(i:Nat)(h:i<xs.length):(mkL f xs k).1[i]'(by rw[YC]; exact h)=(f xs[i] (XdD f xs k i)).1 :=by
  have e :=Xfz (f :=f) (xs.take (i+1)) (xs.drop (i+1)) k
  rw[List.take_append_drop] at e
  have e2:(mkL f xs k).1[i]?=some (f xs[i] (XdD f xs k i)).1 :=by
    rw[e,List.take_succ_eq_append_getElem h,Xbm]
    simp only[XdD]
    rw[List.getElem?_append_left (by simp[YC]; omega),List.getElem?_append_right (by simp[YC]; omega)]
    simp only[YC,List.length_take]
    rw[show i-min i xs.length=0 by omega]; rfl
  rw[List.getElem?_eq_getElem (by rw[YC]; exact h)] at e2
  injection e2
def Xk9{α:Type}{f:α->Int->α×Int}(g:α->List AV)(xs:List α)(k:Int)(i:Nat)(h:i<xs.length):((mkL f xs k).1.map g).getD i []=g (f xs[i] (XdD f xs k i)).1 :=by
  rw[YJ g _ i (by rw[YC]; exact h),XmO xs k i h]
def mkB(k:Int):UInt8 :=UInt8.ofNat (k%256).toNat
def XiI(k:Int):(IntKind.u8).wrap k=((mkB k).toNat:Int) :=by
  have h:(k%256).toNat<256 :=by omega
  simp only[mkB,UInt8.toNat_ofNat']
  simp[IntKind.wrap,IntKind.bits,IntKind.signed]
  omega
def XR(_:UInt8)(k:Int):UInt8×Int :=(mkB k,k+1)
def Y4(x:UInt8)(k:Int):k+1<=(XR x k).2 :=by simp only[XR]; omega
def XaQ{α:Type}{f:α->Int->α×Int}(hf:∀x k,k+1<=(f x k).2):∀(xs:List α) (k:Int),k+xs.length<=(mkL f xs k).2
  | [],k => by simp[mkL]
  | x :: xs,k => by
    have h1 :=hf x k
    have h2 :=XaQ hf xs (f x k).2
    simp only[mkL,List.length_cons]; omega
def XeF:Nat->Int->ByteArray->ByteArray
  | 0,_,s => s
  | n+1,k,s => if k>0 then XeF n (k.tdiv 10) (ByteArray.mk #[UInt8.ofNat ((48+k.tmod 10)%256).toNat]++s) else s
def Xeu(k:Int):ByteArray :=if k<=0 then⟨#[109,48]⟩ else⟨#[109]⟩++XeF k.toNat k ⟨#[]⟩
def ZB(_:ByteArray)(k:Int):ByteArray×Int :=(Xeu k,k+1)
def Xau(x:ByteArray)(k:Int):k+1<=(ZB x k).2 :=by simp only[ZB]; omega
def Xev(x:UInt8)(k:Int)(_:True):(XR x k).2<=k+(1:Nat) :=by simp[XR]
def XkH(x:ByteArray)(k:Int)(p:Prop)(_:p):(ZB x k).2<=k+(1:Nat) :=by simp[ZB]
def Xew:∀(n:Nat) (k:Int) (s:ByteArray),(XeF n k s).size<=s.size+n
  | 0,k,s => by simp[XeF]
  | n+1,k,s => by
    simp only[XeF]
    split
    · have :=Xew n (k.tdiv 10) (ByteArray.mk #[UInt8.ofNat ((48+k.tmod 10)%256).toNat]++s)
      rw[ByteArray.size_append] at this
      have e:(ByteArray.mk #[UInt8.ofNat ((48+k.tmod 10)%256).toNat]).size=1 :=rfl
      omega
    · omega
def Xex:∀(n m:Nat) (k:Int) (s:ByteArray),k.toNat<=n->k.toNat<=m->XeF n k s=XeF m k s
  | 0,0,_,_,_,_ => rfl
  | 0,m+1,k,s,h,_ => by simp only[XeF]; rw[if_neg (by omega)]
  | n+1,0,k,s,_,h => by simp only[XeF]; rw[if_neg (by omega)]
  | n+1,m+1,k,s,h1,h2 => by
    simp only[XeF]
    split
    · have:k.tdiv 10=k / 10 :=Int.tdiv_eq_ediv_of_nonneg (by omega)
      exact Xex n m _ _ (by omega) (by omega)
    · rfl
end Go.Vm
set_option autoImplicit false
namespace Go.Vm
def Xgc{P:Program}[HasTb P]{g:FuncId}{md:List Md}{F:List AV->Option (AV×List AV)}{wk:Bool}(hro:md.all Zm=true)
    (h:∀(w:World) (Im:CS) (vs:List Value) (as:List AV) (r:AV) (os:List AV),F as=some (r,os)->vs.length=md.length->as.length=md.length ->
      (∀(j:Nat) (v:Value) (a:AV),vs[j]?=some v->as[j]?=some a->Cl w Im v a nos)->Tb P Im w ->
      U4 r=none/\(wk=false->XB r=false/\∀o∈os,XB o=false)/\Ans P g vs.toArray w λv w' => Frame w w' nos/\Cl w' Im v r nos):Zk P g ⟨md,F,wk⟩ :=by
  intro w Im vs as Sf r os hF hv ha harg hd hdI hin hI hT
  have hmd:∀(j:Nat) (m:Md),md[j]?=some m->Zm m=true :=λj m hm => List.all_eq_true.1 hro m (List.mem_of_getElem? hm)
  obtain⟨h1,h2,h3⟩ :=h w Im vs as r os hF hv ha (λj v a hj hj' => by
    have hlt:j<md.length :=by rw[<-hv]; exact(List.getElem?_eq_some_iff.1 hj).1
    have hm :=List.getElem?_eq_getElem hlt
    have :=harg j _ v a hm hj hj'
    have h0 :=hmd j _ hm
    generalize md[j]=m at this h0
    cases m with
    | ro n => exact this
    | _ => cases h0) hT
  refine h3.mono λv w' ⟨hfr,hc⟩ => ?_
  refine⟨Im,nos,λ_ => nos,⟨hfr.mono (Xq _),Sub.rfl' _,λg k hx => .inl hx,λg k hx => Nat.lt_of_lt_of_le (hI g k hx) hfr.size,?_,λj m u o hm _ _ => ?_,λ_ _ _ => Xe _,λ_ => Xe _,Xe _,λ_ => Xe _,λ_ _ hx => hx.elim,λ_ _ _ hx => hx.elim,λ_ _ hx => hx.elim,λ_ _ _ hx => hx.elim⟩,h2⟩
  · unfold Xde; rw[h1]; exact hc
  · have h0 :=hmd j m hm
    cases m with
    | ro n => trivial
    | _ => cases h0
def Xgd{P:Program}[HasTb P]{g:FuncId}{md:List Md}{F:List AV->Option (AV×List AV)}{wk:Bool}(hro:md.all Zm=true)
    (h:∀(w:World) (Im:CS) (vs:List Value) (as:List AV) (r:AV) (os:List AV),F as=some (r,os)->vs.length=md.length->as.length=md.length ->
      (∀(j:Nat) (v:Value) (a:AV),vs[j]?=some v->as[j]?=some a->Cl w Im v a nos) ->
      U4 r=none/\(wk=false->XB r=false/\∀o∈os,XB o=false)/\Ans P g vs.toArray w λv w' => Frame w w' nos/\Cl w' Im v r nos):Zk P g ⟨md,F,wk⟩ :=
  Xgc hro λw Im vs as r os hF hv ha harg _ => h w Im vs as r os hF hv ha harg
def Cl.str{w:World}{Im:CS}{v:Value}{x:ByteArray}{S:CS}(h:Cl w Im v (.s x) S):v=.string x :=by
  cases h with
  | leaf h => cases h with
    | rep h => cases h; rfl
def Cl.int{w:World}{Im:CS}{v:Value}{k:IntKind}{n:Int}{S:CS}(h:Cl w Im v (.i k n) S):v=.int k n :=by
  cases h with
  | leaf h => cases h with
    | rep h => cases h; rfl
def Xpw:List AV->Option (AV×List AV)
  | [.s s,.i .u8 c] => some (.i .i64 (Lib.indexByte s.data.toList c.toNat.toUInt8),[.u,.u])
  | _ => none
def XoP {P : Program} [HasTb P] {g : FuncId} {fn : Func} (hf : P.funcs[g]? = some fn) (hname : (fn.name == "runtime.NumGoroutine") = false) (hb : fn.body.isNone = true) (hn : Extern.findNext fn = none) (he : Extern.find fn = some Extern.BytealgIndexByte.indexByte) : Zk P g ⟨[.ro 1, .ro 1], Xpw, false⟩ := by
  refine Xgd rfl λw Im vs as r os hF hv ha harg => ?_
  match as,ha,hF with
  | [.s s,.i .u8 c],_,hF =>
    match vs,hv with
    | [v0,v1],_ =>
      injection hF with hF
      injection hF with h1 h2
      subst h1 h2
      refine⟨rfl,λ_ => ⟨rfl,λo ho => by rcases List.mem_cons.1 ho with rfl | ho; rfl; rcases List.mem_cons.1 ho with rfl | ho; rfl; cases ho⟩,?_⟩
      obtain rfl :=(harg 0 v0 _ rfl rfl).str
      obtain rfl :=(harg 1 v1 _ rfl rfl).int
      refine .inl ⟨.int .i64 (Lib.indexByte s.data.toList c.toNat.toUInt8),w,?_,Frame.refl _ _,.leaf (.rep .i)⟩
      rw[run_callFunc_extern hf hname hb hn he]
      rw[Lib.run_indexByteString]
      rfl
@[go_sem] def XmP(s:ByteArray)(c:Int):Xpw [.s s,.i .u8 c]=some (.i .i64 (Lib.indexByte s.data.toList c.toNat.toUInt8),[.u,.u]) :=nr rfl
def QB {P : Program} {g : FuncId} {fn : Func} {c : Code} (hf : P.funcs[g]? = some fn) (hname : (fn.name == "runtime.NumGoroutine") = false) (hb : fn.body = some c) {args : Array Value} (w : World) : (callFunc g args).run P w = .ok (.enter g args) w := by
  have h1 : fn.name ≠ "runtime.NumGoroutine" := by simpa using hname
  simp[callFunc,hf,h1,hb,Sem.run]
@[go_sem] def XqX:((2:Nat):Int)=2 :=nr rfl
@[go_sem] def XqY:((3:Nat):Int)=3 :=nr rfl
@[go_sem] def XqZ:((4:Nat):Int)=4 :=nr rfl
@[go_sem] def Xq0:((5:Nat):Int)=5 :=nr rfl
@[go_sem] def Xq1:((6:Nat):Int)=6 :=nr rfl
@[go_sem] def Xq2:((7:Nat):Int)=7 :=nr rfl
@[go_sem] def Xq3:((8:Nat):Int)=8 :=nr rfl
@[go_sem] def Xqb:Zj 1 0=some 0 :=nr rfl
@[go_sem] def Xqc:Zj 2 0=some 0 :=nr rfl
@[go_sem] def Xqd:Zj 2 1=some 1 :=nr rfl
@[go_sem] def Xqe:Zj 3 0=some 0 :=nr rfl
@[go_sem] def Xqf:Zj 3 1=some 1 :=nr rfl
@[go_sem] def Xqg:Zj 3 2=some 2 :=nr rfl
@[go_sem] def Xqh:Zj 4 0=some 0 :=nr rfl
@[go_sem] def Xqi:Zj 4 1=some 1 :=nr rfl
@[go_sem] def Xqj:Zj 4 2=some 2 :=nr rfl
@[go_sem] def Xqk:Zj 4 3=some 3 :=nr rfl
@[go_sem] def Xql:Zj 5 0=some 0 :=nr rfl
@[go_sem] def Xqm:Zj 5 1=some 1 :=nr rfl
@[go_sem] def Xqn:Zj 5 2=some 2 :=nr rfl
@[go_sem] def Xqo:Zj 5 3=some 3 :=nr rfl
@[go_sem] def Xqp:Zj 5 4=some 4 :=nr rfl
@[go_sem] def Xqq:Zj 6 0=some 0 :=nr rfl
@[go_sem] def Xqr:Zj 6 1=some 1 :=nr rfl
@[go_sem] def Xqs:Zj 6 2=some 2 :=nr rfl
@[go_sem] def Xqt:Zj 6 3=some 3 :=nr rfl
@[go_sem] def Xqu:Zj 6 4=some 4 :=nr rfl
@[go_sem] def Xqv:Zj 6 5=some 5 :=nr rfl
@[go_sem] def Xqw:Zj 7 0=some 0 :=nr rfl
@[go_sem] def Xqx:Zj 7 1=some 1 :=nr rfl
@[go_sem] def Xqy:Zj 7 2=some 2 :=nr rfl
@[go_sem] def Xqz:Zj 7 3=some 3 :=nr rfl
@[go_sem] def XqA:Zj 7 4=some 4 :=nr rfl
@[go_sem] def XqB:Zj 7 5=some 5 :=nr rfl
@[go_sem] def XqC:Zj 7 6=some 6 :=nr rfl
@[go_sem] def XqD:Zj 8 0=some 0 :=nr rfl
@[go_sem] def XqE:Zj 8 1=some 1 :=nr rfl
@[go_sem] def XqF:Zj 8 2=some 2 :=nr rfl
@[go_sem] def XqG:Zj 8 3=some 3 :=nr rfl
@[go_sem] def XqH:Zj 8 4=some 4 :=nr rfl
@[go_sem] def XqI:Zj 8 5=some 5 :=nr rfl
@[go_sem] def XqJ:Zj 8 6=some 6 :=nr rfl
@[go_sem] def XqK:Zj 8 7=some 7 :=nr rfl
def XcR:List Int->Int
  | [] => 0
  | v :: r => if(v !=0)=true then v else XcR r
def UZ(v:Int)(r:List Int):XcR (v :: r)=if(v !=0)=true then v else XcR r :=rfl
def XqL:List AV->Option (AV×List AV)
  | [.nil,.i .i64 0] => some (.nil,[.u,.u])
  | _ => none
@[go_sem] def Xpx:XqL [.nil,.i .i64 0]=some (.nil,[.u,.u]) :=nr rfl
def Xb6{w w':World}(h:Go.RowKit.Below w.heap.size w w'):Frame w w' nos :=let ⟨a,b,c,d,e⟩ :=h; ⟨a,b,c,d,λg hg => .inl (e g hg)⟩
def XkI:List AV->Option (AV×List AV)
  | [.s x,.s c] => if c.data.toList=[32,9]/\x.size<=9223372036854775807 then some (.s ⟨(Lib.trimS x.data.toList [32,9]).toArray⟩,[.u,.u]) else none
  | _ => none
def XmQ {P : Program} [HasTb P] {g : FuncId} {fn : Func} {c : Code} (hf : P.funcs[g]? = some fn) (hname : (fn.name == "runtime.NumGoroutine") = false) (hb : fn.body = some c)
    (h:∀(s:ByteArray) (w:World),s.size<=9223372036854775807->Calls P g #[.string s,.string ⟨#[32,9]⟩] w λe w' => e=.returned (.string ⟨(Lib.trimS s.data.toList [32,9]).toArray⟩)/\Go.RowKit.Below w.heap.size w w'):Zk P g ⟨[.ro 1,.ro 1],XkI,false⟩ :=by
  refine Xgd rfl λw Im vs as r os hF hv ha harg => ?_
  match as,ha,hF with
  | [.s x,.s c],_,hF =>
    match vs,hv with
    | [v0,v1],_ =>
      simp only[XkI] at hF
      split at hF
      · rename_i hc
        injection hF with hF
        injection hF with h1 h2
        subst h1 h2
        refine⟨rfl,λ_ => ⟨rfl,λo ho => by rcases List.mem_cons.1 ho with rfl | ho; rfl; rcases List.mem_cons.1 ho with rfl | ho; rfl; cases ho⟩,?_⟩
        obtain rfl :=(harg 0 v0 _ rfl rfl).str
        obtain rfl :=(harg 1 v1 _ rfl rfl).str
        have hcs:c=⟨#[32,9]⟩ :=by
          cases c
          have :=hc.1
          congr 1
          exact Array.ext' this
        subst hcs
        refine .inr ⟨QB hf hname hb w,λcs => ?_⟩
        obtain⟨e,w',fr,⟨k1,k2⟩,k3⟩ :=h x w hc.2 cs
        subst k1
        exact⟨.returned _,w',fr,(⟨Xb6 k2,.leaf (.rep .s)⟩:Frame w w' nos/\Cl w' Im (.string ⟨(Lib.trimS x.data.toList [32,9]).toArray⟩) (.s ⟨(Lib.trimS x.data.toList [32,9]).toArray⟩) nos),k3⟩
      · cases hF
end Go.Vm
set_option autoImplicit false
namespace Go.Vm
@[go_sem] def XmR(z:Nat)(es:List (List AV)):plain (.sl .mut z es)=false :=nr rfl
@[go_sem] def XmS(z:Nat)(es:List (List AV)):plain (.sl .app z es)=false :=nr rfl
def XoQ(z bytes:Nat):List AV->Option (AV×List AV)
  | [.nil,.i .i64 n] => if 0<=n/\n*bytes<=140737488355328/\n<=4611686018427387904 then some (.sl .mut z [],[.u,.u]) else none
  | _ => none
@[go_sem] def XoR(z bytes:Nat)(n:Int):XoQ z bytes [.nil,.i .i64 n]=if 0<=n/\n*bytes<=140737488355328/\n<=4611686018427387904 then some (.sl .mut z [],[.u,.u]) else none :=nr rfl
def Xb7:Array Value :=(Lib.pow10Tab.map λz => Value.int .u64 z).toArray
def XoS(gP:Nat)(Im:CS)(w:World):Prop :=(∀k,k<20->Im gP k)/\∃ty fr,w.heap[gP]?=some (.cells Xb7 ty fr)
def Ua:Xb7.size=20 :=by simp[Xb7,Lib.pow10Tab_length]
def XiJ(gP:Nat):∀{Im Im' L:CS} {w w':World},XoS gP Im w->Sub Im Im'->Frame w w' L->Yi Im L->XoS gP Im' w' :=by
  intro Im Im' L w w' ⟨h1,ty,fr,h2⟩ hs hf hd
  refine⟨λk hk => hs _ _ (h1 k hk),?_⟩
  rcases hf.block gP (Array.getElem?_eq_some_iff.1 h2).1 with h3 | ⟨c,c',e,fr',h3,h4,h5,h6⟩
  · exact⟨ty,fr,h3.trans h2⟩
  · rw[h2] at h3
    injection h3 with h3
    injection h3 with e1 e2 e3
    subst e1 e2 e3
    refine⟨ty,fr,?_⟩
    rw[h4]
    congr 2
    apply Array.ext_getElem?
    intro k
    by_cases hk:k<20
    · exact h6 k (λhl => hd _ _ (h1 k hk) hl)
    · rw[Array.getElem?_eq_none (by rw[h5,Ua]; omega),Array.getElem?_eq_none (by rw[Ua]; omega)]
def XkJ{P:Program}{Im:CS}{w:World}{gP:Nat}{name:String}(hg:P.globalNamed name=some gP)(h:XoS gP Im w):Lib.TabIs P w name .u64 Lib.pow10Tab :=by
  obtain⟨_,ty,fr,h2⟩ :=h
  simp only[Lib.TabIs,World.var?,hg,Option.bind_some,h2]
  rfl
def XmT{P:Program}{W:World}{gP:Nat}{name:String}(hg:P.globalNamed name=some gP)(h:Lib.TabIs P W name .u64 Lib.pow10Tab):XoS gP (Xhc W) W :=by
  have hh:∃ty fr,W.heap[gP]?=some (.cells Xb7 ty fr) :=by
    simp only[Lib.TabIs,World.var?,hg,Option.bind_some] at h
    split at h
    · rename_i cs ty fr hc
      injection h with h
      subst h
      exact⟨_,_,hc⟩
    · cases h
  refine⟨λk hk => ?_,hh⟩
  obtain⟨ty,fr,hh⟩ :=hh
  refine⟨Xb7[k]'(by rw[Ua]; exact hk),?_⟩
  have hp:Xb7[k]?=some (Xb7[k]'(by rw[Ua]; exact hk)) :=Array.getElem?_eq_getElem _
  simp[Xr,World.cell?,hh,hp]
def Xbo(n:Int):ByteArray :=⟨(Lib.itoa n).toArray⟩
def XoT:List AV->Option (AV×List AV)
  | [.i .i64 n,.i .i64 10] => if -9223372036854775808<=n/\n<=9223372036854775807 then some (.s (Xbo n),[.u,.u]) else none
  | _ => none
@[go_sem] def XmU(n:Int):XoT [.i .i64 n,.i .i64 10]=if -9223372036854775808<=n/\n<=9223372036854775807 then some (.s (Xbo n),[.u,.u]) else none :=nr rfl
def XoU {P : Program} [HasTb P] {g : FuncId} {fn : Func} {c : Code} (hf : P.funcs[g]? = some fn) (hname : (fn.name == "runtime.NumGoroutine") = false) (hb : fn.body = some c) {nm : String}
    (htb:∀(Im:CS) (w:World),Tb P Im w->Lib.TabIs P w nm .u64 Lib.pow10Tab)
    (h:∀(n:Int) (w:World),-9223372036854775808<=n->n<=9223372036854775807->Lib.TabIs P w nm .u64 Lib.pow10Tab->Calls P g #[.int .i64 n,.int .i64 10] w λe w' => e=.returned (.string ⟨(Lib.itoa n).toArray⟩)/\Go.RowKit.Below w.heap.size w w'):Zk P g ⟨[.ro 1,.ro 1],XoT,false⟩ :=by
  refine Xgc rfl λw Im vs as r os hF hv ha harg hT => ?_
  unfold XoT at hF
  split at hF
  · match vs,hv with
    | [v0,v1],_ =>
      split at hF
      · rename_i hc
        injection hF with hF
        injection hF with h1 h2
        subst h1 h2
        refine⟨rfl,λ_ => ⟨rfl,λo ho => by rcases List.mem_cons.1 ho with rfl | ho; rfl; rcases List.mem_cons.1 ho with rfl | ho; rfl; cases ho⟩,?_⟩
        obtain rfl :=(harg 0 v0 _ rfl rfl).int
        obtain rfl :=(harg 1 v1 _ rfl rfl).int
        refine .inr ⟨QB hf hname hb w,λcs => ?_⟩
        obtain⟨e,w',fr,⟨k1,k2⟩,k3⟩ :=h _ w hc.1 hc.2 (htb _ _ hT) cs
        subst k1
        exact⟨.returned _,w',fr,(⟨Xb6 k2,.leaf (.rep .s)⟩:Frame w w' nos/\Cl w' Im (.string (Xbo _)) (.s (Xbo _)) nos),k3⟩
      · cases hF
  · cases hF
end Go.Vm
set_option autoImplicit false
namespace Go.Vm
def Xpy:AV->Option ByteArray
  | .s x => some x
  | _ => none
def Xla{a:AV}{x:ByteArray}(h:Xpy a=some x):a=.s x :=by
  unfold Xpy at h
  split at h
  · injection h with h; subst h; rfl
  · cases h
def Xge:List AV->Option (ByteArray×ByteArray)
  | [a,b] => (Xpy a).bind λx => (Xpy b).bind λy => some (x,y)
  | _ => none
def Xg5{e:List AV}{p:ByteArray×ByteArray}(h:Xge e=some p):e=[.s p.1,.s p.2] :=by
  match e,h with
  | [a,b],h =>
    simp only[Xge,Option.bind_eq_some_iff] at h
    obtain⟨x,hx,y,hy,he⟩ :=h
    injection he with he
    subst he
    rw[Xla hx,Xla hy]
def Uy:List (List AV)->Option (List (ByteArray×ByteArray))
  | [] => some []
  | e :: r => (Xge e).bind λp => (Uy r).bind λl => some (p :: l)
def U0:∀{es:List (List AV)} {hs:List (ByteArray×ByteArray)},Uy es=some hs->es=hs.map λp => [.s p.1,.s p.2]
  | [],hs,h => by injection h with h; subst h; rfl
  | e :: r,hs,h => by
    simp only[Uy,Option.bind_eq_some_iff] at h
    obtain⟨p,hp,l,hl,he⟩ :=h
    injection he with he
    subst he
    rw[Xg5 hp,U0 hl]; rfl
end Go.Vm
set_option autoImplicit false
namespace Go.Vm
def run_copy_rows{P:Program}(w:World)(dT sT ty elem:TypeId)(z k:Nat)(b o dLen dCap:Nat)(a:Addr)(sLen sCap:Nat)(cs:List Value)
    (hu:P.underlying dT=some (.slice elem)) (hs:(P.info? elem).map (·.size)=some z) (hk:k=Nat.min sLen dLen) (hn:cs.length=k*z)
    (hsrc:∀j v,cs[j]?=some v->w.cell? (a.add j)=some v) (hc:∀j,j<cs.length->(w.cell? ⟨b,o+j,none⟩).isSome=true) (hf:∀j,j<cs.length->w.frozen? ⟨b,o+j,none⟩=false) (h1:∀v∈cs,v.oneCell'=true) :
    (Builtin.copy_ #[dT,sT] ty #[.slice (some ⟨b,o,none⟩) dLen dCap,.slice (some a) sLen sCap]).run P w=.ok (goInt k) (w.setCells b o cs) :=by
  have hl :=run_loadCells_list (P :=P) w a cs hsrc
  have hst :=run_storeCells_cells (P :=P) b o cs 0 w (by simpa using hc) (by simpa using hf) h1
  rw[hn] at hl
  cases hq:P.info? elem with
  | none => simp[hq] at hs
  | some i =>
    have hi:i.size=z :=by simpa[hq] using hs
    simp[Builtin.copy_,run_underlying hu,Builtin.lenOf,Builtin.firstCells,sizeOf,typeInfo,hq,hi,<-hk,hl,hst]
def run_overlaps_own{P:Program}(w:World)(tS tR e:TypeId)(ht:P.underlying tS=some (.slice e))(size:Nat)(hz:∀w,(Go.sizeOf e).run P w=.ok size w)
    (a b:Addr) (la ca lb cb:Nat) (tA tB:TypeId) (kA kB:Nat) (hsa:w.shape? a.block=some (tA,kA)) (hsb:w.shape? b.block=some (tB,kB)) (hkB:kB≠0)
    (hfa:a.block≠b.block->∀j,w.frozen? ⟨a.block,j,none⟩=false) (hsp:a.spot=none)
    (hap:a.block=b.block->¬(a.off<b.off+lb*size/\b.off<a.off+la*size)) :
    (Extern.SlicesOverlaps.overlaps #[tS,tS] #[tR] #[.slice (some a) la ca,.slice (some b) lb cb]).run P w=.ok (.bool false) w :=by
  by_cases hne:a.block=b.block
  · have hnb:(a.block !=b.block)=false :=by simpa using hne
    have hnb':(a.block==b.block)=true :=by simpa using hne
    have hap' :=hap hne
    change Sem.run P (α :=Value) (do
      let some t := (#[tS, tS] : Array TypeId)[0]? | stuck "slices.overlaps: no parameter types"
      let .slice elem <- underlying t | stuck "slices.overlaps: slice type expected"
      let size <-sizeOf elem
      match (some a:Option Addr),(some b:Option Addr) with
      | some a,some b =>
        if la=0\/lb=0\/size=0 then pure (Value.bool false)
        else if a.block !=b.block&&(<-frozen a)&&(<-frozen b) then unsupported .addressObserved
        else do
          if a.block !=b.block then do
            noView a; noView b
            if <- mayBeOne a b then return Value.bool ((<- choose (.extern "sameAddr.stringBytes" 2)) == 1)
          pure (Value.bool (a.block==b.block&&a.off<b.off+lb*size&&b.off<a.off+la*size))
      | _,_ => pure (Value.bool false)) w=_
    by_cases h0:la=0\/lb=0\/size=0
    · simp[run_underlying ht,hz,h0]
    · have hd:(decide (a.off<b.off+lb*size)&&decide (b.off<a.off+la*size))=false :=by
        rw[Bool.and_eq_false_iff,decide_eq_false_iff_not,decide_eq_false_iff_not]
        exact Decidable.not_and_iff_not_or_not.1 hap'
      simp[run_underlying ht,hz,h0,hnb,hnb',Sem.run,frozen]
      simpa using hd
  · have h :=hfa hne
    have e:a=⟨a.block,a.off,none⟩ :=by cases a; simp only at hsp; subst hsp; rfl
    exact Lib.run_overlaps_apart w tS tR _ ht size hz a b la ca lb cb hne tA tB kA kB hsa hsb hkB (by rw[e]; exact h _) (h _)
def Qq(b:Nat)(vs:List Value)(o:Nat)(w:World)(h:∀j,j<vs.length->(w.cell? ⟨b,o+j,none⟩).isSome=true)(k:Nat)(hk:(w.cell? ⟨b,k,none⟩).isSome=true):((w.setCells b o vs).cell? ⟨b,k,none⟩).isSome=true :=by
  by_cases hin:o<=k/\k<o+vs.length
  · have :=World.cell?_setCells_in b vs o w h (k-o) (by omega)
    rw[show o+(k-o)=k by omega] at this
    rw[this]; rfl
  · rw[World.cell?_setCells_out b vs o w ⟨b,k,none⟩ (λ_ _ => by show k<o\/o+vs.length<=k; omega)]
    exact hk
def XD(hs:List (ByteArray×ByteArray)):List Value :=hs.flatMap λp => [.string p.1,.string p.2]
def XfB(p:ByteArray×ByteArray):List AV :=[.s p.1,.s p.2]
def Y5(p:ByteArray×ByteArray)(hs:List (ByteArray×ByteArray)):XD (p :: hs)=.string p.1 :: .string p.2 :: XD hs :=rfl
def XaR:∀hs:List (ByteArray×ByteArray),(XD hs).length=hs.length*2
  | [] => rfl
  | p :: hs => by rw[Y5,List.length_cons,List.length_cons,XaR hs,List.length_cons]; omega
def XcS(a b:List (ByteArray×ByteArray)):XD (a++b)=XD a++XD b :=by unfold XD; rw[List.flatMap_append]
def Xb8:∀(i:Nat) (hs:List (ByteArray×ByteArray)),(XD hs).take (i*2)=XD (hs.take i)
  | 0,hs => by simp[XD]
  | i+1,[] => by simp[XD]
  | i+1,p :: hs => by rw[List.take_succ_cons,Y5,Y5,show(i+1)*2=i*2+1+1 by omega,List.take_succ_cons,List.take_succ_cons,Xb8 i hs]
def U1:∀(i:Nat) (hs:List (ByteArray×ByteArray)),(XD hs).drop (i*2)=XD (hs.drop i)
  | 0,hs => by simp
  | i+1,[] => by simp[XD]
  | i+1,p :: hs => by rw[List.drop_succ_cons,Y5,show(i+1)*2=i*2+1+1 by omega,List.drop_succ_cons,List.drop_succ_cons,U1 i hs]
def QP{hs:List (ByteArray×ByteArray)}:∀v∈XD hs,v.oneCell'=true :=by
  intro v hv
  unfold XD at hv
  obtain⟨p,_,hp⟩ :=List.mem_flatMap.1 hv
  simp only[List.mem_cons,List.not_mem_nil,or_false] at hp
  rcases hp with rfl | rfl<;>rfl
def XcT:∀{hs:List (ByteArray×ByteArray)} {j:Nat} {v:Value},(XD hs)[j]?=some v->∃(i:Nat) (p:ByteArray×ByteArray),hs[i]?=some p/\((j=i*2/\v=.string p.1)\/(j=i*2+1/\v=.string p.2))
  | [],j,v,h => by simp[XD] at h
  | p :: hs,0,v,h => by rw[Y5] at h; simp at h; exact⟨0,p,rfl,.inl ⟨rfl,h.symm⟩⟩
  | p :: hs,1,v,h => by rw[Y5] at h; simp at h; exact⟨0,p,rfl,.inr ⟨rfl,h.symm⟩⟩
  | p :: hs,j+2,v,h => by
    rw[Y5] at h
    simp only[List.getElem?_cons_succ] at h
    obtain⟨i,q,h1,h2⟩ :=XcT h
    refine⟨i+1,q,by simpa using h1,?_⟩
    rcases h2 with⟨e,h2⟩ | ⟨e,h2⟩
    · exact .inl ⟨by omega,h2⟩
    · exact .inr ⟨by omega,h2⟩
def XiK{hs:List (ByteArray×ByteArray)}{i:Nat}{p:ByteArray×ByteArray}(h:hs[i]?=some p):(XD hs)[i*2]?=some (.string p.1)/\(XD hs)[i*2+1]?=some (.string p.2) :=by
  have h1 :=U1 i hs
  obtain⟨hi,hp⟩ :=List.getElem?_eq_some_iff.1 h
  rw[List.drop_eq_getElem_cons hi,hp,Y5] at h1
  constructor
  · have :=congrArg (λl => l[0]?) h1
    simpa[List.getElem?_drop] using this
  · have :=congrArg (λl => l[1]?) h1
    simpa[List.getElem?_drop] using this
def XiL{w:World}{Im S:CS}{v:Value}{x:ByteArray}(h:Rep w Im v (.s x) S):v=.string x :=by cases h; rfl
def Xey{w:World}{Im:CS}{A:Option Addr}{n cap:Nat}{S:CS}{hs:List (ByteArray×ByteArray)}(h:Rep w Im (.slice A n cap) (.sl .mut 2 (hs.map XfB)) S) :
    ∃g off,hs.length=n/\n<=cap/\(0<cap->A=some ⟨g,off,none⟩)/\SlF w Im .mut g off 2 n cap S/\∀j v,(XD hs)[j]?=some v->Xr w g (off+j)=some v :=by
  cases h with
  | sl g off vs Sf hn hc hL hA hz hrow hin hf hsub hd hself hnone =>
    refine⟨g,off,by simpa using hn,hc,hA,hf,λj v hj => ?_⟩
    obtain⟨i,p,h1,h2⟩ :=XcT hj
    have hi:(hs.map XfB)[i]?=some (XfB p) :=by rw[List.getElem?_map,h1]; rfl
    rcases h2 with⟨rfl,rfl⟩ | ⟨rfl,rfl⟩
    · have e1 :=hrow i _ 0 (.s p.1) hi rfl
      have e2 :=hin i _ 0 (.s p.1) hi rfl
      have e3:vs i 0=.string p.1 :=XiL e2
      rw[e3] at e1; exact e1
    · have e1 :=hrow i _ 1 (.s p.2) hi rfl
      have e2 :=hin i _ 1 (.s p.2) hi rfl
      have e3:vs i 1=.string p.2 :=XiL e2
      rw[e3] at e1; exact e1
def Qx{w:World}{Im:CS}{A:Option Addr}{n cap g off:Nat}{S:CS}{hs:List (ByteArray×ByteArray)}(hn:hs.length=n)(hc:n<=cap)(hL:n<=9223372036854775807)(hA:0<cap->A=some ⟨g,off,none⟩)(hf:SlF w Im .mut g off 2 n cap S)
    (hcell:∀j v,(XD hs)[j]?=some v->Xr w g (off+j)=some v):Rep w Im (.slice A n cap) (.sl .mut 2 (hs.map XfB)) S :=by
  refine .sl g off (λi j => ((XD hs)[i*2+j]?).getD undef) (λ_ _ => nos) (by simpa using hn) hc hL hA (λi row hi => ?_) (λi row j a hi hj => ?_) (λi row j a hi hj => ?_) hf (λ_ _ => Xq _) (λ_ _ _ _ _ => Xe _) (λ_ _ _ _ _ h => h) (λe => absurd rfl e)
  · rw[List.getElem?_map] at hi
    obtain⟨p,_,rfl⟩ :=Option.map_eq_some_iff.1 hi
    rfl
  all_goals
    rw[List.getElem?_map] at hi
    obtain⟨p,hp,rfl⟩ :=Option.map_eq_some_iff.1 hi
    obtain⟨h1,h2⟩ :=XiK hp
    match j,hj with
    | 0,hj =>
      have ha:a=.s p.1 :=by simpa[XfB] using hj.symm
      subst ha
      simp only[Nat.add_zero,h1,Option.getD_some]
      first | exact hcell _ _ h1 | exact .s
    | 1,hj =>
      have ha:a=.s p.2 :=by simpa[XfB] using hj.symm
      subst ha
      simp only[h2,Option.getD_some]
      first | exact hcell _ _ h2 | exact .s
    | j+2,hj => simp[XfB] at hj
def Xez:∀hs:List (ByteArray×ByteArray),Yk (hs.map XfB)=false
  | [] => rfl
  | p :: hs => by rw[List.map_cons]; simp[Yk,XfB,XU,XB,Xez hs]
def XcU{w:World}{g k:Nat}{v:Value}(h:Xr w g k=some v):∃t q,w.shape? g=some (t,q)/\q≠0 :=by
  unfold Xr World.cell? at h
  simp only at h
  split at h
  · rename_i c e fr hc
    simp only[Option.isSome_none,Bool.false_eq_true,if_false] at h
    refine⟨e,c.size,by simp[World.shape?,hc],λe0 => ?_⟩
    have :=(Array.getElem?_eq_some_iff.1 h).1
    omega
  · cases h
def Xpz(hs:Option (List (ByteArray×ByteArray)))(k:Int)(ps:Option (List (ByteArray×ByteArray))):Option (AV×List AV) :=match hs,ps with
  | some hs,some [p] => if 0<=k/\k<=hs.length/\hs.length+1<=4398046511104 then some (.sl .mut 2 ((hs.take k.toNat++[p]++hs.drop k.toNat).map XfB),[.u,.u,.u]) else none
  | _,_ => none
def XoV:List AV->Option (AV×List AV)
  | [.sl .mut 2 es,.i .i64 k,.sl .mut 2 rs] => Xpz (Uy es) k (Uy rs)
  | _ => none
def Xbp{w w':World}{Im S:CS}{Sf:Nat->CS}{v0 v1 v2 v:Value}{hs:List (ByteArray×ByteArray)}(h0:v0.oneCell'=true)(h2:v2.oneCell'=true)(fr:Frame w w' (Zb Sf))(hS:∀g k,S g k->Zb Sf g k\/w.heap.size<=g)(hSI:Yi S Im)
    (hSlt:∀g k,S g k->g<w'.heap.size) (hI:∀g k,Im g k->g<w.heap.size) (hrep:Rep w' Im v (.sl .mut 2 (hs.map XfB)) S) :
    ∃(Im' S:CS) (Of:Nat->CS),Xpd w w' Im (Zb Sf) [.mv,.ro 1,.mv] [v0,v1,v2] (.sl .mut 2 (hs.map XfB)) [.u,.u,.u] v Im' S Of/\(false=false->XB (.sl .mut 2 (hs.map XfB))=false/\∀o∈[AV.u,.u,.u],XB o=false) :=by
  refine⟨Im,S,λ_ => nos,⟨fr,Sub.rfl' _,λg k hx => .inl hx,λg k hx => Nat.lt_of_lt_of_le (hI g k hx) fr.size,.leaf (.rep hrep),λj m u o hm hu ho => ?_,λ_ _ _ => Xe _,λ_ => Yb _,hSI,λ_ => Xe _,hSlt,λ_ _ _ hx => hx.elim,hS,λ_ _ _ hx => hx.elim⟩,λ_ => ⟨by simp[XB,Xez],λo ho => by simp at ho; subst ho; rfl⟩⟩
  match j,hm,hu,ho with
  | 0,hm,hu,ho =>
    simp at hm hu ho; subst hm hu ho
    exact⟨.leaf (.rep (.u h0)),rfl⟩
  | 1,hm,hu,ho => simp at hm; subst hm; trivial
  | 2,hm,hu,ho =>
    simp at hm hu ho; subst hm hu ho
    exact⟨.leaf (.rep (.u h2)),rfl⟩
  | j+3,hm,_,_ => simp at hm
def Xgf{hs:List (ByteArray×ByteArray)}{p:ByteArray×ByteArray}{i:Nat}(hi:i<=hs.length)(j:Nat):(XD (hs.take i++[p]++hs.drop i))[j]?=if j<i*2 then(XD hs)[j]? else if j<i*2+2 then(XD [p])[j-i*2]? else((XD hs).drop (i*2))[j-(i+1)*2]? :=by
  rw[XcS,XcS,<-Xb8,<-U1]
  have hl:((XD hs).take (i*2)).length=i*2 :=by rw[List.length_take,XaR]; omega
  have h2':(XD [p]).length=2 :=rfl
  by_cases h1:j<i*2
  · rw[if_pos h1,List.append_assoc,List.getElem?_append_left (by omega),List.getElem?_take,if_pos h1]
  · rw[if_neg h1]
    by_cases h2:j<i*2+2
    · rw[if_pos h2,List.getElem?_append_left (by rw[List.length_append,hl,h2']; exact h2),List.getElem?_append_right (by omega),hl]
    · rw[if_neg h2,List.getElem?_append_right (by rw[List.length_append,hl,h2']; omega),List.length_append,hl,h2']
      congr 1; omega
def XiM{w':World}{Im:CS}{g n cap:Nat}(hfz:∀k,Yj w' g k=false)(hc:∀k,k<cap*2->∃v,Xr w' g (0+k)=some v):SlF w' Im .mut g 0 2 n cap (blk g) :=
  ⟨λ_ _ _ => rfl,(λe => by cases e),λ_ k hk => ⟨hc k hk,hfz _,λ_ q => hfz q⟩,λe => absurd rfl e⟩
def XoW {P : Program} [HasTb P] {g : FuncId} {fn : Func} {c : Code} (hf : P.funcs[g]? = some fn) (hname : (fn.name == "runtime.NumGoroutine") = false) (hb : fn.body = some c) {e : TypeId} {zv : Value} (hzv : zv.cells.size = 2) {ov : FuncId}
    (hOv:∀(w:World) (a b:Addr) (la ca lb cb:Nat) (tA tB:TypeId) (kA kB:Nat),w.shape? a.block=some (tA,kA)->w.shape? b.block=some (tB,kB)->kB≠0 ->
      (a.block≠b.block->∀j,w.frozen? ⟨a.block,j,none⟩=false)->a.spot=none->(a.block=b.block->¬(a.off<b.off+lb*2/\b.off<a.off+la*2)) ->
      (callFunc ov #[.slice (some a) la ca,.slice (some b) lb cb]).run P w=.ok (.value (.bool false)) w)
    (hShift:∀(b off n c i vb voff vc:Nat) (cs vs:List Value) (w:World),i<n->n+1<=c->n+1<=9223372036854775807->cs.length=n*2->vs.length=2 ->
      (∀j v,cs[j]?=some v->w.cell? ⟨b,off+j,none⟩=some v)->(∀j,j<(n+1)*2->(w.cell? ⟨b,off+j,none⟩).isSome=true)->(∀j,j<(n+1)*2->w.frozen? ⟨b,off+j,none⟩=false) ->
      (∀j v,vs[j]?=some v->w.cell? ⟨vb,voff+j,none⟩=some v)->(∀v∈cs,v.oneCell'=true)->(∀v∈vs,v.oneCell'=true) ->
      (∀lb cb,lb=n-i->(callFunc ov #[.slice (some ⟨vb,voff,none⟩) 1 vc,.slice (some ⟨b,off+(i+1)*2,none⟩) lb cb]).run P w=.ok (.value (.bool false)) w) ->
      (vb=b->∀j k,j<2->k<(n+1)*2->voff+j≠off+k) ->
      Calls P g #[.slice (some ⟨b,off,none⟩) n c,.int .i64 i,.slice (some ⟨vb,voff,none⟩) 1 vc] w λe w' =>
        e=.returned (.slice (some ⟨b,off,none⟩) (n+1) c)/\w'=(w.drew.setCells b (off+(i+1)*2) (cs.drop (i*2))).setCells b (off+i*2) vs)
    (hRoom:∀(b off n c vb voff vc:Nat) (vs:List Value) (w:World),n+1<=c->n+1<=9223372036854775807->vs.length=2 ->
      (∀j,j<2->(w.cell? ⟨b,off+n*2+j,none⟩).isSome=true)->(∀j,j<2->w.frozen? ⟨b,off+n*2+j,none⟩=false) ->
      (∀j v,vs[j]?=some v->w.cell? ⟨vb,voff+j,none⟩=some v)->(∀v∈vs,v.oneCell'=true) ->
      Calls P g #[.slice (some ⟨b,off,none⟩) n c,.int .i64 n,.slice (some ⟨vb,voff,none⟩) 1 vc] w λe w' =>
        e=.returned (.slice (some ⟨b,off,none⟩) (n+1) c)/\w'=w.setCells b (off+n*2) vs)
    (hEnd:∀(base:Option Addr) (n c vb voff vc:Nat) (cs vs:List Value) (w:World),n<=c->c<n+1->(n+1)*32<=140737488355328->cs.length=n*2->vs.length=2->(base=none->n=0) ->
      (∀a,base=some a->∀j v,cs[j]?=some v->w.cell? (a.add j)=some v)->(∀j v,vs[j]?=some v->w.cell? ⟨vb,voff+j,none⟩=some v) ->
      Calls P g #[.slice base n c,.int .i64 n,.slice (some ⟨vb,voff,none⟩) 1 vc] w λe' w' =>
        e'=.returned (.slice (some ⟨w.heap.size,0,none⟩) (n+1) (grownCap w (n+1) c e))/\w'=w.drew.alloc (.cells (cs.toArray++vs.toArray++Builtin.zeroCells zv.cells (grownCap w (n+1) c e-(n+1))) e))
    (hGrow:∀(b off n c i vb voff vc:Nat) (cs vs:List Value) (w:World),i<n->n<=c->c<n+1->(n+1)*32<=140737488355328->cs.length=n*2->vs.length=2 ->
      (∀j v,cs[j]?=some v->w.cell? ⟨b,off+j,none⟩=some v)->(∀j v,vs[j]?=some v->w.cell? ⟨vb,voff+j,none⟩=some v)->(∀v∈cs,v.oneCell'=true)->(∀v∈vs,v.oneCell'=true) ->
      Calls P g #[.slice (some ⟨b,off,none⟩) n c,.int .i64 i,.slice (some ⟨vb,voff,none⟩) 1 vc] w λe' w' =>
        e'=.returned (.slice (some ⟨w.heap.size,0,none⟩) (n+1) (grownCap w (n+1) c e)) /\
        w'=(((w.alloc (.cells ((cs.take (i*2)).toArray++Builtin.zeroCells zv.cells (n+1-i)++Builtin.zeroCells zv.cells (grownCap w (n+1) c e-(n+1))) e)).drew.setCells w.heap.size (i*2) vs).drew).setCells w.heap.size ((i+1)*2) (cs.drop (i*2))) :
    Zk P g ⟨[.mv,.ro 1,.mv],XoV,false⟩ :=by
  intro w Im vs as Sf r os hF hv ha harg hd hdI hin hI hT
  have hF:XoV as=some (r,os) :=hF
  unfold XoV at hF
  split at hF
  rotate_left
  · cases hF
  rename_i es k rs hFF
  match vs,hv with
  | [v0,v1,v2],_ =>
    unfold Xpz at hF
    split at hF
    rotate_left
    · cases hF
    rename_i hs p hhs hps
    split at hF
    rotate_left
    · cases hF
    rename_i hc
    injection hF with hF
    injection hF with e1 e2
    subst e1 e2
    have c0 :=harg 0 .mv v0 _ rfl rfl rfl
    have c1 :=harg 1 (.ro 1) v1 _ rfl rfl rfl
    have c2 :=harg 2 .mv v2 _ rfl rfl rfl
    obtain rfl:v1=.int .i64 k :=(show Cl w Im v1 (.i .i64 k) nos from c1).int
    have r0:Rep w Im v0 (.sl .mut 2 es) (Sf 0) :=by cases c0 with | leaf h => cases h with | rep h => exact h
    have r2:Rep w Im v2 (.sl .mut 2 rs) (Sf 2) :=by cases c2 with | leaf h => cases h with | rep h => exact h
    have o0 :=r0.one
    have o2 :=r2.one
    rw[show es=hs.map XfB from U0 hhs] at r0
    rw[show rs=[p].map XfB from U0 hps] at r2
    obtain⟨A,n,cap,rfl⟩:∃A n cap,v0=.slice A n cap :=by cases r0; exact⟨_,_,_,rfl⟩
    obtain⟨B,m,vc,rfl⟩:∃A n cap,v2=.slice A n cap :=by cases r2; exact⟨_,_,_,rfl⟩
    obtain⟨b,off,hn,hnc,hA,hsl,hcell⟩ :=Xey r0
    obtain⟨vb,voff,hm,hmc,hB,hsv,hvcell⟩ :=Xey r2
    obtain rfl:m=1 :=by simpa using hm.symm
    obtain rfl:B=some ⟨vb,voff,none⟩ :=hB (by omega)
    obtain⟨i,rfl⟩:∃i:Nat,k=(i:Int) :=⟨k.toNat,by omega⟩
    rw[Int.toNat_natCast]
    have hin':i<=n :=by omega
    have hcl:(XD hs).length=n*2 :=by rw[XaR,hn]
    have hvl:(XD [p]).length=2 :=rfl
    have hnew:(hs.take i++[p]++hs.drop i).length=n+1 :=by simp only[List.length_append,List.length_take,List.length_drop,List.length_singleton]; omega
    have hnl:n=hs.length :=hn.symm
    have hdj:∀g k,Sf 0 g k->Sf 2 g k->False :=hd 0 2 (by decide)
    have hS0:∀x,x<cap*2->Sf 0 b (off+x) :=λx hx => hsl.own rfl x hx
    have hS2:∀x,x<vc*2->Sf 2 vb (voff+x) :=λx hx => hsv.own rfl x hx
    have hap:vb=b->∀j k,j<2->k<cap*2->voff+j≠off+k :=λe j k hj hk ee => hdj b (off+k) (hS0 k hk) (by rw[<-ee,<-e]; exact hS2 j (by omega))
    refine .inr ⟨QB hf hname hb w,λcs => ?_⟩
    by_cases hr:n+1<=cap
    · obtain rfl:A=some ⟨b,off,none⟩ :=hA (by omega)
      have hex:∀j,j<cap*2->(w.cell? ⟨b,off+j,none⟩).isSome=true :=λj hj => by
        obtain⟨v,hv⟩ :=(hsl.free (by decide) j hj).1
        rw[show w.cell? ⟨b,off+j,none⟩=some v from hv]; rfl
      have hfr:∀j,j<cap*2->w.frozen? ⟨b,off+j,none⟩=false :=λj hj => (hsl.free (by decide) j hj).2.1
      have hseg:∀o l,off<=o->o+l<=off+cap*2->Sub (seg b o l) (Zb Sf) :=λo l h1 h2 g k ⟨e,h3,h4⟩ => ⟨0,by rw[e,show k=off+(k-off) by omega]; exact hS0 _ (by omega)⟩
      by_cases hi:i<n
      · obtain⟨ts,qs,hss,hqs⟩ :=XcU (show Xr w b (off+0)=some _ from(Option.eq_some_of_isSome (hex 0 (by omega))))
        obtain⟨tv,qv,hsv',hqv⟩ :=XcU (hvcell 0 (.string p.1) rfl)
        have hov:∀lb cb,lb=n-i->(callFunc ov #[.slice (some ⟨vb,voff,none⟩) 1 vc,.slice (some ⟨b,off+(i+1)*2,none⟩) lb cb]).run P w=.ok (.value (.bool false)) w :=λlb cb hlb =>
          hOv w ⟨vb,voff,none⟩ ⟨b,off+(i+1)*2,none⟩ 1 vc lb cb tv ts qv qs hsv' hss hqs (λ_ j => (hsv.free (by decide) 0 (by omega)).2.2 (by decide) j) rfl (λe ⟨h1,h2⟩ => by
            simp only at e h1 h2
            rcases Nat.lt_or_ge voff (off+(i+1)*2) with hq | hq
            · exact hap e (off+(i+1)*2-voff) ((i+1)*2) (by omega) (by omega) (by omega)
            · exact hap e 0 (voff-off) (by omega) (by omega) (by omega))
        obtain⟨e',w',fr,⟨k1,k2⟩,k3⟩ :=hShift b off n cap i vb voff vc (XD hs) (XD [p]) w hi hr (by omega) hcl hvl hcell (λj hj => hex j (by omega)) (λj hj => hfr j (by omega)) hvcell QP QP hov (λe j k hj hk => hap e j k hj (by omega)) cs
        subst k1
        have hdl:((XD hs).drop (i*2)).length=(n-i)*2 :=by rw[List.length_drop,hcl]; omega
        have x1:∀k,k<cap*2->((w.drew.setCells b (off+(i+1)*2) ((XD hs).drop (i*2))).cell? ⟨b,off+k,none⟩).isSome=true :=λk hk =>
          Qq b _ _ _ (λj hj => by rw[Nat.add_assoc]; exact hex _ (by omega)) _ (hex k hk)
        have x2:∀k,k<cap*2->(w'.cell? ⟨b,off+k,none⟩).isSome=true :=λk hk => by
          rw[k2]; exact Qq b _ _ _ (λj hj => by rw[Nat.add_assoc]; exact x1 _ (by rw[hvl] at hj; omega)) _ (x1 k hk)
        have x3:∀q,Yj w' b q=Yj w b q :=λq => by rw[k2]; unfold Yj; rw[World.frozen?_setCells,World.frozen?_setCells]; rfl
        refine⟨.returned _,w',fr,?_,k3⟩
        refine Xbp o0 o2 ?_ (λg k hx => .inl ⟨0,hx⟩) (hdI 0) (λg k hx => ?_) hI (Qx hnew hr (by omega) (λ_ => rfl) ⟨λ_ x hx => hS0 x hx,(λe => by cases e),λ_ x hx => ⟨Option.isSome_iff_exists.1 (x2 x hx),(hsl.free (by decide) x hx).2.to x3⟩,λe => absurd rfl e⟩ (λj v hj => ?_))
        · rw[k2]
          refine(((Qc w).mono (Xq _)).trans ((X1 b _ _ _).mono (hseg _ _ (by omega) ?_))).trans ((X1 b _ _ _).mono (hseg _ _ (by omega) ?_))
          · rw[hdl]; omega
          · rw[hvl]; omega
        · rw[k2,YL,YL]; exact hin 0 g k hx
        · rw[Xgf (by omega)] at hj
          show w'.cell? _=_
          rw[k2]
          split at hj
          · rw[World.cell?_setCells_out b _ _ _ _ (λ_ _ => .inl (by simp only; omega)),World.cell?_setCells_out b _ _ _ _ (λ_ _ => .inl (by simp only; omega))]
            exact hcell j v hj
          · split at hj
            · rename_i h1 h2
              obtain⟨hjl,hje⟩ :=List.getElem?_eq_some_iff.1 hj
              have :=World.cell?_setCells_in b (XD [p]) (off+i*2) (w.drew.setCells b (off+(i+1)*2) ((XD hs).drop (i*2))) (λq hq => by rw[Nat.add_assoc]; exact x1 _ (by rw[hvl] at hq; omega)) (j-i*2) hjl
              rw[show off+i*2+(j-i*2)=off+j by omega] at this
              rw[this,hje]
            · rename_i h1 h2
              obtain⟨hjl,hje⟩ :=List.getElem?_eq_some_iff.1 hj
              rw[World.cell?_setCells_out b _ _ _ _ (λ_ _ => .inr (by rw[hvl]; simp only; omega))]
              have :=World.cell?_setCells_in b ((XD hs).drop (i*2)) (off+(i+1)*2) w.drew (λq hq => by rw[Nat.add_assoc]; exact hex _ (by omega)) (j-(i+1)*2) hjl
              rw[show off+(i+1)*2+(j-(i+1)*2)=off+j by omega] at this
              rw[this,hje]
      · obtain rfl:i=n :=by omega
        obtain⟨e',w',fr,⟨k1,k2⟩,k3⟩ :=hRoom b off i cap vb voff vc (XD [p]) w hr (by omega) hvl (λj hj => by rw[Nat.add_assoc]; exact hex _ (by omega)) (λj hj => by rw[Nat.add_assoc]; exact hfr _ (by omega)) hvcell QP cs
        subst k1
        have x2:∀k,k<cap*2->(w'.cell? ⟨b,off+k,none⟩).isSome=true :=λk hk => by
          rw[k2]; exact Qq b _ _ _ (λj hj => by rw[Nat.add_assoc]; exact hex _ (by rw[hvl] at hj; omega)) _ (hex k hk)
        have x3:∀q,Yj w' b q=Yj w b q :=λq => by rw[k2]; unfold Yj; rw[World.frozen?_setCells]
        refine⟨.returned _,w',fr,?_,k3⟩
        refine Xbp o0 o2 ?_ (λg k hx => .inl ⟨0,hx⟩) (hdI 0) (λg k hx => ?_) hI (Qx hnew hr (by omega) (λ_ => rfl) ⟨λ_ x hx => hS0 x hx,(λe => by cases e),λ_ x hx => ⟨Option.isSome_iff_exists.1 (x2 x hx),(hsl.free (by decide) x hx).2.to x3⟩,λe => absurd rfl e⟩ (λj v hj => ?_))
        · rw[k2]
          refine(X1 b _ _ _).mono (hseg _ _ (by omega) ?_)
          rw[hvl]; omega
        · rw[k2,YL]; exact hin 0 g k hx
        · rw[Xgf (by omega)] at hj
          show w'.cell? _=_
          rw[k2]
          split at hj
          · rw[World.cell?_setCells_out b _ _ _ _ (λ_ _ => .inl (by simp only; omega))]
            exact hcell j v hj
          · split at hj
            · rename_i h1 h2
              obtain⟨hjl,hje⟩ :=List.getElem?_eq_some_iff.1 hj
              have :=World.cell?_setCells_in b (XD [p]) (off+i*2) w (λq hq => by rw[Nat.add_assoc]; exact hex _ (by rw[hvl] at hq; omega)) (j-i*2) hjl
              rw[show off+i*2+(j-i*2)=off+j by omega] at this
              rw[this,hje]
            · have :=(List.getElem?_eq_some_iff.1 hj).1
              rw[List.length_drop,hcl] at this
              omega
    · have hbig:(n+1)*32<=140737488355328 :=by omega
      have hG :=grownCap_ge w (n+1) cap e
      generalize hGe:grownCap w (n+1) cap e=G at hG
      have hzs:∀q,(Builtin.zeroCells zv.cells q).size=q*2 :=λq => by rw[<-hzv]; simp[Builtin.zeroCells]
      by_cases hi:i<n
      · obtain rfl:A=some ⟨b,off,none⟩ :=hA (by omega)
        obtain⟨e',w',fr,⟨k1,k2⟩,k3⟩ :=hGrow b off n cap i vb voff vc (XD hs) (XD [p]) w hi hnc (by omega) hbig hcl hvl hcell hvcell QP QP cs
        rw[hGe] at k1 k2
        subst k1
        have hdl:((XD hs).drop (i*2)).length=(n-i)*2 :=by rw[List.length_drop,hcl]; omega
        obtain⟨ROW,hROW⟩:∃ROW:Array Value,ROW=((XD hs).take (i*2)).toArray++Builtin.zeroCells zv.cells (n+1-i)++Builtin.zeroCells zv.cells (G-(n+1)) :=⟨_,rfl⟩
        have hRs:ROW.size=G*2 :=by
          rw[hROW]
          simp only[Array.size_append,hzs,List.size_toArray,List.length_take,hcl]
          omega
        rw[<-hROW] at k2
        have y0:∀k,Xr (w.alloc (.cells ROW e)) w.heap.size k=ROW[k]? :=λk => Y8 w ROW e k
        have x0:∀k,k<G*2->((w.alloc (.cells ROW e)).drew.cell? ⟨w.heap.size,0+k,none⟩).isSome=true :=λk hk => by
          rw[Nat.zero_add]
          show(Xr (w.alloc (.cells ROW e)) w.heap.size k).isSome=true
          rw[y0,Array.getElem?_eq_getElem (by omega)]; rfl
        have x1:∀k,k<G*2->(((w.alloc (.cells ROW e)).drew.setCells w.heap.size (i*2) (XD [p])).cell? ⟨w.heap.size,0+k,none⟩).isSome=true :=λk hk =>
          Qq _ _ _ _ (λj hj => by have :=x0 (i*2+j) (by rw[hvl] at hj; omega); rwa [Nat.zero_add] at this) _ (x0 k hk)
        have x2:∀k,k<G*2->(w'.cell? ⟨w.heap.size,0+k,none⟩).isSome=true :=λk hk => by
          rw[k2]; exact Qq _ _ _ _ (λj hj => by have :=x1 ((i+1)*2+j) (by omega); rw[Nat.zero_add] at this; exact this) _ (x1 k hk)
        have x3:∀q,Yj w' w.heap.size q=false :=λq => by
          rw[k2]; unfold Yj; rw[World.frozen?_setCells]
          show World.frozen? ((w.alloc (.cells ROW e)).drew.setCells w.heap.size (i*2) (XD [p])) _=false
          rw[World.frozen?_setCells]
          exact YO w ROW e q
        refine⟨.returned _,w',fr,?_,k3⟩
        have hsz:w.heap.size<w'.heap.size :=by
          rw[k2,YL]
          show w.heap.size<((w.alloc (.cells ROW e)).drew.setCells w.heap.size (i*2) (XD [p])).heap.size
          rw[YL]
          show w.heap.size<(w.heap.push _).size
          rw[Array.size_push]; exact Nat.lt_succ_self _
        refine Xbp (S :=blk w.heap.size) o0 o2 ?_ (λg k hx => .inr (by rw[show g=w.heap.size from hx]; exact Nat.le_refl _)) (λg k hx hy => by have :=hI g k hy; rw[show g=w.heap.size from hx] at this; omega) (λg k hx => by rw[show g=w.heap.size from hx]; exact hsz) hI
          (Qx hnew hG (by omega) (λ_ => rfl) (XiM x3 (λk hk => Option.isSome_iff_exists.1 (x2 k hk))) (λj v hj => ?_))
        · rw[k2]
          have f1:Frame w (w.alloc (.cells ROW e)).drew nos :=(Ya w _).trans (Qc _)
          have f2 :=f1.step (X1 w.heap.size (XD [p]) (i*2) _) (λg k ⟨e1,_,_⟩ => .inr (by rw[e1]; exact Nat.le_refl _))
          have f3 :=(f2.trans (Qc _)).step (X1 w.heap.size ((XD hs).drop (i*2)) ((i+1)*2) _) (λg k ⟨e1,_,_⟩ => .inr (by rw[e1]; exact Nat.le_refl _))
          exact f3.mono (Xq _)
        · rw[Xgf (by omega)] at hj
          show w'.cell? _=_
          rw[k2,Nat.zero_add]
          split at hj
          · rename_i h1
            rw[World.cell?_setCells_out _ _ _ _ _ (λ_ _ => .inl (by simp only; omega))]
            show World.cell? ((w.alloc (.cells ROW e)).drew.setCells w.heap.size (i*2) (XD [p])) _=_
            rw[World.cell?_setCells_out _ _ _ _ _ (λ_ _ => .inl (by simp only; omega))]
            show Xr (w.alloc (.cells ROW e)) w.heap.size j=_
            rw[y0,hROW,Array.getElem?_append_left (by simp only[Array.size_append,List.size_toArray,List.length_take,hcl]; omega),Array.getElem?_append_left (by simp only[List.size_toArray,List.length_take,hcl]; omega),List.getElem?_toArray,List.getElem?_take,if_pos h1]
            exact hj
          · split at hj
            · rename_i h1 h2
              obtain⟨hjl,hje⟩ :=List.getElem?_eq_some_iff.1 hj
              rw[World.cell?_setCells_out _ _ _ _ _ (λ_ _ => .inl (by simp only; omega))]
              have :=World.cell?_setCells_in w.heap.size (XD [p]) (i*2) (w.alloc (.cells ROW e)).drew (λq hq => by have :=x0 (i*2+q) (by rw[hvl] at hq; omega); rwa [Nat.zero_add] at this) (j-i*2) hjl
              rw[show i*2+(j-i*2)=j by omega] at this
              exact this.trans (by rw[hje])
            · rename_i h1 h2
              obtain⟨hjl,hje⟩ :=List.getElem?_eq_some_iff.1 hj
              have :=World.cell?_setCells_in w.heap.size ((XD hs).drop (i*2)) ((i+1)*2) ((w.alloc (.cells ROW e)).drew.setCells w.heap.size (i*2) (XD [p])).drew (λq hq => by have :=x1 ((i+1)*2+q) (by omega); rw[Nat.zero_add] at this; exact this) (j-(i+1)*2) hjl
              rw[show(i+1)*2+(j-(i+1)*2)=j by omega] at this
              rw[this,hje]
      · obtain rfl:i=n :=by omega
        obtain⟨e',w',fr,⟨k1,k2⟩,k3⟩ :=hEnd A i cap vb voff vc (XD hs) (XD [p]) w hnc (by omega) hbig hcl hvl (λh0 => by
            rcases Nat.eq_zero_or_pos cap with hz | hz
            · omega
            · rw[h0] at hA; cases hA hz) (λa ha j v hj => by
            have hpos:0<cap :=by
              have :=(List.getElem?_eq_some_iff.1 hj).1
              omega
            obtain rfl:a=⟨b,off,none⟩ :=by rw[hA hpos] at ha; injection ha with ha; exact ha.symm
            rw[Addr.add_lit]; exact hcell j v hj) hvcell cs
        rw[hGe] at k1 k2
        subst k1
        obtain⟨ROW,hROW⟩:∃ROW:Array Value,ROW=(XD hs).toArray++(XD [p]).toArray++Builtin.zeroCells zv.cells (G-(i+1)) :=⟨_,rfl⟩
        have hRs:ROW.size=G*2 :=by
          rw[hROW]
          simp only[Array.size_append,hzs,List.size_toArray,hcl,hvl]
          omega
        rw[<-hROW] at k2
        have y0:∀k,Xr w' w.heap.size k=ROW[k]? :=λk => by rw[k2]; exact Y8 w.drew ROW e k
        have x2:∀k,k<G*2->∃v,Xr w' w.heap.size (0+k)=some v :=λk hk => by
          rw[y0,Nat.zero_add,Array.getElem?_eq_getElem (by omega)]; exact⟨_,rfl⟩
        have x3:∀q,Yj w' w.heap.size q=false :=λq => by rw[k2]; exact YO w.drew ROW e q
        refine⟨.returned _,w',fr,?_,k3⟩
        have hsz:w.heap.size<w'.heap.size :=by
          rw[k2]
          show w.heap.size<(w.heap.push _).size
          rw[Array.size_push]; exact Nat.lt_succ_self _
        refine Xbp (S :=blk w.heap.size) o0 o2 ?_ (λg k hx => .inr (by rw[show g=w.heap.size from hx]; exact Nat.le_refl _)) (λg k hx hy => by have :=hI g k hy; rw[show g=w.heap.size from hx] at this; omega) (λg k hx => by rw[show g=w.heap.size from hx]; exact hsz) hI
          (Qx hnew hG (by omega) (λ_ => rfl) (XiM x3 x2) (λj v hj => ?_))
        · rw[k2]; exact(UD w _).mono (Xq _)
        · rw[Xgf (by omega)] at hj
          rw[y0,Nat.zero_add,hROW]
          split at hj
          · rw[Array.getElem?_append_left (by simp only[Array.size_append,List.size_toArray,hcl,hvl]; omega),Array.getElem?_append_left (by simp only[List.size_toArray,hcl]; omega),List.getElem?_toArray]
            exact hj
          · split at hj
            · rw[Array.getElem?_append_left (by simp only[Array.size_append,List.size_toArray,hcl,hvl]; omega),Array.getElem?_append_right (by simp only[List.size_toArray,hcl]; omega),List.size_toArray,hcl,List.getElem?_toArray]
              exact hj
            · have :=(List.getElem?_eq_some_iff.1 hj).1
              rw[List.length_drop,hcl] at this
              omega
end Go.Vm
set_option autoImplicit false
set_option maxRecDepth 100000
set_option maxHeartbeats 4000000
attribute [go_sem] Nat.add_zero Nat.zero_add List.contains_cons List.contains_nil List.elem_cons List.elem_nil List.length_cons List.length_nil List.map_cons List.map_nil List.all_cons List.all_nil List.any_cons List.any_nil List.getElem?_cons_zero List.getElem?_cons_succ List.getElem?_nil List.getD_cons_zero List.getD_cons_succ List.append_nil List.nil_append List.cons_append List.isEmpty_cons List.isEmpty_nil List.headD_cons List.headD_nil List.tail_cons List.tail_nil List.take_nil List.drop_nil Bool.and_true Bool.true_and Bool.or_false Bool.or_true Bool.false_or Bool.true_or Bool.not_true Bool.not_false Bool.and_false Bool.false_and Bool.false_eq_true Bool.true_eq_false Bool.and_self Bool.not_not decide_true decide_false decide_eq_true_eq beq_self_eq_true Nat.le_refl Nat.zero_le and_self true_and and_true false_and and_false or_true true_or if_true if_false Option.map_some Option.map_none Option.isSome_none Option.isSome_some eq_self_iff_true not_true_eq_false not_false_eq_true ne_eq Nat.not_lt_zero Nat.succ_ne_zero List.length_map List.set_cons_zero List.set_cons_succ gt_iff_lt ge_iff_le List.take_succ_cons List.take_zero List.drop_zero List.drop_succ_cons bne_self_eq_false
namespace Go.Vm
def Xx(b:UInt8):List AV :=[.i .u8 b.toNat]
def Zw(s:ByteArray):List AV :=[.s s]
def Xnr(n:Int):List AV :=[.i .i64 n]
def Xg6(b:Bool):List AV :=[.b b]
@[go_sem] def XoX(b:UInt8):Xx b=[.i .u8 b.toNat] :=nr rfl
@[go_sem] def XpA(s:ByteArray):Zw s=[.s s] :=nr rfl
@[go_sem] def XpB(n:Int):Xnr n=[.i .i64 n] :=nr rfl
@[go_sem] def XoY(b:Bool):Xg6 b=[.b b] :=nr rfl
def Yf{α:Type}{f g:α->List AV}(h:∀a,Yn (f a)=g a):∀xs:List α,XE (xs.map f)=xs.map g
  | [] => rfl
  | x :: xs => by simp only[List.map_cons,XE,h,Yf h xs]
def Yv{α:Type}{f:α->List AV}(h:∀a,XU (f a)=false):∀xs:List α,Yk (xs.map f)=false
  | [] => rfl
  | x :: xs => by simp only[List.map_cons,Yk,h,Yv h xs,Bool.or_self]
@[go_sem] def ZC(xs:List UInt8):XE (xs.map Xx)=xs.map Xx :=Yf (λa => by simp only[Xx,Yn,strip]) xs
@[go_sem] def Xg7(xs:List ByteArray):XE (xs.map Zw)=xs.map Zw :=Yf (λa => by simp only[Zw,Yn,strip]) xs
@[go_sem] def Xns(xs:List Int):XE (xs.map Xnr)=xs.map Xnr :=Yf (λa => by simp only[Xnr,Yn,strip]) xs
@[go_sem] def XmV(xs:List Bool):XE (xs.map Xg6)=xs.map Xg6 :=Yf (λa => by simp only[Xg6,Yn,strip]) xs
@[go_sem] def Qf(xs:List UInt8):Yk (xs.map Xx)=false :=Yv (λa => by simp only[Xx,XU,XB,Bool.or_self]) xs
@[go_sem] def XiN(xs:List ByteArray):Yk (xs.map Zw)=false :=Yv (λa => by simp only[Zw,XU,XB,Bool.or_self]) xs
@[go_sem] def XoZ(xs:List Int):Yk (xs.map Xnr)=false :=Yv (λa => by simp only[Xnr,XU,XB,Bool.or_self]) xs
@[go_sem] def Xnt(xs:List Bool):Yk (xs.map Xg6)=false :=Yv (λa => by simp only[Xg6,XU,XB,Bool.or_self]) xs
@[go_sem] def Xo0(xs:List UInt8):Xaz (xs.map Xx)=some xs :=XcP xs
def szs(n:Nat)(left:Int)(k:Int->Int):Int :=if(IntKind.i64).wrap (left-(n:Int))<0 then -1 else k ((IntKind.i64).wrap (left-(n:Int)))
def szn(r:Int)(k:Int->Int):Int :=if r<0 then -1 else k r
def szO{α:Type}(f:α->Int->Int):List α->Int->Option Int
  | [],l => some l
  | x :: xs,l => if f x l<0 then none else szO f xs (f x l)
def szL{α:Type}(f:α->Int->Int)(xs:List α)(left:Int):Int :=szs xs.length left λl => (szO f xs l).getD (-1)
def Xb9(xs:List UInt8)(left:Int):Int :=szs xs.length left λl => l
def Xcl(s:ByteArray)(left:Int):Int :=szs s.size left λl => l
def XiO(_:UInt8):Prop :=True
def XeA(s:ByteArray):Prop :=s.size<=9223372036854775807
def XeB(n:Int):Prop :=-9223372036854775808<=n/\n<=9223372036854775807
def okL{α:Type}(p:α->Prop)(xs:List α):Prop :=xs.length<=9223372036854775807/\∀x∈xs,p x
def XfC(s:ByteArray):Prop :=s.size<=1048576
def QQ(_:UInt8):Prop :=True
def Xdt(_:Int):Prop :=True
def Xlb(_:Bool):Prop :=True
def XiP(_:Bool):Prop :=True
def smL{α:Type}(p:α->Prop)(xs:List α):Prop :=xs.length<=1048576/\∀x∈xs,p x
def UG{n:Nat}{l:Int}{k:Int->Int}(hn:n<=9223372036854775807)(h0:0<=l)(hl:l<=1048576)(h:0<=szs n l k):n<=1048576/\∃l',0<=l'/\l'<=l/\szs n l k=k l' :=by
  unfold szs at h ⊢
  rw[Yl (by omega) (by omega)] at h ⊢
  split at h
  · omega
  · rename_i hc
    rw[if_neg hc]
    exact⟨by omega,_,by omega,by omega,rfl⟩
def Xdu{r:Int}{k:Int->Int}(h:0<=szn r k):0<=r/\szn r k=k r :=by
  unfold szn at h ⊢
  split at h
  · omega
  · rename_i hc
    rw[if_neg hc]
    exact⟨by omega,rfl⟩
def XcV{α:Type}(f:α->Int->Int)(ok sm:α->Prop):Prop :=∀a l,ok a->0<=l->l<=1048576->0<=f a l->sm a/\f a l<=l
def Xgg{α:Type}{f:α->Int->Int}{ok sm:α->Prop}(hf:XcV f ok sm):XcV (szL f) (okL ok) (smL sm) :=by
  intro xs l hok h0 hl h
  obtain⟨h1,l',a1,a2,e⟩ :=UG hok.1 h0 hl h
  have key:∀(ys:List α) (m:Int),(∀x∈ys,ok x)->0<=m->m<=1048576->0<=(szO f ys m).getD (-1)->(∀x∈ys,sm x)/\(szO f ys m).getD (-1)<=m :=by
    intro ys
    induction ys with
    | nil => intro m _ _ _ _; simp[szO]
    | cons y ys ih =>
      intro m ho hm0 hm hs
      simp only[szO] at hs ⊢
      split at hs
      · simp at hs
      · rename_i hc
        rw[if_neg hc]
        obtain⟨s1,s2⟩ :=hf y m (ho y (by simp)) hm0 hm (by omega)
        obtain⟨s3,s4⟩ :=ih _ (λx hx => ho x (by simp[hx])) (by omega) (by omega) hs
        exact⟨λx hx => (List.mem_cons.1 hx).elim (λe => e▸s1) (λhx => s3 x hx),by omega⟩
  unfold szL at h ⊢
  rw[e] at h ⊢
  obtain⟨k1,k2⟩ :=key xs l' hok.2 a1 (by omega) h
  exact⟨⟨h1,k1⟩,by omega⟩
def XeC:XcV Xb9 (okL XiO) (smL QQ) :=by
  intro xs l hok h0 hl h
  obtain⟨h1,l',a1,a2,e⟩ :=UG hok.1 h0 hl h
  unfold Xb9 at h ⊢
  rw[e]
  exact⟨⟨h1,λ_ _ => trivial⟩,a2⟩
def Xg8:XcV Xcl XeA XfC :=by
  intro xs l hok h0 hl h
  obtain⟨h1,l',a1,a2,e⟩ :=UG hok h0 hl h
  unfold Xcl at h ⊢
  rw[e]
  exact⟨h1,a2⟩
def Zg{α:Type}(f:α->List AV)(z:List AV)(xs:List α)(k:Nat):List (List AV) :=(xs.take k).map f++List.replicate (xs.length-k) z
def U2{α:Type}(f:α->List AV)(z:List AV)(xs:List α):List.replicate xs.length z=Zg f z xs 0 :=by simp[Zg]
def XaS{α:Type}(f:α->List AV)(z:List AV)(xs:List α):Zg f z xs xs.length=xs.map f :=by simp[Zg]
def XaT{α:Type}(f:α->List AV)(z:List AV)(xs:List α)(k:Nat)(h:k<=xs.length):(Zg f z xs k).length=xs.length :=by simp[Zg]; omega
def XaU{α:Type}(f:α->List AV)(z:List AV)(xs:List α)(k:Nat)(h:k<xs.length):(Zg f z xs k).set k (f xs[k])=Zg f z xs (k+1) :=by
  unfold Zg
  rw[List.set_append_right _ _ (by simp; omega)]
  simp only[List.length_map,List.length_take]
  rw[show k-min k xs.length=0 by omega,show xs.length-k=(xs.length-(k+1))+1 by omega,List.replicate_succ,List.set_cons_zero,List.take_succ_eq_append_getElem h,List.map_append]
  simp only[List.map_cons,List.map_nil,List.append_assoc,List.cons_append,List.nil_append]
def UH{α:Type}(f:α->List AV)(z:List AV)(xs:List α)(k:Nat)(h:k<xs.length):(Zg f z xs k)[k]?=some z :=by
  unfold Zg
  rw[List.getElem?_append_right (by simp; omega)]
  simp only[List.length_map,List.length_take]
  rw[show k-min k xs.length=0 by omega,List.getElem?_replicate,if_pos (by omega)]
def U3{α:Type}(f:α->List AV)(z:List AV)(xs:List α)(k:Nat)(h:k<xs.length):(Zg f z xs k).getD k []=z :=by
  rw[List.getD_eq_getElem?_getD,UH f z xs k h]; rfl
def XfD{α:Type}{f:α->Int->Int}:∀{xs:List α} {l l':Int},UQ (λx l => decide (f x l<0)) (λx l => f x l) xs l=.inl l'->szO f xs l=some l'
  | [],l,l',h => by simpa[szO,UQ] using h
  | x :: xs,l,l',h => by
    by_cases hc:f x l<0
    · simp[UQ,hc] at h
    · simp only[UQ,decide_eq_false hc,Bool.false_eq_true,if_false] at h
      simp only[szO,if_neg hc,XfD h]
def XfE{α:Type}{f:α->Int->Int}:∀{xs:List α} {l:Int} {p:α×Int},UQ (λx l => decide (f x l<0)) (λx l => f x l) xs l=.inr p->szO f xs l=none
  | [],l,p,h => by simp[UQ] at h
  | x :: xs,l,p,h => by
    by_cases hc:f x l<0
    · simp only[szO,if_pos hc]
    · simp only[UQ,decide_eq_false hc,Bool.false_eq_true,if_false] at h
      simp only[szO,if_neg hc,XfE h]
def Ub{α:Type}{xs ys:List α}(h:xs.length=ys.length):(xs.zip ys).length=xs.length :=by simp[h]
def Xdv{α:Type}:∀{xs ys:List α} {u u':Unit},xs.length=ys.length->UQ (λ(x:α×α) (_:Unit) => !eqv x.1 x.2) (λ_ _ => ()) (xs.zip ys) u=.inl u'->eqv xs ys=true
  | [],[],_,_,_,_ => Xaq _
  | x :: xs,y :: ys,u,u',hl,h => by
    simp only[List.zip_cons_cons,UQ] at h
    cases hc:eqv x y with
    | false => simp[hc] at h
    | true =>
      simp only[hc,Bool.not_true,Bool.false_eq_true,if_false] at h
      have :=YS.1 (Xdv (by simpa using hl) h)
      rw[YS.1 hc,this]; exact Xaq _
def Xdw{α:Type}:∀{xs ys:List α} {u:Unit} {p:(α×α)×Unit},xs.length=ys.length->UQ (λ(x:α×α) (_:Unit) => !eqv x.1 x.2) (λ_ _ => ()) (xs.zip ys) u=.inr p->eqv xs ys=false
  | [],[],_,_,_,h => by simp[UQ] at h
  | x :: xs,y :: ys,u,p,hl,h => by
    simp only[List.zip_cons_cons,UQ] at h
    cases he:eqv (x :: xs) (y :: ys) with
    | false => rfl
    | true =>
      have hh :=YS.1 he
      injection hh with h1 h2
      subst h1 h2
      simp only[Xaq,Bool.not_true,Bool.false_eq_true,if_false] at h
      have :=Xdw rfl h
      rw[Xaq] at this; cases this
def XfF{α:Type}{xs ys:List α}(h:¬xs.length=ys.length):eqv xs ys=false :=by
  cases he:eqv xs ys with
  | false => rfl
  | true => exact absurd (congrArg List.length (YS.1 he)) h
def XpC(c:Prop)[Decidable c](k:IntKind)(x y:Int)(l:List AV):(if c then some (AV.i k x,l) else some (AV.i k y,l))=some (AV.i k (if c then x else y),l) :=by split<;>rfl
def Xo1(c:Prop)[Decidable c](x y:Bool)(l:List AV):(if c then some (AV.b x,l) else some (AV.b y,l))=some (AV.b (if c then x else y),l) :=by split<;>rfl
def Xav(x:Bool):((!x)=true)=(x=false) :=by cases x<;>simp
def XiQ(x y:Bool):(if x=false then false else y)=(x&&y) :=by cases x<;>rfl
end Go.Vm
namespace Go.Vm
structure Xg where
  Name:ByteArray
  Value:ByteArray
def Xa(t:Tag)(a:Xg):List AV :=[.s a.Name,.s a.Value]
@[go_sem] def XmW(t:Tag)(a:Xg):Xa t a=[.s a.Name,.s a.Value] :=nr rfl
@[go_sem] def YM(t:Tag)(xs:List Xg):XE (xs.map (Xa t))=xs.map (Xa .ro) :=Yf (λa => by simp only[Xa,Yn,strip]) xs
@[go_sem] def Y6(xs:List Xg):Yk (xs.map (Xa .mut))=false :=Yv (λa => by simp only[Xa,XU,XB,Bool.or_self]) xs
@[go_sem] def Xg.eta(a:Xg):Xg.mk a.Name a.Value=a :=nr rfl
def Xg.eqv(a b:Xg):Vm.eqv a b=(Vm.eqv a.Name b.Name&&(Vm.eqv a.Value b.Value)) :=(Z1 (by simp only[Bool.and_eq_true,YS]; cases a; cases b; simp only[Xg.mk.injEq,and_assoc])).symm
def UI(a:Xg):Prop :=XeA a.Name/\XeA a.Value
def XO(a:Xg):Prop :=XfC a.Name/\XfC a.Value
def Z8(a:Xg)(left:Int):Int :=szs a.Name.size left λl => szs a.Value.size l λl => l
def Xdx:XcV Z8 UI XO :=by
  intro a left hok h0 hl h
  unfold Z8 at h ⊢
  obtain⟨qName,qValue⟩ :=hok
  obtain⟨sName,l0,a0,b0,e0⟩ :=UG qName h0 (by omega) h
  rw[e0] at h ⊢
  obtain⟨sValue,l1,a1,b1,e1⟩ :=UG qValue a0 (by omega) h
  rw[e1] at h ⊢
  exact⟨⟨sName,sValue⟩,by omega⟩
structure Request where
  Method:ByteArray
  Host:ByteArray
  Path:ByteArray
  Headers:List Xg
def UJ(t:Tag)(a:Request):List AV :=[.s a.Method,.s a.Host,.s a.Path,.sl t 2 (a.Headers.map (Xa t))]
@[go_sem] def Xlc(t:Tag)(a:Request):UJ t a=[.s a.Method,.s a.Host,.s a.Path,.sl t 2 (a.Headers.map (Xa t))] :=nr rfl
@[go_sem] def Xi2(t:Tag)(xs:List Request):XE (xs.map (UJ t))=xs.map (UJ .ro) :=Yf (λa => by simp only[UJ,Yn,strip,YM]) xs
@[go_sem] def XkK(xs:List Request):Yk (xs.map (UJ .mut))=false :=Yv (λa => by simp only[UJ,XU,XB,Bool.or_self,Y6]) xs
@[go_sem] def Request.eta(a:Request):Request.mk a.Method a.Host a.Path a.Headers=a :=nr rfl
def Request.eqv(a b:Request):Vm.eqv a b=(Vm.eqv a.Method b.Method&&(Vm.eqv a.Host b.Host&&(Vm.eqv a.Path b.Path&&(Vm.eqv a.Headers b.Headers)))) :=(Z1 (by simp only[Bool.and_eq_true,YS]; cases a; cases b; simp only[Request.mk.injEq,and_assoc])).symm
structure Meta where
  At:Int
  Age:Int
  Life:Int
  Swr:Int
  Sie:Int
  Soft:Bool
  NoCache:Bool
def XfG(t:Tag)(a:Meta):List AV :=[.i .i64 a.At,.i .i64 a.Age,.i .i64 a.Life,.i .i64 a.Swr,.i .i64 a.Sie,.b a.Soft,.b a.NoCache]
@[go_sem] def Xo2(t:Tag)(a:Meta):XfG t a=[.i .i64 a.At,.i .i64 a.Age,.i .i64 a.Life,.i .i64 a.Swr,.i .i64 a.Sie,.b a.Soft,.b a.NoCache] :=nr rfl
@[go_sem] def XmX(t:Tag)(xs:List Meta):XE (xs.map (XfG t))=xs.map (XfG .ro) :=Yf (λa => by simp only[XfG,Yn,strip]) xs
@[go_sem] def Xnu(xs:List Meta):Yk (xs.map (XfG .mut))=false :=Yv (λa => by simp only[XfG,XU,XB,Bool.or_self]) xs
@[go_sem] def Meta.eta(a:Meta):Meta.mk a.At a.Age a.Life a.Swr a.Sie a.Soft a.NoCache=a :=nr rfl
def Meta.eqv(a b:Meta):Vm.eqv a b=(Vm.eqv a.At b.At&&(Vm.eqv a.Age b.Age&&(Vm.eqv a.Life b.Life&&(Vm.eqv a.Swr b.Swr&&(Vm.eqv a.Sie b.Sie&&(Vm.eqv a.Soft b.Soft&&(Vm.eqv a.NoCache b.NoCache))))))) :=(Z1 (by simp only[Bool.and_eq_true,YS]; cases a; cases b; simp only[Meta.mk.injEq,and_assoc])).symm
def Xo3(a:Meta):Prop :=XeB a.At/\XeB a.Age/\XeB a.Life/\XeB a.Swr/\XeB a.Sie/\XiP a.Soft/\XiP a.NoCache
def Xgh(a:Meta):Prop :=Xdt a.At/\Xdt a.Age/\Xdt a.Life/\Xdt a.Swr/\Xdt a.Sie/\Xlb a.Soft/\Xlb a.NoCache
def XfH(a:Meta):Xgh a :=⟨trivial,trivial,trivial,trivial,trivial,trivial,trivial⟩
structure Xt where
  Key:ByteArray
  Status:Int
  Headers:List Xg
  Body:List UInt8
  Meta:Meta
  Tags:List ByteArray
  Pins:Int
def UR(t:Tag)(a:Xt):List AV :=[.s a.Key,.i .i64 a.Status,.sl t 2 (a.Headers.map (Xa t)),.sl t 1 (a.Body.map Xx),.i .i64 a.Meta.At,.i .i64 a.Meta.Age,.i .i64 a.Meta.Life,.i .i64 a.Meta.Swr,.i .i64 a.Meta.Sie,.b a.Meta.Soft,.b a.Meta.NoCache,.sl t 1 (a.Tags.map Zw),.i .i64 a.Pins]
@[go_sem] def Xnv(t:Tag)(a:Xt):UR t a=[.s a.Key,.i .i64 a.Status,.sl t 2 (a.Headers.map (Xa t)),.sl t 1 (a.Body.map Xx),.i .i64 a.Meta.At,.i .i64 a.Meta.Age,.i .i64 a.Meta.Life,.i .i64 a.Meta.Swr,.i .i64 a.Meta.Sie,.b a.Meta.Soft,.b a.Meta.NoCache,.sl t 1 (a.Tags.map Zw),.i .i64 a.Pins] :=nr rfl
@[go_sem] def Xld(t:Tag)(xs:List Xt):XE (xs.map (UR t))=xs.map (UR .ro) :=Yf (λa => by simp only[UR,Yn,strip,ZC,YM,Xg7]) xs
@[go_sem] def XmY(xs:List Xt):Yk (xs.map (UR .mut))=false :=Yv (λa => by simp only[UR,XU,XB,Bool.or_self,Qf,Y6,XiN]) xs
@[go_sem] def Xt.eta(a:Xt):Xt.mk a.Key a.Status a.Headers a.Body a.Meta a.Tags a.Pins=a :=nr rfl
def Xt.eqv(a b:Xt):Vm.eqv a b=(Vm.eqv a.Key b.Key&&(Vm.eqv a.Status b.Status&&(Vm.eqv a.Headers b.Headers&&(Vm.eqv a.Body b.Body&&(Vm.eqv a.Meta b.Meta&&(Vm.eqv a.Tags b.Tags&&(Vm.eqv a.Pins b.Pins))))))) :=(Z1 (by simp only[Bool.and_eq_true,YS]; cases a; cases b; simp only[Xt.mk.injEq,and_assoc])).symm
def Xdy(a:Xt):Prop :=XeA a.Key/\XeB a.Status/\(okL UI) a.Headers/\(okL XiO) a.Body/\Xo3 a.Meta/\(okL XeA) a.Tags/\XeB a.Pins
def Uc(a:Xt):Prop :=XfC a.Key/\Xdt a.Status/\(smL XO) a.Headers/\(smL QQ) a.Body/\Xgh a.Meta/\(smL XfC) a.Tags/\Xdt a.Pins
def XaV(a:Xt)(left:Int):Int :=szs a.Key.size left λl => szn (szL Z8 a.Headers l) λl => szn (Xb9 a.Body l) λl => szn (szL Xcl a.Tags l) λl => l
def XeD:XcV XaV Xdy Uc :=by
  intro a left hok h0 hl h
  unfold XaV at h ⊢
  obtain⟨qKey,qStatus,qHeaders,qBody,qMeta,qTags,qPins⟩ :=hok
  obtain⟨sKey,l0,a0,b0,e0⟩ :=UG qKey h0 (by omega) h
  rw[e0] at h ⊢
  obtain⟨a1,e1⟩ :=Xdu h
  obtain⟨sHeaders,b1⟩ :=(Xgg Xdx) _ _ qHeaders a0 (by omega) a1
  rw[e1] at h ⊢
  obtain⟨a2,e2⟩ :=Xdu h
  obtain⟨sBody,b2⟩ :=XeC _ _ qBody a1 (by omega) a2
  rw[e2] at h ⊢
  obtain⟨a3,e3⟩ :=Xdu h
  obtain⟨sTags,b3⟩ :=(Xgg Xg8) _ _ qTags a2 (by omega) a3
  rw[e3] at h ⊢
  exact⟨⟨sKey,trivial,sHeaders,sBody,XfH _,sTags,trivial⟩,by omega⟩
structure Yc where
  Code:Int
  Request:Request
def YP(t:Tag)(a:Yc):List AV :=[.i .i64 a.Code,.s a.Request.Method,.s a.Request.Host,.s a.Request.Path,.sl t 2 (a.Request.Headers.map (Xa t))]
@[go_sem] def Xgi(t:Tag)(a:Yc):YP t a=[.i .i64 a.Code,.s a.Request.Method,.s a.Request.Host,.s a.Request.Path,.sl t 2 (a.Request.Headers.map (Xa t))] :=nr rfl
@[go_sem] def XeG(t:Tag)(xs:List Yc):XE (xs.map (YP t))=xs.map (YP .ro) :=Yf (λa => by simp only[YP,Yn,strip,YM]) xs
@[go_sem] def XfI(xs:List Yc):Yk (xs.map (YP .mut))=false :=Yv (λa => by simp only[YP,XU,XB,Bool.or_self,Y6]) xs
@[go_sem] def Yc.eta(a:Yc):Yc.mk a.Code a.Request=a :=nr rfl
def Yc.eqv(a b:Yc):Vm.eqv a b=(Vm.eqv a.Code b.Code&&(Vm.eqv a.Request b.Request)) :=(Z1 (by simp only[Bool.and_eq_true,YS]; cases a; cases b; simp only[Yc.mk.injEq,and_assoc])).symm
structure Response where
  Status:Int
  Headers:List Xg
  Body:List UInt8
def ZQ(t:Tag)(a:Response):List AV :=[.i .i64 a.Status,.sl t 2 (a.Headers.map (Xa t)),.sl t 1 (a.Body.map Xx)]
@[go_sem] def XkL(t:Tag)(a:Response):ZQ t a=[.i .i64 a.Status,.sl t 2 (a.Headers.map (Xa t)),.sl t 1 (a.Body.map Xx)] :=nr rfl
@[go_sem] def XiR(t:Tag)(xs:List Response):XE (xs.map (ZQ t))=xs.map (ZQ .ro) :=Yf (λa => by simp only[ZQ,Yn,strip,ZC,YM]) xs
@[go_sem] def Xi3(xs:List Response):Yk (xs.map (ZQ .mut))=false :=Yv (λa => by simp only[ZQ,XU,XB,Bool.or_self,Qf,Y6]) xs
@[go_sem] def Response.eta(a:Response):Response.mk a.Status a.Headers a.Body=a :=nr rfl
def Response.eqv(a b:Response):Vm.eqv a b=(Vm.eqv a.Status b.Status&&(Vm.eqv a.Headers b.Headers&&(Vm.eqv a.Body b.Body))) :=(Z1 (by simp only[Bool.and_eq_true,YS]; cases a; cases b; simp only[Response.mk.injEq,and_assoc])).symm
def XaW(a:Response):Prop :=Xdt a.Status/\(smL XO) a.Headers/\(smL QQ) a.Body
structure Xh where
  Code:Int
  Response:Response
def X5(t:Tag)(a:Xh):List AV :=[.i .i64 a.Code,.i .i64 a.Response.Status,.sl t 2 (a.Response.Headers.map (Xa t)),.sl t 1 (a.Response.Body.map Xx)]
@[go_sem] def XfJ(t:Tag)(a:Xh):X5 t a=[.i .i64 a.Code,.i .i64 a.Response.Status,.sl t 2 (a.Response.Headers.map (Xa t)),.sl t 1 (a.Response.Body.map Xx)] :=nr rfl
@[go_sem] def XeE(t:Tag)(xs:List Xh):XE (xs.map (X5 t))=xs.map (X5 .ro) :=Yf (λa => by simp only[X5,Yn,strip,ZC,YM]) xs
@[go_sem] def XeH(xs:List Xh):Yk (xs.map (X5 .mut))=false :=Yv (λa => by simp only[X5,XU,XB,Bool.or_self,Qf,Y6]) xs
@[go_sem] def Xh.eta(a:Xh):Xh.mk a.Code a.Response=a :=nr rfl
def Xh.eqv(a b:Xh):Vm.eqv a b=(Vm.eqv a.Code b.Code&&(Vm.eqv a.Response b.Response)) :=(Z1 (by simp only[Bool.and_eq_true,YS]; cases a; cases b; simp only[Xh.mk.injEq,and_assoc])).symm
def ZX(a:Xh):Prop :=Xdt a.Code/\XaW a.Response
structure YQ where
  Code:Int
  Text:ByteArray
def ZD(t:Tag)(a:YQ):List AV :=[.i .i64 a.Code,.s a.Text]
@[go_sem] def XiS(t:Tag)(a:YQ):ZD t a=[.i .i64 a.Code,.s a.Text] :=nr rfl
@[go_sem] def Xg9(t:Tag)(xs:List YQ):XE (xs.map (ZD t))=xs.map (ZD .ro) :=Yf (λa => by simp only[ZD,Yn,strip]) xs
@[go_sem] def Xhd(xs:List YQ):Yk (xs.map (ZD .mut))=false :=Yv (λa => by simp only[ZD,XU,XB,Bool.or_self]) xs
@[go_sem] def YQ.eta(a:YQ):YQ.mk a.Code a.Text=a :=nr rfl
def YQ.eqv(a b:YQ):Vm.eqv a b=(Vm.eqv a.Code b.Code&&(Vm.eqv a.Text b.Text)) :=(Z1 (by simp only[Bool.and_eq_true,YS]; cases a; cases b; simp only[YQ.mk.injEq,and_assoc])).symm
structure Event where
  Kind:Int
  Id:Int
  Draw:Int
  Request:Request
  Response:Response
  Text:ByteArray
  Hard:Bool
def XcW(t:Tag)(a:Event):List AV :=[.i .i64 a.Kind,.i .i64 a.Id,.i .i64 a.Draw,.s a.Request.Method,.s a.Request.Host,.s a.Request.Path,.sl t 2 (a.Request.Headers.map (Xa t)),.i .i64 a.Response.Status,.sl t 2 (a.Response.Headers.map (Xa t)),.sl t 1 (a.Response.Body.map Xx),.s a.Text,.b a.Hard]
@[go_sem] def Xnw(t:Tag)(a:Event):XcW t a=[.i .i64 a.Kind,.i .i64 a.Id,.i .i64 a.Draw,.s a.Request.Method,.s a.Request.Host,.s a.Request.Path,.sl t 2 (a.Request.Headers.map (Xa t)),.i .i64 a.Response.Status,.sl t 2 (a.Response.Headers.map (Xa t)),.sl t 1 (a.Response.Body.map Xx),.s a.Text,.b a.Hard] :=nr rfl
@[go_sem] def Xle(t:Tag)(xs:List Event):XE (xs.map (XcW t))=xs.map (XcW .ro) :=Yf (λa => by simp only[XcW,Yn,strip,ZC,YM]) xs
@[go_sem] def XmZ(xs:List Event):Yk (xs.map (XcW .mut))=false :=Yv (λa => by simp only[XcW,XU,XB,Bool.or_self,Qf,Y6]) xs
@[go_sem] def Event.eta(a:Event):Event.mk a.Kind a.Id a.Draw a.Request a.Response a.Text a.Hard=a :=nr rfl
def Event.eqv(a b:Event):Vm.eqv a b=(Vm.eqv a.Kind b.Kind&&(Vm.eqv a.Id b.Id&&(Vm.eqv a.Draw b.Draw&&(Vm.eqv a.Request b.Request&&(Vm.eqv a.Response b.Response&&(Vm.eqv a.Text b.Text&&(Vm.eqv a.Hard b.Hard))))))) :=(Z1 (by simp only[Bool.and_eq_true,YS]; cases a; cases b; simp only[Event.mk.injEq,and_assoc])).symm
structure Yw where
  Code:Int
  Event:Event
def Zp(t:Tag)(a:Yw):List AV :=[.i .i64 a.Code,.i .i64 a.Event.Kind,.i .i64 a.Event.Id,.i .i64 a.Event.Draw,.s a.Event.Request.Method,.s a.Event.Request.Host,.s a.Event.Request.Path,.sl t 2 (a.Event.Request.Headers.map (Xa t)),.i .i64 a.Event.Response.Status,.sl t 2 (a.Event.Response.Headers.map (Xa t)),.sl t 1 (a.Event.Response.Body.map Xx),.s a.Event.Text,.b a.Event.Hard]
@[go_sem] def Xhe(t:Tag)(a:Yw):Zp t a=[.i .i64 a.Code,.i .i64 a.Event.Kind,.i .i64 a.Event.Id,.i .i64 a.Event.Draw,.s a.Event.Request.Method,.s a.Event.Request.Host,.s a.Event.Request.Path,.sl t 2 (a.Event.Request.Headers.map (Xa t)),.i .i64 a.Event.Response.Status,.sl t 2 (a.Event.Response.Headers.map (Xa t)),.sl t 1 (a.Event.Response.Body.map Xx),.s a.Event.Text,.b a.Event.Hard] :=nr rfl
@[go_sem] def Xgj(t:Tag)(xs:List Yw):XE (xs.map (Zp t))=xs.map (Zp .ro) :=Yf (λa => by simp only[Zp,Yn,strip,ZC,YM]) xs
@[go_sem] def Xha(xs:List Yw):Yk (xs.map (Zp .mut))=false :=Yv (λa => by simp only[Zp,XU,XB,Bool.or_self,Qf,Y6]) xs
@[go_sem] def Yw.eta(a:Yw):Yw.mk a.Code a.Event=a :=nr rfl
def Yw.eqv(a b:Yw):Vm.eqv a b=(Vm.eqv a.Code b.Code&&(Vm.eqv a.Event b.Event)) :=(Z1 (by simp only[Bool.and_eq_true,YS]; cases a; cases b; simp only[Yw.mk.injEq,and_assoc])).symm
structure Y7 where
  Code:Int
  Value:Int
def ZE(t:Tag)(a:Y7):List AV :=[.i .i64 a.Code,.i .i64 a.Value]
@[go_sem] def Xi4(t:Tag)(a:Y7):ZE t a=[.i .i64 a.Code,.i .i64 a.Value] :=nr rfl
@[go_sem] def Xhf(t:Tag)(xs:List Y7):XE (xs.map (ZE t))=xs.map (ZE .ro) :=Yf (λa => by simp only[ZE,Yn,strip]) xs
@[go_sem] def XiT(xs:List Y7):Yk (xs.map (ZE .mut))=false :=Yv (λa => by simp only[ZE,XU,XB,Bool.or_self]) xs
@[go_sem] def Y7.eta(a:Y7):Y7.mk a.Code a.Value=a :=nr rfl
def Y7.eqv(a b:Y7):Vm.eqv a b=(Vm.eqv a.Code b.Code&&(Vm.eqv a.Value b.Value)) :=(Z1 (by simp only[Bool.and_eq_true,YS]; cases a; cases b; simp only[Y7.mk.injEq,and_assoc])).symm
structure Xcm where
  Code:List UInt8
  At:Int
def XcX(t:Tag)(a:Xcm):List AV :=[.sl t 1 (a.Code.map Xx),.i .i64 a.At]
@[go_sem] def Xnx(t:Tag)(a:Xcm):XcX t a=[.sl t 1 (a.Code.map Xx),.i .i64 a.At] :=nr rfl
@[go_sem] def Xlf(t:Tag)(xs:List Xcm):XE (xs.map (XcX t))=xs.map (XcX .ro) :=Yf (λa => by simp only[XcX,Yn,strip,ZC]) xs
@[go_sem] def Xm0(xs:List Xcm):Yk (xs.map (XcX .mut))=false :=Yv (λa => by simp only[XcX,XU,XB,Bool.or_self,Qf]) xs
@[go_sem] def Xcm.eta(a:Xcm):Xcm.mk a.Code a.At=a :=nr rfl
def Xcm.eqv(a b:Xcm):Vm.eqv a b=(Vm.eqv a.Code b.Code&&(Vm.eqv a.At b.At)) :=(Z1 (by simp only[Bool.and_eq_true,YS]; cases a; cases b; simp only[Xcm.mk.injEq,and_assoc])).symm
end Go.Vm
set_option autoImplicit false
set_option maxRecDepth 100000
set_option maxHeartbeats 4000000
namespace Go.Vm
def Xn(a:Xg)(k:Int):Xg×Int :=
  (⟨Xeu (k),Xeu (k+1)⟩,k+1+1)
def Yg(a:Xg)(k:Int):k+1<=(Xn a k).2 :=by
  simp only[Xn]
  omega
def Xbb(a:Xg)(k:Int)(h:XO a):(Xn a k).2<=k+(2:Nat) :=by
  simp only[Xn]
  omega
def ZH(a:Xt)(k:Int):Xt×Int :=
  let p0 :=mkL Xn a.Headers (k)
  let p1 :=mkL XR a.Body (p0.2)
  let p2 :=mkL ZB a.Tags (p1.2)
  (⟨a.Key,a.Status,p0.1,p1.1,a.Meta,p2.1,a.Pins⟩,p2.2)
def Qr(a:Xt)(k:Int):ZH a k=(let p0 :=mkL Xn a.Headers (k); let p1 :=mkL XR a.Body (p0.2); let p2 :=mkL ZB a.Tags (p1.2); (⟨a.Key,a.Status,p0.1,p1.1,a.Meta,p2.1,a.Pins⟩,p2.2)) :=nr rfl
def XfK(a:Xt)(k:Int):k<=(ZH a k).2 :=by
  simp only[ZH]
  have b0 :=Qp Yg a.Headers (k)
  generalize (mkL Xn a.Headers (k)).2=q0 at b0 ⊢
  have b1 :=Qp Y4 a.Body (q0)
  generalize (mkL XR a.Body (q0)).2=q1 at b1 ⊢
  have b2 :=Qp Xau a.Tags (q1)
  generalize (mkL ZB a.Tags (q1)).2=q2 at b2 ⊢
  omega
def XfL(a:Xt)(k:Int)(h:Uc a):(ZH a k).2<=k+(4194304:Nat) :=by
  simp only[ZH]
  have b0 :=Xet (c :=2) (Xbb) a.Headers (k) h.2.2.1
  generalize (mkL Xn a.Headers (k)).2=q0 at b0 ⊢
  have b1 :=Xet (c :=1) (Xev) a.Body (q0) h.2.2.2.1
  generalize (mkL XR a.Body (q0)).2=q1 at b1 ⊢
  have b2 :=Xet (c :=1) (λx k h => XkH x k _ h) a.Tags (q1) h.2.2.2.2.2.1
  generalize (mkL ZB a.Tags (q1)).2=q2 at b2 ⊢
  omega
def XS(a:Response)(k:Int):Response×Int :=
  let p0 :=mkL Xn a.Headers (k)
  let p1 :=mkL XR a.Body (p0.2)
  (⟨a.Status,p0.1,p1.1⟩,p1.2)
def X2(a:Response)(k:Int):XS a k=(let p0 :=mkL Xn a.Headers (k); let p1 :=mkL XR a.Body (p0.2); (⟨a.Status,p0.1,p1.1⟩,p1.2)) :=nr rfl
def QC(a:Response)(k:Int):k<=(XS a k).2 :=by
  simp only[XS]
  have b0 :=Qp Yg a.Headers (k)
  generalize (mkL Xn a.Headers (k)).2=q0 at b0 ⊢
  have b1 :=Qp Y4 a.Body (q0)
  generalize (mkL XR a.Body (q0)).2=q1 at b1 ⊢
  omega
def Xcn(a:Response)(k:Int)(h:XaW a):(XS a k).2<=k+(3145728:Nat) :=by
  simp only[XS]
  have b0 :=Xet (c :=2) (Xbb) a.Headers (k) h.2.1
  generalize (mkL Xn a.Headers (k)).2=q0 at b0 ⊢
  have b1 :=Xet (c :=1) (Xev) a.Body (q0) h.2.2
  generalize (mkL XR a.Body (q0)).2=q1 at b1 ⊢
  omega
def XA(a:Xh)(k:Int):Xh×Int :=
  let p0 :=XS a.Response (k)
  (⟨a.Code,p0.1⟩,p0.2)
def XT(a:Xh)(k:Int):XA a k=(let p0 :=XS a.Response (k); (⟨a.Code,p0.1⟩,p0.2)) :=nr rfl
def UK(a:Xh)(k:Int):k<=(XA a k).2 :=by
  simp only[XA]
  have b0 :=QC a.Response (k)
  generalize (XS a.Response (k)).2=q0 at b0 ⊢
  omega
def UL(a:Xh)(k:Int)(h:ZX a):(XA a k).2<=k+(3145728:Nat) :=by
  simp only[XA]
  have b0 :=Xcn a.Response (k) h.2
  generalize (XS a.Response (k)).2=q0 at b0 ⊢
  omega
end Go.Vm
set_option autoImplicit false
set_option maxRecDepth 100000
set_option maxHeartbeats 4000000
namespace Go.Vm
def XkM(row:List AV)(h:XaP [.s,.s] row):∃x:Xg,row=Xa .ro x/\UI x :=by
  obtain⟨a0,_,rfl,h0,h⟩ :=h.cons
  obtain⟨a1,_,rfl,h1,h⟩ :=h.cons
  obtain rfl :=h.nil
  obtain⟨x0,rfl,o0⟩ :=h0.str
  obtain⟨x1,rfl,o1⟩ :=h1.str
  exact⟨⟨x0,x1⟩,rfl,⟨o0,o1⟩⟩
def Xm1(row:List AV)(h:XaP [.s,.i .i64,.sl [.s,.s],.sl [.i .u8],.i .i64,.i .i64,.i .i64,.i .i64,.i .i64,.b,.b,.sl [.s],.i .i64] row):∃x:Xt,row=UR .ro x/\Xdy x :=by
  obtain⟨a0,_,rfl,h0,h⟩ :=h.cons
  obtain⟨a1,_,rfl,h1,h⟩ :=h.cons
  obtain⟨a2,_,rfl,h2,h⟩ :=h.cons
  obtain⟨a3,_,rfl,h3,h⟩ :=h.cons
  obtain⟨a4,_,rfl,h4,h⟩ :=h.cons
  obtain⟨a5,_,rfl,h5,h⟩ :=h.cons
  obtain⟨a6,_,rfl,h6,h⟩ :=h.cons
  obtain⟨a7,_,rfl,h7,h⟩ :=h.cons
  obtain⟨a8,_,rfl,h8,h⟩ :=h.cons
  obtain⟨a9,_,rfl,h9,h⟩ :=h.cons
  obtain⟨a10,_,rfl,h10,h⟩ :=h.cons
  obtain⟨a11,_,rfl,h11,h⟩ :=h.cons
  obtain⟨a12,_,rfl,h12,h⟩ :=h.cons
  obtain rfl :=h.nil
  obtain⟨x0,rfl,o0⟩ :=h0.str
  obtain⟨x1,rfl,o1⟩ :=h1.int
  obtain⟨x2,rfl,o2⟩ :=h2.list (f :=(Xa .ro)) (ok :=UI) XkM
  obtain⟨x3,rfl,o3⟩ :=h3.list (f :=Xx) (ok :=XiO) XkE
  obtain⟨x4,rfl,o4⟩ :=h4.int
  obtain⟨x5,rfl,o5⟩ :=h5.int
  obtain⟨x6,rfl,o6⟩ :=h6.int
  obtain⟨x7,rfl,o7⟩ :=h7.int
  obtain⟨x8,rfl,o8⟩ :=h8.int
  obtain⟨x9,rfl,o9⟩ :=h9.bool
  obtain⟨x10,rfl,o10⟩ :=h10.bool
  obtain⟨x11,rfl,o11⟩ :=h11.list (f :=Zw) (ok :=XeA) XmM
  obtain⟨x12,rfl,o12⟩ :=h12.int
  exact⟨⟨x0,x1,x2,x3,⟨x4,x5,x6,x7,x8,x9,x10⟩,x11,x12⟩,rfl,⟨o0,o1,o2,o3,⟨o4,o5,o6,o7,o8,o9,o10⟩,o11,o12⟩⟩
end Go.Vm
