/- Functions of the program, walked by the evaluator. -/
import Derived.Test.YtpoannkeaajngaaGreatDoorVf
import Derived.Test.YtpoannkeaajngaaGreatDoorVe
import Derived.Laws.Strings
import Derived.ChangeShapes
import Derived.ChangeArms
import Derived.Deep.Slices
import Derived.RowKit
import Derived.Below
import Derived.Lib.Bytealg
import Derived.Laws.Externs
import Derived.WalkKit
import Derived.Lib.SlTrimSet
import Derived.Lib.LaidTab
import Derived.Lib.ItoaNum
import Derived.Lib.AppendIntMem
import Derived.Lib.Overlaps
import Derived.Laws.IdiomCopy
import Derived.Lib.SplitLaws
import Derived.Lib.Replace
import Derived.Lib.IndexMore
import Derived.Lib.Join
import Derived.WalkSmall
set_option linter.unusedVariables false
set_option linter.unusedSimpArgs false
set_option autoImplicit false
set_option linter.defProp false
namespace Go.Vm
def XgD{cx:Cx}{n:Nat}:Xey {cx with rounds :=n}=Xey cx :=by
  funext ts xs as
  induction ts generalizing xs as with
  | nil => rfl
  | cons t ts ih => cases xs with
    | nil => rfl
    | cons x xs => cases as with
      | nil => rfl
      | cons a as => simp only[Xey,ih]; cases x<;>rfl
def Xc2{cx:Cx}{n:Nat}:X5 {cx with rounds :=n}=X5 cx :=by
  funext st ms ts xs
  induction ms generalizing st ts xs with
  | nil => rfl
  | cons m ms ih => cases ts with
    | nil => rfl
    | cons t ts => cases xs with
      | nil => rfl
      | cons x xs => simp only[X5,ih]; rfl
def Xa3{cx:Cx}{n:Nat}(st:St)(o:Oper):Xn {cx with rounds :=n} st o=Xn cx st o :=by
  have h:∀d c,YO {cx with rounds :=n} st d c=YO cx st d c :=λd c => by
    have h2:∀f ts xs,Xao {cx with rounds :=n} st f ts xs=Xao cx st f ts xs :=λf ts xs => by
      have h3:∀st,Uk {cx with rounds :=n} st f ts xs=Uk cx st f ts xs :=λst => by simp only[Uk,XgD]
      have h4:∀st g fs k m,XcU {cx with rounds :=n} st g fs k m f ts xs=XcU cx st g fs k m f ts xs :=λst g fs k m => by simp only[XcU,h3]; rfl
      have h5:∀st g fs,Xb8 {cx with rounds :=n} st g fs f ts xs=Xb8 cx st g fs f ts xs :=λst g fs => by simp only[Xb8,h3,Xc2]
      have h6:∀st g fs,Xb9 {cx with rounds :=n} st g fs f ts xs=Xb9 cx st g fs f ts xs :=λst g fs => by simp only[Xb9,h4,h5]
      simp only[Xao,h3,Xca,h6]
    simp only[YO,h2]
  simp only[Xn,h]
  rfl
def Uz{cx:Cx}{n:Nat}(ops:List Oper)(st:St)(o:Oper):Qx {cx with rounds :=n} ops st o=Qx cx ops st o :=by simp only[Qx,Xa3]
def Xar{cx:Cx}{n:Nat}{ops:List Oper}:∀(l:List Oper) (cs:List (Option (List Nat))) (st:St),XV {cx with rounds :=n} ops cs st l=XV cx ops cs st l
  | [],_,_ => rfl
  | o :: l,cs,st => by
    simp only[XV,Xa3,Xar l]
def Z1{cx:Cx}{id n:Nat}{ops:List Oper}:∀(p:XcP) (st:St),YE {cx with rounds :=n} id ops p st=YE cx id ops p st
  | .done,_ => rfl
  | .take i p,st => by
    simp only[YE,Uz,Z1 p]
  | .one i p,st => by
    have h2:∀o,UX {cx with rounds :=n} o=UX cx o :=λ_ => rfl
    have h3:∀s o,Q8 {cx with rounds :=n} s o=Q8 cx s o :=λ_ _ => rfl
    simp only[YE,Uz,h2,h3,Z1 p]
  | .alt i p q,st => by
    have h2:∀o,UX {cx with rounds :=n} o=UX cx o :=λ_ => rfl
    have h3:∀s o,Q8 {cx with rounds :=n} s o=Q8 cx s o :=λ_ _ => rfl
    simp only[YE,Uz,h2,h3,Z1 p,Z1 q]
def Xfn{f g:St->Option (Ex×St)}(h:∀s r,f s=some r->g s=some r):∀(n m:Nat) (s:St) (r:Ex×St),n<=m->Xmk f n s=some r->Xmk g m s=some r
  | 0,_,_,_,_,hr => by cases hr
  | n+1,0,_,_,hm,_ => by omega
  | n+1,m+1,s,r,hm,hr => by
    simp only[Xmk] at hr ⊢
    cases hf:f s with
    | none => rw[hf] at hr; cases hr
    | some p =>
      obtain⟨e,s'⟩ :=p
      rw[hf] at hr
      rw[h s _ hf]
      cases e with
      | nor => exact Xfn h n m s' r (by omega) hr
      | _ => exact hr
def XcA{cx:Cx}{n m:Nat}(hnm:n<=m):∀(c:Code) (blk:Nat) (st:St) (r:Ex×St),Xq {cx with rounds :=n} blk c st=some r->Xq {cx with rounds :=m} blk c st=some r :=by
  intro c
  induction c with
  | region id ops draw =>
    intro blk st r h
    simp only[Xq,Xar,Z1] at h ⊢
    exact h
  | seq a b iha ihb =>
    intro blk st r h
    simp only[Xq] at h ⊢
    cases ha:Xq {cx with rounds :=n} blk a st with
    | none => rw[ha] at h; cases h
    | some p =>
      obtain⟨e,s⟩ :=p
      rw[ha] at h
      rw[iha blk st _ ha]
      cases e with
      | nor => exact ihb blk s r h
      | _ => exact h
  | cond c a b iha ihb =>
    intro blk st r h
    simp only[Xq] at h ⊢
    split at h
    · exact iha blk st r h
    · exact ihb blk st r h
    · cases h
  | block id c ih =>
    intro blk st r h
    simp only[Xq] at h ⊢
    cases hc:Xq {cx with rounds :=n} id c st with
    | none => rw[hc] at h; cases h
    | some p => rw[hc] at h; rw[ih id st _ hc]; exact h
  | loop c ih =>
    intro blk st r h
    simp only[Xq] at h ⊢
    exact Xfn (λs r hs => ih blk _ r hs) n m st r hnm h
  | _ => intro blk st r h; exact h
def Xl2{cx:Cx}{n m:Nat}(hnm:n<=m):∀(c:Code) (K K':St->Option (Ex×St)) (_:∀s r,K s=some r->K' s=some r) (st:St) (r:Ex×St),evN {cx with rounds :=n} c K st=some r->evN {cx with rounds :=m} c K' st=some r :=by
  have other:∀(c:Code) (K K':St->Option (Ex×St)) (_:∀s r,K s=some r->K' s=some r) (st:St) (r:Ex×St),Xdm (Xq {cx with rounds :=n} 0 c st) K=some r->Xdm (Xq {cx with rounds :=m} 0 c st) K'=some r :=by
    intro c K K' hK st r h
    cases hc:Xq {cx with rounds :=n} 0 c st with
    | none => rw[hc] at h; cases h
    | some p =>
      rw[hc] at h
      rw[XcA hnm c 0 st _ hc]
      obtain⟨e,s⟩ :=p
      cases e with
      | nor => exact hK s r h
      | _ => exact h
  intro c
  induction c with
  | skip => intro K K' hK st r h; exact hK st r h
  | seq a b iha ihb => intro K K' hK st r h; exact iha _ _ (λs r hs => ihb K K' hK s r hs) st r h
  | cond c a b iha ihb =>
    intro K K' hK st r h
    simp only[evN] at h ⊢
    split at h
    · exact iha K K' hK st r h
    · exact ihb K K' hK st r h
    · unfold XfZ at h ⊢
      split at h
      · rename_i he
        have h1 :=iha K K' hK st r h
        have h2 :=ihb K K' hK st r (he▸h)
        rw[if_pos (h1.trans h2.symm)]
        exact h1
      · cases h
    · cases h
  | _ => intro K K' hK st r h; exact other _ K K' hK st r h
def XcB{cx:Cx}{md:List Md}{f:Func}{as:List AV}{r:AV×List AV}{n m:Nat}(hnm:n<=m)(h:UZ {cx with rounds :=n} md f as=some r):UZ {cx with rounds :=m} md f as=some r :=by
  unfold UZ at h ⊢
  cases hb:f.body with
  | none => rw[hb] at h; cases h
  | some c =>
    rw[hb] at h
    simp only at h ⊢
    have hB:∀r,evB {cx with rounds :=n} c (Xav md as)=some r->evB {cx with rounds :=m} c (Xav md as)=some r :=by
      intro r hr
      unfold evB at hr ⊢
      by_cases hz:cx.nz=true
      · rw[if_pos (show({cx with rounds :=n}:Cx).nz=true from hz)] at hr
        rw[if_pos (show({cx with rounds :=m}:Cx).nz=true from hz)]
        exact Xl2 hnm c _ _ (λ_ _ h => h) _ r hr
      · rw[if_neg (show ¬({cx with rounds :=n}:Cx).nz=true from hz)] at hr
        rw[if_neg (show ¬({cx with rounds :=m}:Cx).nz=true from hz)]
        exact XcA hnm c 0 _ r hr
    cases hc:evB {cx with rounds :=n} c (Xav md as) with
    | none => rw[hc] at h; cases h
    | some p =>
      rw[hc] at h
      rw[hB _ hc]
      have hres:∀(l:List ResultVar) (st:St),XaQ {cx with rounds :=n} st l=XaQ {cx with rounds :=m} st l :=by
        intro l
        induction l with
        | nil => intro st; rfl
        | cons x l ih => intro st; cases x<;>simp only[XaQ,ih]
      have hfin:∀st,Qz {cx with rounds :=n} md f.results.toList st=Qz {cx with rounds :=m} md f.results.toList st :=λst => by simp only[Qz,Xrj,Xm7,hres]
      obtain⟨e,s⟩ :=p
      cases e<;>simp only[hfin] at h ⊢<;>exact h
def ZS(wk:Bool)(r:AV)(os:List AV):Bool :=wk||(!XJ r&&os.all λo => !XJ o)
noncomputable def FR(cx:Cx)(md:List Md)(wk:Bool)(f:Func)(as:List AV):Option (AV×List AV) :=
  open Classical in if h : ∃ (r : AV × List AV) (n : Nat), UZ { cx with rounds := n } md f as = some r /\ ZS wk r.1 r.2 = true then some h.choose else none
def Xsk{cx:Cx}{md:List Md}{wk:Bool}{f:Func}{as:List AV}{r:AV×List AV}{n:Nat}(h:UZ {cx with rounds :=n} md f as=some r)(hr:ZS wk r.1 r.2=true):FR cx md wk f as=some r :=by
  have hx:∃(r:AV×List AV) (n:Nat),UZ {cx with rounds :=n} md f as=some r/\ZS wk r.1 r.2=true :=⟨r,n,h,hr⟩
  unfold FR
  rw[dif_pos hx]
  obtain⟨m,h1,h2⟩ :=hx.choose_spec
  have a1 :=XcB (Nat.le_max_left n m) h
  have a2 :=XcB (Nat.le_max_right n m) h1
  exact a2.symm.trans a1
def XmE{cx:Cx}{md:List Md}{wk:Bool}{f:Func}{as:List AV}{r:AV×List AV}(h:FR cx md wk f as=some r):∃n,UZ {cx with rounds :=n} md f as=some r/\ZS wk r.1 r.2=true :=by
  unfold FR at h
  split at h
  · rename_i hx
    obtain⟨m,h1,h2⟩ :=hx.choose_spec
    injection h with h
    rw[<-h]
    exact⟨m,h1,h2⟩
  · cases h
structure SP (P:Program) [HasTb P] where
  g:Nat
  fs:FS
  ok:Qm P g fs
def SP.F{P:Program}[HasTb P](s:SP P):List AV->Option (AV×List AV) :=s.fs.F
def XmF{P:Program}[HasTb P]:List (SP P)->Nat->Option FS
  | [],_ => none
  | s :: l,g => if g=s.g then some s.fs else XmF l g
@[go_sem] def Xrr{P:Program}[HasTb P](g:Nat):XmF ([]:List (SP P)) g=none :=nr rfl
@[go_sem] def XqT{P:Program}[HasTb P](s:SP P)(l:List (SP P))(g:Nat):XmF (s :: l) g=if g=s.g then some s.fs else XmF l g :=nr rfl
def XjO{P:Program}[HasTb P]:∀(l:List (SP P)) (g:Nat) (fs:FS),XmF l g=some fs->Qm P g fs
  | [],g,fs,h => by cases h
  | s :: l,g,fs,h => by
    simp only[XmF] at h
    split at h
    · rename_i hg
      injection h with h
      subst h hg
      exact s.ok
    · exact XjO l g fs h
def asc{α:Type}:List (Nat×α)->Nat->Option α
  | [],_ => none
  | (k,a) :: l,n => if n=k then some a else asc l n
@[go_sem] def Xsl{α:Type}(n:Nat):asc ([]:List (Nat×α)) n=none :=nr rfl
@[go_sem] def Xrs{α:Type}(k:Nat)(a:α)(l:List (Nat×α))(n:Nat):asc ((k,a) :: l) n=if n=k then some a else asc l n :=nr rfl
def Xpi{α:Type}:List (Nat×List α)->Nat->List α
  | [],_ => []
  | (k,a) :: l,n => if n=k then a else Xpi l n
@[go_sem] def Xrt{α:Type}(n:Nat):Xpi ([]:List (Nat×List α)) n=[] :=nr rfl
@[go_sem] def XqU{α:Type}(k:Nat)(a:List α)(l:List (Nat×List α))(n:Nat):Xpi ((k,a) :: l) n=if n=k then a else Xpi l n :=nr rfl
abbrev LV :=List (Nat×List Nat×List Nat)
structure FD where
  md:List Md
  wk:Bool :=false
  rg:LV :=[]
  lv:LV :=[]
  out:LV :=[]
  rets:Option (List Nat×List Nat) :=none
  al:List Nat :=[]
  plan:List (Nat×XcP) :=[]
  fz:List Nat :=[]
  nz:Bool :=false
  ws:List (Nat×List (Bool×Nat×Nat)) :=[]
structure Xpj (P:Program) where
  T:TypeId->Option TI
  Q:TypeId->Option (List Nat)
  ok:∀cx:Cx,cx.T=T->cx.eqs=Q->XeQ P cx
  wide:P.follows .mixedOrders=true
def XqV{P:Program}[HasTb P](ty:Xpj P)(tab:List (SP P))(d:FD)(n:Nat):Cx :=
  {T :=ty.T,fns :=XmF tab,cuts :=λ_ => [],rg :=asc d.rg,live :=asc d.lv,out :=asc d.out,rets :=d.rets,al :=d.al,plan :=asc d.plan,fz :=d.fz,eqs :=ty.Q,rounds :=n,nz :=d.nz,ws :=Xpi d.ws}
def Xsm(md:List Md)(j:Nat):Bool :=match md[j]? with
  | some m => !Zx m
  | none => false
def ckS{P:Program}[HasTb P](ty:Xpj P)(tab:List (SP P))(d:FD)(f:Func):Bool :=match f.body with
  | some c => (!(f.name == "runtime.NumGoroutine")) && Y2 (XqV ty tab d 0) (Xsm d.md) f.ntmps c && decide (d.md.length <= f.ntmps) && Xqy d.md
  | none => false
def XqW{P:Program}[HasTb P](ty:Xpj P)(g:Nat)(f:Func)(tab:List (SP P))(d:FD)(hf:P.funcs[g]?=some f)(hk:ckS ty tab d f=true):Qm P g ⟨d.md,FR (XqV ty tab d 0) d.md d.wk f,d.wk⟩ :=by
  unfold ckS at hk
  cases hb:f.body with
  | none => rw[hb] at hk; cases hk
  | some c =>
    rw[hb] at hk
    simp only[Bool.and_eq_true,Bool.not_eq_true',decide_eq_true_eq] at hk
    obtain⟨⟨⟨h1,h2⟩,h3⟩,h4⟩ :=hk
    refine Xnp (cx :=XqV ty tab d 0) (c :=c) ty.wide (ty.ok _ rfl rfl) (XjO tab) hf h1 hb (Xsm d.md) (λj m hj hm => ?_) h2 h3 h4 (λas r os h _ _ => ?_) (λhw as r os h => ?_)
    · simp only[Xsm,hj,hm,Bool.not_false]
    · obtain⟨n,h5,_⟩ :=XmE h
      exact⟨n,h5⟩
    · obtain⟨n,_,h6⟩ :=XmE h
      have hw':d.wk=false :=hw
      simp only[ZS,hw',Bool.false_or,Bool.and_eq_true,Bool.not_eq_true',List.all_eq_true] at h6
      exact⟨h6.1,λo ho => by simpa using h6.2 o ho⟩
noncomputable def mkS{P:Program}[HasTb P](ty:Xpj P)(g:Nat)(f:Func)(tab:List (SP P))(d:FD)(hf:P.funcs[g]?=some f)(hk:ckS ty tab d f=true):SP P :=⟨g,⟨d.md,FR (XqV ty tab d 0) d.md d.wk f,d.wk⟩,XqW ty g f tab d hf hk⟩
def Xj{P:Program}[HasTb P]{ty:Xpj P}{f:Func}{tab:List (SP P)}{d:FD}{as:List AV}{r:AV}{os:List AV}{c:Code}{rv:List ResultVar}(n:Nat)(hb:f.body=some c)(hr:f.results=rv.toArray)
    (h:∀cx:Cx,(cx.T=ty.T/\cx.fns=XmF tab/\cx.rg=asc d.rg/\cx.live=asc d.lv/\cx.out=asc d.out/\cx.rets=d.rets/\cx.al=d.al/\cx.plan=asc d.plan/\cx.fz=d.fz/\cx.eqs=ty.Q/\cx.rounds=n/\cx.ws=Xpi d.ws/\∀k,cx.cuts k=[])->XmC cx d.md rv (Xq cx 0 c (Xav d.md as))=some (r,os)) (hw:ZS d.wk r os=true) (hz:d.nz=false :=by rfl):FR (XqV ty tab d 0) d.md d.wk f as=some (r,os) :=by
  refine Xsk (n :=n) ?_ hw
  rw[Xjm _ _ f _ c rv hb hr hz]
  exact h _ ⟨rfl,rfl,rfl,rfl,rfl,rfl,rfl,rfl,rfl,rfl,rfl,rfl,λ_ => rfl⟩
def U9:Code->List Code
  | .loop c => c :: U9 c
  | .seq a b => U9 a++U9 b
  | .cond _ a b => U9 a++U9 b
  | .block _ c => U9 c
  | _ => []
def YN(f:Func)(i:Nat):Code :=match f.body with
  | some b => ((U9 b)[i]?).getD .skip
  | none => .skip
def XF(f:Func)(i:Nat)(b c:Code)(hb:f.body=some b)(hl:(U9 b)[i]?=some c):YN f i=c :=by simp only[YN,hb,hl,Option.getD_some]
def Xeh{σ:Type}{cx:Cx}{blk:Nat}{body:Code}(S:σ->St)(I:σ->Prop)(μ:σ->Nat)(Q:σ->Option (Ex×St)->Prop)
    (h:∀s,I s->(∀G,Q s (XaF (Xq cx blk body (S s)) G))\/∃st' s',keep (cx.live blk) st'=S s'/\I s'/\μ s'<μ s/\(∀r,Q s' r->Q s r)/\∀G,XaF (Xq cx blk body (S s)) G=G st') :
    ∀(N:Nat) (s:σ),I s->μ s<N->∀st,keep (cx.live blk) st=S s->Q s (Qn cx blk body N st) :=by
  intro N
  induction N with
  | zero => intro s hI hN; omega
  | succ N ih =>
    intro s hI hN st hst
    rw[Zb,hst]
    rcases h s hI with h1 | ⟨st',s',h1,h2,h3,h4,h5⟩
    · exact h1 _
    · rw[h5]
      exact h4 _ (ih s' h2 (by omega) st' h1)
def XaG{α σ:Type}(c:α->σ->Bool)(g:α->σ->σ):List α->σ->σ⊕(α×σ)
  | [],s => .inl s
  | x :: xs,s => if c x s=true then .inr (x,s) else XaG c g xs (g x s)
def Xei{α σ:Type}(c:α->σ->Bool)(g:α->σ->σ)(s:σ):XaG c g [] s=.inl s :=rfl
def YW{α σ:Type}(c:α->σ->Bool)(g:α->σ->σ)(x:α)(xs:List α)(s:σ):XaG c g (x :: xs) s=if c x s=true then .inr (x,s) else XaG c g xs (g x s) :=rfl
def Xfo{α σ:Type}(g:α->σ->σ):∀(xs:List α) (s:σ),XaG (λ_ _ => false) g xs s=.inl (xs.foldl (λs x => g x s) s)
  | [],s => rfl
  | x :: xs,s => by simp only[XaG,Bool.false_eq_true,if_false,List.foldl_cons]; exact Xfo g xs _
def ZF{α σ:Type}{cx:Cx}{blk:Nat}{body:Code}(xs:List α)(S:Nat->σ->St)(X:σ->St)(c:α->σ->Bool)(g:α->σ->σ)(R:α->σ->Ex×St)(I:Nat->σ->Prop)
    (hend:∀s,I xs.length s->∀G,XaF (Xq cx blk body (S xs.length s)) G=some (.ex blk,X s))
    (hstep:∀k (hk:k<xs.length) s,I k s->(c xs[k] s=true/\∀G,XaF (Xq cx blk body (S k s)) G=some (R xs[k] s))\/(c xs[k] s=false/\I (k+1) (g xs[k] s)/\∃st',(∀G,XaF (Xq cx blk body (S k s)) G=G st')/\keep (cx.live blk) st'=S (k+1) (g xs[k] s)))
    (s:σ) (hI:I 0 s) (N:Nat) (hN:xs.length+1<=N) :
    ∃r,(∀st,keep (cx.live blk) st=S 0 s->Qn cx blk body N st=r)/\((∃s',XaG c g xs s=.inl s'/\I xs.length s'/\r=some (.ex blk,X s'))\/∃x s',XaG c g xs s=.inr (x,s')/\r=some (R x s')) :=by
  obtain⟨M,rfl⟩:∃M,N=M+1 :=⟨N-1,by omega⟩
  have key:∀(k:Nat) (s:σ) (M:Nat),k<=xs.length->I k s->xs.length-k<=M->(∃s',XaG c g (xs.drop k) s=.inl s'/\I xs.length s'/\XaF (Xq cx blk body (S k s)) (λs => Qn cx blk body M s)=some (.ex blk,X s'))\/∃x s',XaG c g (xs.drop k) s=.inr (x,s')/\XaF (Xq cx blk body (S k s)) (λs => Qn cx blk body M s)=some (R x s') :=by
    intro k s M
    induction M generalizing k s with
    | zero =>
      intro hk hI hM
      obtain rfl:k=xs.length :=by omega
      exact .inl ⟨s,by rw[List.drop_length]; rfl,hI,hend s hI _⟩
    | succ M ih =>
      intro hk hI hM
      by_cases he:k=xs.length
      · subst he
        exact .inl ⟨s,by rw[List.drop_length]; rfl,hI,hend s hI _⟩
      · have hlt:k<xs.length :=by omega
        rcases hstep k hlt s hI with⟨h1,h2⟩ | ⟨h1,h2,st',h4,h3⟩
        · exact .inr ⟨xs[k],s,by rw[List.drop_eq_getElem_cons hlt,YW,if_pos h1],h2 _⟩
        · rw[h4,Zb,h3,List.drop_eq_getElem_cons hlt,YW,if_neg (by simp[h1])]
          exact ih (k+1) _ (by omega) h2 (by omega)
  exact⟨_,λst hst => by rw[Zb,hst],key 0 s M (Nat.zero_le _) hI (by omega)⟩
def YG{α σ:Type}{cx:Cx}{blk:Nat}{body:Code}(xs:List α)(S:Nat->σ->St)(X:σ->St)(g:α->σ->σ)(I:Nat->σ->Prop)
    (hend:∀s,I xs.length s->∀G,XaF (Xq cx blk body (S xs.length s)) G=some (.ex blk,X s))
    (hstep:∀k (hk:k<xs.length) s,I k s->I (k+1) (g xs[k] s)/\∃st',(∀G,XaF (Xq cx blk body (S k s)) G=G st')/\keep (cx.live blk) st'=S (k+1) (g xs[k] s))
    (s:σ) (hI:I 0 s) (N:Nat) (hN:xs.length+1<=N) :
    I xs.length (xs.foldl (λs x => g x s) s)/\∀st,keep (cx.live blk) st=S 0 s->Qn cx blk body N st=some (.ex blk,X (xs.foldl (λs x => g x s) s)) :=by
  obtain⟨r,h1,h⟩ :=ZF (cx :=cx) (blk :=blk) (body :=body) xs S X (λ_ _ => false) g (λ_ s => (.ret,X s)) I hend (λk hk s hI => .inr ⟨rfl,hstep k hk s hI⟩) s hI N hN
  rw[Xfo] at h
  rcases h with⟨s',h2,h3,h4⟩ | ⟨x,s',h2,h3⟩
  · injection h2 with h2
    subst h2
    exact⟨h3,λst hst => by rw[h1 st hst,h4]⟩
  · cases h2
def Yz{α σ:Type}{cx:Cx}{blk:Nat}{body:Code}(xs:List α)(S:Nat->σ->St)(X:σ->St)(c:α->σ->Bool)(g:α->σ->σ)(R:α->σ->Ex×St)(I:Nat->σ->Prop)
    (hend:∀s,I xs.length s->∀G,XaF (Xq cx blk body (S xs.length s)) G=some (.ex blk,X s))
    (hstep:∀k (hk:k<xs.length) s,I k s->∃(C:Prop) (_:Decidable C) (st':St),(∀G,XaF (Xq cx blk body (S k s)) G=if C then some (R xs[k] s) else G st')/\(C↔c xs[k] s=true)/\(c xs[k] s=false->I (k+1) (g xs[k] s)/\keep (cx.live blk) st'=S (k+1) (g xs[k] s)))
    (s:σ) (hI:I 0 s) (N:Nat) (hN:xs.length+1<=N) :
    ∃r,(∀st,keep (cx.live blk) st=S 0 s->Qn cx blk body N st=r)/\((∃s',XaG c g xs s=.inl s'/\I xs.length s'/\r=some (.ex blk,X s'))\/∃x s',XaG c g xs s=.inr (x,s')/\r=some (R x s')) :=by
  refine ZF xs S X c g R I hend (λk hk s hI => ?_) s hI N hN
  obtain⟨C,_,st',h1,h2,h3⟩ :=hstep k hk s hI
  cases hc:c xs[k] s with
  | true => exact .inl ⟨rfl,λG => (h1 G).trans (if_pos (h2.2 hc))⟩
  | false =>
    obtain⟨h4,h5⟩ :=h3 hc
    exact .inr ⟨rfl,h4,st',λG => (h1 G).trans (if_neg (λhC => by rw[h2.1 hC] at hc; cases hc)),h5⟩
def XcM{α:Type}(p:α->Bool):List α->Nat->Int
  | [],_ => -1
  | x :: xs,k => if p x=true then(k:Int) else XcM p xs (k+1)
def Xej{α:Type}{p:α->Bool}:∀{xs:List α} {k k':Nat},XaG (λx _ => p x) (λ_ k => k+1) xs k=.inl k'->XcM p xs k =-1
  | [],_,_,_ => rfl
  | x :: xs,k,k',h => by
    rw[YW] at h
    split at h
    · cases h
    · rename_i hc
      rw[XcM,if_neg hc,Xej h]
def XcC{α:Type}{p:α->Bool}:∀{xs:List α} {k:Nat} {q:α×Nat},XaG (λx _ => p x) (λ_ k => k+1) xs k=.inr q->XcM p xs k=(q.2:Int)
  | [],_,_,h => by cases h
  | x :: xs,k,q,h => by
    rw[YW] at h
    split at h
    · rename_i hc
      injection h with h
      subst h
      rw[XcM,if_pos hc]
    · rename_i hc
      rw[XcM,if_neg hc,XcC h]
def Xek{α:Type}{p:α->Bool}:∀(xs:List α) (k:Nat),decide (0<=XcM p xs k)=xs.any p
  | [],_ => by simp[XcM]
  | x :: xs,k => by
    rw[XcM,List.any_cons]
    cases hc:p x with
    | true => simp
    | false => simpa using Xek xs (k+1)
end Go.Vm
set_option autoImplicit false
namespace Go.Vm
@[go_sem] def XF1:((0:Nat):Int)=0 :=nr rfl
@[go_sem] def XF2:((1:Nat):Int)=1 :=nr rfl
def map_gdA{α:Type}(f:α->AV)(xs:List α)(k:Nat)(h:k<xs.length):(xs.map f).getD k .u=f xs[k] :=by simp[List.getD,h]
@[go_sem] def Xpk:Xhp .nilFunc=.u :=nr rfl
def YL{k:Int}(h0:-9223372036854775808<=k)(h:k<=9223372036854775807):(IntKind.i64).wrap k=k :=by
  simp[IntKind.wrap,IntKind.bits,IntKind.signed]
  omega
def Xm{k:Nat}(h:k<9223372036854775807):(IntKind.i64).wrap ((k:Int)+1)=((k+1:Nat):Int) :=by
  rw[YL (by omega) (by omega)]; rfl
def Xt(n k:Nat)(h:k<n):YK n (k:Int)=some k :=by
  simp only[YK]
  rw[if_pos ⟨by omega,by omega⟩]; rfl
def YH{α:Type}(f:α->List AV)(xs:List α)(k:Nat)(h:k<xs.length):(xs.map f).getD k []=f xs[k] :=by simp[List.getD,h]
def XjP{α:Type}(f:α->List AV)(xs:List α)(k:Nat)(h:k<xs.length):(xs.map f)[k]?=some (f xs[k]) :=by simp[h]
@[go_sem] def XqX{α:Type}(f:α->List AV)(xs:List α):(xs.map f).take xs.length=xs.map f :=by
  have :=List.take_length (l :=xs.map f)
  rwa [List.length_map] at this
noncomputable def eqv{α:Type}(a b:α):Bool :=open Classical in decide (a=b)
def Yn{α:Type}{a b:α}:eqv a b=true↔a=b :=by simp[eqv]
def Xak{α:Type}(a:α):eqv a a=true :=by simp[eqv]
def Qo{α:Type}{p:Bool}{a b:α}(h:p=true↔a=b):p=eqv a b :=by
  cases p with
  | true => exact(Yn.2 (h.1 rfl)).symm
  | false =>
    cases he:eqv a b with
    | false => rfl
    | true => exact absurd (h.2 (Yn.1 he)) (by simp)
def Q2(a b:Int):(a==b)=eqv a b :=Qo (by simp)
def Qp(a b:Int):(a !=b)=!eqv a b :=by rw[bne,Q2]
def QY(a b:Bool):(a==b)=eqv a b :=Qo (by simp)
def Zc(a b:Bool):(a !=b)=!eqv a b :=by rw[bne,QY]
def Xel(a b:UInt8):((a.toNat:Int) !=(b.toNat:Int))=!eqv a b :=by
  rw[bne,Qo (p :=((a.toNat:Int)==(b.toNat:Int))) (a :=a) (b :=b)]
  simp only[beq_iff_eq,Int.ofNat_inj]
  exact UInt8.toNat_inj
def XqY{a b:ByteArray}(h:a.toList=b.toList):a=b :=by
  rw[ByteArray.toList_eq,ByteArray.toList_eq] at h
  cases a; cases b
  simp only[ByteArray.mk.injEq] at h ⊢
  exact Array.ext' h
def Xa(a b:ByteArray):(a.toList==b.toList)=eqv a b :=Qo (by
  constructor
  · intro h; exact XqY (by simpa using h)
  · rintro rfl; simp)
def XjQ(xs ys:List UInt8):eqv (ByteArray.mk xs.toArray) (ByteArray.mk ys.toArray)=eqv xs ys :=by
  refine Qo ?_
  rw[Yn]
  constructor
  · intro h
    have :=congrArg (λb => b.data.toList) h
    simpa using this
  · rintro rfl; rfl
def XdJ:∀xs:List UInt8,Xcc (xs.map λb => [.i .u8 b.toNat])=some xs
  | [] => rfl
  | x :: xs => by
    simp only[List.map_cons,Xcc,XdJ xs,Int.toNat_natCast,UInt8.ofNat_toNat]
def XjR(a b:Bool):(if a=true then b else false)=(a&&b) :=by cases a<;>rfl
def XmG(a b:Bool):(if a=true then true else b)=(a||b) :=by cases a<;>rfl
def XqZ(c:Prop)[Decidable c](x y:Bool)(l:List AV):(if c then some (AV.b x,l) else some (AV.b y,l))=some (AV.b (if c then x else y),l) :=by split<;>rfl
@[go_sem] def Xru(o:Oper)(a b:List Oper):Um (List.append (o :: a) b) 0=some o :=nr rfl
@[go_sem] def Xrv(o:Oper)(a b:List Oper)(n:Nat):Um (List.append (o :: a) b) (n+1)=Um (List.append a b) n :=nr rfl
@[go_sem] def Xrw(b:List Oper)(n:Nat):Um (List.append [] b) n=Um b n :=nr rfl
@[go_sem] def Xrx(o:Oper)(a b:List Oper):Q9 (List.append (o :: a) b) 0=o.dst :=nr rfl
@[go_sem] def Xry(o:Oper)(a b:List Oper)(n:Nat):Q9 (List.append (o :: a) b) (n+1)=Q9 (List.append a b) n :=nr rfl
@[go_sem] def Xrz(b:List Oper)(n:Nat):Q9 (List.append [] b) n=Q9 b n :=nr rfl
@[go_sem] def Xpl(cx:Cx)(ops:List Oper)(cs:List (Option (List Nat)))(st:St)(o:Oper)(a b:List Oper):XV cx ops cs st (List.append (o :: a) b)=XV cx ops cs st (o :: List.append a b) :=nr rfl
@[go_sem] def Xpm(cx:Cx)(ops:List Oper)(cs:List (Option (List Nat)))(st:St)(b:List Oper):XV cx ops cs st (List.append [] b)=XV cx ops cs st b :=nr rfl
def Xos(p q:Prop)[Decidable p][Decidable q](s:St)(y:Option (Ex×St)):(if p then some (Ex.ret,s) else if q then some (Ex.ret,s) else y)=if p\/q then some (Ex.ret,s) else y :=by by_cases h:p<;>by_cases h':q<;>simp[h,h']
@[go_sem] def Xsn{α β γ:Type}(f:β->γ)(g:α->β)(xs:List α):List.take xs.length ((xs.map g).map f)=(xs.map g).map f :=List.take_of_length_le (by simp)
end Go.Vm
set_option autoImplicit false
namespace Go.Vm
open Go.ChangeShapes Go.WideShapes
inductive Sh
  | b | i (k:IntKind) | s | sl (r:List Sh)
def XrA(g:TypeId->Option (List Sh))(P:Program):List Field->Nat->Option (List Sh)
  | [],_ => some []
  | f :: r,off => match g f.type with
    | some q => if f.offset=off/\P.cellsOf f.type=q.length then(match XrA g P r (off+q.length) with
      | some l => some (q++l)
      | none => none) else none
    | none => none
def Xot(P:Program):Nat->TypeId->Option (List Sh)
  | 0,_ => none
  | n+1,t => match P.underlying t with
    | some .bool => some [.b]
    | some (.int k) => some [.i k]
    | some .string => some [.s]
    | some (.slice e) => match Xot P n e with
      | some (x :: r) => if P.cellsOf e=(x :: r).length then some [.sl (x :: r)] else none
      | _ => none
    | some (.struct fs) => match XrA (Xot P n) P fs.toList 0 with
      | some l => if P.cellsOf t=l.length then some l else none
      | none => none
    | _ => none
inductive XgE:Sh->AV->Prop
  | b {x:Bool}:XgE .b (.b x)
  | i {k:IntKind} {n:Int} (h:(Lit.int k n).wf=true):XgE (.i k) (.i k n)
  | s {x:ByteArray} (h:x.size<=maxLen):XgE .s (.s x)
  | sl {r:List Sh} {es:List (List AV)} (hl:es.length<=maxLen) (hz:∀row∈es,row.length=r.length) (h:∀row∈es,∀(j:Nat) (sh:Sh) (a:AV),r[j]?=some sh->row[j]?=some a->XgE sh a):XgE (.sl r) (.sl .ro r.length es)
def Xh7(r:List Sh)(row:List AV):Prop :=row.length=r.length/\∀(j:Nat) (sh:Sh) (a:AV),r[j]?=some sh->row[j]?=some a->XgE sh a
def Xke(w:World):CS :=λg k => ∃v,XH w g k=some v
def Xou{w:World}{g k:Nat}(h:Xke w g k):g<w.heap.size :=by
  obtain⟨v,hv⟩ :=h
  exact World.block_lt_of_cell? w ⟨g,k,none⟩ hv
def Xa4(w:World)(shs:List Sh)(cs:List Value)(as:List AV):Prop :=cs.length=shs.length/\Xh7 shs as/\∀(j:Nat) (v:Value) (a:AV),cs[j]?=some v->as[j]?=some a->Rep w (Xke w) v a nos
def Xa4.one{w:World}{sh:Sh}{v:Value}{a:AV}(h:XgE sh a)(hr:Rep w (Xke w) v a nos):Xa4 w [sh] [v] [a] :=by
  refine⟨rfl,⟨rfl,λj q b hs hb => ?_⟩,λj u b hu hb => ?_⟩
  · rcases j with _ | j
    · simp only[List.getElem?_cons_zero,Option.some.injEq] at hs hb; subst hs hb; exact h
    · simp at hs
  · rcases j with _ | j
    · simp only[List.getElem?_cons_zero,Option.some.injEq] at hu hb; subst hu hb; exact hr
    · simp at hu
def XbG{α:Type}{l r:List α}{j:Nat}{x:α}(h:(l++r)[j]?=some x):l[j]?=some x\/(l.length<=j/\r[j-l.length]?=some x) :=by
  by_cases hj:j<l.length
  · rw[List.getElem?_append_left hj] at h; exact .inl h
  · rw[List.getElem?_append_right (by omega)] at h; exact .inr ⟨by omega,h⟩
def Xa4.app{w:World}{s1 s2:List Sh}{c1 c2:List Value}{a1 a2:List AV}(h1:Xa4 w s1 c1 a1)(h2:Xa4 w s2 c2 a2):Xa4 w (s1++s2) (c1++c2) (a1++a2) :=by
  obtain⟨l1,⟨m1,p1⟩,q1⟩ :=h1
  obtain⟨l2,⟨m2,p2⟩,q2⟩ :=h2
  refine⟨by simp[l1,l2],⟨by simp[m1,m2],λj q a hs ha => ?_⟩,λj v a hv ha => ?_⟩
  · rcases XbG hs with hs | ⟨h0,hs⟩
    · have hlt :=(List.getElem?_eq_some_iff.1 hs).1
      rw[List.getElem?_append_left (by omega)] at ha
      exact p1 j q a hs ha
    · rw[List.getElem?_append_right (by omega),m1] at ha
      exact p2 _ q a hs ha
  · rcases XbG hv with hv | ⟨h0,hv⟩
    · have hlt :=(List.getElem?_eq_some_iff.1 hv).1
      rw[List.getElem?_append_left (by omega)] at ha
      exact q1 j v a hv ha
    · rw[List.getElem?_append_right (by omega),m1,<-l1] at ha
      exact q2 _ v a hv ha
def Xq0{a:Addr}(h:a.spot=none)(n:Nat):a.add n=⟨a.block,a.off+n,none⟩ :=by
  unfold Addr.add
  split
  · rename_i h0; subst h0; cases a; simp only at h; subst h; rfl
  · cases a; rfl
section
variable {H : Type} {enc : TypeId × Value -> H} {P : Program} {w : World}
def Xh8(n:Nat):∀{fuel:Nat} {t:TypeId} {cs:List Value} {x:DataW H×List MemPlace} {shs:List Sh},DataW.trod enc P w 0 (λ_ => true) true fuel t cs=some x->Xot P n t=some shs->∃as,Xa4 w shs cs as :=by
  induction n with
  | zero => intro fuel t cs x shs _ h; cases h
  | succ n ih =>
    intro fuel t cs x shs ht hs
    unfold Xot at hs
    split at hs
    · rename_i hu
      injection hs with hs; subst hs
      obtain⟨b,rfl,_⟩ :=DataW.trod_bool hu ht
      exact⟨_,Xa4.one .b .b⟩
    · rename_i k hu
      injection hs with hs; subst hs
      obtain⟨m,rfl,_,hwf⟩ :=DataW.trod_int hu ht
      exact⟨_,Xa4.one (.i hwf) .i⟩
    · rename_i hu
      injection hs with hs; subst hs
      obtain⟨s,rfl,_,hsz⟩ :=DataW.trod_string hu ht
      exact⟨_,Xa4.one (.s hsz) .s⟩
    · rename_i e hu
      split at hs
      · rename_i x0 r hr
        split at hs
        · rename_i hce
          injection hs with hs; subst hs
          rcases Go.Deep.open_slice hu ht with⟨rfl,_⟩ | ⟨a,len,cap,m,n',D,Pl,rfl,_,hl,hm,hmm,_,hi⟩
          · refine⟨_,Xa4.one (.sl (es :=[]) (Nat.zero_le _) (λ_ h => by cases h) (λ_ h => by cases h)) ?_⟩
            exact .sl 0 0 (λ_ _ => undef) (λ_ _ => nos) rfl (Nat.le_refl _) (by simp) (λh => absurd h (by omega)) (λi row hi => by simp at hi) (λi row j a hi => by simp at hi) (λi row j a hi => by simp at hi)
              ⟨(λe => by cases e),(λe => by cases e),(λe => absurd rfl e),λ_ k hk => absurd hk (by simp)⟩ (λ_ _ => XA _) (λ_ _ _ _ _ => Xk _) (λe => by cases e) (λ_ _ _ => rfl)
          · simp only[if_true] at hmm
            subst hmm
            generalize hzz:(x0 :: r).length=z at hce
            have hz0:0<z :=by rw[<-hzz]; simp
            rw[hce] at hi
            have hsp:0<m->a.spot=none :=by
              intro h0
              obtain⟨cs',h1,_⟩ :=hi 0 h0
              obtain⟨_,h3,h4⟩ :=World.cells?_some h1
              have :=h4 0 hz0
              rw[List.getElem?_eq_getElem (by omega),Nat.zero_mul] at this
              unfold World.cell? at this
              simp only[Addr.add,if_true] at this
              split at this
              · cases hs:a.spot with
                | none => rfl
                | some q => rw[hs] at this; simp at this
              · cases this
            have hrow:∀i,i<len->∃p:List Value×List AV,(∀j,j<z->XH w a.block (a.off+(i*z+j))=p.1[j]?)/\Xa4 w (x0 :: r) p.1 p.2 :=by
              intro i hil
              obtain⟨cs',h1,h2⟩ :=hi i (by omega)
              obtain⟨as,h3⟩ :=ih h2 hr
              obtain⟨_,_,h6⟩ :=World.cells?_some h1
              refine⟨(cs',as),λj hj => ?_,h3⟩
              have :=h6 j hj
              rw[Go.Deep.add_add,Xq0 (hsp (by omega))] at this
              exact this
            obtain⟨f,hf⟩ :=Go.Deep.choose_lt hrow
            let es:List (List AV) :=(List.range len).map λi => (f i).2
            have hes:∀(i:Nat) (row:List AV),es[i]?=some row->i<len/\row=(f i).2 :=by
              intro i row h
              have hlt:i<len :=Decidable.byContradiction λhn => by
                rw[List.getElem?_eq_none (by simp only[es,List.length_map,List.length_range]; omega)] at h
                cases h
              simp only[es,List.getElem?_map,List.getElem?_range hlt,Option.map_some,Option.some.injEq] at h
              exact⟨hlt,h.symm⟩
            have hmem:∀row∈es,∃i,i<len/\row=(f i).2 :=by
              intro row h
              obtain⟨i,h⟩ :=List.getElem?_of_mem h
              exact⟨i,hes i row h⟩
            have hcell:∀i j,i<len->j<z->XH w a.block (a.off+(i*z+j))=some ((f i).1.getD j undef) :=by
              intro i j h1 h2
              obtain⟨q1,q2,_⟩ :=hf i h1
              rw[q1 j h2,List.getD_eq_getElem?_getD,List.getElem?_eq_getElem (by rw[q2,hzz]; exact h2)]
              rfl
            refine⟨_,Xa4.one (.sl (es :=es) (by simp only[es,List.length_map,List.length_range]; omega) (λrow h => ?_) (λrow h => ?_)) ?_⟩
            · obtain⟨i,h1,rfl⟩ :=hmem row h
              exact(hf i h1).2.2.1.1
            · obtain⟨i,h1,rfl⟩ :=hmem row h
              exact(hf i h1).2.2.1.2
            · rw[hzz]
              have hM:maxLen=9223372036854775807 :=rfl
              refine .sl a.block a.off (λi j => (f i).1.getD j undef) (λ_ _ => nos) (by simp[es]) hl (by omega) (λh0 => ?_) (λi row h => ?_) (λi row j b h hj => ?_) (λi row j b h hj => ?_)
                ⟨(λe => by cases e),(λe => by cases e),(λe => absurd rfl e),λ_ k hk => ?_⟩ (λ_ _ => XA _) (λ_ _ _ _ _ => Xk _) (λe => by cases e) (λ_ _ _ => rfl)
              · have :=hsp h0
                cases a; simp only at this; subst this; rfl
              · obtain⟨h1,rfl⟩ :=hes i row h
                rw[<-hzz]; exact(hf i h1).2.2.1.1
              · obtain⟨h1,rfl⟩ :=hes i row h
                have hlt :=(List.getElem?_eq_some_iff.1 hj).1
                rw[(hf i h1).2.2.1.1,hzz] at hlt
                exact hcell i j h1 hlt
              · obtain⟨h1,rfl⟩ :=hes i row h
                have hlt :=(List.getElem?_eq_some_iff.1 hj).1
                obtain⟨_,q2,q3,q4⟩ :=hf i h1
                rw[q3.1] at hlt
                refine q4 j _ b ?_ hj
                rw[List.getD_eq_getElem?_getD,List.getElem?_eq_getElem (by rw[q2]; exact hlt)]
                rfl
              · have h1:k / z<len :=by rw[Nat.div_lt_iff_lt_mul hz0]; exact hk
                have h2:k%z<z :=Nat.mod_lt _ hz0
                have :=hcell (k / z) (k%z) h1 h2
                rw[Nat.mul_comm,Nat.div_add_mod] at this
                exact⟨_,this⟩
        · cases hs
      · cases hs
    · rename_i fs hu
      obtain⟨xs,n',rfl,_,hlen,hxl,hi⟩ :=DataW.trod_struct hu ht
      split at hs
      · rename_i l hl
        split at hs
        · rename_i hcl
          injection hs with hs; subst hs
          have key:∀(fl:List Field) (off:Nat) (l:List Sh),XrA (Xot P n) P fl off=some l->(∀f∈fl,∃y,DataW.trod enc P w 0 (λ_ => true) true n' f.type ((cs.drop f.offset).take (P.cellsOf f.type))=some y)->∃as,Xa4 w l ((cs.drop off).take l.length) as :=by
            intro fl
            induction fl with
            | nil =>
              intro off l h _
              injection h with h; subst h
              exact⟨[],by simp,⟨rfl,λj q a h => by simp at h⟩,λj v a h => by simp at h⟩
            | cons f fl ihf =>
              intro off l h hy
              unfold XrA at h
              split at h
              · rename_i s hfs
                split at h
                · rename_i hc
                  obtain⟨rfl,hc2⟩ :=hc
                  split at h
                  · rename_i l' hl'
                    injection h with h; subst h
                    obtain⟨y,hyy⟩ :=hy f (by simp)
                    obtain⟨a1,h1⟩ :=ih hyy hfs
                    obtain⟨a2,h2⟩ :=ihf _ _ hl' (λg hg => hy g (by simp[hg]))
                    refine⟨a1++a2,?_⟩
                    have e:(cs.drop f.offset).take (s++l').length=(cs.drop f.offset).take (P.cellsOf f.type)++(cs.drop (f.offset+s.length)).take l'.length :=by
                      rw[List.length_append,List.take_add,List.drop_drop,hc2]
                    rw[e]
                    exact h1.app h2
                  · cases h
                · cases h
              · cases h
          obtain⟨as,h⟩ :=key fs.toList 0 l hl (λf hf => by
            obtain⟨i,hi'⟩ :=List.getElem?_of_mem hf
            have hi2:fs[i]?=some f :=by simpa using hi'
            have :=hi i f hi2
            have hlt:i<fs.size :=(Array.getElem?_eq_some_iff.1 hi2).1
            rw[List.getElem?_eq_getElem (by omega)] at this
            exact⟨_,this⟩)
          rw[List.drop_zero,List.take_of_length_le (by omega)] at h
          exact⟨as,h⟩
        · cases hs
      · cases hs
    · cases hs
end
def Xh7.cons{sh:Sh}{r:List Sh}{row:List AV}(h:Xh7 (sh :: r) row):∃a row',row=a :: row'/\XgE sh a/\Xh7 r row' :=by
  obtain⟨h1,h2⟩ :=h
  cases row with
  | nil => simp at h1
  | cons a row => exact⟨a,row,rfl,h2 0 sh a rfl rfl,by simpa using h1,λj q b hs hb => h2 (j+1) q b (by simpa using hs) (by simpa using hb)⟩
def Xh7.nil{row:List AV}(h:Xh7 [] row):row=[] :=List.length_eq_zero_iff.1 h.1
def XgE.bool{a:AV}(h:XgE .b a):∃x:Bool,a=.b x/\True :=by cases h; exact⟨_,rfl,trivial⟩
def XgE.int{a:AV}(h:XgE (.i .i64) a):∃x:Int,a=.i .i64 x/\(-9223372036854775808<=x/\x<=9223372036854775807) :=by
  cases h with
  | i h =>
    refine⟨_,rfl,?_⟩
    simp only[Lit.wf,Bool.and_eq_true,decide_eq_true_eq,IntKind.min,IntKind.max,IntKind.signed,IntKind.bits] at h
    simpa using h
def XgE.str{a:AV}(h:XgE .s a):∃x:ByteArray,a=.s x/\x.size<=9223372036854775807 :=by cases h with | s h => exact⟨_,rfl,h⟩
section
variable {H : Type} {enc : TypeId × Value -> H} {P : Program} {w : World}
def Xov{r:Reach}{base:Nat}{t:TypeId}{v:Value}{d:DataW H}{p:List MemPlace}(n:Nat){u:TypeDesc}(hu:P.underlying t=some u)(hn:∀fs,u≠.struct fs){sh:Sh}(hs:Xot P n t=some [sh])(hval:Value.okWide P w r base t v)(hd:DataW.Trod enc P w 0 (λ_ => true) true t v d p) :
    ∃a,XgE sh a/\Cl w (Xke w) v a nos :=by
  obtain⟨fuel,hf⟩ :=hd
  obtain⟨as,h1⟩ :=Xh8 n hf hs
  have hc:v.cells.toList=[v] :=by
    cases n with
    | zero => cases hs
    | succ n =>
      unfold Xot at hs
      rw[hu] at hs
      cases u with
      | bool => obtain⟨b,rfl⟩ :=okWide_bool hu hval; rfl
      | int k => obtain⟨b,rfl⟩ :=okWide_int hu hval; rfl
      | string => obtain⟨b,rfl⟩ :=okWide_string hu hval; rfl
      | slice e => obtain⟨a,b,c,rfl⟩ :=okWide_slice hu hval; rfl
      | struct fs => exact absurd rfl (hn fs)
      | _ => cases hs
  rw[hc] at h1
  obtain⟨_,⟨h2,h3⟩,h4⟩ :=h1
  match as,h2 with
  | [a],_ => exact⟨a,h3 0 sh a rfl rfl,.leaf (.rep (h4 0 v a rfl rfl))⟩
end
def Xl3{w w':World}(h:Vm.Frame w w' nos):Go.RowKit.Below w.heap.size w w' :=by
  refine⟨h.os,h.tape,h.output,h.size,λk hk => ?_⟩
  rcases h.block k hk with h1 | ⟨c,c',e,fr,h1,h2,h3,h4⟩
  · exact h1
  · rw[h1,h2]
    congr 2
    apply Array.ext_getElem?
    intro i
    exact h4 i (λh => h)
def Xl4{P:Program}[HasTb P]{g:FuncId}{f:Func}{c:Code}{md:List Md}{F:List AV->Option (AV×List AV)}{wk:Bool}{W:World}{vs:List Value}{xs os:List AV}(hsp:Qm P g ⟨md,F,wk⟩)(hro:md.all Zx=true)(hF:F xs=some (.b true,os))(hl1:vs.length=md.length)(hl2:xs.length=md.length)
    (hargs : ∀ (j : Nat) (v : Value) (a : AV), vs[j]? = some v -> xs[j]? = some a -> Cl W (Xke W) v a nos) (hf : P.funcs[g]? = some f) (hname : ¬ f.name = "runtime.NumGoroutine") (hb : f.body = some c) (hT : Tb P (Xke W) W) :
    Calls P g vs.toArray W λe w' => e=.returned (.bool true)/\Go.RowKit.Below W.heap.size W w' :=by
  have h :=hsp W (Xke W) vs xs (λ_ => nos) (.b true) os hF hl1 hl2 (λj m v a hm hv ha => by
    have :=List.all_eq_true.1 hro m (List.mem_of_getElem? hm)
    cases m with
    | ro n => exact hargs j v a hv ha
    | _ => cases this) (λ_ _ _ => Xk _) (λ_ => Xk _) (λ_ _ _ h => h.elim) (λ_ _ h => Xou h) hT
  rcases h with⟨v,w',h1,_⟩ | ⟨_,h2⟩
  · exfalso
    have:(callFunc g vs.toArray).run P W=.ok (.enter g vs.toArray) W :=by simp[callFunc,hf,hname,hb]
    rw[this] at h1
    cases h1
  · intro cs
    obtain⟨e,w',fr,k1,k2⟩ :=h2 cs
    refine⟨e,w',fr,?_,k2⟩
    cases e with
    | returned v =>
      obtain⟨Im',S,Of,b,_⟩ :=k1
      have hv:v=.bool true :=by
        have :=b.res
        cases this with
        | leaf h => cases h with
          | rep h => cases h; rfl
      exact⟨by rw[hv],Xl3 (b.frame.mono (λg k ⟨j,hb⟩ => hb))⟩
    | panicked => exact k1.elim
    | outgrown => exact k1.elim
def Xq1{P:Program}[HasTb P]{s:SP P}{f:Func}{c:Code}{W:World}{vs:List Value}{xs os:List AV}(hF:s.F xs=some (.b true,os))(hro:s.fs.md.all Zx=true)(hl1:vs.length=s.fs.md.length)(hl2:xs.length=s.fs.md.length)
    (hargs : ∀ (j : Nat) (v : Value) (a : AV), vs[j]? = some v -> xs[j]? = some a -> Cl W (Xke W) v a nos) (hf : P.funcs[s.g]? = some f) (hname : ¬ f.name = "runtime.NumGoroutine") (hb : f.body = some c) (hT : Tb P (Xke W) W) :
    Calls P s.g vs.toArray W λe w' => e=.returned (.bool true)/\Go.RowKit.Below W.heap.size W w' :=Xl4 (md :=s.fs.md) (F :=s.fs.F) (wk :=s.fs.wk) s.ok hro hF hl1 hl2 hargs hf hname hb hT
end Go.Vm
set_option autoImplicit false
namespace Go.Vm
def mkL{α:Type}(f:α->Int->α×Int):List α->Int->List α×Int
  | [],k => ([],k)
  | x :: xs,k => ((f x k).1 :: (mkL f xs (f x k).2).1,(mkL f xs (f x k).2).2)
def UM{α:Type}{f:α->Int->α×Int}(hf:∀x k,k+1<=(f x k).2):∀(xs:List α) (k:Int),k<=(mkL f xs k).2
  | [],k => Int.le_refl k
  | x :: xs,k => by
    have h1 :=hf x k
    have h2 :=UM hf xs (f x k).2
    simp only[mkL]; omega
def XjS{α:Type}{f:α->Int->α×Int}{p:α->Prop}{c:Nat}(hf:∀x k,p x->(f x k).2<=k+c)(xs:List α)(k:Int)(h:xs.length<=1048576/\∀x∈xs,p x):(mkL f xs k).2<=k+(c*1048576:Nat) :=by
  have key:∀(xs:List α) (k:Int),(∀x∈xs,p x)->(mkL f xs k).2<=k+(c*xs.length:Nat) :=by
    intro xs
    induction xs with
    | nil => intro k _; simp[mkL]
    | cons x xs ih =>
      intro k h
      have h1 :=hf x k (h x (by simp))
      have h2 :=ih (f x k).2 (λy hy => h y (by simp[hy]))
      simp only[mkL,List.length_cons]
      rw[Nat.mul_succ]
      omega
  have h1 :=key xs k h.2
  have h2:c*xs.length<=c*1048576 :=Nat.mul_le_mul_left c h.1
  omega
def Y4{α:Type}{f:α->Int->α×Int}:∀(xs:List α) (k:Int),(mkL f xs k).1.length=xs.length
  | [],k => rfl
  | x :: xs,k => by simp only[mkL,List.length_cons,Y4 xs]
def XbS{α:Type}{f:α->Int->α×Int}:∀(xs:List α) (k:Int) (y:α),mkL f (xs++[y]) k=((mkL f xs k).1++[(f y (mkL f xs k).2).1],(f y (mkL f xs k).2).2)
  | [],k,y => rfl
  | x :: xs,k,y => by simp only[List.cons_append,mkL,XbS xs,List.cons_append]
def XgF{α:Type}{f:α->Int->α×Int}:∀(xs ys:List α) (k:Int),mkL f (xs++ys) k=((mkL f xs k).1++(mkL f ys (mkL f xs k).2).1,(mkL f ys (mkL f xs k).2).2)
  | [],ys,k => rfl
  | x :: xs,ys,k => by simp only[List.cons_append,mkL,XgF xs]
def Xfp{α:Type}(f:α->Int->α×Int)(xs:List α)(k:Int)(i:Nat):Int :=(mkL f (xs.take i) k).2
def Xc3{α:Type}(f:α->Int->α×Int)(xs:List α)(k:Int)(i:Nat):List α :=(mkL f (xs.take i) k).1++xs.drop i
def XbT{α:Type}{f:α->Int->α×Int}(xs:List α)(k:Int):Xfp f xs k xs.length=(mkL f xs k).2 :=by simp[Xfp]
def Xaa{α:Type}{f:α->Int->α×Int}(xs:List α)(k:Int)(i:Nat)(h:i<xs.length):Xfp f xs k (i+1)=(f xs[i] (Xfp f xs k i)).2 :=by
  simp only[Xfp]
  rw[List.take_succ_eq_append_getElem h,XbS]
def Xem{α:Type}{f:α->Int->α×Int}(hf:∀x k,k+1<=(f x k).2)(xs:List α)(k:Int)(i:Nat):k<=Xfp f xs k i :=UM hf _ _
def Xen{α:Type}{f:α->Int->α×Int}(hf:∀x k,k+1<=(f x k).2)(xs:List α)(k:Int)(i:Nat)(h:i<xs.length):(f xs[i] (Xfp f xs k i)).2<=(mkL f xs k).2 :=by
  rw[<-Xaa xs k i h]
  have :=XgF (f :=f) (xs.take (i+1)) (xs.drop (i+1)) k
  rw[List.take_append_drop] at this
  rw[this]
  exact UM hf _ _
def Xfq{α:Type}{f:α->Int->α×Int}(xs:List α)(k:Int):Xc3 f xs k 0=xs :=rfl
def Xha{α:Type}{f:α->Int->α×Int}(xs:List α)(k:Int):Xc3 f xs k xs.length=(mkL f xs k).1 :=by simp[Xc3]
def UA{α:Type}{f:α->Int->α×Int}(xs:List α)(k:Int)(i:Nat):(Xc3 f xs k i).length=xs.length :=by simp[Xc3,Y4]; omega
def Xa5{α:Type}{f:α->Int->α×Int}(g:α->List AV)(xs:List α)(k:Int)(i:Nat):((Xc3 f xs k i).map g).take xs.length=(Xc3 f xs k i).map g :=List.take_of_length_le (by rw[List.length_map,UA]; exact Nat.le_refl _)
def Xhb{α:Type}{f:α->Int->α×Int}(g:α->List AV)(xs:List α)(k:Int):((mkL f xs k).1.map g).take xs.length=(mkL f xs k).1.map g :=List.take_of_length_le (by rw[List.length_map,Y4]; exact Nat.le_refl _)
def Xeo{α:Type}{f:α->Int->α×Int}(g:α->List AV)(xs:List α)(k:Int)(i:Nat)(h:i<xs.length):((Xc3 f xs k i).map g)[i]?=some (g xs[i]) :=by
  simp only[Xc3,List.map_append]
  rw[List.getElem?_append_right (by simp[Y4]; omega)]
  simp only[List.length_map,Y4,List.length_take]
  rw[show i-min i xs.length=0 by omega,List.drop_eq_getElem_cons h]; rfl
def Xfr{α:Type}{f:α->Int->α×Int}(g:α->List AV)(xs:List α)(k:Int)(i:Nat)(h:i<xs.length):((Xc3 f xs k i).map g).getD i []=g xs[i] :=by
  rw[List.getD_eq_getElem?_getD,Xeo g xs k i h]; rfl
def Xhc{α:Type}{f:α->Int->α×Int}(g:α->List AV)(xs:List α)(k:Int)(i:Nat)(h:i<xs.length):((Xc3 f xs k i).map g).set i (g (f xs[i] (Xfp f xs k i)).1)=(Xc3 f xs k (i+1)).map g :=by
  simp only[Xc3,Xfp,List.map_append]
  rw[List.set_append_right _ _ (by simp[Y4]; omega)]
  simp only[List.length_map,Y4,List.length_take]
  rw[show i-min i xs.length=0 by omega,List.drop_eq_getElem_cons h,List.take_succ_eq_append_getElem h,XbS,List.map_cons,List.set_cons_zero,List.map_append]
  simp
def XjT{α:Type}(l:List α)(i:Nat)(y:α)(h:i<l.length):(l.set i y)[i]?=some y :=by simp[h]
def Xhd(l:List (List AV))(i:Nat)(y:List AV)(h:i<l.length):(l.set i y).getD i []=y :=by simp[h]
@[go_sem] def XrB{α:Type}(l:List α)(i:Nat)(y z:α):(l.set i y).set i z=l.set i z :=by simp
@[go_sem] def XrC{α:Type}(l:List α)(i:Nat)(y:α):(l.set i y).length=l.length :=by simp
def Xow{α:Type}{f:α->Int->α×Int}(xs:List α)(k:Int)(i:Nat)(h:i<xs.length):(mkL f xs k).1[i]'(by rw[Y4]; exact h)=(f xs[i] (Xfp f xs k i)).1 :=by
  have e :=XgF (f :=f) (xs.take (i+1)) (xs.drop (i+1)) k
  rw[List.take_append_drop] at e
  have e2:(mkL f xs k).1[i]?=some (f xs[i] (Xfp f xs k i)).1 :=by
    rw[e,List.take_succ_eq_append_getElem h,XbS]
    simp only[Xfp]
    rw[List.getElem?_append_left (by simp[Y4]; omega),List.getElem?_append_right (by simp[Y4]; omega)]
    simp only[Y4,List.length_take]
    rw[show i-min i xs.length=0 by omega]; rfl
  rw[List.getElem?_eq_getElem (by rw[Y4]; exact h)] at e2
  injection e2
def XmH{α:Type}{f:α->Int->α×Int}(g:α->List AV)(xs:List α)(k:Int)(i:Nat)(h:i<xs.length):((mkL f xs k).1.map g).getD i []=g (f xs[i] (Xfp f xs k i)).1 :=by
  rw[YH g _ i (by rw[Y4]; exact h),Xow xs k i h]
def mkB(k:Int):UInt8 :=UInt8.ofNat (k%256).toNat
def Xep(k:Int):(IntKind.u8).wrap k=((mkB k).toNat:Int) :=by
  have h:(k%256).toNat<256 :=by omega
  simp only[mkB,UInt8.toNat_ofNat']
  simp[IntKind.wrap,IntKind.bits,IntKind.signed]
  omega
def X7(_:UInt8)(k:Int):UInt8×Int :=(mkB k,k+1)
def Z2(x:UInt8)(k:Int):k+1<=(X7 x k).2 :=by simp only[X7]; omega
def XcD{α:Type}{f:α->Int->α×Int}(hf:∀x k,k+1<=(f x k).2):∀(xs:List α) (k:Int),k+xs.length<=(mkL f xs k).2
  | [],k => by simp[mkL]
  | x :: xs,k => by
    have h1 :=hf x k
    have h2 :=XcD hf xs (f x k).2
    simp only[mkL,List.length_cons]; omega
def XfJ:Nat->Int->ByteArray->ByteArray
  | 0,_,s => s
  | n+1,k,s => if k>0 then XfJ n (k.tdiv 10) (ByteArray.mk #[UInt8.ofNat ((48+k.tmod 10)%256).toNat]++s) else s
def Xhe(k:Int):ByteArray :=if k<=0 then⟨#[109,48]⟩ else⟨#[109]⟩++XfJ k.toNat k ⟨#[]⟩
def XjU(x:UInt8)(k:Int)(_:True):(X7 x k).2<=k+(1:Nat) :=by simp[X7]
def Xfs:∀(n:Nat) (k:Int) (s:ByteArray),(XfJ n k s).size<=s.size+n
  | 0,k,s => by simp[XfJ]
  | n+1,k,s => by
    simp only[XfJ]
    split
    · have :=Xfs n (k.tdiv 10) (ByteArray.mk #[UInt8.ofNat ((48+k.tmod 10)%256).toNat]++s)
      rw[ByteArray.size_append] at this
      have e:(ByteArray.mk #[UInt8.ofNat ((48+k.tmod 10)%256).toNat]).size=1 :=rfl
      omega
    · omega
def Xft:∀(n m:Nat) (k:Int) (s:ByteArray),k.toNat<=n->k.toNat<=m->XfJ n k s=XfJ m k s
  | 0,0,_,_,_,_ => rfl
  | 0,m+1,k,s,h,_ => by simp only[XfJ]; rw[if_neg (by omega)]
  | n+1,0,k,s,_,h => by simp only[XfJ]; rw[if_neg (by omega)]
  | n+1,m+1,k,s,h1,h2 => by
    simp only[XfJ]
    split
    · have:k.tdiv 10=k / 10 :=Int.tdiv_eq_ediv_of_nonneg (by omega)
      exact Xft n m _ _ (by omega) (by omega)
    · rfl
end Go.Vm
set_option autoImplicit false
namespace Go.Vm
def Xl5{P:Program}[HasTb P]{g:FuncId}{md:List Md}{F:List AV->Option (AV×List AV)}{wk:Bool}(hro:md.all Zx=true)
    (h:∀(w:World) (Im:CS) (vs:List Value) (as:List AV) (r:AV) (os:List AV),F as=some (r,os)->vs.length=md.length->as.length=md.length ->
      (∀(j:Nat) (v:Value) (a:AV),vs[j]?=some v->as[j]?=some a->Cl w Im v a nos)->Tb P Im w ->
      Xqv r=true/\(wk=false->XJ r=false/\∀o∈os,XJ o=false)/\Ans P g vs.toArray w λv w' => Frame w w' nos/\Cl w' Im v r nos):Qm P g ⟨md,F,wk⟩ :=by
  intro w Im vs as Sf r os hF hv ha harg hd hdI hin hI hT
  have hmd:∀(j:Nat) (m:Md),md[j]?=some m->Zx m=true :=λj m hm => List.all_eq_true.1 hro m (List.mem_of_getElem? hm)
  obtain⟨h1,h2,h3⟩ :=h w Im vs as r os hF hv ha (λj v a hj hj' => by
    have hlt:j<md.length :=by rw[<-hv]; exact(List.getElem?_eq_some_iff.1 hj).1
    have hm :=List.getElem?_eq_getElem hlt
    have :=harg j _ v a hm hj hj'
    have h0 :=hmd j _ hm
    generalize md[j]=m at this h0
    cases m with
    | ro n => exact this
    | _ => cases h0) hT
  refine h3.mono λv w' ⟨hfr,hc⟩ => ?_
  refine⟨Im,nos,λ_ => nos,⟨hfr.mono (XA _),Sub.rfl' _,λg k hx => .inl hx,λg k hx => Nat.lt_of_lt_of_le (hI g k hx) hfr.size,?_,λj m u o hm _ _ => ?_,λ_ _ _ => Xk _,λ_ => Xk _,Xk _,λ_ => Xk _,λ_ _ hx => hx.elim,λ_ _ _ hx => hx.elim,λ_ _ hx => hx.elim,λ_ _ _ hx => hx.elim⟩,h2⟩
  · unfold XcY; rw[(XgZ h1).1,(XgZ h1).2]; exact hc
  · have h0 :=hmd j m hm
    cases m with
    | ro n => trivial
    | _ => cases h0
def Xeq{P:Program}[HasTb P]{g:FuncId}{md:List Md}{F:List AV->Option (AV×List AV)}{wk:Bool}(hro:md.all Zx=true)
    (h:∀(w:World) (Im:CS) (vs:List Value) (as:List AV) (r:AV) (os:List AV),F as=some (r,os)->vs.length=md.length->as.length=md.length ->
      (∀(j:Nat) (v:Value) (a:AV),vs[j]?=some v->as[j]?=some a->Cl w Im v a nos) ->
      Xqv r=true/\(wk=false->XJ r=false/\∀o∈os,XJ o=false)/\Ans P g vs.toArray w λv w' => Frame w w' nos/\Cl w' Im v r nos):Qm P g ⟨md,F,wk⟩ :=
  Xl5 hro λw Im vs as r os hF hv ha harg _ => h w Im vs as r os hF hv ha harg
def Cl.str{w:World}{Im:CS}{v:Value}{x:ByteArray}{S:CS}(h:Cl w Im v (.s x) S):v=.string x :=by
  cases h with
  | leaf h => cases h with
    | rep h => cases h; rfl
def Cl.int{w:World}{Im:CS}{v:Value}{k:IntKind}{n:Int}{S:CS}(h:Cl w Im v (.i k n) S):v=.int k n :=by
  cases h with
  | leaf h => cases h with
    | rep h => cases h; rfl
def XrD:List AV->Option (AV×List AV)
  | [.s s,.i .u8 c] => some (.i .i64 (Lib.indexByte s.data.toList c.toNat.toUInt8),[.u,.u])
  | _ => none
def Xq2 {P : Program} [HasTb P] {g : FuncId} {fn : Func} (hf : P.funcs[g]? = some fn) (hname : (fn.name == "runtime.NumGoroutine") = false) (hb : fn.body.isNone = true) (hn : Extern.findNext fn = none) (he : Extern.find fn = some Extern.BytealgIndexByte.indexByte) : Qm P g ⟨[.ro 1, .ro 1], XrD, false⟩ := by
  refine Xeq rfl λw Im vs as r os hF hv ha harg => ?_
  match as,ha,hF with
  | [.s s,.i .u8 c],_,hF =>
    match vs,hv with
    | [v0,v1],_ =>
      injection hF with hF
      injection hF with h1 h2
      subst h1 h2
      refine⟨rfl,λ_ => ⟨rfl,λo ho => by rcases List.mem_cons.1 ho with rfl | ho; rfl; rcases List.mem_cons.1 ho with rfl | ho; rfl; cases ho⟩,?_⟩
      obtain rfl :=(harg 0 v0 _ rfl rfl).str
      obtain rfl :=(harg 1 v1 _ rfl rfl).int
      refine .inl ⟨.int .i64 (Lib.indexByte s.data.toList c.toNat.toUInt8),w,?_,Frame.refl _ _,.leaf (.rep .i)⟩
      rw[run_callFunc_extern hf hname hb hn he]
      rw[Lib.run_indexByteString]
      rfl
@[go_sem] def Xox(s:ByteArray)(c:Int):XrD [.s s,.i .u8 c]=some (.i .i64 (Lib.indexByte s.data.toList c.toNat.toUInt8),[.u,.u]) :=nr rfl
def ZG {P : Program} {g : FuncId} {fn : Func} {c : Code} (hf : P.funcs[g]? = some fn) (hname : (fn.name == "runtime.NumGoroutine") = false) (hb : fn.body = some c) {args : Array Value} (w : World) : (callFunc g args).run P w = .ok (.enter g args) w := by
  have h1 : fn.name ≠ "runtime.NumGoroutine" := by simpa using hname
  simp[callFunc,hf,h1,hb,Sem.run]
@[go_sem] def Xtr:((2:Nat):Int)=2 :=nr rfl
@[go_sem] def Xts:((3:Nat):Int)=3 :=nr rfl
@[go_sem] def Xtt:((4:Nat):Int)=4 :=nr rfl
@[go_sem] def Xtu:((5:Nat):Int)=5 :=nr rfl
@[go_sem] def Xtv:((6:Nat):Int)=6 :=nr rfl
@[go_sem] def Xtw:((7:Nat):Int)=7 :=nr rfl
@[go_sem] def Xtx:((8:Nat):Int)=8 :=nr rfl
@[go_sem] def Xso:YK 1 0=some 0 :=nr rfl
@[go_sem] def Xsp:YK 2 0=some 0 :=nr rfl
@[go_sem] def Xsq:YK 2 1=some 1 :=nr rfl
@[go_sem] def Xsr:YK 3 0=some 0 :=nr rfl
@[go_sem] def Xss:YK 3 1=some 1 :=nr rfl
@[go_sem] def Xst:YK 3 2=some 2 :=nr rfl
@[go_sem] def Xsu:YK 4 0=some 0 :=nr rfl
@[go_sem] def Xsv:YK 4 1=some 1 :=nr rfl
@[go_sem] def Xsw:YK 4 2=some 2 :=nr rfl
@[go_sem] def Xsx:YK 4 3=some 3 :=nr rfl
@[go_sem] def Xsy:YK 5 0=some 0 :=nr rfl
@[go_sem] def Xsz:YK 5 1=some 1 :=nr rfl
@[go_sem] def XsA:YK 5 2=some 2 :=nr rfl
@[go_sem] def XsB:YK 5 3=some 3 :=nr rfl
@[go_sem] def XsC:YK 5 4=some 4 :=nr rfl
@[go_sem] def XsD:YK 6 0=some 0 :=nr rfl
@[go_sem] def XsE:YK 6 1=some 1 :=nr rfl
@[go_sem] def XsF:YK 6 2=some 2 :=nr rfl
@[go_sem] def XsG:YK 6 3=some 3 :=nr rfl
@[go_sem] def XsH:YK 6 4=some 4 :=nr rfl
@[go_sem] def XsI:YK 6 5=some 5 :=nr rfl
@[go_sem] def XsJ:YK 7 0=some 0 :=nr rfl
@[go_sem] def XsK:YK 7 1=some 1 :=nr rfl
@[go_sem] def XsL:YK 7 2=some 2 :=nr rfl
@[go_sem] def XsM:YK 7 3=some 3 :=nr rfl
@[go_sem] def XsN:YK 7 4=some 4 :=nr rfl
@[go_sem] def XsO:YK 7 5=some 5 :=nr rfl
@[go_sem] def XsP:YK 7 6=some 6 :=nr rfl
@[go_sem] def XsQ:YK 8 0=some 0 :=nr rfl
@[go_sem] def XsR:YK 8 1=some 1 :=nr rfl
@[go_sem] def XsS:YK 8 2=some 2 :=nr rfl
@[go_sem] def XsT:YK 8 3=some 3 :=nr rfl
@[go_sem] def XsU:YK 8 4=some 4 :=nr rfl
@[go_sem] def XsV:YK 8 5=some 5 :=nr rfl
@[go_sem] def XsW:YK 8 6=some 6 :=nr rfl
@[go_sem] def XsX:YK 8 7=some 7 :=nr rfl
def Xfu:(IntKind.i64).wrap 1=1 :=rfl
def Xfv:(IntKind.i64).wrap 2=2 :=rfl
def Xfw:(IntKind.i64).wrap 3=3 :=rfl
def Xfx:(IntKind.i64).wrap 4=4 :=rfl
def Xfy:(IntKind.i64).wrap 5=5 :=rfl
def Xfz:(IntKind.i64).wrap 6=6 :=rfl
def XfA:(IntKind.i64).wrap 7=7 :=rfl
def XfB:(IntKind.i64).wrap 8=8 :=rfl
def Xab:List Int->Int
  | [] => 0
  | v :: r => if(v !=0)=true then v else Xab r
def Xx:Xab []=0 :=rfl
def Xh(v:Int)(r:List Int):Xab (v :: r)=if(v !=0)=true then v else Xab r :=rfl
def XbH:Code->List Code
  | .region id ops d => [.region id ops d]
  | .seq a b => XbH a++XbH b
  | .cond _ a b => XbH a++XbH b
  | .block _ c => XbH c
  | .loop c => XbH c
  | _ => []
def Xpn(f:Func)(i:Nat):Code :=match f.body with
  | some b => ((XbH b)[i]?).getD .skip
  | none => .skip
def Xer(f:Func)(i:Nat)(b c:Code)(hb:f.body=some b)(hl:(XbH b)[i]?=some c):Xpn f i=c :=by simp only[Xpn,hb,hl,Option.getD_some]
def XfC:(IntKind.i64).wrap 0=0 :=rfl
def XcE(cx:Cx)(blk:Nat)(c:Code)(st:St):Qn cx blk c 1 st=XaF (Xq cx blk c (keep (cx.live blk) st)) (λs => Qn cx blk c 0 s) :=Zb cx blk c 0 st
def XcF(cx:Cx)(blk:Nat)(c:Code)(st:St):Qn cx blk c 2 st=XaF (Xq cx blk c (keep (cx.live blk) st)) (λs => Qn cx blk c 1 s) :=Zb cx blk c 1 st
def XcG(cx:Cx)(blk:Nat)(c:Code)(st:St):Qn cx blk c 3 st=XaF (Xq cx blk c (keep (cx.live blk) st)) (λs => Qn cx blk c 2 s) :=Zb cx blk c 2 st
def XcH(cx:Cx)(blk:Nat)(c:Code)(st:St):Qn cx blk c 4 st=XaF (Xq cx blk c (keep (cx.live blk) st)) (λs => Qn cx blk c 3 s) :=Zb cx blk c 3 st
def XcI(cx:Cx)(blk:Nat)(c:Code)(st:St):Qn cx blk c 5 st=XaF (Xq cx blk c (keep (cx.live blk) st)) (λs => Qn cx blk c 4 s) :=Zb cx blk c 4 st
def XcJ(cx:Cx)(blk:Nat)(c:Code)(st:St):Qn cx blk c 6 st=XaF (Xq cx blk c (keep (cx.live blk) st)) (λs => Qn cx blk c 5 s) :=Zb cx blk c 5 st
def XcK(cx:Cx)(blk:Nat)(c:Code)(st:St):Qn cx blk c 7 st=XaF (Xq cx blk c (keep (cx.live blk) st)) (λs => Qn cx blk c 6 s) :=Zb cx blk c 6 st
def XsY:List AV->Option (AV×List AV)
  | [.nil,.i .i64 0] => some (.nil,[.u,.u])
  | _ => none
@[go_sem] def XrE:XsY [.nil,.i .i64 0]=some (.nil,[.u,.u]) :=nr rfl
def UB{w w':World}(h:Go.RowKit.Below w.heap.size w w'):Frame w w' nos :=let ⟨a,b,c,d,e⟩ :=h; ⟨a,b,c,d,λg hg => .inl (e g hg)⟩
def Xl6:List AV->Option (AV×List AV)
  | [.s x,.s c] => if c.data.toList=[32,9]/\x.size<=9223372036854775807 then some (.s ⟨(Lib.trimS x.data.toList [32,9]).toArray⟩,[.u,.u]) else none
  | _ => none
def Xoy {P : Program} [HasTb P] {g : FuncId} {fn : Func} {c : Code} (hf : P.funcs[g]? = some fn) (hname : (fn.name == "runtime.NumGoroutine") = false) (hb : fn.body = some c)
    (h:∀(s:ByteArray) (w:World),s.size<=9223372036854775807->Calls P g #[.string s,.string ⟨#[32,9]⟩] w λe w' => e=.returned (.string ⟨(Lib.trimS s.data.toList [32,9]).toArray⟩)/\Go.RowKit.Below w.heap.size w w'):Qm P g ⟨[.ro 1,.ro 1],Xl6,false⟩ :=by
  refine Xeq rfl λw Im vs as r os hF hv ha harg => ?_
  match as,ha,hF with
  | [.s x,.s c],_,hF =>
    match vs,hv with
    | [v0,v1],_ =>
      simp only[Xl6] at hF
      split at hF
      · rename_i hc
        injection hF with hF
        injection hF with h1 h2
        subst h1 h2
        refine⟨rfl,λ_ => ⟨rfl,λo ho => by rcases List.mem_cons.1 ho with rfl | ho; rfl; rcases List.mem_cons.1 ho with rfl | ho; rfl; cases ho⟩,?_⟩
        obtain rfl :=(harg 0 v0 _ rfl rfl).str
        obtain rfl :=(harg 1 v1 _ rfl rfl).str
        have hcs:c=⟨#[32,9]⟩ :=by
          cases c
          have :=hc.1
          congr 1
          exact Array.ext' this
        subst hcs
        refine .inr ⟨ZG hf hname hb w,λcs => ?_⟩
        obtain⟨e,w',fr,⟨k1,k2⟩,k3⟩ :=h x w hc.2 cs
        subst k1
        exact⟨.returned _,w',fr,(⟨UB k2,.leaf (.rep .s)⟩:Frame w w' nos/\Cl w' Im (.string ⟨(Lib.trimS x.data.toList [32,9]).toArray⟩) (.s ⟨(Lib.trimS x.data.toList [32,9]).toArray⟩) nos),k3⟩
      · cases hF
end Go.Vm
set_option autoImplicit false
namespace Go.Vm
@[go_sem] def Xoz(z:Nat)(es:List (List AV)):plain (.sl .mut z es)=false :=nr rfl
@[go_sem] def XoA(z:Nat)(es:List (List AV)):plain (.sl .app z es)=false :=nr rfl
def Xq3(z bytes:Nat):List AV->Option (AV×List AV)
  | [.nil,.i .i64 n] => if 0<=n/\n*bytes<=140737488355328/\n<=4611686018427387904 then some (.sl .mut z [],[.u,.u]) else none
  | _ => none
@[go_sem] def Xq4(z bytes:Nat)(n:Int):Xq3 z bytes [.nil,.i .i64 n]=if 0<=n/\n*bytes<=140737488355328/\n<=4611686018427387904 then some (.sl .mut z [],[.u,.u]) else none :=nr rfl
def Xty(n:Int):ByteArray :=⟨(Lib.itoa n).toArray⟩
def XF3:List AV->Option (AV×List AV)
  | [.i .i64 n,.i .i64 10] => if -9223372036854775808<=n/\n<=9223372036854775807 then some (.s (Xty n),[.u,.u]) else none
  | _ => none
@[go_sem] def XsZ(n:Int):XF3 [.i .i64 n,.i .i64 10]=if -9223372036854775808<=n/\n<=9223372036854775807 then some (.s (Xty n),[.u,.u]) else none :=nr rfl
end Go.Vm
set_option autoImplicit false
namespace Go.Vm
def XjV{w:World}{g k:Nat}{v:Value}(h:XH w g k=some v):g<w.heap.size :=by
  unfold XH World.cell? at h
  split at h
  · rename_i hc; exact(Array.getElem?_eq_some_iff.1 hc).1
  · cases h
end Go.Vm
set_option autoImplicit false
namespace Go.Vm
def XoB{w:World}{Im S:CS}{v:Value}{x:ByteArray}(h:Rep w Im v (.s x) S):v=.string x :=by cases h; rfl
end Go.Vm
set_option autoImplicit false
namespace Go.Vm
def Xbo{P:Program}[HasTb P]{g:FuncId}{md:List Md}{F:List AV->Option (AV×List AV)}{wk:Bool}(hro:md.all Zx=true)
    (h:∀(w:World) (Im:CS) (vs:List Value) (as:List AV) (r:AV) (os:List AV),F as=some (r,os)->vs.length=md.length->as.length=md.length ->
      (∀(j:Nat) (v:Value) (a:AV),vs[j]?=some v->as[j]?=some a->Cl w Im v a nos)->(∀g k,Im g k->g<w.heap.size)->Tb P Im w ->
      Xqv r=true/\(wk=false->XJ r=false/\∀o∈os,XJ o=false)/\Ans P g vs.toArray w λv w' => Frame w w' nos/\∃S:CS,Cl w' Im v r S/\∀g k,S g k->w.heap.size<=g/\g<w'.heap.size):Qm P g ⟨md,F,wk⟩ :=by
  intro w Im vs as Sf r os hF hv ha harg hd hdI hin hI hT
  have hmd:∀(j:Nat) (m:Md),md[j]?=some m->Zx m=true :=λj m hm => List.all_eq_true.1 hro m (List.mem_of_getElem? hm)
  obtain⟨h1,h2,h3⟩ :=h w Im vs as r os hF hv ha (λj v a hj hj' => by
    have hlt:j<md.length :=by rw[<-hv]; exact(List.getElem?_eq_some_iff.1 hj).1
    have hm :=List.getElem?_eq_getElem hlt
    have :=harg j _ v a hm hj hj'
    have h0 :=hmd j _ hm
    generalize md[j]=m at this h0
    cases m with
    | ro n => exact this
    | _ => cases h0) hI hT
  refine h3.mono λv w' ⟨hfr,S,hc,hS⟩ => ?_
  refine⟨Im,S,λ_ => nos,⟨hfr.mono (XA _),Sub.rfl' _,λg k hx => .inl hx,λg k hx => Nat.lt_of_lt_of_le (hI g k hx) hfr.size,?_,λj m u o hm _ _ => ?_,λ_ _ _ => Xk _,λ_ => Yc _,λb k hs hx => ?_,λ_ => Xk _,λg k hs => (hS g k hs).2,λ_ _ _ hx => hx.elim,λg k hs => .inr (hS g k hs).1,λ_ _ _ hx => hx.elim⟩,h2⟩
  · unfold XcY; rw[(XgZ h1).1,(XgZ h1).2]; exact hc
  · have h0 :=hmd j m hm
    cases m with
    | ro n => trivial
    | _ => cases h0
  · have :=hI b k hx
    have :=(hS b k hs).1
    omega
def tbm(g:Nat)(Im:CS)(w:World):Prop :=Im g 0/\∃m:Int,XH w g 0=some (.int .i64 m)
def Xl7(g:Nat):∀{Im Im' L:CS} {w w':World},tbm g Im w->Sub Im Im'->Frame w w' L->Yq Im L->tbm g Im' w' :=by
  intro Im Im' L w w' ⟨h1,m,h2⟩ hs hf hd
  have h3 :=hf.same (S :=λa b => a=g/\b=0) (λa b ⟨e1,e2⟩ hl => hd _ _ h1 (by rw[<-e1,<-e2]; exact hl)) (λa b ⟨e,_⟩ => by rw[e]; exact XjV h2) g 0 ⟨rfl,rfl⟩
  exact⟨hs _ _ h1,m,by rw[h3.1]; exact h2⟩
def Xq5{W:World}{g:Nat}(h:∃m:Int,W.cell? ⟨g,0,none⟩=some (.int .i64 m)):tbm g (Xke W) W :=by
  obtain⟨m,hm⟩ :=h
  exact⟨⟨_,hm⟩,m,hm⟩
def Y5(t:ByteArray)(c:UInt8)(s:List ByteArray×Nat×Nat)(x:Option UInt8):List ByteArray×Nat×Nat :=if(x.getD c==c)=true then(s.1++[t.extract s.2.1 s.2.2],s.2.2+1,s.2.2+1) else(s.1,s.2.1,s.2.2+1)
def Xc4(t:ByteArray):List (Option UInt8) :=t.data.toList.map some++[none]
def XfK(t:ByteArray)(c:UInt8):List ByteArray :=((Xc4 t).foldl (λs x => Y5 t c s x) ([],0,0)).1
def UC(t:ByteArray):(Xc4 t).length=t.size+1 :=by simp[Xc4]
def XfD(t:ByteArray)(h:t.size<(Xc4 t).length):(Xc4 t)[t.size]=none :=by
  have:t.size=(t.data.toList.map some).length :=by simp
  simp only[Xc4]
  rw[List.getElem_append_right (by omega)]
  simp
def Xhf(t:ByteArray)(k:Nat)(h:k<t.size)(h':k<(Xc4 t).length):(Xc4 t)[k]=some (t.data[k]?.getD 0) :=by
  have hk:k<t.data.size :=h
  simp only[Xc4]
  rw[List.getElem_append_left (by simpa using hk)]
  rw[Array.getElem?_eq_getElem hk]
  simp
def XcL{a b:ByteArray}(h:a.data.toList=b.data.toList):a=b :=by
  cases a; cases b
  congr 1
  exact Array.ext' h
def Qh(t:ByteArray)(a b:Nat):(t.extract a b).data.toList=(t.data.toList.take b).drop a :=by
  have:(t.extract a b).data=t.data.extract a b :=by simp
  rw[this,Array.toList_extract,List.extract_eq_take_drop,List.drop_take]
def XdK{c:UInt8}:∀{l:List UInt8},(∀b∈l,b≠c)->Lib.indexByte l c =-1
  | [],_ => rfl
  | b :: l,h => by
    unfold Lib.indexByte
    rw[if_neg (by simpa using h b (List.mem_cons_self ..)),XdK (λx hx => h x (List.mem_cons_of_mem _ hx)),if_pos (by decide)]
def XfE{c:UInt8}{r:List UInt8}:∀{l:List UInt8},(∀b∈l,b≠c)->Lib.indexByte (l++c :: r) c=l.length
  | [],_ => by rw[List.nil_append]; unfold Lib.indexByte; rw[if_pos (by simp)]; rfl
  | b :: l,h => by
    rw[List.cons_append]
    unfold Lib.indexByte
    rw[if_neg (by simpa using h b (List.mem_cons_self ..)),XfE (λx hx => h x (List.mem_cons_of_mem _ hx)),if_neg (by simp<;>omega),List.length_cons]
    try rfl
def XjW(t:ByteArray)(c:UInt8):∀(m k a:Nat) (out:List ByteArray),m=t.size-k->a<=k->k<=t.size->(∀b∈(t.data.toList.take k).drop a,b≠c) ->
    (((Xc4 t).drop k).foldl (λs x => Y5 t c s x) (out,a,k)).1=out++Lib.splitB ⟨#[c]⟩ 0 (Lib.countB (t.extract a t.size) ⟨#[c]⟩) (t.extract a t.size) :=by
  intro m
  induction m with
  | zero =>
    intro k a out hm ha hk hno
    obtain rfl:k=t.size :=by omega
    have hl :=UC t
    rw[List.drop_eq_getElem_cons (by omega),XfD t (by omega),List.drop_of_length_le (by omega)]
    simp only[List.foldl_cons,List.foldl_nil,Y5,Option.getD_none,beq_self_eq_true,if_true]
    have hix:Lib.indexB (t.extract a t.size) ⟨#[c]⟩ =-1 :=by
      show Lib.index (t.extract a t.size).data.toList [c] =-1
      rw[Lib.index_one,Qh]
      exact XdK hno
    rw[Lib.splitB_miss _ _ _ _ hix]
  | succ m ih =>
    intro k a out hm ha hk hno
    have hl :=UC t
    have hkt:k<t.size :=by omega
    have hkd:k<t.data.toList.length :=hkt
    rw[List.drop_eq_getElem_cons (by omega),Xhf t k hkt (by omega),List.foldl_cons]
    have hget:t.data[k]?.getD 0=t.data.toList[k] :=by
      have:k<t.data.size :=hkt
      rw[Array.getElem?_eq_getElem this]; rfl
    rw[hget]
    have htk:t.data.toList.take (k+1)=t.data.toList.take k++[t.data.toList[k]] :=by rw[List.take_add_one,List.getElem?_eq_getElem hkd]; rfl
    unfold Y5
    by_cases hc:t.data.toList[k]=c
    · rw[if_pos (by simpa using hc)]
      have h2 :=ih (k+1) (k+1) (out++[t.extract a k]) (by omega) (Nat.le_refl _) (by omega) (by rw[List.drop_of_length_le (by rw[List.length_take]; omega)]; intro b hb; cases hb)
      unfold Y5 at h2
      rw[h2]
      have hix:Lib.indexB (t.extract a t.size) ⟨#[c]⟩=((k-a:Nat):Int) :=by
        show Lib.index (t.extract a t.size).data.toList [c]=_
        rw[Lib.index_one,Qh]
        have e:(t.data.toList.take t.size).drop a=(t.data.toList.take k).drop a++c :: t.data.toList.drop (k+1) :=by
          have hts:t.data.toList.take t.size=t.data.toList :=List.take_of_length_le (Nat.le_refl _)
          rw[hts,<-hc,<-List.drop_eq_getElem_cons hkd]
          conv => lhs; rw[<-List.take_append_drop k t.data.toList]
          rw[List.drop_append_of_le_length (by rw[List.length_take]; omega)]
        rw[e,XfE hno,List.length_drop,List.length_take]
        congr 1; omega
      have hs1:(⟨#[c]⟩:ByteArray).size=1 :=rfl
      have hsz:(t.extract a t.size).size=t.size-a :=by simp
      have hts:t.data.toList.take t.size=t.data.toList :=List.take_of_length_le (Nat.le_refl _)
      have hlen:t.data.toList.length=t.size :=by simp
      have e1:(t.extract a t.size).extract (k-a+1) (t.extract a t.size).size=t.extract (k+1) t.size :=by
        apply XcL
        rw[Qh,Qh,Qh,hsz,hts,List.take_of_length_le (by rw[List.length_drop,hlen]; exact Nat.le_refl _),List.drop_drop]
        congr 1; omega
      have e2:(t.extract a t.size).extract 0 (k-a+0)=t.extract a k :=by
        apply XcL
        rw[Qh,Qh,Qh,hts,List.drop_zero,List.drop_take,Nat.add_zero]
      rw[Lib.countB_hit _ _ _ (by rw[hs1]; exact Nat.le_refl _) hix,hs1,e1,Nat.add_comm 1,Lib.splitB_hit _ _ _ _ _ hix,hs1,e1,e2]
      simp
    · rw[if_neg (by simpa using hc)]
      have h2 :=ih (k+1) a out (by omega) (by omega) (by omega) (by
        rw[htk,List.drop_append_of_le_length (by rw[List.length_take]; omega)]
        intro b hb
        rcases List.mem_append.1 hb with hb | hb
        · exact hno b hb
        · rw[List.mem_singleton.1 hb]; exact hc)
      unfold Y5 at h2
      exact h2
def Xh9(t:ByteArray)(c:UInt8):Lib.splitB ⟨#[c]⟩ 0 (Lib.countB t ⟨#[c]⟩) t=XfK t c :=by
  have h :=XjW t c t.size 0 0 [] rfl (Nat.le_refl _) (Nat.zero_le _) (by intro b hb; simp at hb)
  have e:t.extract 0 t.size=t :=by simp
  rw[e,List.nil_append,List.drop_zero] at h
  exact h.symm
def Xpo(x:ByteArray):List AV :=[.s x]
def XfF:List AV->Option (AV×List AV)
  | [.s t,.s p] => if p.size=1/\t.size<=1048576 then some (.sl .mut 1 ((XfK t (p.data[0]?.getD 0)).map Xpo),[.u,.u]) else none
  | _ => none
def XfG:∀xs:List ByteArray,XQ (xs.map Xpo)=false
  | [] => rfl
  | x :: xs => by rw[List.map_cons]; simp[XQ,Xpo,XU,XJ,XfG xs]
def Xl8{p:ByteArray}(h:p.size=1):p=⟨#[p.data[0]?.getD 0]⟩ :=by
  apply XcL
  have hp:p.data.toList.length=1 :=h
  match hl:p.data.toList,hp with
  | [b],_ =>
    have:p.data[0]?=some b :=by rw[<-Array.getElem?_toList,hl]; rfl
    rw[this]; rfl
def Xl9 {P : Program} [HasTb P] {g : FuncId} {fn : Func} {c : Code} (hf : P.funcs[g]? = some fn) (hname : (fn.name == "runtime.NumGoroutine") = false) (hb : fn.body = some c) {gM : Nat} {ty : TypeId}
    (htb:∀(Im:CS) (w:World),Tb P Im w->∃m:Int,w.cell? ⟨gM,0,none⟩=some (.int .i64 m))
    (h:∀(s sep:ByteArray) (m:Int) (w:World),s.size<4294967281->w.cell? ⟨gM,0,none⟩=some (.int .i64 m)->1<=sep.size->Calls P g #[.string s,.string sep] w λe w' =>
      e=.returned (.slice (some ⟨w.heap.size,0,none⟩) (Lib.countB s sep+1) (Lib.countB s sep+1))/\w'=w.alloc (.cells ((Lib.splitB sep 0 (Lib.countB s sep) s).map Value.string).toArray ty)):Qm P g ⟨[.ro 1,.ro 1],XfF,false⟩ :=by
  refine Xbo rfl λw Im vs as_ r os hF hv ha harg hI hT => ?_
  have hF:XfF as_=some (r,os) :=hF
  unfold XfF at hF
  split at hF
  rotate_left
  · cases hF
  rename_i t p hFF
  match vs,hv with
  | [v0,v1],_ =>
    split at hF
    rotate_left
    · cases hF
    rename_i hc
    injection hF with hF
    injection hF with e1 e2
    subst e1 e2
    refine⟨rfl,λ_ => ⟨by simp[XJ,XfG],λo ho => by simp at ho; subst ho; rfl⟩,?_⟩
    have str:∀{v:Value} {x:ByteArray},Cl w Im v (.s x) nos->v=.string x :=λhr => by
      cases hr with | leaf hr => cases hr with | rep hr => exact XoB hr
    obtain rfl :=str (harg 0 v0 _ rfl rfl)
    obtain rfl :=str (harg 1 v1 _ rfl rfl)
    refine .inr ⟨ZG hf hname hb w,λcs => ?_⟩
    obtain⟨m,hm⟩ :=htb Im w hT
    obtain⟨e',w',fr,⟨k1,k2⟩,k3⟩ :=h t p m w (by omega) hm (by omega) cs
    subst k1
    have hsp:Lib.splitB p 0 (Lib.countB t p) t=XfK t (p.data[0]?.getD 0) :=by
      have :=Xh9 t (p.data[0]?.getD 0)
      rwa [<-Xl8 hc.1] at this
    have hlen:(Lib.splitB p 0 (Lib.countB t p) t).length=Lib.countB t p+1 :=Lib.splitB_all p (by omega) 0 _ t rfl
    rw[hsp] at k2 hlen
    refine⟨.returned _,w',fr,⟨?_,_,.leaf (.rep (Xcl (g :=w.heap.size) (z :=1) (es :=(XfK t (p.data[0]?.getD 0)).map Xpo) (by rw[List.length_map,hlen]) (Nat.le_refl _) ?_ (λk => (((XfK t (p.data[0]?.getD 0)).map Value.string)[k]?).getD undef) (λk hk => ?_) (λk hk => ?_) (λi row hi => ?_) (λ_ _ => nos) (λi row j a hi hj => ?_) (λ_ _ _ _ _ => Xk _) (λ_ _ _ hx => hx))),λg' k hx => ?_⟩,k3⟩
    · rw[k2]; exact Ym w _
    · have :=Lib.countB_le p (by omega) t.size t (Nat.le_refl _); omega
    · rw[k2,ZP,List.getElem?_toArray,List.getElem?_eq_getElem (by rw[List.length_map,hlen]; omega)]; rfl
    · rw[k2]; exact⟨Za _ _ _ _,λ_ q => Za _ _ _ q⟩
    · rw[List.getElem?_map] at hi
      obtain⟨x,_,rfl⟩ :=Option.map_eq_some_iff.1 hi
      rfl
    · rw[List.getElem?_map] at hi
      obtain⟨x,hx,rfl⟩ :=Option.map_eq_some_iff.1 hi
      match j,hj with
      | 0,hj =>
        have ha':a=.s x :=by simpa[Xpo] using hj.symm
        subst ha'
        rw[Nat.mul_one,Nat.add_zero,List.getElem?_map,hx]
        exact .s
      | j+1,hj => simp[Xpo] at hj
    · rcases hx with hx | ⟨_,_,hx⟩
      · rw[show g'=w.heap.size from hx]
        refine⟨Nat.le_refl _,?_⟩
        rw[k2]
        show w.heap.size<(w.heap.push _).size
        rw[Array.size_push]; exact Nat.lt_succ_self _
      · exact hx.elim
end Go.Vm
set_option autoImplicit false
namespace Go.Vm.A
open Go.Vm Go.RowKit
def XoC{a b x:UInt8}(hx:x≠a):∀(k:Nat) (l:List UInt8),Lib.replaceK [a] [b] k (x :: l)=x :: Lib.replaceK [a] [b] k l
  | 0,l => rfl
  | k+1,l => by
    have hix:Lib.index (x :: l) [a]=if Lib.index l [a] ==-1 then -1 else Lib.index l [a]+1 :=by
      rw[Lib.index_one,Lib.index_one]
      conv => lhs; unfold Lib.indexByte
      rw[if_neg (by simpa using hx)]
    have hge:-1<=Lib.index l [a] :=by rw[Lib.index_one]; exact Lib.indexByte_ge l a
    by_cases hm:Lib.index l [a] =-1
    · rw[Lib.replaceK,Lib.replaceK,hix,if_pos (beq_iff_eq.2 hm),if_pos (by decide),if_pos (beq_iff_eq.2 hm)]
    · obtain⟨i,hi⟩:∃i:Nat,Lib.index l [a]=i :=⟨(Lib.index l [a]).toNat,by omega⟩
      have h1:Lib.index (x :: l) [a]=((i+1:Nat):Int) :=by rw[hix,if_neg (by simpa using hm),hi]; rfl
      rw[Lib.replaceK_hit _ _ _ _ _ h1,Lib.replaceK_hit _ _ _ _ _ hi]
      rfl
def Xes{a b:UInt8}:∀l:List UInt8,Lib.replaceK [a] [b] (Lib.count l [a]) l=l.map λx => if x==a then b else x
  | [] => by rw[Lib.count_miss (by rw[Lib.index_one]; rfl)]; rfl
  | x :: l => by
    by_cases h:x=a
    · subst h
      rw[Lib.count_cons_eq,Nat.add_comm 1,Lib.replaceK_hit _ _ _ _ 0 (by rw[Lib.index_one]; unfold Lib.indexByte; simp),List.map_cons,if_pos (by simp)]
      show[]++[b]++Lib.replaceK [x] [b] (Lib.count l [x]) l=_
      rw[Xes l]; rfl
    · rw[Lib.count_cons_ne x a l h,XoC h,Xes l,List.map_cons,if_neg (by simpa using h)]
def UN(a b:UInt8)(t:ByteArray):ByteArray :=⟨(t.data.toList.map λx => if x==a then b else x).toArray⟩
def Xc5{a b:UInt8}(h:a≠b)(l:List UInt8):Lib.replaceAll l [a] [b]=l.map λx => if x==a then b else x :=by
  unfold Lib.replaceAll Lib.replace Lib.replaceNum
  rw[if_neg (by simpa using h),if_pos (by omega)]
  exact Xes l
def Xma:List AV->Option (AV×List AV)
  | [.s x,.s p,.s q] => if p.data.toList=[43]/\q.data.toList=[32]/\x.size<=1048576 then some (.s (UN 43 32 x),[.u,.u,.u]) else none
  | _ => none
def Xal{c:ByteArray}{l:List UInt8}(h:c.data.toList=l):c=⟨l.toArray⟩ :=by
  cases c; subst h; simp
def XoD {P : Program} [HasTb P] {g : FuncId} {fn : Func} {c : Code} (hf : P.funcs[g]? = some fn) (hname : (fn.name == "runtime.NumGoroutine") = false) (hb : fn.body = some c) {gM : Nat}
    (htb:∀(Im:CS) (w:World),Tb P Im w->∃m:Int,w.cell? ⟨gM,0,none⟩=some (.int .i64 m))
    (h:∀(s old new:ByteArray) (m:Int) (w:World),s.size<4294967281->w.cell? ⟨gM,0,none⟩=some (.int .i64 m)->1<=old.size->s.size+Lib.countB s old*new.size<=140737488355328 ->
      Calls P g #[.string s,.string old,.string new] w λe w' => e=.returned (.string ⟨(Lib.replaceAll s.data.toList old.data.toList new.data.toList).toArray⟩)/\Below w.heap.size w w'):Qm P g ⟨[.ro 1,.ro 1,.ro 1],Xma,false⟩ :=by
  refine Xbo rfl λw Im vs as r os hF hv ha harg hI hT => ?_
  match as,ha,hF with
  | [.s x,.s p,.s q],_,hF =>
    match vs,hv with
    | [v0,v1,v2],_ =>
      simp only[Xma] at hF
      split at hF
      · rename_i hc
        injection hF with hF
        injection hF with h1 h2
        subst h1 h2
        refine⟨rfl,λ_ => ⟨rfl,λo ho => by simp at ho; subst ho; rfl⟩,?_⟩
        obtain rfl :=(harg 0 v0 _ rfl rfl).str
        obtain rfl :=(harg 1 v1 _ rfl rfl).str
        obtain rfl :=(harg 2 v2 _ rfl rfl).str
        obtain⟨c1,c2,c3⟩ :=hc
        obtain rfl :=Xal c1
        obtain rfl :=Xal c2
        refine .inr ⟨ZG hf hname hb w,λcs => ?_⟩
        obtain⟨m,hm⟩ :=htb Im w hT
        have hcb :=Lib.countB_le (⟨[43].toArray⟩:ByteArray) (by decide) x.size x (Nat.le_refl _)
        have hq:(⟨[32].toArray⟩:ByteArray).size=1 :=rfl
        obtain⟨e,w',fr,⟨k1,k2⟩,k3⟩ :=h x ⟨[43].toArray⟩ ⟨[32].toArray⟩ m w (by omega) hm (by decide) (by rw[hq]; omega) cs
        subst k1
        have e1:(⟨(Lib.replaceAll x.data.toList [43] [32]).toArray⟩:ByteArray)=UN 43 32 x :=by rw[Xc5 (by decide)]; rfl
        refine⟨.returned _,w',fr,⟨UB k2,nos,?_,λ_ _ hx => hx.elim⟩,k3⟩
        rw[<-e1]
        exact .leaf (.rep .s)
      · cases hF
def XrF:List AV->Option (AV×List AV)
  | [.s x,.s p] => if p.data.toList=[61]/\x.size<=1048576 then some (.tup [.s ⟨(Lib.cut x.data.toList [61]).1.toArray⟩,.s ⟨(Lib.cut x.data.toList [61]).2.1.toArray⟩,.b (Lib.cut x.data.toList [61]).2.2],[.u,.u]) else none
  | _ => none
def Xq6 {P : Program} [HasTb P] {g : FuncId} {fn : Func} {c : Code} (hf : P.funcs[g]? = some fn) (hname : (fn.name == "runtime.NumGoroutine") = false) (hb : fn.body = some c) {gM : Nat}
    (htb:∀(Im:CS) (w:World),Tb P Im w->∃m:Int,w.cell? ⟨gM,0,none⟩=some (.int .i64 m))
    (h:∀(s sep:ByteArray) (m:Int) (w:World),s.size<4294967281->w.cell? ⟨gM,0,none⟩=some (.int .i64 m) ->
      Calls P g #[.string s,.string sep] w λe w' => e=.returned (.tuple #[.string ⟨(Lib.cut s.data.toList sep.data.toList).1.toArray⟩,.string ⟨(Lib.cut s.data.toList sep.data.toList).2.1.toArray⟩,.bool (Lib.cut s.data.toList sep.data.toList).2.2])/\∃n,w'=w.drewN n):Qm P g ⟨[.ro 1,.ro 1],XrF,false⟩ :=by
  refine Xbo rfl λw Im vs as r os hF hv ha harg hI hT => ?_
  match as,ha,hF with
  | [.s x,.s p],_,hF =>
    match vs,hv with
    | [v0,v1],_ =>
      simp only[XrF] at hF
      split at hF
      · rename_i hc
        injection hF with hF
        injection hF with h1 h2
        subst h1 h2
        refine⟨rfl,λ_ => ⟨rfl,λo ho => by simp at ho; subst ho; rfl⟩,?_⟩
        obtain rfl :=(harg 0 v0 _ rfl rfl).str
        obtain rfl :=(harg 1 v1 _ rfl rfl).str
        obtain⟨c1,c3⟩ :=hc
        obtain rfl :=Xal c1
        refine .inr ⟨ZG hf hname hb w,λcs => ?_⟩
        obtain⟨m,hm⟩ :=htb Im w hT
        obtain⟨e,w',fr,⟨k1,n,k2⟩,k3⟩ :=h x _ m w (by omega) hm cs
        subst k1
        have hbl:Below w.heap.size w w' :=by rw[k2]; exact below_drewN (Below.refl _ _) n
        refine⟨.returned _,w',fr,⟨UB hbl,nos,?_,λ_ _ hx => hx.elim⟩,k3⟩
        refine .tup [_,_,_] (λ_ => nos) rfl (λi u b hu hb => ?_) (λ_ => XA _) (λ_ _ _ => Xk _)
        match i,hu,hb with
        | 0,hu,hb => simp at hu hb; subst hu hb; exact .leaf (.rep .s)
        | 1,hu,hb => simp at hu hb; subst hu hb; exact .leaf (.rep .s)
        | 2,hu,hb => simp at hu hb; subst hu hb; exact .leaf (.rep .b)
        | i+3,hu,hb => simp at hu
      · cases hF
def XjX:List AV->Option ByteArray
  | [.s x] => some x
  | _ => none
def Xas:List (List AV)->Option (List ByteArray)
  | [] => some []
  | r :: rs => match XjX r,Xas rs with
    | some x,some xs => some (x :: xs)
    | _,_ => none
def XdL:∀{es:List (List AV)} {xs:List ByteArray},Xas es=some xs->es=xs.map λx => [AV.s x]
  | [],xs,h => by simp only[Xas,Option.some.injEq] at h; subst h; rfl
  | r :: rs,xs,h => by
    simp only[Xas] at h
    split at h
    · rename_i x ys h1 h2
      injection h with h
      subst h
      have:r=[AV.s x] :=by
        unfold XjX at h1
        split at h1
        · injection h1 with h1; rw[h1]
        · cases h1
      rw[this,XdL h2]; rfl
    · cases h
def XdM:∀xs:List ByteArray,Xas (xs.map λx => [AV.s x])=some xs
  | [] => rfl
  | x :: xs => by simp only[List.map_cons,Xas,XjX,XdM xs]
def Xat(xs:List ByteArray):Bool :=decide (xs.length<=1048576)&&xs.all λx => decide (x.size<=1048576)
def Xac(xs:List ByteArray):ByteArray :=⟨(Lib.join (xs.map (·.data.toList)) [32]).toArray⟩
def XoE:Option (List ByteArray)->ByteArray->Option (AV×List AV)
  | some xs,p => if p.data.toList=[32]/\Xat xs=true then some (.s (Xac xs),[.u,.u]) else none
  | none,_ => none
def XoF:List AV->Option (AV×List AV)
  | [.sl .ro 1 es,.s p] => XoE (Xas es) p
  | _ => none
def Xmb(xs:List ByteArray)(h:Xat xs=true):XoF [.sl .ro 1 (xs.map λx => [.s x]),.s ⟨#[32]⟩]=some (.s (Xac xs),[.u,.u]) :=by
  show XoE (Xas _) _=_
  rw[XdM]
  have hc:(⟨#[32]⟩:ByteArray).data.toList=[32]/\Xat xs=true :=⟨rfl,h⟩
  exact if_pos hc
def XjY(N:Nat):∀l:List (List UInt8),(∀x∈l,x.length<=N)->Lib.lens l<=N*l.length
  | [],_ => by simp[Lib.lens]
  | x :: l,h => by
    have h1 :=XjY N l λy hy => h y (List.mem_cons_of_mem _ hy)
    have h2 :=h x (List.mem_cons_self ..)
    have e:Lib.lens (x :: l)=x.length+Lib.lens l :=by simp[Lib.lens]
    rw[e,List.length_cons,Nat.mul_succ]
    omega
def XjZ{xs:List ByteArray}(h:Xat xs=true):(Lib.join (xs.map (·.data.toList)) [32]).length<=1099512676352 :=by
  simp only[Xat,Bool.and_eq_true,decide_eq_true_eq,List.all_eq_true] at h
  cases xs with
  | nil => simp[Lib.join,List.intercalate]
  | cons x r =>
    rw[List.map_cons,Lib.join_length]
    have h1 :=XjY 1048576 ((x :: r).map (·.data.toList)) (λy hy => by
      obtain⟨z,hz,rfl⟩ :=List.mem_map.1 hy
      have :=h.2 z hz
      simpa using this)
    have h2 :=h.1
    simp only[List.map_cons,List.length_cons,List.length_map,List.length_nil] at h1 h2 ⊢
    have h3:1048576*(r.length+1)<=1048576*1048576 :=Nat.mul_le_mul_left _ h2
    omega
def XoG {P : Program} [HasTb P] {g : FuncId} {fn : Func} {c : Code} (hf : P.funcs[g]? = some fn) (hname : (fn.name == "runtime.NumGoroutine") = false) (hb : fn.body = some c)
    (h0:∀(a:Option Addr) (c:Nat) (sep:ByteArray) (w:World),Calls P g #[.slice a 0 c,.string sep] w λe w' => e=.returned (.string ⟨#[]⟩)/\w'=w)
    (h:∀(bk o c:Nat) (xs:List ByteArray) (sep:ByteArray) (w:World),(∀(j:Nat) (x:ByteArray),xs[j]?=some x->w.cell? ⟨bk,o+j,none⟩=some (.string x))->bk<w.heap.size->xs.length<=140737488355328->xs.length<=c ->
      (Lib.join (xs.map (·.data.toList)) sep.data.toList).length<=140737488355328 ->
      Calls P g #[.slice (some ⟨bk,o,none⟩) xs.length c,.string sep] w λe w' => e=.returned (.string ⟨(Lib.join (xs.map (·.data.toList)) sep.data.toList).toArray⟩)/\Below w.heap.size w w'):Qm P g ⟨[.ro 1,.ro 1],XoF,false⟩ :=by
  refine Xeq rfl λw Im vs as r os hF hv ha harg => ?_
  match as,ha,hF with
  | [.sl .ro 1 es,.s p],_,hF =>
    match vs,hv with
    | [v0,v1],_ =>
      have hF:XoE (Xas es) p=some (r,os) :=hF
      cases hp:Xas es with
      | none => rw[hp] at hF; cases hF
      | some xs =>
        rw[hp] at hF
        have hF:(if p.data.toList=[32]/\Xat xs=true then some (AV.s (Xac xs),[AV.u,AV.u]) else none)=some (r,os) :=hF
        split at hF
        · rename_i hc
          injection hF with hF
          injection hF with h1 h2
          subst h1 h2
          refine⟨rfl,λ_ => ⟨rfl,λo ho => by simp at ho; subst ho; rfl⟩,?_⟩
          obtain⟨c1,c2⟩ :=hc
          have hlen0 :=XjZ c2
          have hes :=XdL hp
          obtain rfl :=(harg 1 v1 _ rfl rfl).str
          obtain rfl :=Xal c1
          have hc0 :=harg 0 v0 _ rfl rfl
          have hN:xs.length<=1048576 :=by simp only[Xat,Bool.and_eq_true,decide_eq_true_eq] at c2; exact c2.1
          cases hc0 with
          | leaf hc0 => cases hc0 with
            | rep hc0 => cases hc0 with
              | @sl A n cap _ _ _ _ b off vs' Sf hn hcap hL hA hz hrow hin hf' hsub hd hself hnone =>
                have hlen:xs.length=n :=by rw[<-hn,hes,List.length_map]
                refine .inr ⟨ZG hf hname hb w,λcs => ?_⟩
                by_cases hem:n=0
                · subst hem
                  obtain rfl:xs=[] :=List.length_eq_zero_iff.1 hlen
                  obtain⟨e,w',fr,⟨k1,k2⟩,k3⟩ :=h0 A cap ⟨[32].toArray⟩ w cs
                  subst k1 k2
                  exact⟨.returned _,_,fr,(⟨⟨rfl,rfl,rfl,Nat.le_refl _,λ_ _ => .inl rfl⟩,.leaf (.rep .s)⟩:Frame w' w' nos/\Cl w' Im (.string (Xac [])) (.s (Xac [])) nos),k3⟩
                · have hA' :=hA (by omega)
                  have str:∀{v:Value} {x:ByteArray} {S:CS},Rep w Im v (.s x) S->v=.string x :=λhr => by cases hr; rfl
                  have c3:∀(i:Nat) (x:ByteArray),xs[i]?=some x->XH w b (off+i)=some (.string x) :=λi x hx => by
                    have hg:es[i]?=some [.s x] :=by rw[hes,List.getElem?_map,hx]; rfl
                    have e1 :=hrow i _ 0 _ hg rfl
                    have e2 :=str (hin i _ 0 _ hg rfl)
                    rw[e2] at e1
                    simpa using e1
                  have hb0:b<w.heap.size :=XjV (c3 0 xs[0] (by simp))
                  obtain⟨e,w',fr,⟨k1,k2⟩,k3⟩ :=h b off cap xs ⟨[32].toArray⟩ w c3 hb0 (by omega) (by omega) (Nat.le_trans hlen0 (by decide)) cs
                  subst k1
                  subst hA' hlen
                  exact⟨.returned _,w',fr,(⟨UB k2,.leaf (.rep .s)⟩:Frame w w' nos/\Cl w' Im (.string (Xac xs)) (.s (Xac xs)) nos),k3⟩
        · cases hF
def XdN(x:ByteArray):ByteArray :=⟨(Lib.cut x.data.toList [61]).1.toArray⟩
def QZ(x:ByteArray):ByteArray :=⟨(Lib.cut x.data.toList [61]).2.1.toArray⟩
def XaB(x:ByteArray):Bool :=(Lib.cut x.data.toList [61]).2.2
end Go.Vm.A
set_option autoImplicit false
set_option maxRecDepth 100000
set_option maxHeartbeats 4000000
attribute [go_sem] Nat.add_zero Nat.zero_add List.contains_cons List.contains_nil List.elem_cons List.elem_nil List.length_cons List.length_nil List.map_cons List.map_nil List.all_cons List.all_nil List.any_cons List.any_nil List.getElem?_cons_zero List.getElem?_cons_succ List.getElem?_nil List.getD_cons_zero List.getD_cons_succ List.append_nil List.nil_append List.cons_append List.isEmpty_cons List.isEmpty_nil List.headD_cons List.headD_nil List.tail_cons List.tail_nil List.take_nil List.drop_nil Bool.and_true Bool.true_and Bool.or_false Bool.or_true Bool.false_or Bool.true_or Bool.not_true Bool.not_false Bool.and_false Bool.false_and Bool.false_eq_true Bool.true_eq_false Bool.and_self Bool.not_not decide_true decide_false decide_eq_true_eq beq_self_eq_true Nat.le_refl Nat.zero_le and_self true_and and_true false_and and_false or_true true_or if_true if_false Option.map_some Option.map_none Option.isSome_none Option.isSome_some eq_self_iff_true not_true_eq_false not_false_eq_true ne_eq Nat.not_lt_zero Nat.succ_ne_zero List.length_map List.set_cons_zero List.set_cons_succ gt_iff_lt ge_iff_le List.take_succ_cons List.take_zero List.drop_zero List.drop_succ_cons bne_self_eq_false
namespace Go.Vm
def XE(b:UInt8):List AV :=[.i .u8 b.toNat]
def X8(s:ByteArray):List AV :=[.s s]
def XfH(n:Int):List AV :=[.i .i64 n]
def Xia(b:Bool):List AV :=[.b b]
@[go_sem] def Xq7(b:UInt8):XE b=[.i .u8 b.toNat] :=nr rfl
@[go_sem] def XrG(s:ByteArray):X8 s=[.s s] :=nr rfl
@[go_sem] def XrH(n:Int):XfH n=[.i .i64 n] :=nr rfl
@[go_sem] def Xq8(b:Bool):Xia b=[.b b] :=nr rfl
def Ys{α:Type}{f g:α->List AV}(h:∀a,Yv (f a)=g a):∀xs:List α,XL (xs.map f)=xs.map g
  | [] => rfl
  | x :: xs => by simp only[List.map_cons,XL,h,Ys h xs]
def YI{α:Type}{f:α->List AV}(h:∀a,XU (f a)=false):∀xs:List α,XQ (xs.map f)=false
  | [] => rfl
  | x :: xs => by simp only[List.map_cons,XQ,h,YI h xs,Bool.or_self]
@[go_sem] def Qa(xs:List UInt8):XL (xs.map XE)=xs.map XE :=Ys (λa => by simp only[XE,Yv,strip]) xs
@[go_sem] def Xib(xs:List ByteArray):XL (xs.map X8)=xs.map X8 :=Ys (λa => by simp only[X8,Yv,strip]) xs
@[go_sem] def Xpp(xs:List Int):XL (xs.map XfH)=xs.map XfH :=Ys (λa => by simp only[XfH,Yv,strip]) xs
@[go_sem] def XoH(xs:List Bool):XL (xs.map Xia)=xs.map Xia :=Ys (λa => by simp only[Xia,Yv,strip]) xs
@[go_sem] def QK(xs:List UInt8):XQ (xs.map XE)=false :=YI (λa => by simp only[XE,XU,XJ,Bool.or_self]) xs
@[go_sem] def Xj0(xs:List ByteArray):XQ (xs.map X8)=false :=YI (λa => by simp only[X8,XU,XJ,Bool.or_self]) xs
@[go_sem] def Xq9(xs:List Int):XQ (xs.map XfH)=false :=YI (λa => by simp only[XfH,XU,XJ,Bool.or_self]) xs
@[go_sem] def Xpq(xs:List Bool):XQ (xs.map Xia)=false :=YI (λa => by simp only[Xia,XU,XJ,Bool.or_self]) xs
@[go_sem] def Xra(xs:List UInt8):Xcc (xs.map XE)=some xs :=XdJ xs
def Xs0(s:ByteArray):Prop :=s.size<=9223372036854775807
def Zy(s:ByteArray):Prop :=s.size<=1048576
def Xj1(_:UInt8):Prop :=True
def Xj2(_:Int):Prop :=True
def Xrb(_:Bool):Prop :=True
def smL{α:Type}(p:α->Prop)(xs:List α):Prop :=xs.length<=1048576/\∀x∈xs,p x
def UD{α:Type}{xs ys:List α}(h:xs.length=ys.length):(xs.zip ys).length=xs.length :=by simp[h]
def Xet{α:Type}:∀{xs ys:List α} {u u':Unit},xs.length=ys.length->XaG (λ(x:α×α) (_:Unit) => !eqv x.1 x.2) (λ_ _ => ()) (xs.zip ys) u=.inl u'->eqv xs ys=true
  | [],[],_,_,_,_ => Xak _
  | x :: xs,y :: ys,u,u',hl,h => by
    simp only[List.zip_cons_cons,XaG] at h
    cases hc:eqv x y with
    | false => simp[hc] at h
    | true =>
      simp only[hc,Bool.not_true,Bool.false_eq_true,if_false] at h
      have :=Yn.1 (Xet (by simpa using hl) h)
      rw[Yn.1 hc,this]; exact Xak _
def Xeu{α:Type}:∀{xs ys:List α} {u:Unit} {p:(α×α)×Unit},xs.length=ys.length->XaG (λ(x:α×α) (_:Unit) => !eqv x.1 x.2) (λ_ _ => ()) (xs.zip ys) u=.inr p->eqv xs ys=false
  | [],[],_,_,_,h => by simp[XaG] at h
  | x :: xs,y :: ys,u,p,hl,h => by
    simp only[List.zip_cons_cons,XaG] at h
    cases he:eqv (x :: xs) (y :: ys) with
    | false => rfl
    | true =>
      have hh :=Yn.1 he
      injection hh with h1 h2
      subst h1 h2
      simp only[Xak,Bool.not_true,Bool.false_eq_true,if_false] at h
      have :=Xeu rfl h
      rw[Xak] at this; cases this
def XgG{α:Type}{xs ys:List α}(h:¬xs.length=ys.length):eqv xs ys=false :=by
  cases he:eqv xs ys with
  | false => rfl
  | true => exact absurd (congrArg List.length (Yn.1 he)) h
def XoI(c:Prop)[Decidable c](k:IntKind)(x y:Int)(l:List AV):(if c then some (AV.i k x,l) else some (AV.i k y,l))=some (AV.i k (if c then x else y),l) :=by split<;>rfl
def Xrc(c:Prop)[Decidable c](x y:Bool)(l:List AV):(if c then some (AV.b x,l) else some (AV.b y,l))=some (AV.b (if c then x else y),l) :=by split<;>rfl
def Xa6(x:Bool):((!x)=true)=(x=false) :=by cases x<;>simp
def Xj3(x y:Bool):(if x=false then false else y)=(x&&y) :=by cases x<;>rfl
end Go.Vm
namespace Go.Vm
structure Xg where
  Name:ByteArray
  Value:ByteArray
def Xb(t:Tag)(a:Xg):List AV :=[.s a.Name,.s a.Value]
@[go_sem] def XoJ(t:Tag)(a:Xg):Xb t a=[.s a.Name,.s a.Value] :=nr rfl
@[go_sem] def Y6(t:Tag)(xs:List Xg):XL (xs.map (Xb t))=xs.map (Xb .ro) :=Ys (λa => by simp only[Xb,Yv,strip]) xs
@[go_sem] def Zs(xs:List Xg):XQ (xs.map (Xb .mut))=false :=YI (λa => by simp only[Xb,XU,XJ,Bool.or_self]) xs
@[go_sem] def Xg.eta(a:Xg):Xg.mk a.Name a.Value=a :=nr rfl
def Xg.eqv(a b:Xg):Vm.eqv a b=(Vm.eqv a.Name b.Name&&(Vm.eqv a.Value b.Value)) :=(Qo (by simp only[Bool.and_eq_true,Yn]; cases a; cases b; simp only[Xg.mk.injEq,and_assoc])).symm
def Ye(a:Xg):Prop :=Zy a.Name/\Zy a.Value
structure Request where
  Method:ByteArray
  Host:ByteArray
  Path:ByteArray
  Headers:List Xg
def UE(t:Tag)(a:Request):List AV :=[.s a.Method,.s a.Host,.s a.Path,.sl t 2 (a.Headers.map (Xb t))]
@[go_sem] def XmI(t:Tag)(a:Request):UE t a=[.s a.Method,.s a.Host,.s a.Path,.sl t 2 (a.Headers.map (Xb t))] :=nr rfl
@[go_sem] def Xkf(t:Tag)(xs:List Request):XL (xs.map (UE t))=xs.map (UE .ro) :=Ys (λa => by simp only[UE,Yv,strip,Y6]) xs
@[go_sem] def Xmc(xs:List Request):XQ (xs.map (UE .mut))=false :=YI (λa => by simp only[UE,XU,XJ,Bool.or_self,Zs]) xs
@[go_sem] def Request.eta(a:Request):Request.mk a.Method a.Host a.Path a.Headers=a :=nr rfl
def Request.eqv(a b:Request):Vm.eqv a b=(Vm.eqv a.Method b.Method&&(Vm.eqv a.Host b.Host&&(Vm.eqv a.Path b.Path&&(Vm.eqv a.Headers b.Headers)))) :=(Qo (by simp only[Bool.and_eq_true,Yn]; cases a; cases b; simp only[Request.mk.injEq,and_assoc])).symm
def Qq(a:Request):Prop :=Zy a.Method/\Zy a.Host/\Zy a.Path/\(smL Ye) a.Headers
structure Meta where
  At:Int
  Age:Int
  Life:Int
  Swr:Int
  Sie:Int
  Soft:Bool
  NoCache:Bool
def Xic(t:Tag)(a:Meta):List AV :=[.i .i64 a.At,.i .i64 a.Age,.i .i64 a.Life,.i .i64 a.Swr,.i .i64 a.Sie,.b a.Soft,.b a.NoCache]
@[go_sem] def Xrd(t:Tag)(a:Meta):Xic t a=[.i .i64 a.At,.i .i64 a.Age,.i .i64 a.Life,.i .i64 a.Swr,.i .i64 a.Sie,.b a.Soft,.b a.NoCache] :=nr rfl
@[go_sem] def XoK(t:Tag)(xs:List Meta):XL (xs.map (Xic t))=xs.map (Xic .ro) :=Ys (λa => by simp only[Xic,Yv,strip]) xs
@[go_sem] def Xpr(xs:List Meta):XQ (xs.map (Xic .mut))=false :=YI (λa => by simp only[Xic,XU,XJ,Bool.or_self]) xs
@[go_sem] def Meta.eta(a:Meta):Meta.mk a.At a.Age a.Life a.Swr a.Sie a.Soft a.NoCache=a :=nr rfl
def Meta.eqv(a b:Meta):Vm.eqv a b=(Vm.eqv a.At b.At&&(Vm.eqv a.Age b.Age&&(Vm.eqv a.Life b.Life&&(Vm.eqv a.Swr b.Swr&&(Vm.eqv a.Sie b.Sie&&(Vm.eqv a.Soft b.Soft&&(Vm.eqv a.NoCache b.NoCache))))))) :=(Qo (by simp only[Bool.and_eq_true,Yn]; cases a; cases b; simp only[Meta.mk.injEq,and_assoc])).symm
structure Xc6 where
  Key:ByteArray
  Status:Int
  Headers:List Xg
  Body:List UInt8
  Meta:Meta
  Tags:List ByteArray
  Pins:Int
def XdO(t:Tag)(a:Xc6):List AV :=[.s a.Key,.i .i64 a.Status,.sl t 2 (a.Headers.map (Xb t)),.sl t 1 (a.Body.map XE),.i .i64 a.Meta.At,.i .i64 a.Meta.Age,.i .i64 a.Meta.Life,.i .i64 a.Meta.Swr,.i .i64 a.Meta.Sie,.b a.Meta.Soft,.b a.Meta.NoCache,.sl t 1 (a.Tags.map X8),.i .i64 a.Pins]
@[go_sem] def Xps(t:Tag)(a:Xc6):XdO t a=[.s a.Key,.i .i64 a.Status,.sl t 2 (a.Headers.map (Xb t)),.sl t 1 (a.Body.map XE),.i .i64 a.Meta.At,.i .i64 a.Meta.Age,.i .i64 a.Meta.Life,.i .i64 a.Meta.Swr,.i .i64 a.Meta.Sie,.b a.Meta.Soft,.b a.Meta.NoCache,.sl t 1 (a.Tags.map X8),.i .i64 a.Pins] :=nr rfl
@[go_sem] def XmJ(t:Tag)(xs:List Xc6):XL (xs.map (XdO t))=xs.map (XdO .ro) :=Ys (λa => by simp only[XdO,Yv,strip,Qa,Y6,Xib]) xs
@[go_sem] def XoL(xs:List Xc6):XQ (xs.map (XdO .mut))=false :=YI (λa => by simp only[XdO,XU,XJ,Bool.or_self,QK,Zs,Xj0]) xs
@[go_sem] def Xc6.eta(a:Xc6):Xc6.mk a.Key a.Status a.Headers a.Body a.Meta a.Tags a.Pins=a :=nr rfl
def Xc6.eqv(a b:Xc6):Vm.eqv a b=(Vm.eqv a.Key b.Key&&(Vm.eqv a.Status b.Status&&(Vm.eqv a.Headers b.Headers&&(Vm.eqv a.Body b.Body&&(Vm.eqv a.Meta b.Meta&&(Vm.eqv a.Tags b.Tags&&(Vm.eqv a.Pins b.Pins))))))) :=(Qo (by simp only[Bool.and_eq_true,Yn]; cases a; cases b; simp only[Xc6.mk.injEq,and_assoc])).symm
structure Yp where
  Code:Int
  Request:Request
def Zd(t:Tag)(a:Yp):List AV :=[.i .i64 a.Code,.s a.Request.Method,.s a.Request.Host,.s a.Request.Path,.sl t 2 (a.Request.Headers.map (Xb t))]
@[go_sem] def Xhg(t:Tag)(a:Yp):Zd t a=[.i .i64 a.Code,.s a.Request.Method,.s a.Request.Host,.s a.Request.Path,.sl t 2 (a.Request.Headers.map (Xb t))] :=nr rfl
@[go_sem] def XfL(t:Tag)(xs:List Yp):XL (xs.map (Zd t))=xs.map (Zd .ro) :=Ys (λa => by simp only[Zd,Yv,strip,Y6]) xs
@[go_sem] def XgH(xs:List Yp):XQ (xs.map (Zd .mut))=false :=YI (λa => by simp only[Zd,XU,XJ,Bool.or_self,Zs]) xs
@[go_sem] def Yp.eta(a:Yp):Yp.mk a.Code a.Request=a :=nr rfl
def Yp.eqv(a b:Yp):Vm.eqv a b=(Vm.eqv a.Code b.Code&&(Vm.eqv a.Request b.Request)) :=(Qo (by simp only[Bool.and_eq_true,Yn]; cases a; cases b; simp only[Yp.mk.injEq,and_assoc])).symm
structure Response where
  Status:Int
  Headers:List Xg
  Body:List UInt8
def QT(t:Tag)(a:Response):List AV :=[.i .i64 a.Status,.sl t 2 (a.Headers.map (Xb t)),.sl t 1 (a.Body.map XE)]
@[go_sem] def Xmd(t:Tag)(a:Response):QT t a=[.i .i64 a.Status,.sl t 2 (a.Headers.map (Xb t)),.sl t 1 (a.Body.map XE)] :=nr rfl
@[go_sem] def Xj4(t:Tag)(xs:List Response):XL (xs.map (QT t))=xs.map (QT .ro) :=Ys (λa => by simp only[QT,Yv,strip,Qa,Y6]) xs
@[go_sem] def Xkg(xs:List Response):XQ (xs.map (QT .mut))=false :=YI (λa => by simp only[QT,XU,XJ,Bool.or_self,QK,Zs]) xs
@[go_sem] def Response.eta(a:Response):Response.mk a.Status a.Headers a.Body=a :=nr rfl
def Response.eqv(a b:Response):Vm.eqv a b=(Vm.eqv a.Status b.Status&&(Vm.eqv a.Headers b.Headers&&(Vm.eqv a.Body b.Body))) :=(Qo (by simp only[Bool.and_eq_true,Yn]; cases a; cases b; simp only[Response.mk.injEq,and_assoc])).symm
def ZR(a:Response):Prop :=Xj2 a.Status/\(smL Ye) a.Headers/\(smL Xj1) a.Body
structure X9 where
  Code:Int
  Response:Response
def YX(t:Tag)(a:X9):List AV :=[.i .i64 a.Code,.i .i64 a.Response.Status,.sl t 2 (a.Response.Headers.map (Xb t)),.sl t 1 (a.Response.Body.map XE)]
@[go_sem] def XgI(t:Tag)(a:X9):YX t a=[.i .i64 a.Code,.i .i64 a.Response.Status,.sl t 2 (a.Response.Headers.map (Xb t)),.sl t 1 (a.Response.Body.map XE)] :=nr rfl
@[go_sem] def XfI(t:Tag)(xs:List X9):XL (xs.map (YX t))=xs.map (YX .ro) :=Ys (λa => by simp only[YX,Yv,strip,Qa,Y6]) xs
@[go_sem] def XfM(xs:List X9):XQ (xs.map (YX .mut))=false :=YI (λa => by simp only[YX,XU,XJ,Bool.or_self,QK,Zs]) xs
@[go_sem] def X9.eta(a:X9):X9.mk a.Code a.Response=a :=nr rfl
def X9.eqv(a b:X9):Vm.eqv a b=(Vm.eqv a.Code b.Code&&(Vm.eqv a.Response b.Response)) :=(Qo (by simp only[Bool.and_eq_true,Yn]; cases a; cases b; simp only[X9.mk.injEq,and_assoc])).symm
structure Ze where
  Code:Int
  Text:ByteArray
def Qb(t:Tag)(a:Ze):List AV :=[.i .i64 a.Code,.s a.Text]
@[go_sem] def Xj5(t:Tag)(a:Ze):Qb t a=[.i .i64 a.Code,.s a.Text] :=nr rfl
@[go_sem] def Xid(t:Tag)(xs:List Ze):XL (xs.map (Qb t))=xs.map (Qb .ro) :=Ys (λa => by simp only[Qb,Yv,strip]) xs
@[go_sem] def Xif(xs:List Ze):XQ (xs.map (Qb .mut))=false :=YI (λa => by simp only[Qb,XU,XJ,Bool.or_self]) xs
@[go_sem] def Ze.eta(a:Ze):Ze.mk a.Code a.Text=a :=nr rfl
def Ze.eqv(a b:Ze):Vm.eqv a b=(Vm.eqv a.Code b.Code&&(Vm.eqv a.Text b.Text)) :=(Qo (by simp only[Bool.and_eq_true,Yn]; cases a; cases b; simp only[Ze.mk.injEq,and_assoc])).symm
structure Event where
  Kind:Int
  Id:Int
  Draw:Int
  Request:Request
  Response:Response
  Text:ByteArray
  Hard:Bool
def Ud(t:Tag)(a:Event):List AV :=[.i .i64 a.Kind,.i .i64 a.Id,.i .i64 a.Draw,.s a.Request.Method,.s a.Request.Host,.s a.Request.Path,.sl t 2 (a.Request.Headers.map (Xb t)),.i .i64 a.Response.Status,.sl t 2 (a.Response.Headers.map (Xb t)),.sl t 1 (a.Response.Body.map XE),.s a.Text,.b a.Hard]
@[go_sem] def Xpt(t:Tag)(a:Event):Ud t a=[.i .i64 a.Kind,.i .i64 a.Id,.i .i64 a.Draw,.s a.Request.Method,.s a.Request.Host,.s a.Request.Path,.sl t 2 (a.Request.Headers.map (Xb t)),.i .i64 a.Response.Status,.sl t 2 (a.Response.Headers.map (Xb t)),.sl t 1 (a.Response.Body.map XE),.s a.Text,.b a.Hard] :=nr rfl
@[go_sem] def XmK(t:Tag)(xs:List Event):XL (xs.map (Ud t))=xs.map (Ud .ro) :=Ys (λa => by simp only[Ud,Yv,strip,Qa,Y6]) xs
@[go_sem] def XoM(xs:List Event):XQ (xs.map (Ud .mut))=false :=YI (λa => by simp only[Ud,XU,XJ,Bool.or_self,QK,Zs]) xs
@[go_sem] def Event.eta(a:Event):Event.mk a.Kind a.Id a.Draw a.Request a.Response a.Text a.Hard=a :=nr rfl
def Event.eqv(a b:Event):Vm.eqv a b=(Vm.eqv a.Kind b.Kind&&(Vm.eqv a.Id b.Id&&(Vm.eqv a.Draw b.Draw&&(Vm.eqv a.Request b.Request&&(Vm.eqv a.Response b.Response&&(Vm.eqv a.Text b.Text&&(Vm.eqv a.Hard b.Hard))))))) :=(Qo (by simp only[Bool.and_eq_true,Yn]; cases a; cases b; simp only[Event.mk.injEq,and_assoc])).symm
def Xev(a:Event):Prop :=Xj2 a.Kind/\Xj2 a.Id/\Xj2 a.Draw/\Qq a.Request/\ZR a.Response/\Zy a.Text/\Xrb a.Hard
structure Xy where
  Code:Int
  Event:Event
def YJ(t:Tag)(a:Xy):List AV :=[.i .i64 a.Code,.i .i64 a.Event.Kind,.i .i64 a.Event.Id,.i .i64 a.Event.Draw,.s a.Event.Request.Method,.s a.Event.Request.Host,.s a.Event.Request.Path,.sl t 2 (a.Event.Request.Headers.map (Xb t)),.i .i64 a.Event.Response.Status,.sl t 2 (a.Event.Response.Headers.map (Xb t)),.sl t 1 (a.Event.Response.Body.map XE),.s a.Event.Text,.b a.Event.Hard]
@[go_sem] def Xig(t:Tag)(a:Xy):YJ t a=[.i .i64 a.Code,.i .i64 a.Event.Kind,.i .i64 a.Event.Id,.i .i64 a.Event.Draw,.s a.Event.Request.Method,.s a.Event.Request.Host,.s a.Event.Request.Path,.sl t 2 (a.Event.Request.Headers.map (Xb t)),.i .i64 a.Event.Response.Status,.sl t 2 (a.Event.Response.Headers.map (Xb t)),.sl t 1 (a.Event.Response.Body.map XE),.s a.Event.Text,.b a.Event.Hard] :=nr rfl
@[go_sem] def Xhh(t:Tag)(xs:List Xy):XL (xs.map (YJ t))=xs.map (YJ .ro) :=Ys (λa => by simp only[YJ,Yv,strip,Qa,Y6]) xs
@[go_sem] def Xie(xs:List Xy):XQ (xs.map (YJ .mut))=false :=YI (λa => by simp only[YJ,XU,XJ,Bool.or_self,QK,Zs]) xs
@[go_sem] def Xy.eta(a:Xy):Xy.mk a.Code a.Event=a :=nr rfl
def Xy.eqv(a b:Xy):Vm.eqv a b=(Vm.eqv a.Code b.Code&&(Vm.eqv a.Event b.Event)) :=(Qo (by simp only[Bool.and_eq_true,Yn]; cases a; cases b; simp only[Xy.mk.injEq,and_assoc])).symm
def UF(a:Xy):Prop :=Xj2 a.Code/\Xev a.Event
structure Xc7 where
  Code:List UInt8
  At:Int
def XdP(t:Tag)(a:Xc7):List AV :=[.sl t 1 (a.Code.map XE),.i .i64 a.At]
@[go_sem] def Xpu(t:Tag)(a:Xc7):XdP t a=[.sl t 1 (a.Code.map XE),.i .i64 a.At] :=nr rfl
@[go_sem] def XmL(t:Tag)(xs:List Xc7):XL (xs.map (XdP t))=xs.map (XdP .ro) :=Ys (λa => by simp only[XdP,Yv,strip,Qa]) xs
@[go_sem] def XoN(xs:List Xc7):XQ (xs.map (XdP .mut))=false :=YI (λa => by simp only[XdP,XU,XJ,Bool.or_self,QK]) xs
@[go_sem] def Xc7.eta(a:Xc7):Xc7.mk a.Code a.At=a :=nr rfl
def Xc7.eqv(a b:Xc7):Vm.eqv a b=(Vm.eqv a.Code b.Code&&(Vm.eqv a.At b.At)) :=(Qo (by simp only[Bool.and_eq_true,Yn]; cases a; cases b; simp only[Xc7.mk.injEq,and_assoc])).symm
structure Zt where
  Code:Int
  Value:Int
def Qc(t:Tag)(a:Zt):List AV :=[.i .i64 a.Code,.i .i64 a.Value]
@[go_sem] def Xkh(t:Tag)(a:Zt):Qc t a=[.i .i64 a.Code,.i .i64 a.Value] :=nr rfl
@[go_sem] def Xih(t:Tag)(xs:List Zt):XL (xs.map (Qc t))=xs.map (Qc .ro) :=Ys (λa => by simp only[Qc,Yv,strip]) xs
@[go_sem] def Xj6(xs:List Zt):XQ (xs.map (Qc .mut))=false :=YI (λa => by simp only[Qc,XU,XJ,Bool.or_self]) xs
@[go_sem] def Zt.eta(a:Zt):Zt.mk a.Code a.Value=a :=nr rfl
def Zt.eqv(a b:Zt):Vm.eqv a b=(Vm.eqv a.Code b.Code&&(Vm.eqv a.Value b.Value)) :=(Qo (by simp only[Bool.and_eq_true,Yn]; cases a; cases b; simp only[Zt.mk.injEq,and_assoc])).symm
end Go.Vm
set_option autoImplicit false
set_option maxRecDepth 100000
set_option maxHeartbeats 4000000
namespace Go.Vm
def Xi(a:Xg)(k:Int):Xg×Int :=
  (⟨Xhe (k),Xhe (k+1)⟩,k+1+1)
def Yi(a:Xg)(k:Int):k+1<=(Xi a k).2 :=by
  simp only[Xi]
  omega
def XbI(a:Xg)(k:Int)(h:Ye a):(Xi a k).2<=k+(2:Nat) :=by
  simp only[Xi]
  omega
def Yh(a:Request)(k:Int):Request×Int :=
  let p0 :=mkL Xi a.Headers (k)
  (⟨a.Method,a.Host,a.Path,p0.1⟩,p0.2)
def XW(a:Request)(k:Int):Yh a k=(let p0 :=mkL Xi a.Headers (k); (⟨a.Method,a.Host,a.Path,p0.1⟩,p0.2)) :=nr rfl
def UG(a:Request)(k:Int):k<=(Yh a k).2 :=by
  simp only[Yh]
  have b0 :=UM Yi a.Headers (k)
  generalize (mkL Xi a.Headers (k)).2=q0 at b0 ⊢
  omega
def Xew(a:Request)(k:Int)(h:Qq a):(Yh a k).2<=k+(2097152:Nat) :=by
  simp only[Yh]
  have b0 :=XjS (c :=2) (XbI) a.Headers (k) h.2.2.2
  generalize (mkL Xi a.Headers (k)).2=q0 at b0 ⊢
  omega
def X2(a:Response)(k:Int):Response×Int :=
  let p0 :=mkL Xi a.Headers (k)
  let p1 :=mkL X7 a.Body (p0.2)
  (⟨a.Status,p0.1,p1.1⟩,p1.2)
def XN(a:Response)(k:Int):X2 a k=(let p0 :=mkL Xi a.Headers (k); let p1 :=mkL X7 a.Body (p0.2); (⟨a.Status,p0.1,p1.1⟩,p1.2)) :=nr rfl
def Q3(a:Response)(k:Int):k<=(X2 a k).2 :=by
  simp only[X2]
  have b0 :=UM Yi a.Headers (k)
  generalize (mkL Xi a.Headers (k)).2=q0 at b0 ⊢
  have b1 :=UM Z2 a.Body (q0)
  generalize (mkL X7 a.Body (q0)).2=q1 at b1 ⊢
  omega
def Xc8(a:Response)(k:Int)(h:ZR a):(X2 a k).2<=k+(3145728:Nat) :=by
  simp only[X2]
  have b0 :=XjS (c :=2) (XbI) a.Headers (k) h.2.1
  generalize (mkL Xi a.Headers (k)).2=q0 at b0 ⊢
  have b1 :=XjS (c :=1) (XjU) a.Body (q0) h.2.2
  generalize (mkL X7 a.Body (q0)).2=q1 at b1 ⊢
  omega
def YP(a:Event)(k:Int):Event×Int :=
  let p0 :=Yh a.Request (k)
  let p1 :=X2 a.Response (p0.2)
  (⟨a.Kind,a.Id,a.Draw,p0.1,p1.1,a.Text,a.Hard⟩,p1.2)
def YM(a:Event)(k:Int):YP a k=(let p0 :=Yh a.Request (k); let p1 :=X2 a.Response (p0.2); (⟨a.Kind,a.Id,a.Draw,p0.1,p1.1,a.Text,a.Hard⟩,p1.2)) :=nr rfl
def XaC(a:Event)(k:Int):k<=(YP a k).2 :=by
  simp only[YP]
  have b0 :=UG a.Request (k)
  generalize (Yh a.Request (k)).2=q0 at b0 ⊢
  have b1 :=Q3 a.Response (q0)
  generalize (X2 a.Response (q0)).2=q1 at b1 ⊢
  omega
def XgJ(a:Event)(k:Int)(h:Xev a):(YP a k).2<=k+(5242880:Nat) :=by
  simp only[YP]
  have b0 :=Xew a.Request (k) h.2.2.2.1
  generalize (Yh a.Request (k)).2=q0 at b0 ⊢
  have b1 :=Xc8 a.Response (q0) h.2.2.2.2.1
  generalize (X2 a.Response (q0)).2=q1 at b1 ⊢
  omega
def XY(a:Xy)(k:Int):Xy×Int :=
  let p0 :=YP a.Event (k)
  (⟨a.Code,p0.1⟩,p0.2)
def Yo(a:Xy)(k:Int):XY a k=(let p0 :=YP a.Event (k); (⟨a.Code,p0.1⟩,p0.2)) :=nr rfl
def Xbp(a:Xy)(k:Int):k<=(XY a k).2 :=by
  simp only[XY]
  have b0 :=XaC a.Event (k)
  generalize (YP a.Event (k)).2=q0 at b0 ⊢
  omega
def Xbq(a:Xy)(k:Int)(h:UF a):(XY a k).2<=k+(5242880:Nat) :=by
  simp only[XY]
  have b0 :=XgJ a.Event (k) h.2
  generalize (YP a.Event (k)).2=q0 at b0 ⊢
  omega
end Go.Vm
set_option autoImplicit false
set_option maxRecDepth 100000
set_option maxHeartbeats 4000000
namespace Go.Vm
end Go.Vm
