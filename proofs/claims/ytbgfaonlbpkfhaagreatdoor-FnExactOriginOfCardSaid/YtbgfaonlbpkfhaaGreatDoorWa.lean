/- Functions of the program, walked by the evaluator. -/
import Derived.Test.YtbgfaonlbpkfhaaGreatDoorVf
import Derived.Test.YtbgfaonlbpkfhaaGreatDoorVe
import Derived.Laws.Strings
import Derived.ChangeShapes
import Derived.ChangeArms
import Derived.Deep.Slices
import Derived.RowKit
import Derived.Below
import Derived.Lib.Bytealg
import Derived.Laws.Externs
import Derived.WalkKit
import Derived.Lib.SlTrimSet
import Derived.Lib.LaidTab
import Derived.Lib.ItoaNum
import Derived.Lib.AppendIntMem
set_option linter.unusedVariables false
set_option linter.unusedSimpArgs false
set_option autoImplicit false
set_option linter.defProp false
namespace Go.Vm
def XiG{cx:Cx}{n:Nat}:XgC {cx with rounds :=n}=XgC cx :=by
  funext ts xs as
  induction ts generalizing xs as with
  | nil => rfl
  | cons t ts ih => cases xs with
    | nil => rfl
    | cons x xs => cases as with
      | nil => rfl
      | cons a as => simp only[XgC,ih]; cases x<;>rfl
def Xfe{cx:Cx}{n:Nat}:YB {cx with rounds :=n}=YB cx :=by
  funext st ms ts xs
  induction ms generalizing st ts xs with
  | nil => rfl
  | cons m ms ih => cases ts with
    | nil => rfl
    | cons t ts => cases xs with
      | nil => rfl
      | cons x xs => simp only[YB,ih]; rfl
def XcK{cx:Cx}{n:Nat}(st:St)(o:Oper):Xv {cx with rounds :=n} st o=Xv cx st o :=by
  have h:∀d c,Zs {cx with rounds :=n} st d c=Zs cx st d c :=λd c => by
    have h2:∀f ts xs,Xb6 {cx with rounds :=n} st f ts xs=Xb6 cx st f ts xs :=λf ts xs => by
      have h3:∀st,XaU {cx with rounds :=n} st f ts xs=XaU cx st f ts xs :=λst => by simp only[XaU,XiG]
      have h4:∀st g fs k m,Xe7 {cx with rounds :=n} st g fs k m f ts xs=Xe7 cx st g fs k m f ts xs :=λst g fs k m => by simp only[Xe7,h3]; rfl
      have h5:∀st g fs,Xek {cx with rounds :=n} st g fs f ts xs=Xek cx st g fs f ts xs :=λst g fs => by simp only[Xek,h3,Xfe]
      have h6:∀st g fs,Xel {cx with rounds :=n} st g fs f ts xs=Xel cx st g fs f ts xs :=λst g fs => by simp only[Xel,h4,h5]
      simp only[Xb6,h3,Xem,h6]
    simp only[Zs,h2]
  simp only[Xv,h]
  rfl
def Xa9{cx:Cx}{n:Nat}(ops:List Oper)(st:St)(o:Oper):UD {cx with rounds :=n} ops st o=UD cx ops st o :=by simp only[UD,XcK]
def Xb9{cx:Cx}{n:Nat}{ops:List Oper}:∀(l:List Oper) (cs:List (Option (List Nat))) (st:St),Yo {cx with rounds :=n} ops cs st l=Yo cx ops cs st l
  | [],_,_ => rfl
  | o :: l,cs,st => by
    simp only[Yo,XcK,Xb9 l]
def QQ{cx:Cx}{id n:Nat}{ops:List Oper}:∀(p:Xe2) (st:St),Zl {cx with rounds :=n} id ops p st=Zl cx id ops p st
  | .done,_ => rfl
  | .take i p,st => by
    simp only[Zl,Xa9,QQ p]
  | .one i p,st => by
    have h2:∀o,Xbx {cx with rounds :=n} o=Xbx cx o :=λ_ => rfl
    have h3:∀s o,XaF {cx with rounds :=n} s o=XaF cx s o :=λ_ _ => rfl
    simp only[Zl,Xa9,h2,h3,QQ p]
  | .alt i p q,st => by
    have h2:∀o,Xbx {cx with rounds :=n} o=Xbx cx o :=λ_ => rfl
    have h3:∀s o,XaF {cx with rounds :=n} s o=XaF cx s o :=λ_ _ => rfl
    simp only[Zl,Xa9,h2,h3,QQ p,QQ q]
def Xhy{f g:St->Option (Ex×St)}(h:∀s r,f s=some r->g s=some r):∀(n m:Nat) (s:St) (r:Ex×St),n<=m->Xoh f n s=some r->Xoh g m s=some r
  | 0,_,_,_,_,hr => by cases hr
  | n+1,0,_,_,hm,_ => by omega
  | n+1,m+1,s,r,hm,hr => by
    simp only[Xoh] at hr ⊢
    cases hf:f s with
    | none => rw[hf] at hr; cases hr
    | some p =>
      obtain⟨e,s'⟩ :=p
      rw[hf] at hr
      rw[h s _ hf]
      cases e with
      | nor => exact Xhy h n m s' r (by omega) hr
      | _ => exact hr
def XeM{cx:Cx}{n m:Nat}(hnm:n<=m):∀(c:Code) (blk:Nat) (st:St) (r:Ex×St),Xz {cx with rounds :=n} blk c st=some r->Xz {cx with rounds :=m} blk c st=some r :=by
  intro c
  induction c with
  | region id ops draw =>
    intro blk st r h
    simp only[Xz,Xb9,QQ] at h ⊢
    exact h
  | seq a b iha ihb =>
    intro blk st r h
    simp only[Xz] at h ⊢
    cases ha:Xz {cx with rounds :=n} blk a st with
    | none => rw[ha] at h; cases h
    | some p =>
      obtain⟨e,s⟩ :=p
      rw[ha] at h
      rw[iha blk st _ ha]
      cases e with
      | nor => exact ihb blk s r h
      | _ => exact h
  | cond c a b iha ihb =>
    intro blk st r h
    simp only[Xz] at h ⊢
    split at h
    · exact iha blk st r h
    · exact ihb blk st r h
    · cases h
  | block id c ih =>
    intro blk st r h
    simp only[Xz] at h ⊢
    cases hc:Xz {cx with rounds :=n} id c st with
    | none => rw[hc] at h; cases h
    | some p => rw[hc] at h; rw[ih id st _ hc]; exact h
  | loop c ih =>
    intro blk st r h
    simp only[Xz] at h ⊢
    exact Xhy (λs r hs => ih blk _ r hs) n m st r hnm h
  | _ => intro blk st r h; exact h
def XnX{cx:Cx}{n m:Nat}(hnm:n<=m):∀(c:Code) (K K':St->Option (Ex×St)) (_:∀s r,K s=some r->K' s=some r) (st:St) (r:Ex×St),evN {cx with rounds :=n} c K st=some r->evN {cx with rounds :=m} c K' st=some r :=by
  have other:∀(c:Code) (K K':St->Option (Ex×St)) (_:∀s r,K s=some r->K' s=some r) (st:St) (r:Ex×St),Xfq (Xz {cx with rounds :=n} 0 c st) K=some r->Xfq (Xz {cx with rounds :=m} 0 c st) K'=some r :=by
    intro c K K' hK st r h
    cases hc:Xz {cx with rounds :=n} 0 c st with
    | none => rw[hc] at h; cases h
    | some p =>
      rw[hc] at h
      rw[XeM hnm c 0 st _ hc]
      obtain⟨e,s⟩ :=p
      cases e with
      | nor => exact hK s r h
      | _ => exact h
  intro c
  induction c with
  | skip => intro K K' hK st r h; exact hK st r h
  | seq a b iha ihb => intro K K' hK st r h; exact iha _ _ (λs r hs => ihb K K' hK s r hs) st r h
  | cond c a b iha ihb =>
    intro K K' hK st r h
    simp only[evN] at h ⊢
    split at h
    · exact iha K K' hK st r h
    · exact ihb K K' hK st r h
    · unfold Xh3 at h ⊢
      split at h
      · rename_i he
        have h1 :=iha K K' hK st r h
        have h2 :=ihb K K' hK st r (he▸h)
        rw[if_pos (h1.trans h2.symm)]
        exact h1
      · cases h
    · cases h
  | _ => intro K K' hK st r h; exact other _ K K' hK st r h
def XeN{cx:Cx}{md:List Md}{f:Func}{as:List AV}{r:AV×List AV}{n m:Nat}(hnm:n<=m)(h:XaH {cx with rounds :=n} md f as=some r):XaH {cx with rounds :=m} md f as=some r :=by
  unfold XaH at h ⊢
  cases hb:f.body with
  | none => rw[hb] at h; cases h
  | some c =>
    rw[hb] at h
    simp only at h ⊢
    have hB:∀r,evB {cx with rounds :=n} c (Xbq md as)=some r->evB {cx with rounds :=m} c (Xbq md as)=some r :=by
      intro r hr
      unfold evB at hr ⊢
      by_cases hz:cx.nz=true
      · rw[if_pos (show({cx with rounds :=n}:Cx).nz=true from hz)] at hr
        rw[if_pos (show({cx with rounds :=m}:Cx).nz=true from hz)]
        exact XnX hnm c _ _ (λ_ _ h => h) _ r hr
      · rw[if_neg (show ¬({cx with rounds :=n}:Cx).nz=true from hz)] at hr
        rw[if_neg (show ¬({cx with rounds :=m}:Cx).nz=true from hz)]
        exact XeM hnm c 0 _ r hr
    cases hc:evB {cx with rounds :=n} c (Xbq md as) with
    | none => rw[hc] at h; cases h
    | some p =>
      rw[hc] at h
      rw[hB _ hc]
      have hres:∀(l:List ResultVar) (st:St),XdN {cx with rounds :=n} st l=XdN {cx with rounds :=m} st l :=by
        intro l
        induction l with
        | nil => intro st; rfl
        | cons x l ih => intro st; cases x<;>simp only[XdN,ih]
      have hfin:∀st,UE {cx with rounds :=n} md f.results.toList st=UE {cx with rounds :=m} md f.results.toList st :=λst => by simp only[UE,XuM,hres]
      obtain⟨e,s⟩ :=p
      cases e<;>simp only[hfin] at h ⊢<;>exact h
def YE(wk:Bool)(r:AV)(os:List AV):Bool :=wk||(!XI r&&os.all λo => !XI o)
noncomputable def FR(cx:Cx)(md:List Md)(wk:Bool)(f:Func)(as:List AV):Option (AV×List AV) :=
  open Classical in if h : ∃ (r : AV × List AV) (n : Nat), XaH { cx with rounds := n } md f as = some r /\ YE wk r.1 r.2 = true then some h.choose else none
def Xt2{cx:Cx}{md:List Md}{wk:Bool}{f:Func}{as:List AV}{r:AV×List AV}{n:Nat}(h:XaH {cx with rounds :=n} md f as=some r)(hr:YE wk r.1 r.2=true):FR cx md wk f as=some r :=by
  have hx:∃(r:AV×List AV) (n:Nat),XaH {cx with rounds :=n} md f as=some r/\YE wk r.1 r.2=true :=⟨r,n,h,hr⟩
  unfold FR
  rw[dif_pos hx]
  obtain⟨m,h1,h2⟩ :=hx.choose_spec
  have a1 :=XeN (Nat.le_max_left n m) h
  have a2 :=XeN (Nat.le_max_right n m) h1
  exact a2.symm.trans a1
def Xoy{cx:Cx}{md:List Md}{wk:Bool}{f:Func}{as:List AV}{r:AV×List AV}(h:FR cx md wk f as=some r):∃n,XaH {cx with rounds :=n} md f as=some r/\YE wk r.1 r.2=true :=by
  unfold FR at h
  split at h
  · rename_i hx
    obtain⟨m,h1,h2⟩ :=hx.choose_spec
    injection h with h
    rw[<-h]
    exact⟨m,h1,h2⟩
  · cases h
structure SP (P:Program) [HasTb P] where
  g:Nat
  fs:FS
  ok:Ux P g fs
def SP.F{P:Program}[HasTb P](s:SP P):List AV->Option (AV×List AV) :=s.fs.F
def XnY{P:Program}[HasTb P]:List (SP P)->Nat->Option FS
  | [],_ => none
  | s :: l,g => if g=s.g then some s.fs else XnY l g
@[go_sem] def XuT{P:Program}[HasTb P](g:Nat):XnY ([]:List (SP P)) g=none :=nr rfl
@[go_sem] def Xt3{P:Program}[HasTb P](s:SP P)(l:List (SP P))(g:Nat):XnY (s :: l) g=if g=s.g then some s.fs else XnY l g :=nr rfl
def Xl1{P:Program}[HasTb P]:∀(l:List (SP P)) (g:Nat) (fs:FS),XnY l g=some fs->Ux P g fs
  | [],g,fs,h => by cases h
  | s :: l,g,fs,h => by
    simp only[XnY] at h
    split at h
    · rename_i hg
      injection h with h
      subst h hg
      exact s.ok
    · exact Xl1 l g fs h
def asc{α:Type}:List (Nat×α)->Nat->Option α
  | [],_ => none
  | (k,a) :: l,n => if n=k then some a else asc l n
@[go_sem] def XvH{α:Type}(n:Nat):asc ([]:List (Nat×α)) n=none :=nr rfl
@[go_sem] def XuU{α:Type}(k:Nat)(a:α)(l:List (Nat×α))(n:Nat):asc ((k,a) :: l) n=if n=k then some a else asc l n :=nr rfl
def Xqj{α:Type}:List (Nat×List α)->Nat->List α
  | [],_ => []
  | (k,a) :: l,n => if n=k then a else Xqj l n
@[go_sem] def XuV{α:Type}(n:Nat):Xqj ([]:List (Nat×List α)) n=[] :=nr rfl
@[go_sem] def Xt4{α:Type}(k:Nat)(a:List α)(l:List (Nat×List α))(n:Nat):Xqj ((k,a) :: l) n=if n=k then a else Xqj l n :=nr rfl
abbrev LV :=List (Nat×List Nat×List Nat)
structure FD where
  md:List Md
  wk:Bool :=false
  rg:LV :=[]
  lv:LV :=[]
  out:LV :=[]
  rets:Option (List Nat×List Nat) :=none
  al:List Nat :=[]
  plan:List (Nat×Xe2) :=[]
  fz:List Nat :=[]
  nz:Bool :=false
  ws:List (Nat×List (Bool×Nat×Nat)) :=[]
structure Xqk (P:Program) where
  T:TypeId->Option TI
  Q:TypeId->Option (List Nat)
  ok:∀cx:Cx,cx.T=T->cx.eqs=Q->Xg0 P cx
  wide:P.follows .mixedOrders=true
def Xrz{P:Program}[HasTb P](ty:Xqk P)(tab:List (SP P))(d:FD)(n:Nat):Cx :=
  {T :=ty.T,fns :=XnY tab,cuts :=λ_ => [],rg :=asc d.rg,live :=asc d.lv,out :=asc d.out,rets :=d.rets,al :=d.al,plan :=asc d.plan,fz :=d.fz,eqs :=ty.Q,rounds :=n,nz :=d.nz,ws :=Xqj d.ws}
def XvI(md:List Md)(j:Nat):Bool :=match md[j]? with
  | some m => !Qh m
  | none => false
def ckS{P:Program}[HasTb P](ty:Xqk P)(tab:List (SP P))(d:FD)(f:Func):Bool :=match f.body with
  | some c => (!(f.name == "runtime.NumGoroutine")) && ZF (Xrz ty tab d 0) (XvI d.md) f.ntmps c && decide (d.md.length <= f.ntmps) && XtL d.md
  | none => false
def Xt5{P:Program}[HasTb P](ty:Xqk P)(g:Nat)(f:Func)(tab:List (SP P))(d:FD)(hf:P.funcs[g]?=some f)(hk:ckS ty tab d f=true):Ux P g ⟨d.md,FR (Xrz ty tab d 0) d.md d.wk f,d.wk⟩ :=by
  unfold ckS at hk
  cases hb:f.body with
  | none => rw[hb] at hk; cases hk
  | some c =>
    rw[hb] at hk
    simp only[Bool.and_eq_true,Bool.not_eq_true',decide_eq_true_eq] at hk
    obtain⟨⟨⟨h1,h2⟩,h3⟩,h4⟩ :=hk
    refine Xpj (cx :=Xrz ty tab d 0) (c :=c) ty.wide (ty.ok _ rfl rfl) (Xl1 tab) hf h1 hb (XvI d.md) (λj m hj hm => ?_) h2 h3 h4 (λas r os h _ _ => ?_) (λhw as r os h => ?_)
    · simp only[XvI,hj,hm,Bool.not_false]
    · obtain⟨n,h5,_⟩ :=Xoy h
      exact⟨n,h5⟩
    · obtain⟨n,_,h6⟩ :=Xoy h
      have hw':d.wk=false :=hw
      simp only[YE,hw',Bool.false_or,Bool.and_eq_true,Bool.not_eq_true',List.all_eq_true] at h6
      exact⟨h6.1,λo ho => by simpa using h6.2 o ho⟩
noncomputable def mkS{P:Program}[HasTb P](ty:Xqk P)(g:Nat)(f:Func)(tab:List (SP P))(d:FD)(hf:P.funcs[g]?=some f)(hk:ckS ty tab d f=true):SP P :=⟨g,⟨d.md,FR (Xrz ty tab d 0) d.md d.wk f,d.wk⟩,Xt5 ty g f tab d hf hk⟩
def Xb{P:Program}[HasTb P]{ty:Xqk P}{f:Func}{tab:List (SP P)}{d:FD}{as:List AV}{r:AV}{os:List AV}{c:Code}{rv:List ResultVar}(n:Nat)(hb:f.body=some c)(hr:f.results=rv.toArray)
    (h:∀cx:Cx,(cx.T=ty.T/\cx.fns=XnY tab/\cx.rg=asc d.rg/\cx.live=asc d.lv/\cx.out=asc d.out/\cx.rets=d.rets/\cx.al=d.al/\cx.plan=asc d.plan/\cx.fz=d.fz/\cx.eqs=ty.Q/\cx.rounds=n/\cx.ws=Xqj d.ws/\∀k,cx.cuts k=[])->Xml cx d.md rv (Xz cx 0 c (Xbq d.md as))=some (r,os)) (hw:YE d.wk r os=true) (hz:d.nz=false :=by rfl):FR (Xrz ty tab d 0) d.md d.wk f as=some (r,os) :=by
  refine Xt2 (n :=n) ?_ hw
  rw[XlB _ _ f _ c rv hb hr hz]
  exact h _ ⟨rfl,rfl,rfl,rfl,rfl,rfl,rfl,rfl,rfl,rfl,rfl,rfl,λ_ => rfl⟩
def Xl2{P:Program}[HasTb P]{ty:Xqk P}{f:Func}{tab:List (SP P)}{d:FD}{as:List AV}{r:AV}{os:List AV}{c:Code}{rv:List ResultVar}(n:Nat)(hb:f.body=some c)(hr:f.results=rv.toArray)
    (h:∀cx:Cx,(cx.T=ty.T/\cx.fns=XnY tab/\cx.rg=asc d.rg/\cx.live=asc d.lv/\cx.out=asc d.out/\cx.rets=d.rets/\cx.al=d.al/\cx.plan=asc d.plan/\cx.fz=d.fz/\cx.eqs=ty.Q/\cx.rounds=n/\cx.ws=Xqj d.ws/\∀k,cx.cuts k=[])->Xml cx d.md rv (evN cx c (λs => some (.nor,s)) (Xbq d.md as))=some (r,os)) (hw:YE d.wk r os=true) (hz:d.nz=true :=by rfl):FR (Xrz ty tab d 0) d.md d.wk f as=some (r,os) :=by
  refine Xt2 (n :=n) ?_ hw
  rw[XjW _ _ f _ c rv hb hr hz]
  exact h _ ⟨rfl,rfl,rfl,rfl,rfl,rfl,rfl,rfl,rfl,rfl,rfl,rfl,λ_ => rfl⟩
def XbE:Code->List Code
  | .loop c => c :: XbE c
  | .seq a b => XbE a++XbE b
  | .cond _ a b => XbE a++XbE b
  | .block _ c => XbE c
  | _ => []
def XN(f:Func)(i:Nat):Code :=match f.body with
  | some b => ((XbE b)[i]?).getD .skip
  | none => .skip
def Xg(f:Func)(i:Nat)(b c:Code)(hb:f.body=some b)(hl:(XbE b)[i]?=some c):XN f i=c :=by simp only[XN,hb,hl,Option.getD_some]
def Xgl{σ:Type}{cx:Cx}{blk:Nat}{body:Code}(S:σ->St)(I:σ->Prop)(μ:σ->Nat)(Q:σ->Option (Ex×St)->Prop)
    (h:∀s,I s->(∀G,Q s (Xb8 (Xz cx blk body (S s)) G))\/∃st' s',keep (cx.live blk) st'=S s'/\I s'/\μ s'<μ s/\(∀r,Q s' r->Q s r)/\∀G,Xb8 (Xz cx blk body (S s)) G=G st') :
    ∀(N:Nat) (s:σ),I s->μ s<N->∀st,keep (cx.live blk) st=S s->Q s (QF cx blk body N st) :=by
  intro N
  induction N with
  | zero => intro s hI hN; omega
  | succ N ih =>
    intro s hI hN st hst
    rw[Zj,hst]
    rcases h s hI with h1 | ⟨st',s',h1,h2,h3,h4,h5⟩
    · exact h1 _
    · rw[h5]
      exact h4 _ (ih s' h2 (by omega) st' h1)
def Xac{α σ:Type}(c:α->σ->Bool)(g:α->σ->σ):List α->σ->σ⊕(α×σ)
  | [],s => .inl s
  | x :: xs,s => if c x s=true then .inr (x,s) else Xac c g xs (g x s)
def Yp{α σ:Type}(c:α->σ->Bool)(g:α->σ->σ)(x:α)(xs:List α)(s:σ):Xac c g (x :: xs) s=if c x s=true then .inr (x,s) else Xac c g xs (g x s) :=rfl
def Xhz{α σ:Type}(g:α->σ->σ):∀(xs:List α) (s:σ),Xac (λ_ _ => false) g xs s=.inl (xs.foldl (λs x => g x s) s)
  | [],s => rfl
  | x :: xs,s => by simp only[Xac,Bool.false_eq_true,if_false,List.foldl_cons]; exact Xhz g xs _
def YH{α σ:Type}{cx:Cx}{blk:Nat}{body:Code}(xs:List α)(S:Nat->σ->St)(X:σ->St)(c:α->σ->Bool)(g:α->σ->σ)(R:α->σ->Ex×St)(I:Nat->σ->Prop)
    (hend:∀s,I xs.length s->∀G,Xb8 (Xz cx blk body (S xs.length s)) G=some (.ex blk,X s))
    (hstep:∀k (hk:k<xs.length) s,I k s->(c xs[k] s=true/\∀G,Xb8 (Xz cx blk body (S k s)) G=some (R xs[k] s))\/(c xs[k] s=false/\I (k+1) (g xs[k] s)/\∃st',(∀G,Xb8 (Xz cx blk body (S k s)) G=G st')/\keep (cx.live blk) st'=S (k+1) (g xs[k] s)))
    (s:σ) (hI:I 0 s) (N:Nat) (hN:xs.length+1<=N) :
    ∃r,(∀st,keep (cx.live blk) st=S 0 s->QF cx blk body N st=r)/\((∃s',Xac c g xs s=.inl s'/\I xs.length s'/\r=some (.ex blk,X s'))\/∃x s',Xac c g xs s=.inr (x,s')/\r=some (R x s')) :=by
  obtain⟨M,rfl⟩:∃M,N=M+1 :=⟨N-1,by omega⟩
  have key:∀(k:Nat) (s:σ) (M:Nat),k<=xs.length->I k s->xs.length-k<=M->(∃s',Xac c g (xs.drop k) s=.inl s'/\I xs.length s'/\Xb8 (Xz cx blk body (S k s)) (λs => QF cx blk body M s)=some (.ex blk,X s'))\/∃x s',Xac c g (xs.drop k) s=.inr (x,s')/\Xb8 (Xz cx blk body (S k s)) (λs => QF cx blk body M s)=some (R x s') :=by
    intro k s M
    induction M generalizing k s with
    | zero =>
      intro hk hI hM
      obtain rfl:k=xs.length :=by omega
      exact .inl ⟨s,by rw[List.drop_length]; rfl,hI,hend s hI _⟩
    | succ M ih =>
      intro hk hI hM
      by_cases he:k=xs.length
      · subst he
        exact .inl ⟨s,by rw[List.drop_length]; rfl,hI,hend s hI _⟩
      · have hlt:k<xs.length :=by omega
        rcases hstep k hlt s hI with⟨h1,h2⟩ | ⟨h1,h2,st',h4,h3⟩
        · exact .inr ⟨xs[k],s,by rw[List.drop_eq_getElem_cons hlt,Yp,if_pos h1],h2 _⟩
        · rw[h4,Zj,h3,List.drop_eq_getElem_cons hlt,Yp,if_neg (by simp[h1])]
          exact ih (k+1) _ (by omega) h2 (by omega)
  exact⟨_,λst hst => by rw[Zj,hst],key 0 s M (Nat.zero_le _) hI (by omega)⟩
def X0{α σ:Type}{cx:Cx}{blk:Nat}{body:Code}(xs:List α)(S:Nat->σ->St)(X:σ->St)(g:α->σ->σ)(I:Nat->σ->Prop)
    (hend:∀s,I xs.length s->∀G,Xb8 (Xz cx blk body (S xs.length s)) G=some (.ex blk,X s))
    (hstep:∀k (hk:k<xs.length) s,I k s->I (k+1) (g xs[k] s)/\∃st',(∀G,Xb8 (Xz cx blk body (S k s)) G=G st')/\keep (cx.live blk) st'=S (k+1) (g xs[k] s))
    (s:σ) (hI:I 0 s) (N:Nat) (hN:xs.length+1<=N) :
    I xs.length (xs.foldl (λs x => g x s) s)/\∀st,keep (cx.live blk) st=S 0 s->QF cx blk body N st=some (.ex blk,X (xs.foldl (λs x => g x s) s)) :=by
  obtain⟨r,h1,h⟩ :=YH (cx :=cx) (blk :=blk) (body :=body) xs S X (λ_ _ => false) g (λ_ s => (.ret,X s)) I hend (λk hk s hI => .inr ⟨rfl,hstep k hk s hI⟩) s hI N hN
  rw[Xhz] at h
  rcases h with⟨s',h2,h3,h4⟩ | ⟨x,s',h2,h3⟩
  · injection h2 with h2
    subst h2
    exact⟨h3,λst hst => by rw[h1 st hst,h4]⟩
  · cases h2
def Xq{α σ:Type}{cx:Cx}{blk:Nat}{body:Code}(xs:List α)(S:Nat->σ->St)(X:σ->St)(c:α->σ->Bool)(g:α->σ->σ)(R:α->σ->Ex×St)(I:Nat->σ->Prop)
    (hend:∀s,I xs.length s->∀G,Xb8 (Xz cx blk body (S xs.length s)) G=some (.ex blk,X s))
    (hstep:∀k (hk:k<xs.length) s,I k s->∃(C:Prop) (_:Decidable C) (st':St),(∀G,Xb8 (Xz cx blk body (S k s)) G=if C then some (R xs[k] s) else G st')/\(C↔c xs[k] s=true)/\(c xs[k] s=false->I (k+1) (g xs[k] s)/\keep (cx.live blk) st'=S (k+1) (g xs[k] s)))
    (s:σ) (hI:I 0 s) (N:Nat) (hN:xs.length+1<=N) :
    ∃r,(∀st,keep (cx.live blk) st=S 0 s->QF cx blk body N st=r)/\((∃s',Xac c g xs s=.inl s'/\I xs.length s'/\r=some (.ex blk,X s'))\/∃x s',Xac c g xs s=.inr (x,s')/\r=some (R x s')) :=by
  refine YH xs S X c g R I hend (λk hk s hI => ?_) s hI N hN
  obtain⟨C,_,st',h1,h2,h3⟩ :=hstep k hk s hI
  cases hc:c xs[k] s with
  | true => exact .inl ⟨rfl,λG => (h1 G).trans (if_pos (h2.2 hc))⟩
  | false =>
    obtain⟨h4,h5⟩ :=h3 hc
    exact .inr ⟨rfl,h4,st',λG => (h1 G).trans (if_neg (λhC => by rw[h2.1 hC] at hc; cases hc)),h5⟩
def runS_any{α:Type}{p:α->Bool}:∀{xs:List α} {u u':Unit},Xac (λx _ => p x) (λ_ _ => ()) xs u=.inl u'->xs.any p=false
  | [],_,_,_ => rfl
  | x :: xs,u,u',h => by
    rw[Yp] at h
    split at h
    · cases h
    · rename_i hc
      rw[List.any_cons,runS_any h]
      simpa using hc
def XbX{α:Type}{p:α->Bool}:∀{xs:List α} {u:Unit} {q:α×Unit},Xac (λx _ => p x) (λ_ _ => ()) xs u=.inr q->xs.any p=true/\p q.1=true/\xs.find? p=some q.1
  | [],_,_,h => by cases h
  | x :: xs,u,q,h => by
    rw[Yp] at h
    split at h
    · rename_i hc
      injection h with h
      subst h
      exact⟨by simp[hc],hc,by simp[hc]⟩
    · rename_i hc
      obtain⟨h1,h2,h3⟩ :=XbX h
      exact⟨by simp[h1],h2,by simp[hc,h3]⟩
def U6{α:Type}(p:α->Bool):List α->Nat->Int
  | [],_ => -1
  | x :: xs,k => if p x=true then(k:Int) else U6 p xs (k+1)
def ZJ{α:Type}{p:α->Bool}:∀{xs:List α} {k k':Nat},Xac (λx _ => p x) (λ_ k => k+1) xs k=.inl k'->U6 p xs k =-1
  | [],_,_,_ => rfl
  | x :: xs,k,k',h => by
    rw[Yp] at h
    split at h
    · cases h
    · rename_i hc
      rw[U6,if_neg hc,ZJ h]
def Zc{α:Type}{p:α->Bool}:∀{xs:List α} {k:Nat} {q:α×Nat},Xac (λx _ => p x) (λ_ k => k+1) xs k=.inr q->U6 p xs k=(q.2:Int)
  | [],_,_,h => by cases h
  | x :: xs,k,q,h => by
    rw[Yp] at h
    split at h
    · rename_i hc
      injection h with h
      subst h
      rw[U6,if_pos hc]
    · rename_i hc
      rw[U6,if_neg hc,Zc h]
def QR{α:Type}{p:α->Bool}:∀(xs:List α) (k:Nat),decide (0<=U6 p xs k)=xs.any p
  | [],_ => by simp[U6]
  | x :: xs,k => by
    rw[U6,List.any_cons]
    cases hc:p x with
    | true => simp
    | false => simpa using QR xs (k+1)
end Go.Vm
set_option autoImplicit false
namespace Go.Vm
@[go_sem] def XIA:((0:Nat):Int)=0 :=nr rfl
@[go_sem] def XIB:((1:Nat):Int)=1 :=nr rfl
def map_gdA{α:Type}(f:α->AV)(xs:List α)(k:Nat)(h:k<xs.length):(xs.map f).getD k .u=f xs[k] :=by simp[List.getD,h]
@[go_sem] def XrA:Xjx .nilFunc=.u :=nr rfl
def Xo{k:Int}(h0:-9223372036854775808<=k)(h:k<=9223372036854775807):(IntKind.i64).wrap k=k :=by
  simp[IntKind.wrap,IntKind.bits,IntKind.signed]
  omega
def Xd{k:Nat}(h:k<9223372036854775807):(IntKind.i64).wrap ((k:Int)+1)=((k+1:Nat):Int) :=by
  rw[Xo (by omega) (by omega)]; rfl
def Xh(n k:Nat)(h:k<n):Qj n (k:Int)=some k :=by
  simp only[Qj]
  rw[if_pos ⟨by omega,by omega⟩]; rfl
def Xi{α:Type}(f:α->List AV)(xs:List α)(k:Nat)(h:k<xs.length):(xs.map f).getD k []=f xs[k] :=by simp[List.getD,h]
def XdC{α:Type}(f:α->List AV)(xs:List α)(k:Nat)(h:k<xs.length):(xs.map f)[k]?=some (f xs[k]) :=by simp[h]
@[go_sem] def Xt6{α:Type}(f:α->List AV)(xs:List α):(xs.map f).take xs.length=xs.map f :=by
  have :=List.take_length (l :=xs.map f)
  rwa [List.length_map] at this
noncomputable def eqv{α:Type}(a b:α):Bool :=open Classical in decide (a=b)
def Yx{α:Type}{a b:α}:eqv a b=true↔a=b :=by simp[eqv]
def QS{α:Type}(a:α):eqv a a=true :=by simp[eqv]
def Z0{α:Type}{p:Bool}{a b:α}(h:p=true↔a=b):p=eqv a b :=by
  cases p with
  | true => exact(Yx.2 (h.1 rfl)).symm
  | false =>
    cases he:eqv a b with
    | false => rfl
    | true => exact absurd (h.2 (Yx.1 he)) (by simp)
def Xql(a b:Int):(a==b)=eqv a b :=Z0 (by simp)
def Zd(a b:Int):(a !=b)=!eqv a b :=by rw[bne,Xql]
def Xd3(a b:Bool):(a==b)=eqv a b :=Z0 (by simp)
def Xji(a b:UInt8):((a.toNat:Int) !=(b.toNat:Int))=!eqv a b :=by
  rw[bne,Z0 (p :=((a.toNat:Int)==(b.toNat:Int))) (a :=a) (b :=b)]
  simp only[beq_iff_eq,Int.ofNat_inj]
  exact UInt8.toNat_inj
def ba_ext{a b:ByteArray}(h:a.toList=b.toList):a=b :=by
  rw[ByteArray.toList_eq,ByteArray.toList_eq] at h
  cases a; cases b
  simp only[ByteArray.mk.injEq] at h ⊢
  exact Array.ext' h
def XH(a b:ByteArray):(a.toList==b.toList)=eqv a b :=Z0 (by
  constructor
  · intro h; exact ba_ext (by simpa using h)
  · rintro rfl; simp)
def XfL:∀xs:List UInt8,Xeo (xs.map λb => [.i .u8 b.toNat])=some xs
  | [] => rfl
  | x :: xs => by
    simp only[List.map_cons,Xeo,XfL xs,Int.toNat_natCast,UInt8.ofNat_toNat]
@[go_sem] def XuW(o:Oper)(a b:List Oper):XaW (List.append (o :: a) b) 0=some o :=nr rfl
@[go_sem] def XuX(o:Oper)(a b:List Oper)(n:Nat):XaW (List.append (o :: a) b) (n+1)=XaW (List.append a b) n :=nr rfl
@[go_sem] def XuY(b:List Oper)(n:Nat):XaW (List.append [] b) n=XaW b n :=nr rfl
@[go_sem] def XuZ(o:Oper)(a b:List Oper):XaG (List.append (o :: a) b) 0=o.dst :=nr rfl
@[go_sem] def Xu0(o:Oper)(a b:List Oper)(n:Nat):XaG (List.append (o :: a) b) (n+1)=XaG (List.append a b) n :=nr rfl
@[go_sem] def Xu1(b:List Oper)(n:Nat):XaG (List.append [] b) n=XaG b n :=nr rfl
@[go_sem] def XrB(cx:Cx)(ops:List Oper)(cs:List (Option (List Nat)))(st:St)(o:Oper)(a b:List Oper):Yo cx ops cs st (List.append (o :: a) b)=Yo cx ops cs st (o :: List.append a b) :=nr rfl
@[go_sem] def XrC(cx:Cx)(ops:List Oper)(cs:List (Option (List Nat)))(st:St)(b:List Oper):Yo cx ops cs st (List.append [] b)=Yo cx ops cs st b :=nr rfl
def XhA{α:Type}(p:α->Prop)(xs:List α):Prop :=∀x∈xs,p x
@[go_sem] def XvJ{α β γ:Type}(f:β->γ)(g:α->β)(xs:List α):List.take xs.length ((xs.map g).map f)=(xs.map g).map f :=List.take_of_length_le (by simp)
end Go.Vm
set_option autoImplicit false
namespace Go.Vm
open Go.ChangeShapes Go.WideShapes
inductive Sh
  | b | i (k:IntKind) | s | sl (r:List Sh)
def Xu2(g:TypeId->Option (List Sh))(P:Program):List Field->Nat->Option (List Sh)
  | [],_ => some []
  | f :: r,off => match g f.type with
    | some q => if f.offset=off/\P.cellsOf f.type=q.length then(match Xu2 g P r (off+q.length) with
      | some l => some (q++l)
      | none => none) else none
    | none => none
def Xoz(P:Program):Nat->TypeId->Option (List Sh)
  | 0,_ => none
  | n+1,t => match P.underlying t with
    | some .bool => some [.b]
    | some (.int k) => some [.i k]
    | some .string => some [.s]
    | some (.slice e) => match Xoz P n e with
      | some (x :: r) => if P.cellsOf e=(x :: r).length then some [.sl (x :: r)] else none
      | _ => none
    | some (.struct fs) => match Xu2 (Xoz P n) P fs.toList 0 with
      | some l => if P.cellsOf t=l.length then some l else none
      | none => none
    | _ => none
inductive Xgm:Sh->AV->Prop
  | b {x:Bool}:Xgm .b (.b x)
  | i {k:IntKind} {n:Int} (h:(Lit.int k n).wf=true):Xgm (.i k) (.i k n)
  | s {x:ByteArray} (h:x.size<=maxLen):Xgm .s (.s x)
  | sl {r:List Sh} {es:List (List AV)} (hl:es.length<=maxLen) (hz:∀row∈es,row.length=r.length) (h:∀row∈es,∀(j:Nat) (sh:Sh) (a:AV),r[j]?=some sh->row[j]?=some a->Xgm sh a):Xgm (.sl r) (.sl .ro r.length es)
def Xba(r:List Sh)(row:List AV):Prop :=row.length=r.length/\∀(j:Nat) (sh:Sh) (a:AV),r[j]?=some sh->row[j]?=some a->Xgm sh a
def Xl3(w:World):CS :=λg k => ∃v,XY w g k=some v
def Xqm{w:World}{g k:Nat}(h:Xl3 w g k):g<w.heap.size :=by
  obtain⟨v,hv⟩ :=h
  exact World.block_lt_of_cell? w ⟨g,k,none⟩ hv
def XcL(w:World)(shs:List Sh)(cs:List Value)(as:List AV):Prop :=cs.length=shs.length/\Xba shs as/\∀(j:Nat) (v:Value) (a:AV),cs[j]?=some v->as[j]?=some a->Rep w (Xl3 w) v a nos
def XcL.one{w:World}{sh:Sh}{v:Value}{a:AV}(h:Xgm sh a)(hr:Rep w (Xl3 w) v a nos):XcL w [sh] [v] [a] :=by
  refine⟨rfl,⟨rfl,λj q b hs hb => ?_⟩,λj u b hu hb => ?_⟩
  · rcases j with _ | j
    · simp only[List.getElem?_cons_zero,Option.some.injEq] at hs hb; subst hs hb; exact h
    · simp at hs
  · rcases j with _ | j
    · simp only[List.getElem?_cons_zero,Option.some.injEq] at hu hb; subst hu hb; exact hr
    · simp at hu
def XdD{α:Type}{l r:List α}{j:Nat}{x:α}(h:(l++r)[j]?=some x):l[j]?=some x\/(l.length<=j/\r[j-l.length]?=some x) :=by
  by_cases hj:j<l.length
  · rw[List.getElem?_append_left hj] at h; exact .inl h
  · rw[List.getElem?_append_right (by omega)] at h; exact .inr ⟨by omega,h⟩
def XcL.app{w:World}{s1 s2:List Sh}{c1 c2:List Value}{a1 a2:List AV}(h1:XcL w s1 c1 a1)(h2:XcL w s2 c2 a2):XcL w (s1++s2) (c1++c2) (a1++a2) :=by
  obtain⟨l1,⟨m1,p1⟩,q1⟩ :=h1
  obtain⟨l2,⟨m2,p2⟩,q2⟩ :=h2
  refine⟨by simp[l1,l2],⟨by simp[m1,m2],λj q a hs ha => ?_⟩,λj v a hv ha => ?_⟩
  · rcases XdD hs with hs | ⟨h0,hs⟩
    · have hlt :=(List.getElem?_eq_some_iff.1 hs).1
      rw[List.getElem?_append_left (by omega)] at ha
      exact p1 j q a hs ha
    · rw[List.getElem?_append_right (by omega),m1] at ha
      exact p2 _ q a hs ha
  · rcases XdD hv with hv | ⟨h0,hv⟩
    · have hlt :=(List.getElem?_eq_some_iff.1 hv).1
      rw[List.getElem?_append_left (by omega)] at ha
      exact q1 j v a hv ha
    · rw[List.getElem?_append_right (by omega),m1,<-l1] at ha
      exact q2 _ v a hv ha
def Xt7{a:Addr}(h:a.spot=none)(n:Nat):a.add n=⟨a.block,a.off+n,none⟩ :=by
  unfold Addr.add
  split
  · rename_i h0; subst h0; cases a; simp only at h; subst h; rfl
  · cases a; rfl
section
variable {H : Type} {enc : TypeId × Value -> H} {P : Program} {w : World}
def XfM(n:Nat):∀{fuel:Nat} {t:TypeId} {cs:List Value} {x:DataW H×List MemPlace} {shs:List Sh},DataW.trod enc P w 0 (λ_ => true) true fuel t cs=some x->Xoz P n t=some shs->∃as,XcL w shs cs as :=by
  induction n with
  | zero => intro fuel t cs x shs _ h; cases h
  | succ n ih =>
    intro fuel t cs x shs ht hs
    unfold Xoz at hs
    split at hs
    · rename_i hu
      injection hs with hs; subst hs
      obtain⟨b,rfl,_⟩ :=DataW.trod_bool hu ht
      exact⟨_,XcL.one .b .b⟩
    · rename_i k hu
      injection hs with hs; subst hs
      obtain⟨m,rfl,_,hwf⟩ :=DataW.trod_int hu ht
      exact⟨_,XcL.one (.i hwf) .i⟩
    · rename_i hu
      injection hs with hs; subst hs
      obtain⟨s,rfl,_,hsz⟩ :=DataW.trod_string hu ht
      exact⟨_,XcL.one (.s hsz) .s⟩
    · rename_i e hu
      split at hs
      · rename_i x0 r hr
        split at hs
        · rename_i hce
          injection hs with hs; subst hs
          rcases Go.Deep.open_slice hu ht with⟨rfl,_⟩ | ⟨a,len,cap,m,n',D,Pl,rfl,_,hl,hm,hmm,_,hi⟩
          · refine⟨_,XcL.one (.sl (es :=[]) (Nat.zero_le _) (λ_ h => by cases h) (λ_ h => by cases h)) ?_⟩
            exact .sl 0 0 (λ_ _ => undef) (λ_ _ => nos) rfl (Nat.le_refl _) (by simp) (λh => absurd h (by omega)) (λi row hi => by simp at hi) (λi row j a hi => by simp at hi) (λi row j a hi => by simp at hi)
              ⟨(λe => by cases e),(λe => by cases e),(λe => absurd rfl e),λ_ k hk => absurd hk (by simp)⟩ (λ_ _ => XP _) (λ_ _ _ _ _ => Xs _) (λe => by cases e) (λ_ _ _ => rfl)
          · simp only[if_true] at hmm
            subst hmm
            generalize hzz:(x0 :: r).length=z at hce
            have hz0:0<z :=by rw[<-hzz]; simp
            rw[hce] at hi
            have hsp:0<m->a.spot=none :=by
              intro h0
              obtain⟨cs',h1,_⟩ :=hi 0 h0
              obtain⟨_,h3,h4⟩ :=World.cells?_some h1
              have :=h4 0 hz0
              rw[List.getElem?_eq_getElem (by omega),Nat.zero_mul] at this
              unfold World.cell? at this
              simp only[Addr.add,if_true] at this
              split at this
              · cases hs:a.spot with
                | none => rfl
                | some q => rw[hs] at this; simp at this
              · cases this
            have hrow:∀i,i<len->∃p:List Value×List AV,(∀j,j<z->XY w a.block (a.off+(i*z+j))=p.1[j]?)/\XcL w (x0 :: r) p.1 p.2 :=by
              intro i hil
              obtain⟨cs',h1,h2⟩ :=hi i (by omega)
              obtain⟨as,h3⟩ :=ih h2 hr
              obtain⟨_,_,h6⟩ :=World.cells?_some h1
              refine⟨(cs',as),λj hj => ?_,h3⟩
              have :=h6 j hj
              rw[Go.Deep.add_add,Xt7 (hsp (by omega))] at this
              exact this
            obtain⟨f,hf⟩ :=Go.Deep.choose_lt hrow
            let es:List (List AV) :=(List.range len).map λi => (f i).2
            have hes:∀(i:Nat) (row:List AV),es[i]?=some row->i<len/\row=(f i).2 :=by
              intro i row h
              have hlt:i<len :=Decidable.byContradiction λhn => by
                rw[List.getElem?_eq_none (by simp only[es,List.length_map,List.length_range]; omega)] at h
                cases h
              simp only[es,List.getElem?_map,List.getElem?_range hlt,Option.map_some,Option.some.injEq] at h
              exact⟨hlt,h.symm⟩
            have hmem:∀row∈es,∃i,i<len/\row=(f i).2 :=by
              intro row h
              obtain⟨i,h⟩ :=List.getElem?_of_mem h
              exact⟨i,hes i row h⟩
            have hcell:∀i j,i<len->j<z->XY w a.block (a.off+(i*z+j))=some ((f i).1.getD j undef) :=by
              intro i j h1 h2
              obtain⟨q1,q2,_⟩ :=hf i h1
              rw[q1 j h2,List.getD_eq_getElem?_getD,List.getElem?_eq_getElem (by rw[q2,hzz]; exact h2)]
              rfl
            refine⟨_,XcL.one (.sl (es :=es) (by simp only[es,List.length_map,List.length_range]; omega) (λrow h => ?_) (λrow h => ?_)) ?_⟩
            · obtain⟨i,h1,rfl⟩ :=hmem row h
              exact(hf i h1).2.2.1.1
            · obtain⟨i,h1,rfl⟩ :=hmem row h
              exact(hf i h1).2.2.1.2
            · rw[hzz]
              have hM:maxLen=9223372036854775807 :=rfl
              refine .sl a.block a.off (λi j => (f i).1.getD j undef) (λ_ _ => nos) (by simp[es]) hl (by omega) (λh0 => ?_) (λi row h => ?_) (λi row j b h hj => ?_) (λi row j b h hj => ?_)
                ⟨(λe => by cases e),(λe => by cases e),(λe => absurd rfl e),λ_ k hk => ?_⟩ (λ_ _ => XP _) (λ_ _ _ _ _ => Xs _) (λe => by cases e) (λ_ _ _ => rfl)
              · have :=hsp h0
                cases a; simp only at this; subst this; rfl
              · obtain⟨h1,rfl⟩ :=hes i row h
                rw[<-hzz]; exact(hf i h1).2.2.1.1
              · obtain⟨h1,rfl⟩ :=hes i row h
                have hlt :=(List.getElem?_eq_some_iff.1 hj).1
                rw[(hf i h1).2.2.1.1,hzz] at hlt
                exact hcell i j h1 hlt
              · obtain⟨h1,rfl⟩ :=hes i row h
                have hlt :=(List.getElem?_eq_some_iff.1 hj).1
                obtain⟨_,q2,q3,q4⟩ :=hf i h1
                rw[q3.1] at hlt
                refine q4 j _ b ?_ hj
                rw[List.getD_eq_getElem?_getD,List.getElem?_eq_getElem (by rw[q2]; exact hlt)]
                rfl
              · have h1:k / z<len :=by rw[Nat.div_lt_iff_lt_mul hz0]; exact hk
                have h2:k%z<z :=Nat.mod_lt _ hz0
                have :=hcell (k / z) (k%z) h1 h2
                rw[Nat.mul_comm,Nat.div_add_mod] at this
                exact⟨_,this⟩
        · cases hs
      · cases hs
    · rename_i fs hu
      obtain⟨xs,n',rfl,_,hlen,hxl,hi⟩ :=DataW.trod_struct hu ht
      split at hs
      · rename_i l hl
        split at hs
        · rename_i hcl
          injection hs with hs; subst hs
          have key:∀(fl:List Field) (off:Nat) (l:List Sh),Xu2 (Xoz P n) P fl off=some l->(∀f∈fl,∃y,DataW.trod enc P w 0 (λ_ => true) true n' f.type ((cs.drop f.offset).take (P.cellsOf f.type))=some y)->∃as,XcL w l ((cs.drop off).take l.length) as :=by
            intro fl
            induction fl with
            | nil =>
              intro off l h _
              injection h with h; subst h
              exact⟨[],by simp,⟨rfl,λj q a h => by simp at h⟩,λj v a h => by simp at h⟩
            | cons f fl ihf =>
              intro off l h hy
              unfold Xu2 at h
              split at h
              · rename_i s hfs
                split at h
                · rename_i hc
                  obtain⟨rfl,hc2⟩ :=hc
                  split at h
                  · rename_i l' hl'
                    injection h with h; subst h
                    obtain⟨y,hyy⟩ :=hy f (by simp)
                    obtain⟨a1,h1⟩ :=ih hyy hfs
                    obtain⟨a2,h2⟩ :=ihf _ _ hl' (λg hg => hy g (by simp[hg]))
                    refine⟨a1++a2,?_⟩
                    have e:(cs.drop f.offset).take (s++l').length=(cs.drop f.offset).take (P.cellsOf f.type)++(cs.drop (f.offset+s.length)).take l'.length :=by
                      rw[List.length_append,List.take_add,List.drop_drop,hc2]
                    rw[e]
                    exact h1.app h2
                  · cases h
                · cases h
              · cases h
          obtain⟨as,h⟩ :=key fs.toList 0 l hl (λf hf => by
            obtain⟨i,hi'⟩ :=List.getElem?_of_mem hf
            have hi2:fs[i]?=some f :=by simpa using hi'
            have :=hi i f hi2
            have hlt:i<fs.size :=(Array.getElem?_eq_some_iff.1 hi2).1
            rw[List.getElem?_eq_getElem (by omega)] at this
            exact⟨_,this⟩)
          rw[List.drop_zero,List.take_of_length_le (by omega)] at h
          exact⟨as,h⟩
        · cases hs
      · cases hs
    · cases hs
end
def Xba.cons{sh:Sh}{r:List Sh}{row:List AV}(h:Xba (sh :: r) row):∃a row',row=a :: row'/\Xgm sh a/\Xba r row' :=by
  obtain⟨h1,h2⟩ :=h
  cases row with
  | nil => simp at h1
  | cons a row => exact⟨a,row,rfl,h2 0 sh a rfl rfl,by simpa using h1,λj q b hs hb => h2 (j+1) q b (by simpa using hs) (by simpa using hb)⟩
def Xba.nil{row:List AV}(h:Xba [] row):row=[] :=List.length_eq_zero_iff.1 h.1
def Xgm.bool{a:AV}(h:Xgm .b a):∃x:Bool,a=.b x/\True :=by cases h; exact⟨_,rfl,trivial⟩
def Xgm.int{a:AV}(h:Xgm (.i .i64) a):∃x:Int,a=.i .i64 x/\(-9223372036854775808<=x/\x<=9223372036854775807) :=by
  cases h with
  | i h =>
    refine⟨_,rfl,?_⟩
    simp only[Lit.wf,Bool.and_eq_true,decide_eq_true_eq,IntKind.min,IntKind.max,IntKind.signed,IntKind.bits] at h
    simpa using h
def Xgm.byte{a:AV}(h:Xgm (.i .u8) a):∃x:UInt8,a=.i .u8 x.toNat/\True :=by
  cases h with
  | @i _ n h =>
    simp only[Lit.wf,Bool.and_eq_true,IntKind.min,IntKind.max,IntKind.signed,IntKind.bits] at h
    have h1:0<=n :=by simpa using h.1
    have h2:n<=255 :=by simpa using h.2
    refine⟨UInt8.ofNat n.toNat,?_,trivial⟩
    congr 1
    have:(UInt8.ofNat n.toNat).toNat=n.toNat%256 :=UInt8.toNat_ofNat'
    omega
def Xgm.str{a:AV}(h:Xgm .s a):∃x:ByteArray,a=.s x/\x.size<=9223372036854775807 :=by cases h with | s h => exact⟨_,rfl,h⟩
def Xgm.list{α:Type}{r:List Sh}{f:α->List AV}{ok:α->Prop}(hf:∀row,Xba r row->∃x,row=f x/\ok x){a:AV}(h:Xgm (.sl r) a):∃xs:List α,a=.sl .ro r.length (xs.map f)/\(xs.length<=9223372036854775807/\∀x∈xs,ok x) :=by
  cases h with
  | @sl _ es hl hz h =>
    have key:∀es:List (List AV),(∀row∈es,Xba r row)->∃xs:List α,es=xs.map f/\∀x∈xs,ok x :=by
      intro es
      induction es with
      | nil => intro _; exact⟨[],rfl,λ_ h => by cases h⟩
      | cons row es ih =>
        intro hr
        obtain⟨x,rfl,hx⟩ :=hf row (hr row (by simp))
        obtain⟨xs,rfl,hxs⟩ :=ih (λq hq => hr q (by simp[hq]))
        exact⟨x :: xs,rfl,λy hy => (List.mem_cons.1 hy).elim (λe => e▸hx) (hxs y)⟩
    obtain⟨xs,rfl,hxs⟩ :=key es (λrow hr => ⟨hz row hr,h row hr⟩)
    have hM:maxLen=9223372036854775807 :=rfl
    exact⟨xs,rfl,by simp only[List.length_map] at hl; omega,hxs⟩
def XnZ(row:List AV)(h:Xba [.i .u8] row):∃x:UInt8,row=[.i .u8 x.toNat]/\True :=by
  obtain⟨a,_,rfl,h0,h⟩ :=h.cons; obtain rfl :=h.nil; obtain⟨x,rfl,_⟩ :=h0.byte; exact⟨x,rfl,trivial⟩
def Xl4(row:List AV)(h:Xba [.s] row):∃x:ByteArray,row=[.s x]/\x.size<=9223372036854775807 :=by
  obtain⟨a,_,rfl,h0,h⟩ :=h.cons; obtain rfl :=h.nil; obtain⟨x,rfl,h1⟩ :=h0.str; exact⟨x,rfl,h1⟩
section
variable {H : Type} {enc : TypeId × Value -> H} {P : Program} {w : World}
def Xl5{r:Reach}{base:Nat}{t:TypeId}{v:Value}{d:DataW H}{p:List MemPlace}(n:Nat){u:TypeDesc}(hu:P.underlying t=some u)(hn:∀fs,u≠.struct fs){sh:Sh}(hs:Xoz P n t=some [sh])(hval:Value.okWide P w r base t v)(hd:DataW.Trod enc P w 0 (λ_ => true) true t v d p) :
    ∃a,Xgm sh a/\Cl w (Xl3 w) v a nos :=by
  obtain⟨fuel,hf⟩ :=hd
  obtain⟨as,h1⟩ :=XfM n hf hs
  have hc:v.cells.toList=[v] :=by
    cases n with
    | zero => cases hs
    | succ n =>
      unfold Xoz at hs
      rw[hu] at hs
      cases u with
      | bool => obtain⟨b,rfl⟩ :=okWide_bool hu hval; rfl
      | int k => obtain⟨b,rfl⟩ :=okWide_int hu hval; rfl
      | string => obtain⟨b,rfl⟩ :=okWide_string hu hval; rfl
      | slice e => obtain⟨a,b,c,rfl⟩ :=okWide_slice hu hval; rfl
      | struct fs => exact absurd rfl (hn fs)
      | _ => cases hs
  rw[hc] at h1
  obtain⟨_,⟨h2,h3⟩,h4⟩ :=h1
  match as,h2 with
  | [a],_ => exact⟨a,h3 0 sh a rfl rfl,.leaf (.rep (h4 0 v a rfl rfl))⟩
def Xgn{r:Reach}{base:Nat}{t:TypeId}{v:Value}{d:DataW H}{p:List MemPlace}(n:Nat){fs:Array Field}(hu:P.underlying t=some (.struct fs)){shs:List Sh}(hs:Xoz P n t=some shs)(hval:Value.okWide P w r base t v)(hd:DataW.Trod enc P w 0 (λ_ => true) true t v d p) :
    ∃as,Xba shs as/\Cl w (Xl3 w) v (.agg as) nos :=by
  obtain⟨fuel,hf⟩ :=hd
  obtain⟨as,h1⟩ :=XfM n hf hs
  simp only[Value.okWide,hu] at hval
  obtain⟨cs,rfl,_,_⟩ :=hval
  obtain⟨h0,h2,h3⟩ :=h1
  have h0':cs.toList.length=shs.length :=h0
  refine⟨as,h2,?_⟩
  have:Cl w (Xl3 w) (.agg cs.toList.toArray) (.agg as) nos :=.agg cs.toList (λ_ => nos) (by rw[h0',h2.1]) (λj v a hv ha => .rep (h3 j v a hv ha)) (λ_ => XP _) (λ_ _ _ => Xs _)
  rwa [Array.toArray_toList] at this
end
def Xn0{w w':World}(h:Vm.Frame w w' nos):Go.RowKit.Below w.heap.size w w' :=by
  refine⟨h.os,h.tape,h.output,h.size,λk hk => ?_⟩
  rcases h.block k hk with h1 | ⟨c,c',e,fr,h1,h2,h3,h4⟩
  · exact h1
  · rw[h1,h2]
    congr 2
    apply Array.ext_getElem?
    intro i
    exact h4 i (λh => h)
def Xn1{P:Program}[HasTb P]{g:FuncId}{f:Func}{c:Code}{md:List Md}{F:List AV->Option (AV×List AV)}{wk:Bool}{W:World}{vs:List Value}{xs os:List AV}(hsp:Ux P g ⟨md,F,wk⟩)(hro:md.all Qh=true)(hF:F xs=some (.b true,os))(hl1:vs.length=md.length)(hl2:xs.length=md.length)
    (hargs : ∀ (j : Nat) (v : Value) (a : AV), vs[j]? = some v -> xs[j]? = some a -> Cl W (Xl3 W) v a nos) (hf : P.funcs[g]? = some f) (hname : ¬ f.name = "runtime.NumGoroutine") (hb : f.body = some c) (hT : Tb P (Xl3 W) W) :
    Calls P g vs.toArray W λe w' => e=.returned (.bool true)/\Go.RowKit.Below W.heap.size W w' :=by
  have h :=hsp W (Xl3 W) vs xs (λ_ => nos) (.b true) os hF hl1 hl2 (λj m v a hm hv ha => by
    have :=List.all_eq_true.1 hro m (List.mem_of_getElem? hm)
    cases m with
    | ro n => exact hargs j v a hv ha
    | _ => cases this) (λ_ _ _ => Xs _) (λ_ => Xs _) (λ_ _ _ h => h.elim) (λ_ _ h => Xqm h) hT
  rcases h with⟨v,w',h1,_⟩ | ⟨_,h2⟩
  · exfalso
    have:(callFunc g vs.toArray).run P W=.ok (.enter g vs.toArray) W :=by simp[callFunc,hf,hname,hb]
    rw[this] at h1
    cases h1
  · intro cs
    obtain⟨e,w',fr,k1,k2⟩ :=h2 cs
    refine⟨e,w',fr,?_,k2⟩
    cases e with
    | returned v =>
      obtain⟨Im',S,Of,b,_⟩ :=k1
      have hv:v=.bool true :=by
        have :=b.res
        cases this with
        | leaf h => cases h with
          | rep h => cases h; rfl
      exact⟨by rw[hv],Xn0 (b.frame.mono (λg k ⟨j,hb⟩ => hb))⟩
    | panicked => exact k1.elim
    | outgrown => exact k1.elim
def Xjj{P:Program}[HasTb P]{s:SP P}{f:Func}{c:Code}{W:World}{vs:List Value}{xs os:List AV}(hF:s.F xs=some (.b true,os))(hro:s.fs.md.all Qh=true)(hl1:vs.length=s.fs.md.length)(hl2:xs.length=s.fs.md.length)
    (hargs : ∀ (j : Nat) (v : Value) (a : AV), vs[j]? = some v -> xs[j]? = some a -> Cl W (Xl3 W) v a nos) (hf : P.funcs[s.g]? = some f) (hname : ¬ f.name = "runtime.NumGoroutine") (hb : f.body = some c) (hT : Tb P (Xl3 W) W) :
    Calls P s.g vs.toArray W λe w' => e=.returned (.bool true)/\Go.RowKit.Below W.heap.size W w' :=Xn1 (md :=s.fs.md) (F :=s.fs.F) (wk :=s.fs.wk) s.ok hro hF hl1 hl2 hargs hf hname hb hT
end Go.Vm
set_option autoImplicit false
namespace Go.Vm
def mkL{α:Type}(f:α->Int->α×Int):List α->Int->List α×Int
  | [],k => ([],k)
  | x :: xs,k => ((f x k).1 :: (mkL f xs (f x k).2).1,(mkL f xs (f x k).2).2)
def Y0{α:Type}{f:α->Int->α×Int}(hf:∀x k,k+1<=(f x k).2):∀(xs:List α) (k:Int),k<=(mkL f xs k).2
  | [],k => Int.le_refl k
  | x :: xs,k => by
    have h1 :=hf x k
    have h2 :=Y0 hf xs (f x k).2
    simp only[mkL]; omega
def Xaj{α:Type}{f:α->Int->α×Int}{p:α->Prop}{c:Nat}(hf:∀x k,p x->(f x k).2<=k+c)(xs:List α)(k:Int)(h:xs.length<=1048576/\∀x∈xs,p x):(mkL f xs k).2<=k+(c*1048576:Nat) :=by
  have key:∀(xs:List α) (k:Int),(∀x∈xs,p x)->(mkL f xs k).2<=k+(c*xs.length:Nat) :=by
    intro xs
    induction xs with
    | nil => intro k _; simp[mkL]
    | cons x xs ih =>
      intro k h
      have h1 :=hf x k (h x (by simp))
      have h2 :=ih (f x k).2 (λy hy => h y (by simp[hy]))
      simp only[mkL,List.length_cons]
      rw[Nat.mul_succ]
      omega
  have h1 :=key xs k h.2
  have h2:c*xs.length<=c*1048576 :=Nat.mul_le_mul_left c h.1
  omega
def YW{α:Type}{f:α->Int->α×Int}:∀(xs:List α) (k:Int),(mkL f xs k).1.length=xs.length
  | [],k => rfl
  | x :: xs,k => by simp only[mkL,List.length_cons,YW xs]
def Xd4{α:Type}{f:α->Int->α×Int}:∀(xs:List α) (k:Int) (y:α),mkL f (xs++[y]) k=((mkL f xs k).1++[(f y (mkL f xs k).2).1],(f y (mkL f xs k).2).2)
  | [],k,y => rfl
  | x :: xs,k,y => by simp only[List.cons_append,mkL,Xd4 xs,List.cons_append]
def XiH{α:Type}{f:α->Int->α×Int}:∀(xs ys:List α) (k:Int),mkL f (xs++ys) k=((mkL f xs k).1++(mkL f ys (mkL f xs k).2).1,(mkL f ys (mkL f xs k).2).2)
  | [],ys,k => rfl
  | x :: xs,ys,k => by simp only[List.cons_append,mkL,XiH xs]
def Xd5{α:Type}(f:α->Int->α×Int)(xs:List α)(k:Int)(i:Nat):Int :=(mkL f (xs.take i) k).2
def UL{α:Type}(f:α->Int->α×Int)(xs:List α)(k:Int)(i:Nat):List α :=(mkL f (xs.take i) k).1++xs.drop i
def QT{α:Type}{f:α->Int->α×Int}(xs:List α)(k:Int):Xd5 f xs k xs.length=(mkL f xs k).2 :=by simp[Xd5]
def ZQ{α:Type}{f:α->Int->α×Int}(xs:List α)(k:Int)(i:Nat)(h:i<xs.length):Xd5 f xs k (i+1)=(f xs[i] (Xd5 f xs k i)).2 :=by
  simp only[Xd5]
  rw[List.take_succ_eq_append_getElem h,Xd4]
def U7{α:Type}{f:α->Int->α×Int}(hf:∀x k,k+1<=(f x k).2)(xs:List α)(k:Int)(i:Nat):k<=Xd5 f xs k i :=Y0 hf _ _
def U8{α:Type}{f:α->Int->α×Int}(hf:∀x k,k+1<=(f x k).2)(xs:List α)(k:Int)(i:Nat)(h:i<xs.length):(f xs[i] (Xd5 f xs k i)).2<=(mkL f xs k).2 :=by
  rw[<-ZQ xs k i h]
  have :=XiH (f :=f) (xs.take (i+1)) (xs.drop (i+1)) k
  rw[List.take_append_drop] at this
  rw[this]
  exact Y0 hf _ _
def QU{α:Type}{f:α->Int->α×Int}(xs:List α)(k:Int):UL f xs k 0=xs :=rfl
def UM{α:Type}{f:α->Int->α×Int}(xs:List α)(k:Int):UL f xs k xs.length=(mkL f xs k).1 :=by simp[UL]
def Y2{α:Type}{f:α->Int->α×Int}(xs:List α)(k:Int)(i:Nat):(UL f xs k i).length=xs.length :=by simp[UL,YW]; omega
def QV{α:Type}{f:α->Int->α×Int}(g:α->List AV)(xs:List α)(k:Int)(i:Nat):((UL f xs k i).map g).take xs.length=(UL f xs k i).map g :=List.take_of_length_le (by rw[List.length_map,Y2]; exact Nat.le_refl _)
def UN{α:Type}{f:α->Int->α×Int}(g:α->List AV)(xs:List α)(k:Int):((mkL f xs k).1.map g).take xs.length=(mkL f xs k).1.map g :=List.take_of_length_le (by rw[List.length_map,YW]; exact Nat.le_refl _)
def Ua{α:Type}{f:α->Int->α×Int}(g:α->List AV)(xs:List α)(k:Int)(i:Nat)(h:i<xs.length):((UL f xs k i).map g)[i]?=some (g xs[i]) :=by
  simp only[UL,List.map_append]
  rw[List.getElem?_append_right (by simp[YW]; omega)]
  simp only[List.length_map,YW,List.length_take]
  rw[show i-min i xs.length=0 by omega,List.drop_eq_getElem_cons h]; rfl
def QW{α:Type}{f:α->Int->α×Int}(g:α->List AV)(xs:List α)(k:Int)(i:Nat)(h:i<xs.length):((UL f xs k i).map g).getD i []=g xs[i] :=by
  rw[List.getD_eq_getElem?_getD,Ua g xs k i h]; rfl
def UO{α:Type}{f:α->Int->α×Int}(g:α->List AV)(xs:List α)(k:Int)(i:Nat)(h:i<xs.length):((UL f xs k i).map g).set i (g (f xs[i] (Xd5 f xs k i)).1)=(UL f xs k (i+1)).map g :=by
  simp only[UL,Xd5,List.map_append]
  rw[List.set_append_right _ _ (by simp[YW]; omega)]
  simp only[List.length_map,YW,List.length_take]
  rw[show i-min i xs.length=0 by omega,List.drop_eq_getElem_cons h,List.take_succ_eq_append_getElem h,Xd4,List.map_cons,List.set_cons_zero,List.map_append]
  simp
def Xbb{α:Type}(l:List α)(i:Nat)(y:α)(h:i<l.length):(l.set i y)[i]?=some y :=by simp[h]
def UP(l:List (List AV))(i:Nat)(y:List AV)(h:i<l.length):(l.set i y).getD i []=y :=by simp[h]
@[go_sem] def Xu3{α:Type}(l:List α)(i:Nat)(y z:α):(l.set i y).set i z=l.set i z :=by simp
@[go_sem] def Xu4{α:Type}(l:List α)(i:Nat)(y:α):(l.set i y).length=l.length :=by simp
def Xqn{α:Type}{f:α->Int->α×Int}(xs:List α)(k:Int)(i:Nat)(h:i<xs.length):(mkL f xs k).1[i]'(by rw[YW]; exact h)=(f xs[i] (Xd5 f xs k i)).1 :=by
  have e :=XiH (f :=f) (xs.take (i+1)) (xs.drop (i+1)) k
  rw[List.take_append_drop] at e
  have e2:(mkL f xs k).1[i]?=some (f xs[i] (Xd5 f xs k i)).1 :=by
    rw[e,List.take_succ_eq_append_getElem h,Xd4]
    simp only[Xd5]
    rw[List.getElem?_append_left (by simp[YW]; omega),List.getElem?_append_right (by simp[YW]; omega)]
    simp only[YW,List.length_take]
    rw[show i-min i xs.length=0 by omega]; rfl
  rw[List.getElem?_eq_getElem (by rw[YW]; exact h)] at e2
  injection e2
def XoA{α:Type}{f:α->Int->α×Int}(g:α->List AV)(xs:List α)(k:Int)(i:Nat)(h:i<xs.length):((mkL f xs k).1.map g).getD i []=g (f xs[i] (Xd5 f xs k i)).1 :=by
  rw[Xi g _ i (by rw[YW]; exact h),Xqn xs k i h]
def mkB(k:Int):UInt8 :=UInt8.ofNat (k%256).toNat
def Xqo(k:Int):(IntKind.u8).wrap k=((mkB k).toNat:Int) :=by
  have h:(k%256).toNat<256 :=by omega
  simp only[mkB,UInt8.toNat_ofNat']
  simp[IntKind.wrap,IntKind.bits,IntKind.signed]
  omega
def ZG(_:UInt8)(k:Int):UInt8×Int :=(mkB k,k+1)
def XbF(x:UInt8)(k:Int):k+1<=(ZG x k).2 :=by simp only[ZG]; omega
def Uy{α:Type}{f:α->Int->α×Int}(hf:∀x k,k+1<=(f x k).2):∀(xs:List α) (k:Int),k+xs.length<=(mkL f xs k).2
  | [],k => by simp[mkL]
  | x :: xs,k => by
    have h1 :=hf x k
    have h2 :=Uy hf xs (f x k).2
    simp only[mkL,List.length_cons]; omega
def XhT:Nat->Int->ByteArray->ByteArray
  | 0,_,s => s
  | n+1,k,s => if k>0 then XhT n (k.tdiv 10) (ByteArray.mk #[UInt8.ofNat ((48+k.tmod 10)%256).toNat]++s) else s
def XbG(k:Int):ByteArray :=if k<=0 then⟨#[109,48]⟩ else⟨#[109]⟩++XhT k.toNat k ⟨#[]⟩
def Qv(_:ByteArray)(k:Int):ByteArray×Int :=(XbG k,k+1)
def Xbc(x:ByteArray)(k:Int):k+1<=(Qv x k).2 :=by simp only[Qv]; omega
def Xl6(x:UInt8)(k:Int)(_:True):(ZG x k).2<=k+(1:Nat) :=by simp[ZG]
def Xjk(x:ByteArray)(k:Int)(p:Prop)(_:p):(Qv x k).2<=k+(1:Nat) :=by simp[Qv]
def XhB:∀(n:Nat) (k:Int) (s:ByteArray),(XhT n k s).size<=s.size+n
  | 0,k,s => by simp[XhT]
  | n+1,k,s => by
    simp only[XhT]
    split
    · have :=XhB n (k.tdiv 10) (ByteArray.mk #[UInt8.ofNat ((48+k.tmod 10)%256).toNat]++s)
      rw[ByteArray.size_append] at this
      have e:(ByteArray.mk #[UInt8.ofNat ((48+k.tmod 10)%256).toNat]).size=1 :=rfl
      omega
    · omega
def XhC:∀(n m:Nat) (k:Int) (s:ByteArray),k.toNat<=n->k.toNat<=m->XhT n k s=XhT m k s
  | 0,0,_,_,_,_ => rfl
  | 0,m+1,k,s,h,_ => by simp only[XhT]; rw[if_neg (by omega)]
  | n+1,0,k,s,_,h => by simp only[XhT]; rw[if_neg (by omega)]
  | n+1,m+1,k,s,h1,h2 => by
    simp only[XhT]
    split
    · have:k.tdiv 10=k / 10 :=Int.tdiv_eq_ediv_of_nonneg (by omega)
      exact XhC n m _ _ (by omega) (by omega)
    · rfl
end Go.Vm
set_option autoImplicit false
namespace Go.Vm
def Xn2{P:Program}[HasTb P]{g:FuncId}{md:List Md}{F:List AV->Option (AV×List AV)}{wk:Bool}(hro:md.all Qh=true)
    (h:∀(w:World) (Im:CS) (vs:List Value) (as:List AV) (r:AV) (os:List AV),F as=some (r,os)->vs.length=md.length->as.length=md.length ->
      (∀(j:Nat) (v:Value) (a:AV),vs[j]?=some v->as[j]?=some a->Cl w Im v a nos)->Tb P Im w ->
      Xcd r=none/\(wk=false->XI r=false/\∀o∈os,XI o=false)/\Ans P g vs.toArray w λv w' => Frame w w' nos/\Cl w' Im v r nos):Ux P g ⟨md,F,wk⟩ :=by
  intro w Im vs as Sf r os hF hv ha harg hd hdI hin hI hT
  have hmd:∀(j:Nat) (m:Md),md[j]?=some m->Qh m=true :=λj m hm => List.all_eq_true.1 hro m (List.mem_of_getElem? hm)
  obtain⟨h1,h2,h3⟩ :=h w Im vs as r os hF hv ha (λj v a hj hj' => by
    have hlt:j<md.length :=by rw[<-hv]; exact(List.getElem?_eq_some_iff.1 hj).1
    have hm :=List.getElem?_eq_getElem hlt
    have :=harg j _ v a hm hj hj'
    have h0 :=hmd j _ hm
    generalize md[j]=m at this h0
    cases m with
    | ro n => exact this
    | _ => cases h0) hT
  refine h3.mono λv w' ⟨hfr,hc⟩ => ?_
  refine⟨Im,nos,λ_ => nos,⟨hfr.mono (XP _),Sub.rfl' _,λg k hx => .inl hx,λg k hx => Nat.lt_of_lt_of_le (hI g k hx) hfr.size,?_,λj m u o hm _ _ => ?_,λ_ _ _ => Xs _,λ_ => Xs _,Xs _,λ_ => Xs _,λ_ _ hx => hx.elim,λ_ _ _ hx => hx.elim,λ_ _ hx => hx.elim,λ_ _ _ hx => hx.elim⟩,h2⟩
  · unfold Xfa; rw[h1]; exact hc
  · have h0 :=hmd j m hm
    cases m with
    | ro n => trivial
    | _ => cases h0
def Xgo{P:Program}[HasTb P]{g:FuncId}{md:List Md}{F:List AV->Option (AV×List AV)}{wk:Bool}(hro:md.all Qh=true)
    (h:∀(w:World) (Im:CS) (vs:List Value) (as:List AV) (r:AV) (os:List AV),F as=some (r,os)->vs.length=md.length->as.length=md.length ->
      (∀(j:Nat) (v:Value) (a:AV),vs[j]?=some v->as[j]?=some a->Cl w Im v a nos) ->
      Xcd r=none/\(wk=false->XI r=false/\∀o∈os,XI o=false)/\Ans P g vs.toArray w λv w' => Frame w w' nos/\Cl w' Im v r nos):Ux P g ⟨md,F,wk⟩ :=
  Xn2 hro λw Im vs as r os hF hv ha harg _ => h w Im vs as r os hF hv ha harg
def Cl.str{w:World}{Im:CS}{v:Value}{x:ByteArray}{S:CS}(h:Cl w Im v (.s x) S):v=.string x :=by
  cases h with
  | leaf h => cases h with
    | rep h => cases h; rfl
def Cl.int{w:World}{Im:CS}{v:Value}{k:IntKind}{n:Int}{S:CS}(h:Cl w Im v (.i k n) S):v=.int k n :=by
  cases h with
  | leaf h => cases h with
    | rep h => cases h; rfl
def Cl.nil'{w:World}{Im:CS}{v:Value}{S:CS}(h:Cl w Im v .nil S):v=.slice none 0 0 :=by
  cases h with
  | leaf h => cases h with
    | rep h => cases h; rfl
def Xu5:List AV->Option (AV×List AV)
  | [.s s,.i .u8 c] => some (.i .i64 (Lib.indexByte s.data.toList c.toNat.toUInt8),[.u,.u])
  | _ => none
def Xt8 {P : Program} [HasTb P] {g : FuncId} {fn : Func} (hf : P.funcs[g]? = some fn) (hname : (fn.name == "runtime.NumGoroutine") = false) (hb : fn.body.isNone = true) (hn : Extern.findNext fn = none) (he : Extern.find fn = some Extern.BytealgIndexByte.indexByte) : Ux P g ⟨[.ro 1, .ro 1], Xu5, false⟩ := by
  refine Xgo rfl λw Im vs as r os hF hv ha harg => ?_
  match as,ha,hF with
  | [.s s,.i .u8 c],_,hF =>
    match vs,hv with
    | [v0,v1],_ =>
      injection hF with hF
      injection hF with h1 h2
      subst h1 h2
      refine⟨rfl,λ_ => ⟨rfl,λo ho => by rcases List.mem_cons.1 ho with rfl | ho; rfl; rcases List.mem_cons.1 ho with rfl | ho; rfl; cases ho⟩,?_⟩
      obtain rfl :=(harg 0 v0 _ rfl rfl).str
      obtain rfl :=(harg 1 v1 _ rfl rfl).int
      refine .inl ⟨.int .i64 (Lib.indexByte s.data.toList c.toNat.toUInt8),w,?_,Frame.refl _ _,.leaf (.rep .i)⟩
      rw[run_callFunc_extern hf hname hb hn he]
      rw[Lib.run_indexByteString]
      rfl
@[go_sem] def Xqp(s:ByteArray)(c:Int):Xu5 [.s s,.i .u8 c]=some (.i .i64 (Lib.indexByte s.data.toList c.toNat.toUInt8),[.u,.u]) :=nr rfl
def Xau {P : Program} {g : FuncId} {fn : Func} {c : Code} (hf : P.funcs[g]? = some fn) (hname : (fn.name == "runtime.NumGoroutine") = false) (hb : fn.body = some c) {args : Array Value} (w : World) : (callFunc g args).run P w = .ok (.enter g args) w := by
  have h1 : fn.name ≠ "runtime.NumGoroutine" := by simpa using hname
  simp[callFunc,hf,h1,hb,Sem.run]
@[go_sem] def XwE:((2:Nat):Int)=2 :=nr rfl
@[go_sem] def XwF:((3:Nat):Int)=3 :=nr rfl
@[go_sem] def XwG:((4:Nat):Int)=4 :=nr rfl
@[go_sem] def XwH:((5:Nat):Int)=5 :=nr rfl
@[go_sem] def XwI:((6:Nat):Int)=6 :=nr rfl
@[go_sem] def XwJ:((7:Nat):Int)=7 :=nr rfl
@[go_sem] def XwK:((8:Nat):Int)=8 :=nr rfl
@[go_sem] def XvK:Qj 1 0=some 0 :=nr rfl
@[go_sem] def XvL:Qj 2 0=some 0 :=nr rfl
@[go_sem] def XvM:Qj 2 1=some 1 :=nr rfl
@[go_sem] def XvN:Qj 3 0=some 0 :=nr rfl
@[go_sem] def XvO:Qj 3 1=some 1 :=nr rfl
@[go_sem] def XvP:Qj 3 2=some 2 :=nr rfl
@[go_sem] def XvQ:Qj 4 0=some 0 :=nr rfl
@[go_sem] def XvR:Qj 4 1=some 1 :=nr rfl
@[go_sem] def XvS:Qj 4 2=some 2 :=nr rfl
@[go_sem] def XvT:Qj 4 3=some 3 :=nr rfl
@[go_sem] def XvU:Qj 5 0=some 0 :=nr rfl
@[go_sem] def XvV:Qj 5 1=some 1 :=nr rfl
@[go_sem] def XvW:Qj 5 2=some 2 :=nr rfl
@[go_sem] def XvX:Qj 5 3=some 3 :=nr rfl
@[go_sem] def XvY:Qj 5 4=some 4 :=nr rfl
@[go_sem] def XvZ:Qj 6 0=some 0 :=nr rfl
@[go_sem] def Xv0:Qj 6 1=some 1 :=nr rfl
@[go_sem] def Xv1:Qj 6 2=some 2 :=nr rfl
@[go_sem] def Xv2:Qj 6 3=some 3 :=nr rfl
@[go_sem] def Xv3:Qj 6 4=some 4 :=nr rfl
@[go_sem] def Xv4:Qj 6 5=some 5 :=nr rfl
@[go_sem] def Xv5:Qj 7 0=some 0 :=nr rfl
@[go_sem] def Xv6:Qj 7 1=some 1 :=nr rfl
@[go_sem] def Xv7:Qj 7 2=some 2 :=nr rfl
@[go_sem] def Xv8:Qj 7 3=some 3 :=nr rfl
@[go_sem] def Xv9:Qj 7 4=some 4 :=nr rfl
@[go_sem] def Xwa:Qj 7 5=some 5 :=nr rfl
@[go_sem] def Xwb:Qj 7 6=some 6 :=nr rfl
@[go_sem] def Xwc:Qj 8 0=some 0 :=nr rfl
@[go_sem] def Xwd:Qj 8 1=some 1 :=nr rfl
@[go_sem] def Xwe:Qj 8 2=some 2 :=nr rfl
@[go_sem] def Xwf:Qj 8 3=some 3 :=nr rfl
@[go_sem] def Xwg:Qj 8 4=some 4 :=nr rfl
@[go_sem] def Xwh:Qj 8 5=some 5 :=nr rfl
@[go_sem] def Xwi:Qj 8 6=some 6 :=nr rfl
@[go_sem] def Xwj:Qj 8 7=some 7 :=nr rfl
def Q0:(IntKind.i64).wrap 1=1 :=rfl
def U9:(IntKind.i64).wrap 2=2 :=rfl
def XbH:(IntKind.i64).wrap 3=3 :=rfl
def XdE:(IntKind.i64).wrap 4=4 :=rfl
def XhD:(IntKind.i64).wrap 5=5 :=rfl
def Xl7:(IntKind.i64).wrap 6=6 :=rfl
def XoB:(IntKind.i64).wrap 7=7 :=rfl
def Xt9:(IntKind.i64).wrap 8=8 :=rfl
def Zr:List Int->Int
  | [] => 0
  | v :: r => if(v !=0)=true then v else Zr r
def UY:Zr []=0 :=rfl
def Xm(v:Int)(r:List Int):Zr (v :: r)=if(v !=0)=true then v else Zr r :=rfl
def Xgp(cx:Cx)(blk:Nat)(c:Code)(st:St):QF cx blk c 1 st=Xb8 (Xz cx blk c (keep (cx.live blk) st)) (λs => QF cx blk c 0 s) :=Zj cx blk c 0 st
def Xci(cx:Cx)(blk:Nat)(c:Code)(st:St):QF cx blk c 2 st=Xb8 (Xz cx blk c (keep (cx.live blk) st)) (λs => QF cx blk c 1 s) :=Zj cx blk c 1 st
def Xav(cx:Cx)(blk:Nat)(c:Code)(st:St):QF cx blk c 3 st=Xb8 (Xz cx blk c (keep (cx.live blk) st)) (λs => QF cx blk c 2 s) :=Zj cx blk c 2 st
def Uz(cx:Cx)(blk:Nat)(c:Code)(st:St):QF cx blk c 4 st=Xb8 (Xz cx blk c (keep (cx.live blk) st)) (λs => QF cx blk c 3 s) :=Zj cx blk c 3 st
def Qw(cx:Cx)(blk:Nat)(c:Code)(st:St):QF cx blk c 5 st=Xb8 (Xz cx blk c (keep (cx.live blk) st)) (λs => QF cx blk c 4 s) :=Zj cx blk c 4 st
def UA(cx:Cx)(blk:Nat)(c:Code)(st:St):QF cx blk c 6 st=Xb8 (Xz cx blk c (keep (cx.live blk) st)) (λs => QF cx blk c 5 s) :=Zj cx blk c 5 st
def Xcj(cx:Cx)(blk:Nat)(c:Code)(st:St):QF cx blk c 7 st=Xb8 (Xz cx blk c (keep (cx.live blk) st)) (λs => QF cx blk c 6 s) :=Zj cx blk c 6 st
def Xwk:List AV->Option (AV×List AV)
  | [.nil,.i .i64 0] => some (.nil,[.u,.u])
  | _ => none
@[go_sem] def Xu6:Xwk [.nil,.i .i64 0]=some (.nil,[.u,.u]) :=nr rfl
def XeO{w w':World}(h:Go.RowKit.Below w.heap.size w w'):Frame w w' nos :=let ⟨a,b,c,d,e⟩ :=h; ⟨a,b,c,d,λg hg => .inl (e g hg)⟩
def Xn3:List AV->Option (AV×List AV)
  | [.s x,.s c] => if c.data.toList=[32,9]/\x.size<=9223372036854775807 then some (.s ⟨(Lib.trimS x.data.toList [32,9]).toArray⟩,[.u,.u]) else none
  | _ => none
def Xqq {P : Program} [HasTb P] {g : FuncId} {fn : Func} {c : Code} (hf : P.funcs[g]? = some fn) (hname : (fn.name == "runtime.NumGoroutine") = false) (hb : fn.body = some c)
    (h:∀(s:ByteArray) (w:World),s.size<=9223372036854775807->Calls P g #[.string s,.string ⟨#[32,9]⟩] w λe w' => e=.returned (.string ⟨(Lib.trimS s.data.toList [32,9]).toArray⟩)/\Go.RowKit.Below w.heap.size w w'):Ux P g ⟨[.ro 1,.ro 1],Xn3,false⟩ :=by
  refine Xgo rfl λw Im vs as r os hF hv ha harg => ?_
  match as,ha,hF with
  | [.s x,.s c],_,hF =>
    match vs,hv with
    | [v0,v1],_ =>
      simp only[Xn3] at hF
      split at hF
      · rename_i hc
        injection hF with hF
        injection hF with h1 h2
        subst h1 h2
        refine⟨rfl,λ_ => ⟨rfl,λo ho => by rcases List.mem_cons.1 ho with rfl | ho; rfl; rcases List.mem_cons.1 ho with rfl | ho; rfl; cases ho⟩,?_⟩
        obtain rfl :=(harg 0 v0 _ rfl rfl).str
        obtain rfl :=(harg 1 v1 _ rfl rfl).str
        have hcs:c=⟨#[32,9]⟩ :=by
          cases c
          have :=hc.1
          congr 1
          exact Array.ext' this
        subst hcs
        refine .inr ⟨Xau hf hname hb w,λcs => ?_⟩
        obtain⟨e,w',fr,⟨k1,k2⟩,k3⟩ :=h x w hc.2 cs
        subst k1
        exact⟨.returned _,w',fr,(⟨XeO k2,.leaf (.rep .s)⟩:Frame w w' nos/\Cl w' Im (.string ⟨(Lib.trimS x.data.toList [32,9]).toArray⟩) (.s ⟨(Lib.trimS x.data.toList [32,9]).toArray⟩) nos),k3⟩
      · cases hF
end Go.Vm
set_option autoImplicit false
namespace Go.Vm
def Xl8{P:Program}[HasTb P]{g:FuncId}{md:List Md}{F:List AV->Option (AV×List AV)}{wk:Bool}(hro:md.all Qh=true)
    (h:∀(w:World) (Im:CS) (vs:List Value) (as:List AV) (r:AV) (os:List AV),F as=some (r,os)->vs.length=md.length->as.length=md.length ->
      (∀(j:Nat) (v:Value) (a:AV),vs[j]?=some v->as[j]?=some a->Cl w Im v a nos)->(∀g k,Im g k->g<w.heap.size) ->
      Xcd r=none/\(wk=false->XI r=false/\∀o∈os,XI o=false)/\Ans P g vs.toArray w λv w' => Frame w w' nos/\∃S:CS,Cl w' Im v r S/\∀g k,S g k->w.heap.size<=g/\g<w'.heap.size):Ux P g ⟨md,F,wk⟩ :=by
  intro w Im vs as Sf r os hF hv ha harg hd hdI hin hI hT
  have hmd:∀(j:Nat) (m:Md),md[j]?=some m->Qh m=true :=λj m hm => List.all_eq_true.1 hro m (List.mem_of_getElem? hm)
  obtain⟨h1,h2,h3⟩ :=h w Im vs as r os hF hv ha (λj v a hj hj' => by
    have hlt:j<md.length :=by rw[<-hv]; exact(List.getElem?_eq_some_iff.1 hj).1
    have hm :=List.getElem?_eq_getElem hlt
    have :=harg j _ v a hm hj hj'
    have h0 :=hmd j _ hm
    generalize md[j]=m at this h0
    cases m with
    | ro n => exact this
    | _ => cases h0) hI
  refine h3.mono λv w' ⟨hfr,S,hc,hS⟩ => ?_
  refine⟨Im,S,λ_ => nos,⟨hfr.mono (XP _),Sub.rfl' _,λg k hx => .inl hx,λg k hx => Nat.lt_of_lt_of_le (hI g k hx) hfr.size,?_,λj m u o hm _ _ => ?_,λ_ _ _ => Xs _,λ_ => YR _,λb k hs hx => ?_,λ_ => Xs _,λg k hs => (hS g k hs).2,λ_ _ _ hx => hx.elim,λg k hs => .inr (hS g k hs).1,λ_ _ _ hx => hx.elim⟩,h2⟩
  · unfold Xfa; rw[h1]; exact hc
  · have h0 :=hmd j m hm
    cases m with
    | ro n => trivial
    | _ => cases h0
  · have :=hI b k hx
    have :=(hS b k hs).1
    omega
@[go_sem] def Xqr(z:Nat)(es:List (List AV)):plain (.sl .mut z es)=false :=nr rfl
@[go_sem] def Xqs(z:Nat)(es:List (List AV)):plain (.sl .app z es)=false :=nr rfl
def XfN(z bytes:Nat):List AV->Option (AV×List AV)
  | [.nil,.i .i64 n] => if 0<=n/\n*bytes<=140737488355328/\n<=4611686018427387904 then some (.sl .mut z [],[.u,.u]) else none
  | _ => none
@[go_sem] def Xl9(z bytes:Nat)(n:Int):XfN z bytes [.nil,.i .i64 n]=if 0<=n/\n*bytes<=140737488355328/\n<=4611686018427387904 then some (.sl .mut z [],[.u,.u]) else none :=nr rfl
def Xn4 {P : Program} [HasTb P] {g : FuncId} {fn : Func} {c : Code} (hf : P.funcs[g]? = some fn) (hname : (fn.name == "runtime.NumGoroutine") = false) (hb : fn.body = some c) {e : TypeId} {i0 : TypeInfo} {zv : Value} (hz0 : i0.zero = some zv) {z bytes : Nat} (hz : zv.cells.size = z) (hbb : i0.bytes = bytes)
    (h0:∀w:World,Calls P g #[.slice none 0 0,.int .i64 0] w λe w' => e=.returned (.slice none 0 0)/\w'=w)
    (h:∀(n:Nat) (w:World),0<n->n*bytes<=140737488355328->n<=4611686018427387904->Calls P g #[.slice none 0 0,.int .i64 n] w λe' w' =>
      e'=.returned (.slice (some ⟨w.heap.size,0,none⟩) 0 (grownCap w n 0 e))/\w'=w.drew.alloc (.cells (#[]++Builtin.zeroCells zv.cells n++Builtin.zeroCells zv.cells (grownCap w n 0 e-n)) e)):Ux P g ⟨[.ro 1,.ro 1],XfN z bytes,false⟩ :=by
  refine Xl8 rfl λw Im vs as r os hF hv ha harg hI => ?_
  match as,ha,hF with
  | [.nil,.i .i64 n],_,hF =>
    match vs,hv with
    | [v0,v1],_ =>
      simp only[XfN] at hF
      split at hF
      · rename_i hc
        injection hF with hF
        injection hF with h1 h2
        subst h1 h2
        refine⟨rfl,λ_ => ⟨by simp[XI,Yt],λo ho => by rcases List.mem_cons.1 ho with rfl | ho; rfl; rcases List.mem_cons.1 ho with rfl | ho; rfl; cases ho⟩,?_⟩
        obtain rfl :=(harg 0 v0 _ rfl rfl).nil'
        obtain rfl :=(harg 1 v1 _ rfl rfl).int
        refine .inr ⟨Xau hf hname hb w,λcs => ?_⟩
        obtain⟨m,rfl⟩:∃m:Nat,n=(m:Int) :=⟨n.toNat,by omega⟩
        rcases Nat.eq_zero_or_pos m with hm | hm
        · subst hm
          obtain⟨e',w',fr,⟨k1,k2⟩,k3⟩ :=h0 w cs
          subst k1 k2
          exact⟨.returned _,w',fr,⟨Frame.refl _ _,nos,.leaf (.rep (Xex _ _ _)),λ_ _ hx => hx.elim⟩,k3⟩
        · have hb1:m*bytes<=140737488355328 :=by have :=hc.2.1; exact Int.ofNat_le.1 (by simpa using this)
          obtain⟨e',w',fr,⟨k1,k2⟩,k3⟩ :=h m w hm hb1 (by omega) cs
          subst k1 k2
          refine⟨.returned _,_,fr,⟨(XbU w).trans (YP w.drew _),blk w.heap.size,.leaf (.rep ?_),λg k hx => ?_⟩,k3⟩
          · have hG:m<=grownCap w m 0 e :=grownCap_ge w _ _ _
            refine .sl w.heap.size 0 (λ_ _ => undef) (λ_ _ => nos) rfl (Nat.zero_le _) (by omega) (λ_ => rfl) (λi row hi => by simp at hi) (λi row j a hi => by simp at hi) (λi row j a hi => by simp at hi)
              (SlF.mk (λ_ k hk => rfl) (λhe => by cases he) (λ_ k hk => ?_) (λhe => absurd rfl he)) (λ_ _ => XP _) (λ_ _ _ _ _ => Xs _) (λ_ _ _ _ _ hx => hx) (λhe => absurd rfl he)
            have hc1 :=QC w.drew (#[]++Builtin.zeroCells zv.cells m++Builtin.zeroCells zv.cells (grownCap w m 0 e-m)) e k
            have hc2 :=UV w.drew (#[]++Builtin.zeroCells zv.cells m++Builtin.zeroCells zv.cells (grownCap w m 0 e-m)) e k
            rw[show w.drew.heap.size=w.heap.size from rfl] at hc1 hc2
            rw[Nat.zero_add]
            refine⟨?_,hc2⟩
            rw[hc1]
            refine⟨_,Array.getElem?_eq_getElem ?_⟩
            have hzs:∀q,(Builtin.zeroCells zv.cells q).size=q*z :=λq => by rw[<-hz]; simp[Builtin.zeroCells]
            simp only[Array.size_append,hzs]
            have:m*z+(grownCap w m 0 e-m)*z=grownCap w m 0 e*z :=by rw[<-Nat.add_mul]; congr 1; omega
            simp only[Array.size_empty]
            omega
          · rw[show g=w.heap.size from hx]
            refine⟨Nat.le_refl _,?_⟩
            show w.heap.size<(w.heap.push _).size
            rw[Array.size_push]
            exact Nat.lt_succ_self _
      · cases hF
def XwL(n:Int):ByteArray :=⟨(Lib.itoa n).toArray⟩
def XIC:List AV->Option (AV×List AV)
  | [.i .i64 n,.i .i64 10] => if -9223372036854775808<=n/\n<=9223372036854775807 then some (.s (XwL n),[.u,.u]) else none
  | _ => none
@[go_sem] def Xwl(n:Int):XIC [.i .i64 n,.i .i64 10]=if -9223372036854775808<=n/\n<=9223372036854775807 then some (.s (XwL n),[.u,.u]) else none :=nr rfl
end Go.Vm
set_option autoImplicit false
namespace Go.Vm
def lineB(p:ByteArray×ByteArray):ByteArray :=p.1++⟨#[58,32]⟩++p.2++⟨#[13,10]⟩
def packL(hs:List (ByteArray×ByteArray)):List UInt8 :=hs.flatMap λp => (lineB p).data.toList
def Xma(p:ByteArray×ByteArray):(lineB p).size=p.1.size+p.2.size+4 :=by
  simp only[lineB,ByteArray.size_append]
  show p.1.size+2+p.2.size+2=_
  omega
def packL_len:∀(hs:List (ByteArray×ByteArray)),(∀p∈hs,p.1.size<=1048576/\p.2.size<=1048576)->(packL hs).length<=2097156*hs.length
  | [],_ => Nat.zero_le _
  | p :: hs,h => by
    have h1 :=packL_len hs (λq hq => h q (List.mem_cons_of_mem _ hq))
    have h2 :=h p (List.mem_cons_self ..)
    have h3:(lineB p).data.toList.length=p.1.size+p.2.size+4 :=by rw[Array.length_toList]; exact Xma _
    unfold packL at h1 ⊢
    rw[List.flatMap_cons,List.length_append,h3,List.length_cons]
    omega
def packL_snoc(hs:List (ByteArray×ByteArray))(k:Nat)(h:k<hs.length):packL (hs.take (k+1))=packL (hs.take k)++(lineB hs[k]).data.toList :=by
  unfold packL
  rw[List.take_add_one,List.getElem?_eq_getElem h,Option.toList_some,List.flatMap_append]
  simp
def Xu7:AV->Option ByteArray
  | .s x => some x
  | _ => none
def XoC{a:AV}{x:ByteArray}(h:Xu7 a=some x):a=.s x :=by
  unfold Xu7 at h
  split at h
  · injection h with h; subst h; rfl
  · cases h
def Xjl:List AV->Option (ByteArray×ByteArray)
  | [a,b] => (Xu7 a).bind λx => (Xu7 b).bind λy => some (x,y)
  | _ => none
def Xkf{e:List AV}{p:ByteArray×ByteArray}(h:Xjl e=some p):e=[.s p.1,.s p.2] :=by
  match e,h with
  | [a,b],h =>
    simp only[Xjl,Option.bind_eq_some_iff] at h
    obtain⟨x,hx,y,hy,he⟩ :=h
    injection he with he
    subst he
    rw[XoC hx,XoC hy]
def Xbd:List (List AV)->Option (List (ByteArray×ByteArray))
  | [] => some []
  | e :: r => (Xjl e).bind λp => (Xbd r).bind λl => some (p :: l)
def XeP:∀{es:List (List AV)} {hs:List (ByteArray×ByteArray)},Xbd es=some hs->es=hs.map λp => [.s p.1,.s p.2]
  | [],hs,h => by injection h with h; subst h; rfl
  | e :: r,hs,h => by
    simp only[Xbd,Option.bind_eq_some_iff] at h
    obtain⟨p,hp,l,hl,he⟩ :=h
    injection he with he
    subst he
    rw[Xkf hp,XeP hl]; rfl
def XfO(hs:List (ByteArray×ByteArray)):Bool :=decide (hs.length<=1048576)&&hs.all λp => decide (p.1.size<=1048576)&&decide (p.2.size<=1048576)
def XhE(hs:List (ByteArray×ByteArray)):ByteArray :=⟨(packL hs).toArray⟩
def Xqt:Option (List (ByteArray×ByteArray))->Option (AV×List AV)
  | some hs => if XfO hs=true then some (.s (XhE hs),[.u]) else none
  | none => none
def Xqu:List AV->Option (AV×List AV)
  | [.sl .ro 2 es] => Xqt (Xbd es)
  | _ => none
def XeQ{α:Type}(f g:α->ByteArray):∀xs:List α,Xbd (xs.map λx => [.s (f x),.s (g x)])=some (xs.map λx => (f x,g x))
  | [] => rfl
  | x :: xs => by
    have h:Xjl [AV.s (f x),AV.s (g x)]=some (f x,g x) :=rfl
    simp only[List.map_cons,Xbd,XeQ f g xs,h,Option.bind_some]
def Xn5{α:Type}(f g:α->ByteArray)(xs:List α)(h:XfO (xs.map λx => (f x,g x))=true):Xqu [.sl .ro 2 (xs.map λx => [.s (f x),.s (g x)])]=some (.s (XhE (xs.map λx => (f x,g x))),[.u]) :=by
  show Xqt (Xbd _)=_
  rw[XeQ]
  exact if_pos h
def Xqv{w:World}{g k:Nat}{v:Value}(h:XY w g k=some v):g<w.heap.size :=by
  unfold XY World.cell? at h
  split at h
  · rename_i hc; exact(Array.getElem?_eq_some_iff.1 hc).1
  · cases h
def Xqw {P : Program} [HasTb P] {g : FuncId} {fn : Func} {c : Code} (hf : P.funcs[g]? = some fn) (hname : (fn.name == "runtime.NumGoroutine") = false) (hb : fn.body = some c)
    (h:∀(hs:List (ByteArray×ByteArray)) (A:Option Addr) (n cap b off:Nat) (w:World),hs.length=n->(0<n->A=some ⟨b,off,none⟩)->(0<n->b<w.heap.size) ->
      (∀(i:Nat) (hi:i<hs.length),w.cell? ⟨b,off+i*2,none⟩=some (.string hs[i].1)/\w.cell? ⟨b,off+i*2+1,none⟩=some (.string hs[i].2)) ->
      (∀p∈hs,p.1.size<=1048576/\p.2.size<=1048576)->hs.length<=1048576 ->
      Calls P g #[.slice A n cap] w λe w' => e=.returned (.string ⟨(packL hs).toArray⟩)/\Go.RowKit.Below w.heap.size w w'):Ux P g ⟨[.ro 1],Xqu,false⟩ :=by
  refine Xgo rfl λw Im vs as r os hF hv ha harg => ?_
  match as,ha,hF with
  | [.sl .ro 2 es],_,hF =>
    match vs,hv with
    | [v0],_ =>
      have hF:Xqt (Xbd es)=some (r,os) :=hF
      cases hp:Xbd es with
      | none => rw[hp] at hF; cases hF
      | some hs =>
        rw[hp] at hF
        have hF:(if XfO hs=true then some (AV.s (XhE hs),[AV.u]) else none)=some (r,os) :=hF
        split at hF
        · rename_i hok
          injection hF with hF
          injection hF with h1 h2
          subst h1 h2
          refine⟨rfl,λ_ => ⟨rfl,λo ho => by rcases List.mem_cons.1 ho with rfl | ho; rfl; cases ho⟩,?_⟩
          simp only[XfO,Bool.and_eq_true,decide_eq_true_eq,List.all_eq_true] at hok
          have hes :=XeP hp
          have hc :=harg 0 v0 _ rfl rfl
          cases hc with
          | leaf hc => cases hc with
            | rep hc => cases hc with
              | @sl A n cap _ _ _ _ b off vs' Sf hn hcap hL hA hz hrow hin hf' hsub hd hself hnone =>
                have hlen:hs.length=n :=by rw[<-hn,hes,List.length_map]
                have hget:∀(i:Nat) (hi:i<hs.length),es[i]?=some [.s hs[i].1,.s hs[i].2] :=λi hi => by rw[hes,List.getElem?_map,List.getElem?_eq_getElem hi]; rfl
                have str:∀{v:Value} {x:ByteArray} {S:CS},Rep w Im v (.s x) S->v=.string x :=λhr => by cases hr; rfl
                have c0:∀(i:Nat) (hi:i<hs.length),XY w b (off+i*2)=some (.string hs[i].1) :=λi hi => by
                  have e1 :=hrow i _ 0 _ (hget i hi) rfl
                  have e2 :=str (hin i _ 0 _ (hget i hi) rfl)
                  rw[e2] at e1; exact e1
                have c1:∀(i:Nat) (hi:i<hs.length),XY w b (off+i*2+1)=some (.string hs[i].2) :=λi hi => by
                  have e1 :=hrow i _ 1 _ (hget i hi) rfl
                  have e2 :=str (hin i _ 1 _ (hget i hi) rfl)
                  rw[e2] at e1; exact e1
                refine .inr ⟨Xau hf hname hb w,λcs => ?_⟩
                obtain⟨e,w',fr,⟨k1,k2⟩,k3⟩ :=h hs A n cap b off w hlen (λh0 => hA (by omega)) (λh0 => Xqv (c0 0 (by omega))) (λi hi => ⟨c0 i hi,c1 i hi⟩) hok.2 hok.1 cs
                subst k1
                exact⟨.returned _,w',fr,(⟨XeO k2,.leaf (.rep .s)⟩:Frame w w' nos/\Cl w' Im (.string (XhE hs)) (.s (XhE hs)) nos),k3⟩
        · cases hF
end Go.Vm
set_option autoImplicit false
set_option maxRecDepth 100000
set_option maxHeartbeats 4000000
attribute [go_sem] Nat.add_zero Nat.zero_add List.contains_cons List.contains_nil List.elem_cons List.elem_nil List.length_cons List.length_nil List.map_cons List.map_nil List.all_cons List.all_nil List.any_cons List.any_nil List.getElem?_cons_zero List.getElem?_cons_succ List.getElem?_nil List.getD_cons_zero List.getD_cons_succ List.append_nil List.nil_append List.cons_append List.isEmpty_cons List.isEmpty_nil List.headD_cons List.headD_nil List.tail_cons List.tail_nil List.take_nil List.drop_nil Bool.and_true Bool.true_and Bool.or_false Bool.or_true Bool.false_or Bool.true_or Bool.not_true Bool.not_false Bool.and_false Bool.false_and Bool.false_eq_true Bool.true_eq_false Bool.and_self Bool.not_not decide_true decide_false decide_eq_true_eq beq_self_eq_true Nat.le_refl Nat.zero_le and_self true_and and_true false_and and_false or_true true_or if_true if_false Option.map_some Option.map_none Option.isSome_none Option.isSome_some eq_self_iff_true not_true_eq_false not_false_eq_true ne_eq Nat.not_lt_zero Nat.succ_ne_zero List.length_map List.set_cons_zero List.set_cons_succ gt_iff_lt ge_iff_le List.take_succ_cons List.take_zero List.drop_zero List.drop_succ_cons bne_self_eq_false
namespace Go.Vm
def Yq(b:UInt8):List AV :=[.i .u8 b.toNat]
def Ye(s:ByteArray):List AV :=[.s s]
def Xca(n:Int):List AV :=[.i .i64 n]
def Xkg(b:Bool):List AV :=[.b b]
@[go_sem] def Xua(b:UInt8):Yq b=[.i .u8 b.toNat] :=nr rfl
@[go_sem] def Xu8(s:ByteArray):Ye s=[.s s] :=nr rfl
@[go_sem] def Xu9(n:Int):Xca n=[.i .i64 n] :=nr rfl
@[go_sem] def Xub(b:Bool):Xkg b=[.b b] :=nr rfl
def Yk{α:Type}{f g:α->List AV}(h:∀a,YG (f a)=g a):∀xs:List α,XX (xs.map f)=xs.map g
  | [] => rfl
  | x :: xs => by simp only[List.map_cons,XX,h,Yk h xs]
def Yz{α:Type}{f:α->List AV}(h:∀a,XM (f a)=false):∀xs:List α,Yt (xs.map f)=false
  | [] => rfl
  | x :: xs => by simp only[List.map_cons,Yt,h,Yz h xs,Bool.or_self]
@[go_sem] def XiI(xs:List UInt8):XX (xs.map Yq)=xs.map Yq :=Yk (λa => by simp only[Yq,YG,strip]) xs
@[go_sem] def XbY(xs:List ByteArray):XX (xs.map Ye)=xs.map Ye :=Yk (λa => by simp only[Ye,YG,strip]) xs
@[go_sem] def XrD(xs:List Int):XX (xs.map Xca)=xs.map Xca :=Yk (λa => by simp only[Xca,YG,strip]) xs
@[go_sem] def Xqx(xs:List Bool):XX (xs.map Xkg)=xs.map Xkg :=Yk (λa => by simp only[Xkg,YG,strip]) xs
@[go_sem] def Xkh(xs:List UInt8):Yt (xs.map Yq)=false :=Yz (λa => by simp only[Yq,XM,XI,Bool.or_self]) xs
@[go_sem] def XcM(xs:List ByteArray):Yt (xs.map Ye)=false :=Yz (λa => by simp only[Ye,XM,XI,Bool.or_self]) xs
@[go_sem] def Xuc(xs:List Int):Yt (xs.map Xca)=false :=Yz (λa => by simp only[Xca,XM,XI,Bool.or_self]) xs
@[go_sem] def XrE(xs:List Bool):Yt (xs.map Xkg)=false :=Yz (λa => by simp only[Xkg,XM,XI,Bool.or_self]) xs
@[go_sem] def Xud(xs:List UInt8):Xeo (xs.map Yq)=some xs :=XfL xs
def szs(n:Nat)(left:Int)(k:Int->Int):Int :=if(IntKind.i64).wrap (left-(n:Int))<0 then -1 else k ((IntKind.i64).wrap (left-(n:Int)))
def szn(r:Int)(k:Int->Int):Int :=if r<0 then -1 else k r
def szO{α:Type}(f:α->Int->Int):List α->Int->Option Int
  | [],l => some l
  | x :: xs,l => if f x l<0 then none else szO f xs (f x l)
def szL{α:Type}(f:α->Int->Int)(xs:List α)(left:Int):Int :=szs xs.length left λl => (szO f xs l).getD (-1)
def XeR(xs:List UInt8)(left:Int):Int :=szs xs.length left λl => l
def XeS(s:ByteArray)(left:Int):Int :=szs s.size left λl => l
def szF(n:Nat)(left:Int):Int :=szs n left λl => l
def Xmb(_:UInt8):Prop :=True
def Xb3(s:ByteArray):Prop :=s.size<=9223372036854775807
def ZR(n:Int):Prop :=-9223372036854775808<=n/\n<=9223372036854775807
def okL{α:Type}(p:α->Prop)(xs:List α):Prop :=xs.length<=9223372036854775807/\∀x∈xs,p x
def Xdj(s:ByteArray):Prop :=s.size<=1048576
def Xjm(_:UInt8):Prop :=True
def Zx(_:Int):Prop :=True
def XdF(_:Bool):Prop :=True
def XdG(_:Bool):Prop :=True
def smL{α:Type}(p:α->Prop)(xs:List α):Prop :=xs.length<=1048576/\∀x∈xs,p x
def Qt{n:Nat}{l:Int}{k:Int->Int}(hn:n<=9223372036854775807)(h0:0<=l)(hl:l<=1048576)(h:0<=szs n l k):n<=1048576/\∃l',0<=l'/\l'<=l/\szs n l k=k l' :=by
  unfold szs at h ⊢
  rw[Xo (by omega) (by omega)] at h ⊢
  split at h
  · omega
  · rename_i hc
    rw[if_neg hc]
    exact⟨by omega,_,by omega,by omega,rfl⟩
def Zn{r:Int}{k:Int->Int}(h:0<=szn r k):0<=r/\szn r k=k r :=by
  unfold szn at h ⊢
  split at h
  · omega
  · rename_i hc
    rw[if_neg hc]
    exact⟨by omega,rfl⟩
def Xaa{α:Type}(f:α->Int->Int)(ok sm:α->Prop):Prop :=∀a l,ok a->0<=l->l<=1048576->0<=f a l->sm a/\f a l<=l
def Xak{α:Type}{f:α->Int->Int}{ok sm:α->Prop}(hf:Xaa f ok sm):Xaa (szL f) (okL ok) (smL sm) :=by
  intro xs l hok h0 hl h
  obtain⟨h1,l',a1,a2,e⟩ :=Qt hok.1 h0 hl h
  have key:∀(ys:List α) (m:Int),(∀x∈ys,ok x)->0<=m->m<=1048576->0<=(szO f ys m).getD (-1)->(∀x∈ys,sm x)/\(szO f ys m).getD (-1)<=m :=by
    intro ys
    induction ys with
    | nil => intro m _ _ _ _; simp[szO]
    | cons y ys ih =>
      intro m ho hm0 hm hs
      simp only[szO] at hs ⊢
      split at hs
      · simp at hs
      · rename_i hc
        rw[if_neg hc]
        obtain⟨s1,s2⟩ :=hf y m (ho y (by simp)) hm0 hm (by omega)
        obtain⟨s3,s4⟩ :=ih _ (λx hx => ho x (by simp[hx])) (by omega) (by omega) hs
        exact⟨λx hx => (List.mem_cons.1 hx).elim (λe => e▸s1) (λhx => s3 x hx),by omega⟩
  unfold szL at h ⊢
  rw[e] at h ⊢
  obtain⟨k1,k2⟩ :=key xs l' hok.2 a1 (by omega) h
  exact⟨⟨h1,k1⟩,by omega⟩
def XhF:Xaa XeR (okL Xmb) (smL Xjm) :=by
  intro xs l hok h0 hl h
  obtain⟨h1,l',a1,a2,e⟩ :=Qt hok.1 h0 hl h
  unfold XeR at h ⊢
  rw[e]
  exact⟨⟨h1,λ_ _ => trivial⟩,a2⟩
def Xgq{α:Type}{ok sm:α->Prop}(hp:∀x,sm x):Xaa (λ(xs:List α) l => szF xs.length l) (okL ok) (smL sm) :=by
  intro xs l hok h0 hl h
  obtain⟨h1,l',a1,a2,e⟩ :=Qt hok.1 h0 hl h
  refine⟨⟨h1,λx _ => hp x⟩,?_⟩
  show(szs xs.length l λl => l)<=l
  rw[e]; exact a2
def XfP:Xaa XeS Xb3 Xdj :=by
  intro xs l hok h0 hl h
  obtain⟨h1,l',a1,a2,e⟩ :=Qt hok h0 hl h
  unfold XeS at h ⊢
  rw[e]
  exact⟨h1,a2⟩
def YI{α:Type}(f:α->List AV)(z:List AV)(xs:List α)(k:Nat):List (List AV) :=(xs.take k).map f++List.replicate (xs.length-k) z
def ZK{α:Type}(f:α->List AV)(z:List AV)(xs:List α):List.replicate xs.length z=YI f z xs 0 :=by simp[YI]
def Qb{α:Type}(f:α->List AV)(z:List AV)(xs:List α):YI f z xs xs.length=xs.map f :=by simp[YI]
def Qc{α:Type}(f:α->List AV)(z:List AV)(xs:List α)(k:Nat)(h:k<=xs.length):(YI f z xs k).length=xs.length :=by simp[YI]; omega
def Qd{α:Type}(f:α->List AV)(z:List AV)(xs:List α)(k:Nat)(h:k<xs.length):(YI f z xs k).set k (f xs[k])=YI f z xs (k+1) :=by
  unfold YI
  rw[List.set_append_right _ _ (by simp; omega)]
  simp only[List.length_map,List.length_take]
  rw[show k-min k xs.length=0 by omega,show xs.length-k=(xs.length-(k+1))+1 by omega,List.replicate_succ,List.set_cons_zero,List.take_succ_eq_append_getElem h,List.map_append]
  simp only[List.map_cons,List.map_nil,List.append_assoc,List.cons_append,List.nil_append]
def ZS{α:Type}(f:α->List AV)(z:List AV)(xs:List α)(k:Nat)(h:k<xs.length):(YI f z xs k)[k]?=some z :=by
  unfold YI
  rw[List.getElem?_append_right (by simp; omega)]
  simp only[List.length_map,List.length_take]
  rw[show k-min k xs.length=0 by omega,List.getElem?_replicate,if_pos (by omega)]
def ZL{α:Type}(f:α->List AV)(z:List AV)(xs:List α)(k:Nat)(h:k<xs.length):(YI f z xs k).getD k []=z :=by
  rw[List.getD_eq_getElem?_getD,ZS f z xs k h]; rfl
def Xdk{α:Type}{f:α->Int->Int}:∀{xs:List α} {l l':Int},Xac (λx l => decide (f x l<0)) (λx l => f x l) xs l=.inl l'->szO f xs l=some l'
  | [],l,l',h => by simpa[szO,Xac] using h
  | x :: xs,l,l',h => by
    by_cases hc:f x l<0
    · simp[Xac,hc] at h
    · simp only[Xac,decide_eq_false hc,Bool.false_eq_true,if_false] at h
      simp only[szO,if_neg hc,Xdk h]
def Xdl{α:Type}{f:α->Int->Int}:∀{xs:List α} {l:Int} {p:α×Int},Xac (λx l => decide (f x l<0)) (λx l => f x l) xs l=.inr p->szO f xs l=none
  | [],l,p,h => by simp[Xac] at h
  | x :: xs,l,p,h => by
    by_cases hc:f x l<0
    · simp only[szO,if_pos hc]
    · simp only[Xac,decide_eq_false hc,Bool.false_eq_true,if_false] at h
      simp only[szO,if_neg hc,Xdl h]
def YQ{α:Type}{xs ys:List α}(h:xs.length=ys.length):(xs.zip ys).length=xs.length :=by simp[h]
def Xaw{α:Type}:∀{xs ys:List α} {u u':Unit},xs.length=ys.length->Xac (λ(x:α×α) (_:Unit) => !eqv x.1 x.2) (λ_ _ => ()) (xs.zip ys) u=.inl u'->eqv xs ys=true
  | [],[],_,_,_,_ => QS _
  | x :: xs,y :: ys,u,u',hl,h => by
    simp only[List.zip_cons_cons,Xac] at h
    cases hc:eqv x y with
    | false => simp[hc] at h
    | true =>
      simp only[hc,Bool.not_true,Bool.false_eq_true,if_false] at h
      have :=Yx.1 (Xaw (by simpa using hl) h)
      rw[Yx.1 hc,this]; exact QS _
def Xax{α:Type}:∀{xs ys:List α} {u:Unit} {p:(α×α)×Unit},xs.length=ys.length->Xac (λ(x:α×α) (_:Unit) => !eqv x.1 x.2) (λ_ _ => ()) (xs.zip ys) u=.inr p->eqv xs ys=false
  | [],[],_,_,_,h => by simp[Xac] at h
  | x :: xs,y :: ys,u,p,hl,h => by
    simp only[List.zip_cons_cons,Xac] at h
    cases he:eqv (x :: xs) (y :: ys) with
    | false => rfl
    | true =>
      have hh :=Yx.1 he
      injection hh with h1 h2
      subst h1 h2
      simp only[QS,Bool.not_true,Bool.false_eq_true,if_false] at h
      have :=Xax rfl h
      rw[QS] at this; cases this
def Xbe{α:Type}{xs ys:List α}(h:¬xs.length=ys.length):eqv xs ys=false :=by
  cases he:eqv xs ys with
  | false => rfl
  | true => exact absurd (congrArg List.length (Yx.1 he)) h
def XiJ(c:Prop)[Decidable c](k:IntKind)(x y:Int)(l:List AV):(if c then some (AV.i k x,l) else some (AV.i k y,l))=some (AV.i k (if c then x else y),l) :=by split<;>rfl
def XgE(c:Prop)[Decidable c](x y:Bool)(l:List AV):(if c then some (AV.b x,l) else some (AV.b y,l))=some (AV.b (if c then x else y),l) :=by split<;>rfl
def Zf(x:Bool):((!x)=true)=(x=false) :=by cases x<;>simp
def Xbs(x y:Bool):(if x=false then false else y)=(x&&y) :=by cases x<;>rfl
end Go.Vm
namespace Go.Vm
structure Lanes where
  Slots:Int
  Cap:Int
  Time:Int
def XeT(t:Tag)(a:Lanes):List AV :=[.i .i64 a.Slots,.i .i64 a.Cap,.i .i64 a.Time]
@[go_sem] def XrF(t:Tag)(a:Lanes):XeT t a=[.i .i64 a.Slots,.i .i64 a.Cap,.i .i64 a.Time] :=nr rfl
@[go_sem] def XoD(t:Tag)(xs:List Lanes):XX (xs.map (XeT t))=xs.map (XeT .ro) :=Yk (λa => by simp only[XeT,YG,strip]) xs
@[go_sem] def Xqy(xs:List Lanes):Yt (xs.map (XeT .mut))=false :=Yz (λa => by simp only[XeT,XM,XI,Bool.or_self]) xs
@[go_sem] def Lanes.eta(a:Lanes):Lanes.mk a.Slots a.Cap a.Time=a :=nr rfl
def Lanes.eqv(a b:Lanes):Vm.eqv a b=(Vm.eqv a.Slots b.Slots&&(Vm.eqv a.Cap b.Cap&&(Vm.eqv a.Time b.Time))) :=(Z0 (by simp only[Bool.and_eq_true,Yx]; cases a; cases b; simp only[Lanes.mk.injEq,and_assoc])).symm
def Xqz(a:Lanes):Prop :=ZR a.Slots/\ZR a.Cap/\ZR a.Time
def Xgr(a:Lanes):Prop :=Zx a.Slots/\Zx a.Cap/\Zx a.Time
def XhG(a:Lanes):Xgr a :=⟨trivial,trivial,trivial⟩
structure Rules where
  Window:Int
  Min:Int
  Ratio:Int
  Cool:Int
  Quota:Int
def XeU(t:Tag)(a:Rules):List AV :=[.i .i64 a.Window,.i .i64 a.Min,.i .i64 a.Ratio,.i .i64 a.Cool,.i .i64 a.Quota]
@[go_sem] def XrG(t:Tag)(a:Rules):XeU t a=[.i .i64 a.Window,.i .i64 a.Min,.i .i64 a.Ratio,.i .i64 a.Cool,.i .i64 a.Quota] :=nr rfl
@[go_sem] def XoE(t:Tag)(xs:List Rules):XX (xs.map (XeU t))=xs.map (XeU .ro) :=Yk (λa => by simp only[XeU,YG,strip]) xs
@[go_sem] def XqA(xs:List Rules):Yt (xs.map (XeU .mut))=false :=Yz (λa => by simp only[XeU,XM,XI,Bool.or_self]) xs
@[go_sem] def Rules.eta(a:Rules):Rules.mk a.Window a.Min a.Ratio a.Cool a.Quota=a :=nr rfl
def Rules.eqv(a b:Rules):Vm.eqv a b=(Vm.eqv a.Window b.Window&&(Vm.eqv a.Min b.Min&&(Vm.eqv a.Ratio b.Ratio&&(Vm.eqv a.Cool b.Cool&&(Vm.eqv a.Quota b.Quota))))) :=(Z0 (by simp only[Bool.and_eq_true,Yx]; cases a; cases b; simp only[Rules.mk.injEq,and_assoc])).symm
def XqB(a:Rules):Prop :=ZR a.Window/\ZR a.Min/\ZR a.Ratio/\ZR a.Cool/\ZR a.Quota
def Xgs(a:Rules):Prop :=Zx a.Window/\Zx a.Min/\Zx a.Ratio/\Zx a.Cool/\Zx a.Quota
def XhH(a:Rules):Xgs a :=⟨trivial,trivial,trivial,trivial,trivial⟩
structure Config where
  Budget:Int
  Guard:Int
  ObjCost:Int
  Neg:Int
  Early:Int
  FetchTime:Int
  WaitTime:Int
  WaitCap:Int
  Names:List ByteArray
  Lanes:Lanes
  Rules:Rules
def XbI(t:Tag)(a:Config):List AV :=[.i .i64 a.Budget,.i .i64 a.Guard,.i .i64 a.ObjCost,.i .i64 a.Neg,.i .i64 a.Early,.i .i64 a.FetchTime,.i .i64 a.WaitTime,.i .i64 a.WaitCap,.sl t 1 (a.Names.map Ye),.i .i64 a.Lanes.Slots,.i .i64 a.Lanes.Cap,.i .i64 a.Lanes.Time,.i .i64 a.Rules.Window,.i .i64 a.Rules.Min,.i .i64 a.Rules.Ratio,.i .i64 a.Rules.Cool,.i .i64 a.Rules.Quota]
@[go_sem] def XqC(t:Tag)(a:Config):XbI t a=[.i .i64 a.Budget,.i .i64 a.Guard,.i .i64 a.ObjCost,.i .i64 a.Neg,.i .i64 a.Early,.i .i64 a.FetchTime,.i .i64 a.WaitTime,.i .i64 a.WaitCap,.sl t 1 (a.Names.map Ye),.i .i64 a.Lanes.Slots,.i .i64 a.Lanes.Cap,.i .i64 a.Lanes.Time,.i .i64 a.Rules.Window,.i .i64 a.Rules.Min,.i .i64 a.Rules.Ratio,.i .i64 a.Rules.Cool,.i .i64 a.Rules.Quota] :=nr rfl
@[go_sem] def Xn6(t:Tag)(xs:List Config):XX (xs.map (XbI t))=xs.map (XbI .ro) :=Yk (λa => by simp only[XbI,YG,strip,XbY]) xs
@[go_sem] def XoF(xs:List Config):Yt (xs.map (XbI .mut))=false :=Yz (λa => by simp only[XbI,XM,XI,Bool.or_self,XcM]) xs
@[go_sem] def Config.eta(a:Config):Config.mk a.Budget a.Guard a.ObjCost a.Neg a.Early a.FetchTime a.WaitTime a.WaitCap a.Names a.Lanes a.Rules=a :=nr rfl
def Config.eqv(a b:Config):Vm.eqv a b=(Vm.eqv a.Budget b.Budget&&(Vm.eqv a.Guard b.Guard&&(Vm.eqv a.ObjCost b.ObjCost&&(Vm.eqv a.Neg b.Neg&&(Vm.eqv a.Early b.Early&&(Vm.eqv a.FetchTime b.FetchTime&&(Vm.eqv a.WaitTime b.WaitTime&&(Vm.eqv a.WaitCap b.WaitCap&&(Vm.eqv a.Names b.Names&&(Vm.eqv a.Lanes b.Lanes&&(Vm.eqv a.Rules b.Rules))))))))))) :=(Z0 (by simp only[Bool.and_eq_true,Yx]; cases a; cases b; simp only[Config.mk.injEq,and_assoc])).symm
def Xgt(a:Config):Prop :=ZR a.Budget/\ZR a.Guard/\ZR a.ObjCost/\ZR a.Neg/\ZR a.Early/\ZR a.FetchTime/\ZR a.WaitTime/\ZR a.WaitCap/\(okL Xb3) a.Names/\Xqz a.Lanes/\XqB a.Rules
def XcN(a:Config):Prop :=Zx a.Budget/\Zx a.Guard/\Zx a.ObjCost/\Zx a.Neg/\Zx a.Early/\Zx a.FetchTime/\Zx a.WaitTime/\Zx a.WaitCap/\(smL Xdj) a.Names/\Xgr a.Lanes/\Xgs a.Rules
def XcO(a:Config)(left:Int):Int :=szn (szL XeS a.Names left) λl => l
def Xgu:Xaa XcO Xgt XcN :=by
  intro a left hok h0 hl h
  unfold XcO at h ⊢
  obtain⟨qBudget,qGuard,qObjCost,qNeg,qEarly,qFetchTime,qWaitTime,qWaitCap,qNames,qLanes,qRules⟩ :=hok
  obtain⟨a0,e0⟩ :=Zn h
  obtain⟨sNames,b0⟩ :=(Xak XfP) _ _ qNames h0 (by omega) a0
  rw[e0] at h ⊢
  exact⟨⟨trivial,trivial,trivial,trivial,trivial,trivial,trivial,trivial,sNames,XhG _,XhH _⟩,by omega⟩
structure Xx where
  Name:ByteArray
  Value:ByteArray
def Xj(t:Tag)(a:Xx):List AV :=[.s a.Name,.s a.Value]
@[go_sem] def XqD(t:Tag)(a:Xx):Xj t a=[.s a.Name,.s a.Value] :=nr rfl
@[go_sem] def Xbf(t:Tag)(xs:List Xx):XX (xs.map (Xj t))=xs.map (Xj .ro) :=Yk (λa => by simp only[Xj,YG,strip]) xs
@[go_sem] def XbJ(xs:List Xx):Yt (xs.map (Xj .mut))=false :=Yz (λa => by simp only[Xj,XM,XI,Bool.or_self]) xs
@[go_sem] def Xx.eta(a:Xx):Xx.mk a.Name a.Value=a :=nr rfl
def Xx.eqv(a b:Xx):Vm.eqv a b=(Vm.eqv a.Name b.Name&&(Vm.eqv a.Value b.Value)) :=(Z0 (by simp only[Bool.and_eq_true,Yx]; cases a; cases b; simp only[Xx.mk.injEq,and_assoc])).symm
def Xal(a:Xx):Prop :=Xb3 a.Name/\Xb3 a.Value
def X6(a:Xx):Prop :=Xdj a.Name/\Xdj a.Value
def Ub(a:Xx)(left:Int):Int :=szs a.Name.size left λl => szs a.Value.size l λl => l
def XcP:Xaa Ub Xal X6 :=by
  intro a left hok h0 hl h
  unfold Ub at h ⊢
  obtain⟨qName,qValue⟩ :=hok
  obtain⟨sName,l0,a0,b0,e0⟩ :=Qt qName h0 (by omega) h
  rw[e0] at h ⊢
  obtain⟨sValue,l1,a1,b1,e1⟩ :=Qt qValue a0 (by omega) h
  rw[e1] at h ⊢
  exact⟨⟨sName,sValue⟩,by omega⟩
structure Meta where
  At:Int
  Age:Int
  Life:Int
  Swr:Int
  Sie:Int
  Soft:Bool
  NoCache:Bool
def XiK(t:Tag)(a:Meta):List AV :=[.i .i64 a.At,.i .i64 a.Age,.i .i64 a.Life,.i .i64 a.Swr,.i .i64 a.Sie,.b a.Soft,.b a.NoCache]
@[go_sem] def Xue(t:Tag)(a:Meta):XiK t a=[.i .i64 a.At,.i .i64 a.Age,.i .i64 a.Life,.i .i64 a.Swr,.i .i64 a.Sie,.b a.Soft,.b a.NoCache] :=nr rfl
@[go_sem] def XqE(t:Tag)(xs:List Meta):XX (xs.map (XiK t))=xs.map (XiK .ro) :=Yk (λa => by simp only[XiK,YG,strip]) xs
@[go_sem] def XrH(xs:List Meta):Yt (xs.map (XiK .mut))=false :=Yz (λa => by simp only[XiK,XM,XI,Bool.or_self]) xs
@[go_sem] def Meta.eta(a:Meta):Meta.mk a.At a.Age a.Life a.Swr a.Sie a.Soft a.NoCache=a :=nr rfl
def Meta.eqv(a b:Meta):Vm.eqv a b=(Vm.eqv a.At b.At&&(Vm.eqv a.Age b.Age&&(Vm.eqv a.Life b.Life&&(Vm.eqv a.Swr b.Swr&&(Vm.eqv a.Sie b.Sie&&(Vm.eqv a.Soft b.Soft&&(Vm.eqv a.NoCache b.NoCache))))))) :=(Z0 (by simp only[Bool.and_eq_true,Yx]; cases a; cases b; simp only[Meta.mk.injEq,and_assoc])).symm
def Xuf(a:Meta):Prop :=ZR a.At/\ZR a.Age/\ZR a.Life/\ZR a.Swr/\ZR a.Sie/\XdG a.Soft/\XdG a.NoCache
def Xjn(a:Meta):Prop :=Zx a.At/\Zx a.Age/\Zx a.Life/\Zx a.Swr/\Zx a.Sie/\XdF a.Soft/\XdF a.NoCache
def XiL(a:Meta):Xjn a :=⟨trivial,trivial,trivial,trivial,trivial,trivial,trivial⟩
structure XK where
  Key:ByteArray
  Status:Int
  Headers:List Xx
  Body:List UInt8
  Meta:Meta
  Tags:List ByteArray
  Pins:Int
def Xa(t:Tag)(a:XK):List AV :=[.s a.Key,.i .i64 a.Status,.sl t 2 (a.Headers.map (Xj t)),.sl t 1 (a.Body.map Yq),.i .i64 a.Meta.At,.i .i64 a.Meta.Age,.i .i64 a.Meta.Life,.i .i64 a.Meta.Swr,.i .i64 a.Meta.Sie,.b a.Meta.Soft,.b a.Meta.NoCache,.sl t 1 (a.Tags.map Ye),.i .i64 a.Pins]
@[go_sem] def XrI(t:Tag)(a:XK):Xa t a=[.s a.Key,.i .i64 a.Status,.sl t 2 (a.Headers.map (Xj t)),.sl t 1 (a.Body.map Yq),.i .i64 a.Meta.At,.i .i64 a.Meta.Age,.i .i64 a.Meta.Life,.i .i64 a.Meta.Swr,.i .i64 a.Meta.Sie,.b a.Meta.Soft,.b a.Meta.NoCache,.sl t 1 (a.Tags.map Ye),.i .i64 a.Pins] :=nr rfl
@[go_sem] def Xam(t:Tag)(xs:List XK):XX (xs.map (Xa t))=xs.map (Xa .ro) :=Yk (λa => by simp only[Xa,YG,strip,XiI,Xbf,XbY]) xs
@[go_sem] def Xbg(xs:List XK):Yt (xs.map (Xa .mut))=false :=Yz (λa => by simp only[Xa,XM,XI,Bool.or_self,Xkh,XbJ,XcM]) xs
@[go_sem] def XK.eta(a:XK):XK.mk a.Key a.Status a.Headers a.Body a.Meta a.Tags a.Pins=a :=nr rfl
def XK.eqv(a b:XK):Vm.eqv a b=(Vm.eqv a.Key b.Key&&(Vm.eqv a.Status b.Status&&(Vm.eqv a.Headers b.Headers&&(Vm.eqv a.Body b.Body&&(Vm.eqv a.Meta b.Meta&&(Vm.eqv a.Tags b.Tags&&(Vm.eqv a.Pins b.Pins))))))) :=(Z0 (by simp only[Bool.and_eq_true,Yx]; cases a; cases b; simp only[XK.mk.injEq,and_assoc])).symm
def XbK(a:XK):Prop :=Xb3 a.Key/\ZR a.Status/\(okL Xal) a.Headers/\(okL Xmb) a.Body/\Xuf a.Meta/\(okL Xb3) a.Tags/\ZR a.Pins
def Zo(a:XK):Prop :=Xdj a.Key/\Zx a.Status/\(smL X6) a.Headers/\(smL Xjm) a.Body/\Xjn a.Meta/\(smL Xdj) a.Tags/\Zx a.Pins
def Xay(a:XK)(left:Int):Int :=szs a.Key.size left λl => szn (szL Ub a.Headers l) λl => szn (XeR a.Body l) λl => szn (szL XeS a.Tags l) λl => l
def XdH:Xaa Xay XbK Zo :=by
  intro a left hok h0 hl h
  unfold Xay at h ⊢
  obtain⟨qKey,qStatus,qHeaders,qBody,qMeta,qTags,qPins⟩ :=hok
  obtain⟨sKey,l0,a0,b0,e0⟩ :=Qt qKey h0 (by omega) h
  rw[e0] at h ⊢
  obtain⟨a1,e1⟩ :=Zn h
  obtain⟨sHeaders,b1⟩ :=(Xak XcP) _ _ qHeaders a0 (by omega) a1
  rw[e1] at h ⊢
  obtain⟨a2,e2⟩ :=Zn h
  obtain⟨sBody,b2⟩ :=XhF _ _ qBody a1 (by omega) a2
  rw[e2] at h ⊢
  obtain⟨a3,e3⟩ :=Zn h
  obtain⟨sTags,b3⟩ :=(Xak XfP) _ _ qTags a2 (by omega) a3
  rw[e3] at h ⊢
  exact⟨⟨sKey,trivial,sHeaders,sBody,XiL _,sTags,trivial⟩,by omega⟩
structure Store where
  Budget:Int
  Guard:Int
  Trial:List XK
  Kept:List XK
def XdI(t:Tag)(a:Store):List AV :=[.i .i64 a.Budget,.i .i64 a.Guard,.sl t 13 (a.Trial.map (Xa t)),.sl t 13 (a.Kept.map (Xa t))]
@[go_sem] def XrJ(t:Tag)(a:Store):XdI t a=[.i .i64 a.Budget,.i .i64 a.Guard,.sl t 13 (a.Trial.map (Xa t)),.sl t 13 (a.Kept.map (Xa t))] :=nr rfl
@[go_sem] def XoG(t:Tag)(xs:List Store):XX (xs.map (XdI t))=xs.map (XdI .ro) :=Yk (λa => by simp only[XdI,YG,strip,Xam]) xs
@[go_sem] def XqF(xs:List Store):Yt (xs.map (XdI .mut))=false :=Yz (λa => by simp only[XdI,XM,XI,Bool.or_self,Xbg]) xs
@[go_sem] def Store.eta(a:Store):Store.mk a.Budget a.Guard a.Trial a.Kept=a :=nr rfl
def Store.eqv(a b:Store):Vm.eqv a b=(Vm.eqv a.Budget b.Budget&&(Vm.eqv a.Guard b.Guard&&(Vm.eqv a.Trial b.Trial&&(Vm.eqv a.Kept b.Kept)))) :=(Z0 (by simp only[Bool.and_eq_true,Yx]; cases a; cases b; simp only[Store.mk.injEq,and_assoc])).symm
def XiM(a:Store):Prop :=ZR a.Budget/\ZR a.Guard/\(okL XbK) a.Trial/\(okL XbK) a.Kept
def Xck(a:Store):Prop :=Zx a.Budget/\Zx a.Guard/\(smL Zo) a.Trial/\(smL Zo) a.Kept
def XeV(a:Store)(left:Int):Int :=szn (szL Xay a.Trial left) λl => szn (szL Xay a.Kept l) λl => l
def XhI:Xaa XeV XiM Xck :=by
  intro a left hok h0 hl h
  unfold XeV at h ⊢
  obtain⟨qBudget,qGuard,qTrial,qKept⟩ :=hok
  obtain⟨a0,e0⟩ :=Zn h
  obtain⟨sTrial,b0⟩ :=(Xak XdH) _ _ qTrial h0 (by omega) a0
  rw[e0] at h ⊢
  obtain⟨a1,e1⟩ :=Zn h
  obtain⟨sKept,b1⟩ :=(Xak XdH) _ _ qKept a0 (by omega) a1
  rw[e1] at h ⊢
  exact⟨⟨trivial,trivial,sTrial,sKept⟩,by omega⟩
structure ZM where
  Id:Int
  Due:Int
def XF(t:Tag)(a:ZM):List AV :=[.i .i64 a.Id,.i .i64 a.Due]
@[go_sem] def Xug(t:Tag)(a:ZM):XF t a=[.i .i64 a.Id,.i .i64 a.Due] :=nr rfl
@[go_sem] def Xcl(t:Tag)(xs:List ZM):XX (xs.map (XF t))=xs.map (XF .ro) :=Yk (λa => by simp only[XF,YG,strip]) xs
@[go_sem] def Xdm(xs:List ZM):Yt (xs.map (XF .mut))=false :=Yz (λa => by simp only[XF,XM,XI,Bool.or_self]) xs
@[go_sem] def ZM.eta(a:ZM):ZM.mk a.Id a.Due=a :=nr rfl
def ZM.eqv(a b:ZM):Vm.eqv a b=(Vm.eqv a.Id b.Id&&(Vm.eqv a.Due b.Due)) :=(Z0 (by simp only[Bool.and_eq_true,Yx]; cases a; cases b; simp only[ZM.mk.injEq,and_assoc])).symm
def Xmc(a:ZM):Prop :=ZR a.Id/\ZR a.Due
def Xab(a:ZM):Prop :=Zx a.Id/\Zx a.Due
def XiN(a:ZM):Xab a :=⟨trivial,trivial⟩
structure Bulk where
  Busy:Int
  Queue:List ZM
def XeW(t:Tag)(a:Bulk):List AV :=[.i .i64 a.Busy,.sl t 2 (a.Queue.map (XF t))]
@[go_sem] def Xuh(t:Tag)(a:Bulk):XeW t a=[.i .i64 a.Busy,.sl t 2 (a.Queue.map (XF t))] :=nr rfl
@[go_sem] def XqG(t:Tag)(xs:List Bulk):XX (xs.map (XeW t))=xs.map (XeW .ro) :=Yk (λa => by simp only[XeW,YG,strip,Xcl]) xs
@[go_sem] def XrK(xs:List Bulk):Yt (xs.map (XeW .mut))=false :=Yz (λa => by simp only[XeW,XM,XI,Bool.or_self,Xdm]) xs
@[go_sem] def Bulk.eta(a:Bulk):Bulk.mk a.Busy a.Queue=a :=nr rfl
def Bulk.eqv(a b:Bulk):Vm.eqv a b=(Vm.eqv a.Busy b.Busy&&(Vm.eqv a.Queue b.Queue)) :=(Z0 (by simp only[Bool.and_eq_true,Yx]; cases a; cases b; simp only[Bulk.mk.injEq,and_assoc])).symm
def Xmd(a:Bulk):Prop :=ZR a.Busy/\(okL Xmc) a.Queue
def XhJ(a:Bulk):Prop :=Zx a.Busy/\(smL Xab) a.Queue
def XhK(a:Bulk)(left:Int):Int :=szn (szF a.Queue.length left) λl => l
def XiO:Xaa XhK Xmd XhJ :=by
  intro a left hok h0 hl h
  unfold XhK at h ⊢
  obtain⟨qBusy,qQueue⟩ :=hok
  obtain⟨a0,e0⟩ :=Zn h
  obtain⟨sQueue,b0⟩ :=(Xgq (λ_ => XiN _)) _ _ qQueue h0 (by omega) a0
  simp only[] at b0
  rw[e0] at h ⊢
  exact⟨⟨trivial,sQueue⟩,by omega⟩
structure Z2 where
  At:Int
  Good:Bool
def XL(t:Tag)(a:Z2):List AV :=[.i .i64 a.At,.b a.Good]
@[go_sem] def Xui(t:Tag)(a:Z2):XL t a=[.i .i64 a.At,.b a.Good] :=nr rfl
@[go_sem] def Xcm(t:Tag)(xs:List Z2):XX (xs.map (XL t))=xs.map (XL .ro) :=Yk (λa => by simp only[XL,YG,strip]) xs
@[go_sem] def Xdn(xs:List Z2):Yt (xs.map (XL .mut))=false :=Yz (λa => by simp only[XL,XM,XI,Bool.or_self]) xs
@[go_sem] def Z2.eta(a:Z2):Z2.mk a.At a.Good=a :=nr rfl
def Z2.eqv(a b:Z2):Vm.eqv a b=(Vm.eqv a.At b.At&&(Vm.eqv a.Good b.Good)) :=(Z0 (by simp only[Bool.and_eq_true,Yx]; cases a; cases b; simp only[Z2.mk.injEq,and_assoc])).symm
def Xme(a:Z2):Prop :=ZR a.At/\XdG a.Good
def Xan(a:Z2):Prop :=Zx a.At/\XdF a.Good
def XiP(a:Z2):Xan a :=⟨trivial,trivial⟩
structure Breaker where
  State:Int
  Since:Int
  Out:Int
  Marks:List Z2
def Uc(t:Tag)(a:Breaker):List AV :=[.i .i64 a.State,.i .i64 a.Since,.i .i64 a.Out,.sl t 2 (a.Marks.map (XL t))]
@[go_sem] def XoH(t:Tag)(a:Breaker):Uc t a=[.i .i64 a.State,.i .i64 a.Since,.i .i64 a.Out,.sl t 2 (a.Marks.map (XL t))] :=nr rfl
@[go_sem] def Xmn(t:Tag)(xs:List Breaker):XX (xs.map (Uc t))=xs.map (Uc .ro) :=Yk (λa => by simp only[Uc,YG,strip,Xcm]) xs
@[go_sem] def Xn7(xs:List Breaker):Yt (xs.map (Uc .mut))=false :=Yz (λa => by simp only[Uc,XM,XI,Bool.or_self,Xdn]) xs
@[go_sem] def Breaker.eta(a:Breaker):Breaker.mk a.State a.Since a.Out a.Marks=a :=nr rfl
def Breaker.eqv(a b:Breaker):Vm.eqv a b=(Vm.eqv a.State b.State&&(Vm.eqv a.Since b.Since&&(Vm.eqv a.Out b.Out&&(Vm.eqv a.Marks b.Marks)))) :=(Z0 (by simp only[Bool.and_eq_true,Yx]; cases a; cases b; simp only[Breaker.mk.injEq,and_assoc])).symm
def XeX(a:Breaker):Prop :=ZR a.State/\ZR a.Since/\ZR a.Out/\(okL Xme) a.Marks
def XbL(a:Breaker):Prop :=Zx a.State/\Zx a.Since/\Zx a.Out/\(smL Xan) a.Marks
def XbM(a:Breaker)(left:Int):Int :=szn (szF a.Marks.length left) λl => l
def Xff:Xaa XbM XeX XbL :=by
  intro a left hok h0 hl h
  unfold XbM at h ⊢
  obtain⟨qState,qSince,qOut,qMarks⟩ :=hok
  obtain⟨a0,e0⟩ :=Zn h
  obtain⟨sMarks,b0⟩ :=(Xgq (λ_ => XiP _)) _ _ qMarks h0 (by omega) a0
  simp only[] at b0
  rw[e0] at h ⊢
  exact⟨⟨trivial,trivial,trivial,sMarks⟩,by omega⟩
structure Origin where
  Host:ByteArray
  Bulk:Bulk
  Breaker:Breaker
def Xe(t:Tag)(a:Origin):List AV :=[.s a.Host,.i .i64 a.Bulk.Busy,.sl t 2 (a.Bulk.Queue.map (XF t)),.i .i64 a.Breaker.State,.i .i64 a.Breaker.Since,.i .i64 a.Breaker.Out,.sl t 2 (a.Breaker.Marks.map (XL t))]
@[go_sem] def XqH(t:Tag)(a:Origin):Xe t a=[.s a.Host,.i .i64 a.Bulk.Busy,.sl t 2 (a.Bulk.Queue.map (XF t)),.i .i64 a.Breaker.State,.i .i64 a.Breaker.Since,.i .i64 a.Breaker.Out,.sl t 2 (a.Breaker.Marks.map (XL t))] :=nr rfl
@[go_sem] def XcQ(t:Tag)(xs:List Origin):XX (xs.map (Xe t))=xs.map (Xe .ro) :=Yk (λa => by simp only[Xe,YG,strip,Xcm,Xcl]) xs
@[go_sem] def XdJ(xs:List Origin):Yt (xs.map (Xe .mut))=false :=Yz (λa => by simp only[Xe,XM,XI,Bool.or_self,Xdn,Xdm]) xs
@[go_sem] def Origin.eta(a:Origin):Origin.mk a.Host a.Bulk a.Breaker=a :=nr rfl
def Origin.eqv(a b:Origin):Vm.eqv a b=(Vm.eqv a.Host b.Host&&(Vm.eqv a.Bulk b.Bulk&&(Vm.eqv a.Breaker b.Breaker))) :=(Z0 (by simp only[Bool.and_eq_true,Yx]; cases a; cases b; simp only[Origin.mk.injEq,and_assoc])).symm
def XbZ(a:Origin):Prop :=Xb3 a.Host/\Xmd a.Bulk/\XeX a.Breaker
def Ud(a:Origin):Prop :=Xdj a.Host/\XhJ a.Bulk/\XbL a.Breaker
def UQ(a:Origin)(left:Int):Int :=szs a.Host.size left λl => szn (XhK a.Bulk l) λl => szn (XbM a.Breaker l) λl => l
def Xgv:Xaa UQ XbZ Ud :=by
  intro a left hok h0 hl h
  unfold UQ at h ⊢
  obtain⟨qHost,qBulk,qBreaker⟩ :=hok
  obtain⟨sHost,l0,a0,b0,e0⟩ :=Qt qHost h0 (by omega) h
  rw[e0] at h ⊢
  obtain⟨a1,e1⟩ :=Zn h
  obtain⟨sBulk,b1⟩ :=XiO _ _ qBulk a0 (by omega) a1
  rw[e1] at h ⊢
  obtain⟨a2,e2⟩ :=Zn h
  obtain⟨sBreaker,b2⟩ :=Xff _ _ qBreaker a1 (by omega) a2
  rw[e2] at h ⊢
  exact⟨⟨sHost,sBulk,sBreaker⟩,by omega⟩
structure XQ where
  Method:ByteArray
  Host:ByteArray
  Path:ByteArray
  Headers:List Xx
def Xbh(t:Tag)(a:XQ):List AV :=[.s a.Method,.s a.Host,.s a.Path,.sl t 2 (a.Headers.map (Xj t))]
@[go_sem] def XoI(t:Tag)(a:XQ):Xbh t a=[.s a.Method,.s a.Host,.s a.Path,.sl t 2 (a.Headers.map (Xj t))] :=nr rfl
@[go_sem] def Xmo(t:Tag)(xs:List XQ):XX (xs.map (Xbh t))=xs.map (Xbh .ro) :=Yk (λa => by simp only[Xbh,YG,strip,Xbf]) xs
@[go_sem] def Xn8(xs:List XQ):Yt (xs.map (Xbh .mut))=false :=Yz (λa => by simp only[Xbh,XM,XI,Bool.or_self,XbJ]) xs
@[go_sem] def XQ.eta(a:XQ):XQ.mk a.Method a.Host a.Path a.Headers=a :=nr rfl
def XQ.eqv(a b:XQ):Vm.eqv a b=(Vm.eqv a.Method b.Method&&(Vm.eqv a.Host b.Host&&(Vm.eqv a.Path b.Path&&(Vm.eqv a.Headers b.Headers)))) :=(Z0 (by simp only[Bool.and_eq_true,Yx]; cases a; cases b; simp only[XQ.mk.injEq,and_assoc])).symm
def XeY(a:XQ):Prop :=Xb3 a.Method/\Xb3 a.Host/\Xb3 a.Path/\(okL Xal) a.Headers
def XcR(a:XQ):Prop :=Xdj a.Method/\Xdj a.Host/\Xdj a.Path/\(smL X6) a.Headers
def XbN(a:XQ)(left:Int):Int :=szs a.Method.size left λl => szs a.Host.size l λl => szs a.Path.size l λl => szn (szL Ub a.Headers l) λl => l
def Xfg:Xaa XbN XeY XcR :=by
  intro a left hok h0 hl h
  unfold XbN at h ⊢
  obtain⟨qMethod,qHost,qPath,qHeaders⟩ :=hok
  obtain⟨sMethod,l0,a0,b0,e0⟩ :=Qt qMethod h0 (by omega) h
  rw[e0] at h ⊢
  obtain⟨sHost,l1,a1,b1,e1⟩ :=Qt qHost a0 (by omega) h
  rw[e1] at h ⊢
  obtain⟨sPath,l2,a2,b2,e2⟩ :=Qt qPath a1 (by omega) h
  rw[e2] at h ⊢
  obtain⟨a3,e3⟩ :=Zn h
  obtain⟨sHeaders,b3⟩ :=(Xak XcP) _ _ qHeaders a2 (by omega) a3
  rw[e3] at h ⊢
  exact⟨⟨sMethod,sHost,sPath,sHeaders⟩,by omega⟩
structure X2 where
  Req:Int
  Head:Bool
  Due:Int
  Late:Bool
def Xk(t:Tag)(a:X2):List AV :=[.i .i64 a.Req,.b a.Head,.i .i64 a.Due,.b a.Late]
@[go_sem] def XqI(t:Tag)(a:X2):Xk t a=[.i .i64 a.Req,.b a.Head,.i .i64 a.Due,.b a.Late] :=nr rfl
@[go_sem] def Xgw(t:Tag)(xs:List X2):XX (xs.map (Xk t))=xs.map (Xk .ro) :=Yk (λa => by simp only[Xk,YG,strip]) xs
@[go_sem] def XhL(xs:List X2):Yt (xs.map (Xk .mut))=false :=Yz (λa => by simp only[Xk,XM,XI,Bool.or_self]) xs
@[go_sem] def X2.eta(a:X2):X2.mk a.Req a.Head a.Due a.Late=a :=nr rfl
def X2.eqv(a b:X2):Vm.eqv a b=(Vm.eqv a.Req b.Req&&(Vm.eqv a.Head b.Head&&(Vm.eqv a.Due b.Due&&(Vm.eqv a.Late b.Late)))) :=(Z0 (by simp only[Bool.and_eq_true,Yx]; cases a; cases b; simp only[X2.mk.injEq,and_assoc])).symm
def Xgx(a:X2):Prop :=ZR a.Req/\XdG a.Head/\ZR a.Due/\XdG a.Late
def Xbi(a:X2):Prop :=Zx a.Req/\XdF a.Head/\Zx a.Due/\XdF a.Late
def Xgy(a:X2):Xbi a :=⟨trivial,trivial,trivial,trivial⟩
structure Xl where
  Id:Int
  Key:ByteArray
  Back:Bool
  Out:Bool
  Due:Int
  Doomed:Bool
  Get:XQ
  Waiters:List X2
def Xc(t:Tag)(a:Xl):List AV :=[.i .i64 a.Id,.s a.Key,.b a.Back,.b a.Out,.i .i64 a.Due,.b a.Doomed,.s a.Get.Method,.s a.Get.Host,.s a.Get.Path,.sl t 2 (a.Get.Headers.map (Xj t)),.sl t 4 (a.Waiters.map (Xk t))]
@[go_sem] def XqJ(t:Tag)(a:Xl):Xc t a=[.i .i64 a.Id,.s a.Key,.b a.Back,.b a.Out,.i .i64 a.Due,.b a.Doomed,.s a.Get.Method,.s a.Get.Host,.s a.Get.Path,.sl t 2 (a.Get.Headers.map (Xj t)),.sl t 4 (a.Waiters.map (Xk t))] :=nr rfl
@[go_sem] def XcS(t:Tag)(xs:List Xl):XX (xs.map (Xc t))=xs.map (Xc .ro) :=Yk (λa => by simp only[Xc,YG,strip,Xbf,Xgw]) xs
@[go_sem] def XdK(xs:List Xl):Yt (xs.map (Xc .mut))=false :=Yz (λa => by simp only[Xc,XM,XI,Bool.or_self,XbJ,XhL]) xs
@[go_sem] def Xl.eta(a:Xl):Xl.mk a.Id a.Key a.Back a.Out a.Due a.Doomed a.Get a.Waiters=a :=nr rfl
def Xl.eqv(a b:Xl):Vm.eqv a b=(Vm.eqv a.Id b.Id&&(Vm.eqv a.Key b.Key&&(Vm.eqv a.Back b.Back&&(Vm.eqv a.Out b.Out&&(Vm.eqv a.Due b.Due&&(Vm.eqv a.Doomed b.Doomed&&(Vm.eqv a.Get b.Get&&(Vm.eqv a.Waiters b.Waiters)))))))) :=(Z0 (by simp only[Bool.and_eq_true,Yx]; cases a; cases b; simp only[Xl.mk.injEq,and_assoc])).symm
def Xb0(a:Xl):Prop :=ZR a.Id/\Xb3 a.Key/\XdG a.Back/\XdG a.Out/\ZR a.Due/\XdG a.Doomed/\XeY a.Get/\(okL Xgx) a.Waiters
def QX(a:Xl):Prop :=Zx a.Id/\Xdj a.Key/\XdF a.Back/\XdF a.Out/\Zx a.Due/\XdF a.Doomed/\XcR a.Get/\(smL Xbi) a.Waiters
def UR(a:Xl)(left:Int):Int :=szs a.Key.size left λl => szn (XbN a.Get l) λl => szn (szF a.Waiters.length l) λl => l
def Xgz:Xaa UR Xb0 QX :=by
  intro a left hok h0 hl h
  unfold UR at h ⊢
  obtain⟨qId,qKey,qBack,qOut,qDue,qDoomed,qGet,qWaiters⟩ :=hok
  obtain⟨sKey,l0,a0,b0,e0⟩ :=Qt qKey h0 (by omega) h
  rw[e0] at h ⊢
  obtain⟨a1,e1⟩ :=Zn h
  obtain⟨sGet,b1⟩ :=Xfg _ _ qGet a0 (by omega) a1
  rw[e1] at h ⊢
  obtain⟨a2,e2⟩ :=Zn h
  obtain⟨sWaiters,b2⟩ :=(Xgq (λ_ => Xgy _)) _ _ qWaiters a1 (by omega) a2
  simp only[] at b2
  rw[e2] at h ⊢
  exact⟨⟨trivial,sKey,trivial,trivial,trivial,trivial,sGet,sWaiters⟩,by omega⟩
structure Shield where
  Config:Config
  Now:Int
  Next:Int
  Store:Store
  Origins:List Origin
  Flights:List Xl
def Q6(t:Tag)(a:Shield):List AV :=[.i .i64 a.Config.Budget,.i .i64 a.Config.Guard,.i .i64 a.Config.ObjCost,.i .i64 a.Config.Neg,.i .i64 a.Config.Early,.i .i64 a.Config.FetchTime,.i .i64 a.Config.WaitTime,.i .i64 a.Config.WaitCap,.sl t 1 (a.Config.Names.map Ye),.i .i64 a.Config.Lanes.Slots,.i .i64 a.Config.Lanes.Cap,.i .i64 a.Config.Lanes.Time,.i .i64 a.Config.Rules.Window,.i .i64 a.Config.Rules.Min,.i .i64 a.Config.Rules.Ratio,.i .i64 a.Config.Rules.Cool,.i .i64 a.Config.Rules.Quota,.i .i64 a.Now,.i .i64 a.Next,.i .i64 a.Store.Budget,.i .i64 a.Store.Guard,.sl t 13 (a.Store.Trial.map (Xa t)),.sl t 13 (a.Store.Kept.map (Xa t)),.sl t 7 (a.Origins.map (Xe t)),.sl t 11 (a.Flights.map (Xc t))]
@[go_sem] def XqK(t:Tag)(a:Shield):Q6 t a=[.i .i64 a.Config.Budget,.i .i64 a.Config.Guard,.i .i64 a.Config.ObjCost,.i .i64 a.Config.Neg,.i .i64 a.Config.Early,.i .i64 a.Config.FetchTime,.i .i64 a.Config.WaitTime,.i .i64 a.Config.WaitCap,.sl t 1 (a.Config.Names.map Ye),.i .i64 a.Config.Lanes.Slots,.i .i64 a.Config.Lanes.Cap,.i .i64 a.Config.Lanes.Time,.i .i64 a.Config.Rules.Window,.i .i64 a.Config.Rules.Min,.i .i64 a.Config.Rules.Ratio,.i .i64 a.Config.Rules.Cool,.i .i64 a.Config.Rules.Quota,.i .i64 a.Now,.i .i64 a.Next,.i .i64 a.Store.Budget,.i .i64 a.Store.Guard,.sl t 13 (a.Store.Trial.map (Xa t)),.sl t 13 (a.Store.Kept.map (Xa t)),.sl t 7 (a.Origins.map (Xe t)),.sl t 11 (a.Flights.map (Xc t))] :=nr rfl
@[go_sem] def Xn9(t:Tag)(xs:List Shield):XX (xs.map (Q6 t))=xs.map (Q6 .ro) :=Yk (λa => by simp only[Q6,YG,strip,Xam,XcS,XcQ,XbY]) xs
@[go_sem] def XoJ(xs:List Shield):Yt (xs.map (Q6 .mut))=false :=Yz (λa => by simp only[Q6,XM,XI,Bool.or_self,Xbg,XdK,XdJ,XcM]) xs
@[go_sem] def Shield.eta(a:Shield):Shield.mk a.Config a.Now a.Next a.Store a.Origins a.Flights=a :=nr rfl
def Shield.eqv(a b:Shield):Vm.eqv a b=(Vm.eqv a.Config b.Config&&(Vm.eqv a.Now b.Now&&(Vm.eqv a.Next b.Next&&(Vm.eqv a.Store b.Store&&(Vm.eqv a.Origins b.Origins&&(Vm.eqv a.Flights b.Flights)))))) :=(Z0 (by simp only[Bool.and_eq_true,Yx]; cases a; cases b; simp only[Shield.mk.injEq,and_assoc])).symm
def Xbj(a:Shield):Prop :=Xgt a.Config/\ZR a.Now/\ZR a.Next/\XiM a.Store/\(okL XbZ) a.Origins/\(okL Xb0) a.Flights
def YS(a:Shield):Prop :=XcN a.Config/\Zx a.Now/\Zx a.Next/\Xck a.Store/\(smL Ud) a.Origins/\(smL QX) a.Flights
def Qu(a:Shield)(left:Int):Int :=szn (XcO a.Config left) λl => szn (XeV a.Store l) λl => szn (szL UQ a.Origins l) λl => szn (szL UR a.Flights l) λl => l
def US:Xaa Qu Xbj YS :=by
  intro a left hok h0 hl h
  unfold Qu at h ⊢
  obtain⟨qConfig,qNow,qNext,qStore,qOrigins,qFlights⟩ :=hok
  obtain⟨a0,e0⟩ :=Zn h
  obtain⟨sConfig,b0⟩ :=Xgu _ _ qConfig h0 (by omega) a0
  rw[e0] at h ⊢
  obtain⟨a1,e1⟩ :=Zn h
  obtain⟨sStore,b1⟩ :=XhI _ _ qStore a0 (by omega) a1
  rw[e1] at h ⊢
  obtain⟨a2,e2⟩ :=Zn h
  obtain⟨sOrigins,b2⟩ :=(Xak Xgv) _ _ qOrigins a1 (by omega) a2
  rw[e2] at h ⊢
  obtain⟨a3,e3⟩ :=Zn h
  obtain⟨sFlights,b3⟩ :=(Xak Xgz) _ _ qFlights a2 (by omega) a3
  rw[e3] at h ⊢
  exact⟨⟨sConfig,trivial,trivial,sStore,sOrigins,sFlights⟩,by omega⟩
structure Y4 where
  Code:Int
  Shield:Shield
def Qe(t:Tag)(a:Y4):List AV :=[.i .i64 a.Code,.i .i64 a.Shield.Config.Budget,.i .i64 a.Shield.Config.Guard,.i .i64 a.Shield.Config.ObjCost,.i .i64 a.Shield.Config.Neg,.i .i64 a.Shield.Config.Early,.i .i64 a.Shield.Config.FetchTime,.i .i64 a.Shield.Config.WaitTime,.i .i64 a.Shield.Config.WaitCap,.sl t 1 (a.Shield.Config.Names.map Ye),.i .i64 a.Shield.Config.Lanes.Slots,.i .i64 a.Shield.Config.Lanes.Cap,.i .i64 a.Shield.Config.Lanes.Time,.i .i64 a.Shield.Config.Rules.Window,.i .i64 a.Shield.Config.Rules.Min,.i .i64 a.Shield.Config.Rules.Ratio,.i .i64 a.Shield.Config.Rules.Cool,.i .i64 a.Shield.Config.Rules.Quota,.i .i64 a.Shield.Now,.i .i64 a.Shield.Next,.i .i64 a.Shield.Store.Budget,.i .i64 a.Shield.Store.Guard,.sl t 13 (a.Shield.Store.Trial.map (Xa t)),.sl t 13 (a.Shield.Store.Kept.map (Xa t)),.sl t 7 (a.Shield.Origins.map (Xe t)),.sl t 11 (a.Shield.Flights.map (Xc t))]
@[go_sem] def Xki(t:Tag)(a:Y4):Qe t a=[.i .i64 a.Code,.i .i64 a.Shield.Config.Budget,.i .i64 a.Shield.Config.Guard,.i .i64 a.Shield.Config.ObjCost,.i .i64 a.Shield.Config.Neg,.i .i64 a.Shield.Config.Early,.i .i64 a.Shield.Config.FetchTime,.i .i64 a.Shield.Config.WaitTime,.i .i64 a.Shield.Config.WaitCap,.sl t 1 (a.Shield.Config.Names.map Ye),.i .i64 a.Shield.Config.Lanes.Slots,.i .i64 a.Shield.Config.Lanes.Cap,.i .i64 a.Shield.Config.Lanes.Time,.i .i64 a.Shield.Config.Rules.Window,.i .i64 a.Shield.Config.Rules.Min,.i .i64 a.Shield.Config.Rules.Ratio,.i .i64 a.Shield.Config.Rules.Cool,.i .i64 a.Shield.Config.Rules.Quota,.i .i64 a.Shield.Now,.i .i64 a.Shield.Next,.i .i64 a.Shield.Store.Budget,.i .i64 a.Shield.Store.Guard,.sl t 13 (a.Shield.Store.Trial.map (Xa t)),.sl t 13 (a.Shield.Store.Kept.map (Xa t)),.sl t 7 (a.Shield.Origins.map (Xe t)),.sl t 11 (a.Shield.Flights.map (Xc t))] :=nr rfl
@[go_sem] def XiQ(t:Tag)(xs:List Y4):XX (xs.map (Qe t))=xs.map (Qe .ro) :=Yk (λa => by simp only[Qe,YG,strip,Xam,XcS,XcQ,XbY]) xs
@[go_sem] def Xjo(xs:List Y4):Yt (xs.map (Qe .mut))=false :=Yz (λa => by simp only[Qe,XM,XI,Bool.or_self,Xbg,XdK,XdJ,XcM]) xs
@[go_sem] def Y4.eta(a:Y4):Y4.mk a.Code a.Shield=a :=nr rfl
def Y4.eqv(a b:Y4):Vm.eqv a b=(Vm.eqv a.Code b.Code&&(Vm.eqv a.Shield b.Shield)) :=(Z0 (by simp only[Bool.and_eq_true,Yx]; cases a; cases b; simp only[Y4.mk.injEq,and_assoc])).symm
structure YF where
  Code:Int
  Value:Int
def ZT(t:Tag)(a:YF):List AV :=[.i .i64 a.Code,.i .i64 a.Value]
@[go_sem] def Xmp(t:Tag)(a:YF):ZT t a=[.i .i64 a.Code,.i .i64 a.Value] :=nr rfl
@[go_sem] def Xkn(t:Tag)(xs:List YF):XX (xs.map (ZT t))=xs.map (ZT .ro) :=Yk (λa => by simp only[ZT,YG,strip]) xs
@[go_sem] def Xmf(xs:List YF):Yt (xs.map (ZT .mut))=false :=Yz (λa => by simp only[ZT,XM,XI,Bool.or_self]) xs
@[go_sem] def YF.eta(a:YF):YF.mk a.Code a.Value=a :=nr rfl
def YF.eqv(a b:YF):Vm.eqv a b=(Vm.eqv a.Code b.Code&&(Vm.eqv a.Value b.Value)) :=(Z0 (by simp only[Bool.and_eq_true,Yx]; cases a; cases b; simp only[YF.mk.injEq,and_assoc])).symm
def XeZ(a:YF):Prop :=Zx a.Code/\Zx a.Value
def Xbp(a:YF):XeZ a :=⟨trivial,trivial⟩
structure XB where
  Code:Int
  Origin:Origin
def Y3(t:Tag)(a:XB):List AV :=[.i .i64 a.Code,.s a.Origin.Host,.i .i64 a.Origin.Bulk.Busy,.sl t 2 (a.Origin.Bulk.Queue.map (XF t)),.i .i64 a.Origin.Breaker.State,.i .i64 a.Origin.Breaker.Since,.i .i64 a.Origin.Breaker.Out,.sl t 2 (a.Origin.Breaker.Marks.map (XL t))]
@[go_sem] def Xkj(t:Tag)(a:XB):Y3 t a=[.i .i64 a.Code,.s a.Origin.Host,.i .i64 a.Origin.Bulk.Busy,.sl t 2 (a.Origin.Bulk.Queue.map (XF t)),.i .i64 a.Origin.Breaker.State,.i .i64 a.Origin.Breaker.Since,.i .i64 a.Origin.Breaker.Out,.sl t 2 (a.Origin.Breaker.Marks.map (XL t))] :=nr rfl
@[go_sem] def XiR(t:Tag)(xs:List XB):XX (xs.map (Y3 t))=xs.map (Y3 .ro) :=Yk (λa => by simp only[Y3,YG,strip,Xcm,Xcl]) xs
@[go_sem] def Xjp(xs:List XB):Yt (xs.map (Y3 .mut))=false :=Yz (λa => by simp only[Y3,XM,XI,Bool.or_self,Xdn,Xdm]) xs
@[go_sem] def XB.eta(a:XB):XB.mk a.Code a.Origin=a :=nr rfl
def XB.eqv(a b:XB):Vm.eqv a b=(Vm.eqv a.Code b.Code&&(Vm.eqv a.Origin b.Origin)) :=(Z0 (by simp only[Bool.and_eq_true,Yx]; cases a; cases b; simp only[XB.mk.injEq,and_assoc])).symm
def Xaz(a:XB):Prop :=Zx a.Code/\Ud a.Origin
structure Zp where
  Code:Int
  Store:Store
def QD(t:Tag)(a:Zp):List AV :=[.i .i64 a.Code,.i .i64 a.Store.Budget,.i .i64 a.Store.Guard,.sl t 13 (a.Store.Trial.map (Xa t)),.sl t 13 (a.Store.Kept.map (Xa t))]
@[go_sem] def Xko(t:Tag)(a:Zp):QD t a=[.i .i64 a.Code,.i .i64 a.Store.Budget,.i .i64 a.Store.Guard,.sl t 13 (a.Store.Trial.map (Xa t)),.sl t 13 (a.Store.Kept.map (Xa t))] :=nr rfl
@[go_sem] def Xjq(t:Tag)(xs:List Zp):XX (xs.map (QD t))=xs.map (QD .ro) :=Yk (λa => by simp only[QD,YG,strip,Xam]) xs
@[go_sem] def Xkk(xs:List Zp):Yt (xs.map (QD .mut))=false :=Yz (λa => by simp only[QD,XM,XI,Bool.or_self,Xbg]) xs
@[go_sem] def Zp.eta(a:Zp):Zp.mk a.Code a.Store=a :=nr rfl
def Zp.eqv(a b:Zp):Vm.eqv a b=(Vm.eqv a.Code b.Code&&(Vm.eqv a.Store b.Store)) :=(Z0 (by simp only[Bool.and_eq_true,Yx]; cases a; cases b; simp only[Zp.mk.injEq,and_assoc])).symm
end Go.Vm
set_option autoImplicit false
set_option maxRecDepth 100000
set_option maxHeartbeats 4000000
namespace Go.Vm
def Zy(a:Config)(k:Int):Config×Int :=
  let p0 :=mkL Qv a.Names (k)
  (⟨a.Budget,a.Guard,a.ObjCost,a.Neg,a.Early,a.FetchTime,a.WaitTime,a.WaitCap,p0.1,a.Lanes,a.Rules⟩,p0.2)
def QE(a:Config)(k:Int):Zy a k=(let p0 :=mkL Qv a.Names (k); (⟨a.Budget,a.Guard,a.ObjCost,a.Neg,a.Early,a.FetchTime,a.WaitTime,a.WaitCap,p0.1,a.Lanes,a.Rules⟩,p0.2)) :=nr rfl
def XdL(a:Config)(k:Int):k<=(Zy a k).2 :=by
  simp only[Zy]
  have b0 :=Y0 Xbc a.Names (k)
  generalize (mkL Qv a.Names (k)).2=q0 at b0 ⊢
  omega
def XhM(a:Config)(k:Int)(h:XcN a):(Zy a k).2<=k+(1048576:Nat) :=by
  simp only[Zy]
  have b0 :=Xaj (c :=1) (λx k h => Xjk x k _ h) a.Names (k) h.2.2.2.2.2.2.2.2.1
  generalize (mkL Qv a.Names (k)).2=q0 at b0 ⊢
  omega
def X3(a:Xx)(k:Int):Xx×Int :=
  (⟨XbG (k),XbG (k+1)⟩,k+1+1)
def Z7(a:Xx)(k:Int):k+1<=(X3 a k).2 :=by
  simp only[X3]
  omega
def XdM(a:Xx)(k:Int)(h:X6 a):(X3 a k).2<=k+(2:Nat) :=by
  simp only[X3]
  omega
def Yc(a:XK)(k:Int):XK×Int :=
  let p0 :=mkL X3 a.Headers (k+1+1)
  let p1 :=mkL ZG a.Body (p0.2)
  let p2 :=mkL Qv a.Tags (p1.2+1+1+1+1+1+1+1)
  (⟨XbG (k),k+1,p0.1,p1.1,⟨p1.2,p1.2+1,p1.2+1+1,p1.2+1+1+1,p1.2+1+1+1+1,(p1.2+1+1+1+1+1).tmod 3==0,(p1.2+1+1+1+1+1+1).tmod 3==0⟩,p2.1,p2.2⟩,p2.2+1)
def Qx(a:XK)(k:Int):k+1<=(Yc a k).2 :=by
  simp only[Yc]
  have b0 :=Y0 Z7 a.Headers (k+1+1)
  generalize (mkL X3 a.Headers (k+1+1)).2=q0 at b0 ⊢
  have b1 :=Y0 XbF a.Body (q0)
  generalize (mkL ZG a.Body (q0)).2=q1 at b1 ⊢
  have b2 :=Y0 Xbc a.Tags (q1+1+1+1+1+1+1+1)
  generalize (mkL Qv a.Tags (q1+1+1+1+1+1+1+1)).2=q2 at b2 ⊢
  omega
def Xe0(a:XK)(k:Int)(h:Zo a):(Yc a k).2<=k+(4194314:Nat) :=by
  simp only[Yc]
  have b0 :=Xaj (c :=2) (XdM) a.Headers (k+1+1) h.2.2.1
  generalize (mkL X3 a.Headers (k+1+1)).2=q0 at b0 ⊢
  have b1 :=Xaj (c :=1) (Xl6) a.Body (q0) h.2.2.2.1
  generalize (mkL ZG a.Body (q0)).2=q1 at b1 ⊢
  have b2 :=Xaj (c :=1) (λx k h => Xjk x k _ h) a.Tags (q1+1+1+1+1+1+1+1) h.2.2.2.2.2.1
  generalize (mkL Qv a.Tags (q1+1+1+1+1+1+1+1)).2=q2 at b2 ⊢
  omega
def Qf(a:Store)(k:Int):Store×Int :=
  let p0 :=mkL Yc a.Trial (k)
  let p1 :=mkL Yc a.Kept (p0.2)
  (⟨a.Budget,a.Guard,p0.1,p1.1⟩,p1.2)
def Q7(a:Store)(k:Int):Qf a k=(let p0 :=mkL Yc a.Trial (k); let p1 :=mkL Yc a.Kept (p0.2); (⟨a.Budget,a.Guard,p0.1,p1.1⟩,p1.2)) :=nr rfl
def Xe1(a:Store)(k:Int):k<=(Qf a k).2 :=by
  simp only[Qf]
  have b0 :=Y0 Qx a.Trial (k)
  generalize (mkL Yc a.Trial (k)).2=q0 at b0 ⊢
  have b1 :=Y0 Qx a.Kept (q0)
  generalize (mkL Yc a.Kept (q0)).2=q1 at b1 ⊢
  omega
def XiS(a:Store)(k:Int)(h:Xck a):(Qf a k).2<=k+(8796113993728:Nat) :=by
  simp only[Qf]
  have b0 :=Xaj (c :=4194314) (Xe0) a.Trial (k) h.2.2.1
  generalize (mkL Yc a.Trial (k)).2=q0 at b0 ⊢
  have b1 :=Xaj (c :=4194314) (Xe0) a.Kept (q0) h.2.2.2
  generalize (mkL Yc a.Kept (q0)).2=q1 at b1 ⊢
  omega
def X1(a:ZM)(k:Int):ZM×Int :=
  (⟨k,k+1⟩,k+1+1)
def Zz(a:ZM)(k:Int):k+1<=(X1 a k).2 :=by
  simp only[X1]
  omega
def XfQ(a:ZM)(k:Int)(h:Xab a):(X1 a k).2<=k+(2:Nat) :=by
  simp only[X1]
  omega
def Qi(a:Bulk)(k:Int):Bulk×Int :=
  let p0 :=mkL X1 a.Queue (k)
  (⟨a.Busy,p0.1⟩,p0.2)
def Y7(a:Bulk)(k:Int):Qi a k=(let p0 :=mkL X1 a.Queue (k); (⟨a.Busy,p0.1⟩,p0.2)) :=nr rfl
def Xdo(a:Bulk)(k:Int):k<=(Qi a k).2 :=by
  simp only[Qi]
  have b0 :=Y0 Zz a.Queue (k)
  generalize (mkL X1 a.Queue (k)).2=q0 at b0 ⊢
  omega
def Xkl(a:Bulk)(k:Int)(h:XhJ a):(Qi a k).2<=k+(2097152:Nat) :=by
  simp only[Qi]
  have b0 :=Xaj (c :=2) (XfQ) a.Queue (k) h.2
  generalize (mkL X1 a.Queue (k)).2=q0 at b0 ⊢
  omega
def X4(a:Z2)(k:Int):Z2×Int :=
  (⟨k,(k+1).tmod 3==0⟩,k+1+1)
def ZA(a:Z2)(k:Int):k+1<=(X4 a k).2 :=by
  simp only[X4]
  omega
def XfR(a:Z2)(k:Int)(h:Xan a):(X4 a k).2<=k+(2:Nat) :=by
  simp only[X4]
  omega
def YL(a:Breaker)(k:Int):Breaker×Int :=
  let p0 :=mkL X4 a.Marks (k)
  (⟨a.State,a.Since,a.Out,p0.1⟩,p0.2)
def Yu(a:Breaker)(k:Int):YL a k=(let p0 :=mkL X4 a.Marks (k); (⟨a.State,a.Since,a.Out,p0.1⟩,p0.2)) :=nr rfl
def Xbk(a:Breaker)(k:Int):k<=(YL a k).2 :=by
  simp only[YL]
  have b0 :=Y0 ZA a.Marks (k)
  generalize (mkL X4 a.Marks (k)).2=q0 at b0 ⊢
  omega
def XgA(a:Breaker)(k:Int)(h:XbL a):(YL a k).2<=k+(2097152:Nat) :=by
  simp only[YL]
  have b0 :=Xaj (c :=2) (XfR) a.Marks (k) h.2.2.2
  generalize (mkL X4 a.Marks (k)).2=q0 at b0 ⊢
  omega
def Ya(a:Origin)(k:Int):Origin×Int :=
  let p0 :=mkL X1 a.Bulk.Queue (k+1+1)
  let p1 :=mkL X4 a.Breaker.Marks (p0.2+1+1+1)
  (⟨XbG (k),⟨k+1,p0.1⟩,⟨p0.2,p0.2+1,p0.2+1+1,p1.1⟩⟩,p1.2)
def Ul(a:Origin)(k:Int):k+1<=(Ya a k).2 :=by
  simp only[Ya]
  have b0 :=Y0 Zz a.Bulk.Queue (k+1+1)
  generalize (mkL X1 a.Bulk.Queue (k+1+1)).2=q0 at b0 ⊢
  have b1 :=Y0 ZA a.Breaker.Marks (q0+1+1+1)
  generalize (mkL X4 a.Breaker.Marks (q0+1+1+1)).2=q1 at b1 ⊢
  omega
def XhN(a:Origin)(k:Int)(h:Ud a):(Ya a k).2<=k+(4194309:Nat) :=by
  simp only[Ya]
  have b0 :=Xaj (c :=2) (XfQ) a.Bulk.Queue (k+1+1) h.2.1.2
  generalize (mkL X1 a.Bulk.Queue (k+1+1)).2=q0 at b0 ⊢
  have b1 :=Xaj (c :=2) (XfR) a.Breaker.Marks (q0+1+1+1) h.2.2.2.2.2
  generalize (mkL X4 a.Breaker.Marks (q0+1+1+1)).2=q1 at b1 ⊢
  omega
def Y1(a:Origin)(k:Int):Origin×Int :=
  let p0 :=Qi a.Bulk (k)
  let p1 :=YL a.Breaker (p0.2)
  (⟨a.Host,p0.1,p1.1⟩,p1.2)
def Y5(a:Origin)(k:Int):Y1 a k=(let p0 :=Qi a.Bulk (k); let p1 :=YL a.Breaker (p0.2); (⟨a.Host,p0.1,p1.1⟩,p1.2)) :=nr rfl
def XbO(a:Origin)(k:Int):k<=(Y1 a k).2 :=by
  simp only[Y1]
  have b0 :=Xdo a.Bulk (k)
  generalize (Qi a.Bulk (k)).2=q0 at b0 ⊢
  have b1 :=Xbk a.Breaker (q0)
  generalize (YL a.Breaker (q0)).2=q1 at b1 ⊢
  omega
def XhO(a:Origin)(k:Int)(h:Ud a):(Y1 a k).2<=k+(4194304:Nat) :=by
  simp only[Y1]
  have b0 :=Xkl a.Bulk (k) h.2.1
  generalize (Qi a.Bulk (k)).2=q0 at b0 ⊢
  have b1 :=XgA a.Breaker (q0) h.2.2
  generalize (YL a.Breaker (q0)).2=q1 at b1 ⊢
  omega
def Yg(a:X2)(k:Int):X2×Int :=
  (⟨k,(k+1).tmod 3==0,k+1+1,(k+1+1+1).tmod 3==0⟩,k+1+1+1+1)
def Um(a:X2)(k:Int):k+1<=(Yg a k).2 :=by
  simp only[Yg]
  omega
def XhP(a:X2)(k:Int)(h:Xbi a):(Yg a k).2<=k+(4:Nat) :=by
  simp only[Yg]
  omega
def Yb(a:Xl)(k:Int):Xl×Int :=
  let p0 :=mkL X3 a.Get.Headers (k+1+1+1+1+1+1+1+1+1)
  let p1 :=mkL Yg a.Waiters (p0.2)
  (⟨k,XbG (k+1),(k+1+1).tmod 3==0,(k+1+1+1).tmod 3==0,k+1+1+1+1,(k+1+1+1+1+1).tmod 3==0,⟨XbG (k+1+1+1+1+1+1),XbG (k+1+1+1+1+1+1+1),XbG (k+1+1+1+1+1+1+1+1),p0.1⟩,p1.1⟩,p1.2)
def Un(a:Xl)(k:Int):k+1<=(Yb a k).2 :=by
  simp only[Yb]
  have b0 :=Y0 Z7 a.Get.Headers (k+1+1+1+1+1+1+1+1+1)
  generalize (mkL X3 a.Get.Headers (k+1+1+1+1+1+1+1+1+1)).2=q0 at b0 ⊢
  have b1 :=Y0 Um a.Waiters (q0)
  generalize (mkL Yg a.Waiters (q0)).2=q1 at b1 ⊢
  omega
def XhQ(a:Xl)(k:Int)(h:QX a):(Yb a k).2<=k+(6291465:Nat) :=by
  simp only[Yb]
  have b0 :=Xaj (c :=2) (XdM) a.Get.Headers (k+1+1+1+1+1+1+1+1+1) h.2.2.2.2.2.2.1.2.2.2
  generalize (mkL X3 a.Get.Headers (k+1+1+1+1+1+1+1+1+1)).2=q0 at b0 ⊢
  have b1 :=Xaj (c :=4) (XhP) a.Waiters (q0) h.2.2.2.2.2.2.2
  generalize (mkL Yg a.Waiters (q0)).2=q1 at b1 ⊢
  omega
def Qp(a:Shield)(k:Int):Shield×Int :=
  let p0 :=Zy a.Config (k)
  let p1 :=Qf a.Store (p0.2)
  let p2 :=mkL Ya a.Origins (p1.2)
  let p3 :=mkL Yb a.Flights (p2.2)
  (⟨p0.1,a.Now,a.Next,p1.1,p2.1,p3.1⟩,p3.2)
def Uo(a:Shield)(k:Int):Qp a k=(let p0 :=Zy a.Config (k); let p1 :=Qf a.Store (p0.2); let p2 :=mkL Ya a.Origins (p1.2); let p3 :=mkL Yb a.Flights (p2.2); (⟨p0.1,a.Now,a.Next,p1.1,p2.1,p3.1⟩,p3.2)) :=nr rfl
def XhR(a:Shield)(k:Int):k<=(Qp a k).2 :=by
  simp only[Qp]
  have b0 :=XdL a.Config (k)
  generalize (Zy a.Config (k)).2=q0 at b0 ⊢
  have b1 :=Xe1 a.Store (q0)
  generalize (Qf a.Store (q0)).2=q1 at b1 ⊢
  have b2 :=Y0 Ul a.Origins (q1)
  generalize (mkL Ya a.Origins (q1)).2=q2 at b2 ⊢
  have b3 :=Y0 Un a.Flights (q2)
  generalize (mkL Yb a.Flights (q2)).2=q3 at b3 ⊢
  omega
def XhS(a:Shield)(k:Int)(h:YS a):(Qp a k).2<=k+(19791246000128:Nat) :=by
  simp only[Qp]
  have b0 :=XhM a.Config (k) h.1
  generalize (Zy a.Config (k)).2=q0 at b0 ⊢
  have b1 :=XiS a.Store (q0) h.2.2.2.1
  generalize (Qf a.Store (q0)).2=q1 at b1 ⊢
  have b2 :=Xaj (c :=4194309) (XhN) a.Origins (q1) h.2.2.2.2.1
  generalize (mkL Ya a.Origins (q1)).2=q2 at b2 ⊢
  have b3 :=Xaj (c :=6291465) (XhQ) a.Flights (q2) h.2.2.2.2.2
  generalize (mkL Yb a.Flights (q2)).2=q3 at b3 ⊢
  omega
def Yl(a:XB)(k:Int):XB×Int :=
  let p0 :=Y1 a.Origin (k)
  (⟨a.Code,p0.1⟩,p0.2)
def YJ(a:XB)(k:Int):Yl a k=(let p0 :=Y1 a.Origin (k); (⟨a.Code,p0.1⟩,p0.2)) :=nr rfl
def XcT(a:XB)(k:Int):k<=(Yl a k).2 :=by
  simp only[Yl]
  have b0 :=XbO a.Origin (k)
  generalize (Y1 a.Origin (k)).2=q0 at b0 ⊢
  omega
def XcU(a:XB)(k:Int)(h:Xaz a):(Yl a k).2<=k+(4194304:Nat) :=by
  simp only[Yl]
  have b0 :=XhO a.Origin (k) h.2
  generalize (Y1 a.Origin (k)).2=q0 at b0 ⊢
  omega
end Go.Vm
set_option autoImplicit false
set_option maxRecDepth 100000
set_option maxHeartbeats 4000000
namespace Go.Vm
def Xjr(row:List AV)(h:Xba [.s,.s] row):∃x:Xx,row=Xj .ro x/\Xal x :=by
  obtain⟨a0,_,rfl,h0,h⟩ :=h.cons
  obtain⟨a1,_,rfl,h1,h⟩ :=h.cons
  obtain rfl :=h.nil
  obtain⟨x0,rfl,o0⟩ :=h0.str
  obtain⟨x1,rfl,o1⟩ :=h1.str
  exact⟨⟨x0,x1⟩,rfl,⟨o0,o1⟩⟩
def Xmg(row:List AV)(h:Xba [.s,.i .i64,.sl [.s,.s],.sl [.i .u8],.i .i64,.i .i64,.i .i64,.i .i64,.i .i64,.b,.b,.sl [.s],.i .i64] row):∃x:XK,row=Xa .ro x/\XbK x :=by
  obtain⟨a0,_,rfl,h0,h⟩ :=h.cons
  obtain⟨a1,_,rfl,h1,h⟩ :=h.cons
  obtain⟨a2,_,rfl,h2,h⟩ :=h.cons
  obtain⟨a3,_,rfl,h3,h⟩ :=h.cons
  obtain⟨a4,_,rfl,h4,h⟩ :=h.cons
  obtain⟨a5,_,rfl,h5,h⟩ :=h.cons
  obtain⟨a6,_,rfl,h6,h⟩ :=h.cons
  obtain⟨a7,_,rfl,h7,h⟩ :=h.cons
  obtain⟨a8,_,rfl,h8,h⟩ :=h.cons
  obtain⟨a9,_,rfl,h9,h⟩ :=h.cons
  obtain⟨a10,_,rfl,h10,h⟩ :=h.cons
  obtain⟨a11,_,rfl,h11,h⟩ :=h.cons
  obtain⟨a12,_,rfl,h12,h⟩ :=h.cons
  obtain rfl :=h.nil
  obtain⟨x0,rfl,o0⟩ :=h0.str
  obtain⟨x1,rfl,o1⟩ :=h1.int
  obtain⟨x2,rfl,o2⟩ :=h2.list (f :=(Xj .ro)) (ok :=Xal) Xjr
  obtain⟨x3,rfl,o3⟩ :=h3.list (f :=Yq) (ok :=Xmb) XnZ
  obtain⟨x4,rfl,o4⟩ :=h4.int
  obtain⟨x5,rfl,o5⟩ :=h5.int
  obtain⟨x6,rfl,o6⟩ :=h6.int
  obtain⟨x7,rfl,o7⟩ :=h7.int
  obtain⟨x8,rfl,o8⟩ :=h8.int
  obtain⟨x9,rfl,o9⟩ :=h9.bool
  obtain⟨x10,rfl,o10⟩ :=h10.bool
  obtain⟨x11,rfl,o11⟩ :=h11.list (f :=Ye) (ok :=Xb3) Xl4
  obtain⟨x12,rfl,o12⟩ :=h12.int
  exact⟨⟨x0,x1,x2,x3,⟨x4,x5,x6,x7,x8,x9,x10⟩,x11,x12⟩,rfl,⟨o0,o1,o2,o3,⟨o4,o5,o6,o7,o8,o9,o10⟩,o11,o12⟩⟩
def Xuj(row:List AV)(h:Xba [.i .i64,.i .i64] row):∃x:ZM,row=XF .ro x/\Xmc x :=by
  obtain⟨a0,_,rfl,h0,h⟩ :=h.cons
  obtain⟨a1,_,rfl,h1,h⟩ :=h.cons
  obtain rfl :=h.nil
  obtain⟨x0,rfl,o0⟩ :=h0.int
  obtain⟨x1,rfl,o1⟩ :=h1.int
  exact⟨⟨x0,x1⟩,rfl,⟨o0,o1⟩⟩
def Xuk(row:List AV)(h:Xba [.i .i64,.b] row):∃x:Z2,row=XL .ro x/\Xme x :=by
  obtain⟨a0,_,rfl,h0,h⟩ :=h.cons
  obtain⟨a1,_,rfl,h1,h⟩ :=h.cons
  obtain rfl :=h.nil
  obtain⟨x0,rfl,o0⟩ :=h0.int
  obtain⟨x1,rfl,o1⟩ :=h1.bool
  exact⟨⟨x0,x1⟩,rfl,⟨o0,o1⟩⟩
def Xoa(row:List AV)(h:Xba [.s,.i .i64,.sl [.i .i64,.i .i64],.i .i64,.i .i64,.i .i64,.sl [.i .i64,.b]] row):∃x:Origin,row=Xe .ro x/\XbZ x :=by
  obtain⟨a0,_,rfl,h0,h⟩ :=h.cons
  obtain⟨a1,_,rfl,h1,h⟩ :=h.cons
  obtain⟨a2,_,rfl,h2,h⟩ :=h.cons
  obtain⟨a3,_,rfl,h3,h⟩ :=h.cons
  obtain⟨a4,_,rfl,h4,h⟩ :=h.cons
  obtain⟨a5,_,rfl,h5,h⟩ :=h.cons
  obtain⟨a6,_,rfl,h6,h⟩ :=h.cons
  obtain rfl :=h.nil
  obtain⟨x0,rfl,o0⟩ :=h0.str
  obtain⟨x1,rfl,o1⟩ :=h1.int
  obtain⟨x2,rfl,o2⟩ :=h2.list (f :=(XF .ro)) (ok :=Xmc) Xuj
  obtain⟨x3,rfl,o3⟩ :=h3.int
  obtain⟨x4,rfl,o4⟩ :=h4.int
  obtain⟨x5,rfl,o5⟩ :=h5.int
  obtain⟨x6,rfl,o6⟩ :=h6.list (f :=(XL .ro)) (ok :=Xme) Xuk
  exact⟨⟨x0,⟨x1,x2⟩,⟨x3,x4,x5,x6⟩⟩,rfl,⟨o0,⟨o1,o2⟩,⟨o3,o4,o5,o6⟩⟩⟩
def Xob(row:List AV)(h:Xba [.i .i64,.b,.i .i64,.b] row):∃x:X2,row=Xk .ro x/\Xgx x :=by
  obtain⟨a0,_,rfl,h0,h⟩ :=h.cons
  obtain⟨a1,_,rfl,h1,h⟩ :=h.cons
  obtain⟨a2,_,rfl,h2,h⟩ :=h.cons
  obtain⟨a3,_,rfl,h3,h⟩ :=h.cons
  obtain rfl :=h.nil
  obtain⟨x0,rfl,o0⟩ :=h0.int
  obtain⟨x1,rfl,o1⟩ :=h1.bool
  obtain⟨x2,rfl,o2⟩ :=h2.int
  obtain⟨x3,rfl,o3⟩ :=h3.bool
  exact⟨⟨x0,x1,x2,x3⟩,rfl,⟨o0,o1,o2,o3⟩⟩
def Xoc(row:List AV)(h:Xba [.i .i64,.s,.b,.b,.i .i64,.b,.s,.s,.s,.sl [.s,.s],.sl [.i .i64,.b,.i .i64,.b]] row):∃x:Xl,row=Xc .ro x/\Xb0 x :=by
  obtain⟨a0,_,rfl,h0,h⟩ :=h.cons
  obtain⟨a1,_,rfl,h1,h⟩ :=h.cons
  obtain⟨a2,_,rfl,h2,h⟩ :=h.cons
  obtain⟨a3,_,rfl,h3,h⟩ :=h.cons
  obtain⟨a4,_,rfl,h4,h⟩ :=h.cons
  obtain⟨a5,_,rfl,h5,h⟩ :=h.cons
  obtain⟨a6,_,rfl,h6,h⟩ :=h.cons
  obtain⟨a7,_,rfl,h7,h⟩ :=h.cons
  obtain⟨a8,_,rfl,h8,h⟩ :=h.cons
  obtain⟨a9,_,rfl,h9,h⟩ :=h.cons
  obtain⟨a10,_,rfl,h10,h⟩ :=h.cons
  obtain rfl :=h.nil
  obtain⟨x0,rfl,o0⟩ :=h0.int
  obtain⟨x1,rfl,o1⟩ :=h1.str
  obtain⟨x2,rfl,o2⟩ :=h2.bool
  obtain⟨x3,rfl,o3⟩ :=h3.bool
  obtain⟨x4,rfl,o4⟩ :=h4.int
  obtain⟨x5,rfl,o5⟩ :=h5.bool
  obtain⟨x6,rfl,o6⟩ :=h6.str
  obtain⟨x7,rfl,o7⟩ :=h7.str
  obtain⟨x8,rfl,o8⟩ :=h8.str
  obtain⟨x9,rfl,o9⟩ :=h9.list (f :=(Xj .ro)) (ok :=Xal) Xjr
  obtain⟨x10,rfl,o10⟩ :=h10.list (f :=(Xk .ro)) (ok :=Xgx) Xob
  exact⟨⟨x0,x1,x2,x3,x4,x5,⟨x6,x7,x8,x9⟩,x10⟩,rfl,⟨o0,o1,o2,o3,o4,o5,⟨o6,o7,o8,o9⟩,o10⟩⟩
def Xd6(row:List AV)(h:Xba [.i .i64,.i .i64,.i .i64,.i .i64,.i .i64,.i .i64,.i .i64,.i .i64,.sl [.s],.i .i64,.i .i64,.i .i64,.i .i64,.i .i64,.i .i64,.i .i64,.i .i64,.i .i64,.i .i64,.i .i64,.i .i64,.sl [.s,.i .i64,.sl [.s,.s],.sl [.i .u8],.i .i64,.i .i64,.i .i64,.i .i64,.i .i64,.b,.b,.sl [.s],.i .i64],.sl [.s,.i .i64,.sl [.s,.s],.sl [.i .u8],.i .i64,.i .i64,.i .i64,.i .i64,.i .i64,.b,.b,.sl [.s],.i .i64],.sl [.s,.i .i64,.sl [.i .i64,.i .i64],.i .i64,.i .i64,.i .i64,.sl [.i .i64,.b]],.sl [.i .i64,.s,.b,.b,.i .i64,.b,.s,.s,.s,.sl [.s,.s],.sl [.i .i64,.b,.i .i64,.b]]] row):∃x:Shield,row=Q6 .ro x/\Xbj x :=by
  obtain⟨a0,_,rfl,h0,h⟩ :=h.cons
  obtain⟨a1,_,rfl,h1,h⟩ :=h.cons
  obtain⟨a2,_,rfl,h2,h⟩ :=h.cons
  obtain⟨a3,_,rfl,h3,h⟩ :=h.cons
  obtain⟨a4,_,rfl,h4,h⟩ :=h.cons
  obtain⟨a5,_,rfl,h5,h⟩ :=h.cons
  obtain⟨a6,_,rfl,h6,h⟩ :=h.cons
  obtain⟨a7,_,rfl,h7,h⟩ :=h.cons
  obtain⟨a8,_,rfl,h8,h⟩ :=h.cons
  obtain⟨a9,_,rfl,h9,h⟩ :=h.cons
  obtain⟨a10,_,rfl,h10,h⟩ :=h.cons
  obtain⟨a11,_,rfl,h11,h⟩ :=h.cons
  obtain⟨a12,_,rfl,h12,h⟩ :=h.cons
  obtain⟨a13,_,rfl,h13,h⟩ :=h.cons
  obtain⟨a14,_,rfl,h14,h⟩ :=h.cons
  obtain⟨a15,_,rfl,h15,h⟩ :=h.cons
  obtain⟨a16,_,rfl,h16,h⟩ :=h.cons
  obtain⟨a17,_,rfl,h17,h⟩ :=h.cons
  obtain⟨a18,_,rfl,h18,h⟩ :=h.cons
  obtain⟨a19,_,rfl,h19,h⟩ :=h.cons
  obtain⟨a20,_,rfl,h20,h⟩ :=h.cons
  obtain⟨a21,_,rfl,h21,h⟩ :=h.cons
  obtain⟨a22,_,rfl,h22,h⟩ :=h.cons
  obtain⟨a23,_,rfl,h23,h⟩ :=h.cons
  obtain⟨a24,_,rfl,h24,h⟩ :=h.cons
  obtain rfl :=h.nil
  obtain⟨x0,rfl,o0⟩ :=h0.int
  obtain⟨x1,rfl,o1⟩ :=h1.int
  obtain⟨x2,rfl,o2⟩ :=h2.int
  obtain⟨x3,rfl,o3⟩ :=h3.int
  obtain⟨x4,rfl,o4⟩ :=h4.int
  obtain⟨x5,rfl,o5⟩ :=h5.int
  obtain⟨x6,rfl,o6⟩ :=h6.int
  obtain⟨x7,rfl,o7⟩ :=h7.int
  obtain⟨x8,rfl,o8⟩ :=h8.list (f :=Ye) (ok :=Xb3) Xl4
  obtain⟨x9,rfl,o9⟩ :=h9.int
  obtain⟨x10,rfl,o10⟩ :=h10.int
  obtain⟨x11,rfl,o11⟩ :=h11.int
  obtain⟨x12,rfl,o12⟩ :=h12.int
  obtain⟨x13,rfl,o13⟩ :=h13.int
  obtain⟨x14,rfl,o14⟩ :=h14.int
  obtain⟨x15,rfl,o15⟩ :=h15.int
  obtain⟨x16,rfl,o16⟩ :=h16.int
  obtain⟨x17,rfl,o17⟩ :=h17.int
  obtain⟨x18,rfl,o18⟩ :=h18.int
  obtain⟨x19,rfl,o19⟩ :=h19.int
  obtain⟨x20,rfl,o20⟩ :=h20.int
  obtain⟨x21,rfl,o21⟩ :=h21.list (f :=(Xa .ro)) (ok :=XbK) Xmg
  obtain⟨x22,rfl,o22⟩ :=h22.list (f :=(Xa .ro)) (ok :=XbK) Xmg
  obtain⟨x23,rfl,o23⟩ :=h23.list (f :=(Xe .ro)) (ok :=XbZ) Xoa
  obtain⟨x24,rfl,o24⟩ :=h24.list (f :=(Xc .ro)) (ok :=Xb0) Xoc
  exact⟨⟨⟨x0,x1,x2,x3,x4,x5,x6,x7,x8,⟨x9,x10,x11⟩,⟨x12,x13,x14,x15,x16⟩⟩,x17,x18,⟨x19,x20,x21,x22⟩,x23,x24⟩,rfl,⟨⟨o0,o1,o2,o3,o4,o5,o6,o7,o8,⟨o9,o10,o11⟩,⟨o12,o13,o14,o15,o16⟩⟩,o17,o18,⟨o19,o20,o21,o22⟩,o23,o24⟩⟩
end Go.Vm
