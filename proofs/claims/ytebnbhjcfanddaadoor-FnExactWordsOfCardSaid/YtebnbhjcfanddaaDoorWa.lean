/- Functions of the program, walked by the evaluator. -/
import Derived.Test.YtebnbhjcfanddaaDoorVf
import Derived.Test.YtebnbhjcfanddaaDoorVe
import Derived.Laws.Strings
import Derived.ChangeShapes
import Derived.ChangeArms
import Derived.Deep.Slices
import Derived.RowKit
import Derived.Below
import Derived.Lib.Bytealg
import Derived.Laws.Externs
import Derived.WalkKit
import Derived.Lib.SlTrimSet
import Derived.Lib.LaidTab
import Derived.Lib.ItoaNum
import Derived.Lib.AppendIntMem
import Derived.Lib.Overlaps
import Derived.Laws.IdiomCopy
import Derived.Lib.SplitLaws
set_option linter.unusedVariables false
set_option linter.unusedSimpArgs false
set_option autoImplicit false
set_option linter.defProp false
namespace Go.Vm
def Xdi{cx:Cx}{n:Nat}:XbA {cx with rounds :=n}=XbA cx :=by
  funext ts xs as
  induction ts generalizing xs as with
  | nil => rfl
  | cons t ts ih => cases xs with
    | nil => rfl
    | cons x xs => cases as with
      | nil => rfl
      | cons a as => simp only[XbA,ih]; cases x<;>rfl
def XaJ{cx:Cx}{n:Nat}:XD {cx with rounds :=n}=XD cx :=by
  funext st ms ts xs
  induction ms generalizing st ts xs with
  | nil => rfl
  | cons m ms ih => cases ts with
    | nil => rfl
    | cons t ts => cases xs with
      | nil => rfl
      | cons x xs => simp only[XD,ih]; rfl
def Q8{cx:Cx}{n:Nat}(st:St)(o:Oper):Xd {cx with rounds :=n} st o=Xd cx st o :=by
  have h:∀d c,X5 {cx with rounds :=n} st d c=X5 cx st d c :=λd c => by
    have h2:∀f ts xs,QB {cx with rounds :=n} st f ts xs=QB cx st f ts xs :=λf ts xs => by
      have h3:∀st,ZS {cx with rounds :=n} st f ts xs=ZS cx st f ts xs :=λst => by simp only[ZS,Xdi]
      have h4:∀st g fs k m,XaD {cx with rounds :=n} st g fs k m f ts xs=XaD cx st g fs k m f ts xs :=λst g fs k m => by simp only[XaD,h3]; rfl
      have h5:∀st g fs,U1 {cx with rounds :=n} st g fs f ts xs=U1 cx st g fs f ts xs :=λst g fs => by simp only[U1,h3,XaJ]
      have h6:∀st g fs,U2 {cx with rounds :=n} st g fs f ts xs=U2 cx st g fs f ts xs :=λst g fs => by simp only[U2,h4,h5]
      simp only[QB,h3,U3,h6]
    simp only[X5,h2]
  simp only[Xd,h]
  rfl
def Z7{cx:Cx}{n:Nat}(ops:List Oper)(st:St)(o:Oper):Zd {cx with rounds :=n} ops st o=Zd cx ops st o :=by simp only[Zd,Q8]
def QD{cx:Cx}{n:Nat}{ops:List Oper}:∀(l:List Oper) (cs:List (Option (List Nat))) (st:St),Xx {cx with rounds :=n} ops cs st l=Xx cx ops cs st l
  | [],_,_ => rfl
  | o :: l,cs,st => by
    simp only[Xx,Q8,QD l]
def YT{cx:Cx}{id n:Nat}{ops:List Oper}:∀(p:Xay) (st:St),X2 {cx with rounds :=n} id ops p st=X2 cx id ops p st
  | .done,_ => rfl
  | .take i p,st => by
    simp only[X2,Z7,YT p]
  | .one i p,st => by
    have h2:∀o,Qi {cx with rounds :=n} o=Qi cx o :=λ_ => rfl
    have h3:∀s o,ZJ {cx with rounds :=n} s o=ZJ cx s o :=λ_ _ => rfl
    simp only[X2,Z7,h2,h3,YT p]
  | .alt i p q,st => by
    have h2:∀o,Qi {cx with rounds :=n} o=Qi cx o :=λ_ => rfl
    have h3:∀s o,ZJ {cx with rounds :=n} s o=ZJ cx s o :=λ_ _ => rfl
    simp only[X2,Z7,h2,h3,YT p,YT q]
def Xck{f g:St->Option (Ex×St)}(h:∀s r,f s=some r->g s=some r):∀(n m:Nat) (s:St) (r:Ex×St),n<=m->Xh6 f n s=some r->Xh6 g m s=some r
  | 0,_,_,_,_,hr => by cases hr
  | n+1,0,_,_,hm,_ => by omega
  | n+1,m+1,s,r,hm,hr => by
    simp only[Xh6] at hr ⊢
    cases hf:f s with
    | none => rw[hf] at hr; cases hr
    | some p =>
      obtain⟨e,s'⟩ :=p
      rw[hf] at hr
      rw[h s _ hf]
      cases e with
      | nor => exact Xck h n m s' r (by omega) hr
      | _ => exact hr
def Xat{cx:Cx}{n m:Nat}(hnm:n<=m):∀(c:Code) (blk:Nat) (st:St) (r:Ex×St),Xh {cx with rounds :=n} blk c st=some r->Xh {cx with rounds :=m} blk c st=some r :=by
  intro c
  induction c with
  | region id ops draw =>
    intro blk st r h
    simp only[Xh,QD,YT] at h ⊢
    exact h
  | seq a b iha ihb =>
    intro blk st r h
    simp only[Xh] at h ⊢
    cases ha:Xh {cx with rounds :=n} blk a st with
    | none => rw[ha] at h; cases h
    | some p =>
      obtain⟨e,s⟩ :=p
      rw[ha] at h
      rw[iha blk st _ ha]
      cases e with
      | nor => exact ihb blk s r h
      | _ => exact h
  | cond c a b iha ihb =>
    intro blk st r h
    simp only[Xh] at h ⊢
    split at h
    · exact iha blk st r h
    · exact ihb blk st r h
    · cases h
  | block id c ih =>
    intro blk st r h
    simp only[Xh] at h ⊢
    cases hc:Xh {cx with rounds :=n} id c st with
    | none => rw[hc] at h; cases h
    | some p => rw[hc] at h; rw[ih id st _ hc]; exact h
  | loop c ih =>
    intro blk st r h
    simp only[Xh] at h ⊢
    exact Xck (λs r hs => ih blk _ r hs) n m st r hnm h
  | _ => intro blk st r h; exact h
def XhQ{cx:Cx}{n m:Nat}(hnm:n<=m):∀(c:Code) (K K':St->Option (Ex×St)) (_:∀s r,K s=some r->K' s=some r) (st:St) (r:Ex×St),evN {cx with rounds :=n} c K st=some r->evN {cx with rounds :=m} c K' st=some r :=by
  have other:∀(c:Code) (K K':St->Option (Ex×St)) (_:∀s r,K s=some r->K' s=some r) (st:St) (r:Ex×St),XaQ (Xh {cx with rounds :=n} 0 c st) K=some r->XaQ (Xh {cx with rounds :=m} 0 c st) K'=some r :=by
    intro c K K' hK st r h
    cases hc:Xh {cx with rounds :=n} 0 c st with
    | none => rw[hc] at h; cases h
    | some p =>
      rw[hc] at h
      rw[Xat hnm c 0 st _ hc]
      obtain⟨e,s⟩ :=p
      cases e with
      | nor => exact hK s r h
      | _ => exact h
  intro c
  induction c with
  | skip => intro K K' hK st r h; exact hK st r h
  | seq a b iha ihb => intro K K' hK st r h; exact iha _ _ (λs r hs => ihb K K' hK s r hs) st r h
  | cond c a b iha ihb =>
    intro K K' hK st r h
    simp only[evN] at h ⊢
    split at h
    · exact iha K K' hK st r h
    · exact ihb K K' hK st r h
    · unfold XcE at h ⊢
      split at h
      · rename_i he
        have h1 :=iha K K' hK st r h
        have h2 :=ihb K K' hK st r (he▸h)
        rw[if_pos (h1.trans h2.symm)]
        exact h1
      · cases h
    · cases h
  | _ => intro K K' hK st r h; exact other _ K K' hK st r h
def Xau{cx:Cx}{md:List Md}{f:Func}{as:List AV}{r:AV×List AV}{n m:Nat}(hnm:n<=m)(h:Qk {cx with rounds :=n} md f as=some r):Qk {cx with rounds :=m} md f as=some r :=by
  unfold Qk at h ⊢
  cases hb:f.body with
  | none => rw[hb] at h; cases h
  | some c =>
    rw[hb] at h
    simp only at h ⊢
    have hB:∀r,evB {cx with rounds :=n} c (QG md as)=some r->evB {cx with rounds :=m} c (QG md as)=some r :=by
      intro r hr
      unfold evB at hr ⊢
      by_cases hz:cx.nz=true
      · rw[if_pos (show({cx with rounds :=n}:Cx).nz=true from hz)] at hr
        rw[if_pos (show({cx with rounds :=m}:Cx).nz=true from hz)]
        exact XhQ hnm c _ _ (λ_ _ h => h) _ r hr
      · rw[if_neg (show ¬({cx with rounds :=n}:Cx).nz=true from hz)] at hr
        rw[if_neg (show ¬({cx with rounds :=m}:Cx).nz=true from hz)]
        exact Xat hnm c 0 _ r hr
    cases hc:evB {cx with rounds :=n} c (QG md as) with
    | none => rw[hc] at h; cases h
    | some p =>
      rw[hc] at h
      rw[hB _ hc]
      have hres:∀(l:List ResultVar) (st:St),UO {cx with rounds :=n} st l=UO {cx with rounds :=m} st l :=by
        intro l
        induction l with
        | nil => intro st; rfl
        | cons x l ih => intro st; cases x<;>simp only[UO,ih]
      have hfin:∀st,Ze {cx with rounds :=n} md f.results.toList st=Ze {cx with rounds :=m} md f.results.toList st :=λst => by simp only[Ze,Xlb,hres]
      obtain⟨e,s⟩ :=p
      cases e<;>simp only[hfin] at h ⊢<;>exact h
def Q9(wk:Bool)(r:AV)(os:List AV):Bool :=wk||(!XF r&&os.all λo => !XF o)
noncomputable def FR(cx:Cx)(md:List Md)(wk:Bool)(f:Func)(as:List AV):Option (AV×List AV) :=
  open Classical in if h : ∃ (r : AV × List AV) (n : Nat), Qk { cx with rounds := n } md f as = some r /\ Q9 wk r.1 r.2 = true then some h.choose else none
def Xl3{cx:Cx}{md:List Md}{wk:Bool}{f:Func}{as:List AV}{r:AV×List AV}{n:Nat}(h:Qk {cx with rounds :=n} md f as=some r)(hr:Q9 wk r.1 r.2=true):FR cx md wk f as=some r :=by
  have hx:∃(r:AV×List AV) (n:Nat),Qk {cx with rounds :=n} md f as=some r/\Q9 wk r.1 r.2=true :=⟨r,n,h,hr⟩
  unfold FR
  rw[dif_pos hx]
  obtain⟨m,h1,h2⟩ :=hx.choose_spec
  have a1 :=Xau (Nat.le_max_left n m) h
  have a2 :=Xau (Nat.le_max_right n m) h1
  exact a2.symm.trans a1
def Xio{cx:Cx}{md:List Md}{wk:Bool}{f:Func}{as:List AV}{r:AV×List AV}(h:FR cx md wk f as=some r):∃n,Qk {cx with rounds :=n} md f as=some r/\Q9 wk r.1 r.2=true :=by
  unfold FR at h
  split at h
  · rename_i hx
    obtain⟨m,h1,h2⟩ :=hx.choose_spec
    injection h with h
    rw[<-h]
    exact⟨m,h1,h2⟩
  · cases h
structure SP (P:Program) [HasTb P] where
  g:Nat
  fs:FS
  ok:Z3 P g fs
def SP.F{P:Program}[HasTb P](s:SP P):List AV->Option (AV×List AV) :=s.fs.F
def Xip{P:Program}[HasTb P]:List (SP P)->Nat->Option FS
  | [],_ => none
  | s :: l,g => if g=s.g then some s.fs else Xip l g
@[go_sem] def Xli{P:Program}[HasTb P](g:Nat):Xip ([]:List (SP P)) g=none :=nr rfl
@[go_sem] def XkS{P:Program}[HasTb P](s:SP P)(l:List (SP P))(g:Nat):Xip (s :: l) g=if g=s.g then some s.fs else Xip l g :=nr rfl
def XfX{P:Program}[HasTb P]:∀(l:List (SP P)) (g:Nat) (fs:FS),Xip l g=some fs->Z3 P g fs
  | [],g,fs,h => by cases h
  | s :: l,g,fs,h => by
    simp only[Xip] at h
    split at h
    · rename_i hg
      injection h with h
      subst h hg
      exact s.ok
    · exact XfX l g fs h
def asc{α:Type}:List (Nat×α)->Nat->Option α
  | [],_ => none
  | (k,a) :: l,n => if n=k then some a else asc l n
@[go_sem] def Xl4{α:Type}(n:Nat):asc ([]:List (Nat×α)) n=none :=nr rfl
@[go_sem] def Xlj{α:Type}(k:Nat)(a:α)(l:List (Nat×α))(n:Nat):asc ((k,a) :: l) n=if n=k then some a else asc l n :=nr rfl
def Xka{α:Type}:List (Nat×List α)->Nat->List α
  | [],_ => []
  | (k,a) :: l,n => if n=k then a else Xka l n
@[go_sem] def Xlk{α:Type}(n:Nat):Xka ([]:List (Nat×List α)) n=[] :=nr rfl
@[go_sem] def XkT{α:Type}(k:Nat)(a:List α)(l:List (Nat×List α))(n:Nat):Xka ((k,a) :: l) n=if n=k then a else Xka l n :=nr rfl
abbrev LV :=List (Nat×List Nat×List Nat)
structure FD where
  md:List Md
  wk:Bool :=false
  rg:LV :=[]
  lv:LV :=[]
  out:LV :=[]
  rets:Option (List Nat×List Nat) :=none
  al:List Nat :=[]
  plan:List (Nat×Xay) :=[]
  fz:List Nat :=[]
  nz:Bool :=false
  ws:List (Nat×List (Bool×Nat×Nat)) :=[]
structure Xkb (P:Program) where
  T:TypeId->Option TI
  Q:TypeId->Option (List Nat)
  ok:∀cx:Cx,cx.T=T->cx.eqs=Q->XbM P cx
  wide:P.follows .mixedOrders=true
def XkU{P:Program}[HasTb P](ty:Xkb P)(tab:List (SP P))(d:FD)(n:Nat):Cx :=
  {T :=ty.T,fns :=Xip tab,cuts :=λ_ => [],rg :=asc d.rg,live :=asc d.lv,out :=asc d.out,rets :=d.rets,al :=d.al,plan :=asc d.plan,fz :=d.fz,eqs :=ty.Q,rounds :=n,nz :=d.nz,ws :=Xka d.ws}
def Xl5(md:List Md)(j:Nat):Bool :=match md[j]? with
  | some m => !YO m
  | none => false
def ckS{P:Program}[HasTb P](ty:Xkb P)(tab:List (SP P))(d:FD)(f:Func):Bool :=match f.body with
  | some c => (!(f.name == "runtime.NumGoroutine")) && Yg (XkU ty tab d 0) (Xl5 d.md) f.ntmps c && decide (d.md.length <= f.ntmps) && XkB d.md
  | none => false
def XkV{P:Program}[HasTb P](ty:Xkb P)(g:Nat)(f:Func)(tab:List (SP P))(d:FD)(hf:P.funcs[g]?=some f)(hk:ckS ty tab d f=true):Z3 P g ⟨d.md,FR (XkU ty tab d 0) d.md d.wk f,d.wk⟩ :=by
  unfold ckS at hk
  cases hb:f.body with
  | none => rw[hb] at hk; cases hk
  | some c =>
    rw[hb] at hk
    simp only[Bool.and_eq_true,Bool.not_eq_true',decide_eq_true_eq] at hk
    obtain⟨⟨⟨h1,h2⟩,h3⟩,h4⟩ :=hk
    refine XiO (cx :=XkU ty tab d 0) (c :=c) ty.wide (ty.ok _ rfl rfl) (XfX tab) hf h1 hb (Xl5 d.md) (λj m hj hm => ?_) h2 h3 h4 (λas r os h _ _ => ?_) (λhw as r os h => ?_)
    · simp only[Xl5,hj,hm,Bool.not_false]
    · obtain⟨n,h5,_⟩ :=Xio h
      exact⟨n,h5⟩
    · obtain⟨n,_,h6⟩ :=Xio h
      have hw':d.wk=false :=hw
      simp only[Q9,hw',Bool.false_or,Bool.and_eq_true,Bool.not_eq_true',List.all_eq_true] at h6
      exact⟨h6.1,λo ho => by simpa using h6.2 o ho⟩
noncomputable def mkS{P:Program}[HasTb P](ty:Xkb P)(g:Nat)(f:Func)(tab:List (SP P))(d:FD)(hf:P.funcs[g]?=some f)(hk:ckS ty tab d f=true):SP P :=⟨g,⟨d.md,FR (XkU ty tab d 0) d.md d.wk f,d.wk⟩,XkV ty g f tab d hf hk⟩
def Zf{P:Program}[HasTb P]{ty:Xkb P}{f:Func}{tab:List (SP P)}{d:FD}{as:List AV}{r:AV}{os:List AV}{c:Code}{rv:List ResultVar}(n:Nat)(hb:f.body=some c)(hr:f.results=rv.toArray)
    (h:∀cx:Cx,(cx.T=ty.T/\cx.fns=Xip tab/\cx.rg=asc d.rg/\cx.live=asc d.lv/\cx.out=asc d.out/\cx.rets=d.rets/\cx.al=d.al/\cx.plan=asc d.plan/\cx.fz=d.fz/\cx.eqs=ty.Q/\cx.rounds=n/\cx.ws=Xka d.ws/\∀k,cx.cuts k=[])->Xim cx d.md rv (Xh cx 0 c (QG d.md as))=some (r,os)) (hw:Q9 d.wk r os=true) (hz:d.nz=false :=by rfl):FR (XkU ty tab d 0) d.md d.wk f as=some (r,os) :=by
  refine Xl3 (n :=n) ?_ hw
  rw[Xfx _ _ f _ c rv hb hr hz]
  exact h _ ⟨rfl,rfl,rfl,rfl,rfl,rfl,rfl,rfl,rfl,rfl,rfl,rfl,λ_ => rfl⟩
def Qs:Code->List Code
  | .loop c => c :: Qs c
  | .seq a b => Qs a++Qs b
  | .cond _ a b => Qs a++Qs b
  | .block _ c => Qs c
  | _ => []
def XaK(f:Func)(i:Nat):Code :=match f.body with
  | some b => ((Qs b)[i]?).getD .skip
  | none => .skip
def ZB(f:Func)(i:Nat)(b c:Code)(hb:f.body=some b)(hl:(Qs b)[i]?=some c):XaK f i=c :=by simp only[XaK,hb,hl,Option.getD_some]
def XhR{σ:Type}{cx:Cx}{blk:Nat}{body:Code}(S:σ->St)(I:σ->Prop)(μ:σ->Nat)(Q:σ->Option (Ex×St)->Prop)
    (h:∀s,I s->(∀G,Q s (Xap (Xh cx blk body (S s)) G))\/∃st' s',keep (cx.live blk) st'=S s'/\I s'/\μ s'<μ s/\(∀r,Q s' r->Q s r)/\∀G,Xap (Xh cx blk body (S s)) G=G st') :
    ∀(N:Nat) (s:σ),I s->μ s<N->∀st,keep (cx.live blk) st=S s->Q s (UQ cx blk body N st) :=by
  intro N
  induction N with
  | zero => intro s hI hN; omega
  | succ N ih =>
    intro s hI hN st hst
    rw[Uv,hst]
    rcases h s hI with h1 | ⟨st',s',h1,h2,h3,h4,h5⟩
    · exact h1 _
    · rw[h5]
      exact h4 _ (ih s' h2 (by omega) st' h1)
def XbC{α σ:Type}(c:α->σ->Bool)(g:α->σ->σ):List α->σ->σ⊕(α×σ)
  | [],s => .inl s
  | x :: xs,s => if c x s=true then .inr (x,s) else XbC c g xs (g x s)
def Ua{α σ:Type}(c:α->σ->Bool)(g:α->σ->σ)(x:α)(xs:List α)(s:σ):XbC c g (x :: xs) s=if c x s=true then .inr (x,s) else XbC c g xs (g x s) :=rfl
def Xcl{α σ:Type}(g:α->σ->σ):∀(xs:List α) (s:σ),XbC (λ_ _ => false) g xs s=.inl (xs.foldl (λs x => g x s) s)
  | [],s => rfl
  | x :: xs,s => by simp only[XbC,Bool.false_eq_true,if_false,List.foldl_cons]; exact Xcl g xs _
def Xav{α σ:Type}{cx:Cx}{blk:Nat}{body:Code}(xs:List α)(S:Nat->σ->St)(X:σ->St)(c:α->σ->Bool)(g:α->σ->σ)(R:α->σ->Ex×St)(I:Nat->σ->Prop)
    (hend:∀s,I xs.length s->∀G,Xap (Xh cx blk body (S xs.length s)) G=some (.ex blk,X s))
    (hstep:∀k (hk:k<xs.length) s,I k s->(c xs[k] s=true/\∀G,Xap (Xh cx blk body (S k s)) G=some (R xs[k] s))\/(c xs[k] s=false/\I (k+1) (g xs[k] s)/\∃st',(∀G,Xap (Xh cx blk body (S k s)) G=G st')/\keep (cx.live blk) st'=S (k+1) (g xs[k] s)))
    (s:σ) (hI:I 0 s) (N:Nat) (hN:xs.length+1<=N) :
    ∃r,(∀st,keep (cx.live blk) st=S 0 s->UQ cx blk body N st=r)/\((∃s',XbC c g xs s=.inl s'/\I xs.length s'/\r=some (.ex blk,X s'))\/∃x s',XbC c g xs s=.inr (x,s')/\r=some (R x s')) :=by
  obtain⟨M,rfl⟩:∃M,N=M+1 :=⟨N-1,by omega⟩
  have key:∀(k:Nat) (s:σ) (M:Nat),k<=xs.length->I k s->xs.length-k<=M->(∃s',XbC c g (xs.drop k) s=.inl s'/\I xs.length s'/\Xap (Xh cx blk body (S k s)) (λs => UQ cx blk body M s)=some (.ex blk,X s'))\/∃x s',XbC c g (xs.drop k) s=.inr (x,s')/\Xap (Xh cx blk body (S k s)) (λs => UQ cx blk body M s)=some (R x s') :=by
    intro k s M
    induction M generalizing k s with
    | zero =>
      intro hk hI hM
      obtain rfl:k=xs.length :=by omega
      exact .inl ⟨s,by rw[List.drop_length]; rfl,hI,hend s hI _⟩
    | succ M ih =>
      intro hk hI hM
      by_cases he:k=xs.length
      · subst he
        exact .inl ⟨s,by rw[List.drop_length]; rfl,hI,hend s hI _⟩
      · have hlt:k<xs.length :=by omega
        rcases hstep k hlt s hI with⟨h1,h2⟩ | ⟨h1,h2,st',h4,h3⟩
        · exact .inr ⟨xs[k],s,by rw[List.drop_eq_getElem_cons hlt,Ua,if_pos h1],h2 _⟩
        · rw[h4,Uv,h3,List.drop_eq_getElem_cons hlt,Ua,if_neg (by simp[h1])]
          exact ih (k+1) _ (by omega) h2 (by omega)
  exact⟨_,λst hst => by rw[Uv,hst],key 0 s M (Nat.zero_le _) hI (by omega)⟩
def Qt{α σ:Type}{cx:Cx}{blk:Nat}{body:Code}(xs:List α)(S:Nat->σ->St)(X:σ->St)(g:α->σ->σ)(I:Nat->σ->Prop)
    (hend:∀s,I xs.length s->∀G,Xap (Xh cx blk body (S xs.length s)) G=some (.ex blk,X s))
    (hstep:∀k (hk:k<xs.length) s,I k s->I (k+1) (g xs[k] s)/\∃st',(∀G,Xap (Xh cx blk body (S k s)) G=G st')/\keep (cx.live blk) st'=S (k+1) (g xs[k] s))
    (s:σ) (hI:I 0 s) (N:Nat) (hN:xs.length+1<=N) :
    I xs.length (xs.foldl (λs x => g x s) s)/\∀st,keep (cx.live blk) st=S 0 s->UQ cx blk body N st=some (.ex blk,X (xs.foldl (λs x => g x s) s)) :=by
  obtain⟨r,h1,h⟩ :=Xav (cx :=cx) (blk :=blk) (body :=body) xs S X (λ_ _ => false) g (λ_ s => (.ret,X s)) I hend (λk hk s hI => .inr ⟨rfl,hstep k hk s hI⟩) s hI N hN
  rw[Xcl] at h
  rcases h with⟨s',h2,h3,h4⟩ | ⟨x,s',h2,h3⟩
  · injection h2 with h2
    subst h2
    exact⟨h3,λst hst => by rw[h1 st hst,h4]⟩
  · cases h2
def XfY{α σ:Type}{cx:Cx}{blk:Nat}{body:Code}(xs:List α)(S:Nat->σ->St)(X:σ->St)(c:α->σ->Bool)(g:α->σ->σ)(R:α->σ->Ex×St)(I:Nat->σ->Prop)
    (hend:∀s,I xs.length s->∀G,Xap (Xh cx blk body (S xs.length s)) G=some (.ex blk,X s))
    (hstep:∀k (hk:k<xs.length) s,I k s->∃(C:Prop) (_:Decidable C) (st':St),(∀G,Xap (Xh cx blk body (S k s)) G=if C then some (R xs[k] s) else G st')/\(C↔c xs[k] s=true)/\(c xs[k] s=false->I (k+1) (g xs[k] s)/\keep (cx.live blk) st'=S (k+1) (g xs[k] s)))
    (s:σ) (hI:I 0 s) (N:Nat) (hN:xs.length+1<=N) :
    ∃r,(∀st,keep (cx.live blk) st=S 0 s->UQ cx blk body N st=r)/\((∃s',XbC c g xs s=.inl s'/\I xs.length s'/\r=some (.ex blk,X s'))\/∃x s',XbC c g xs s=.inr (x,s')/\r=some (R x s')) :=by
  refine Xav xs S X c g R I hend (λk hk s hI => ?_) s hI N hN
  obtain⟨C,_,st',h1,h2,h3⟩ :=hstep k hk s hI
  cases hc:c xs[k] s with
  | true => exact .inl ⟨rfl,λG => (h1 G).trans (if_pos (h2.2 hc))⟩
  | false =>
    obtain⟨h4,h5⟩ :=h3 hc
    exact .inr ⟨rfl,h4,st',λG => (h1 G).trans (if_neg (λhC => by rw[h2.1 hC] at hc; cases hc)),h5⟩
def XaL{α:Type}(p:α->Bool):List α->Nat->Int
  | [],_ => -1
  | x :: xs,k => if p x=true then(k:Int) else XaL p xs (k+1)
def XdH{α:Type}{p:α->Bool}:∀{xs:List α} {k k':Nat},XbC (λx _ => p x) (λ_ k => k+1) xs k=.inl k'->XaL p xs k =-1
  | [],_,_,_ => rfl
  | x :: xs,k,k',h => by
    rw[Ua] at h
    split at h
    · cases h
    · rename_i hc
      rw[XaL,if_neg hc,XdH h]
def Xcm{α:Type}{p:α->Bool}:∀{xs:List α} {k:Nat} {q:α×Nat},XbC (λx _ => p x) (λ_ k => k+1) xs k=.inr q->XaL p xs k=(q.2:Int)
  | [],_,_,h => by cases h
  | x :: xs,k,q,h => by
    rw[Ua] at h
    split at h
    · rename_i hc
      injection h with h
      subst h
      rw[XaL,if_pos hc]
    · rename_i hc
      rw[XaL,if_neg hc,Xcm h]
def XdI{α:Type}{p:α->Bool}:∀(xs:List α) (k:Nat),decide (0<=XaL p xs k)=xs.any p
  | [],_ => by simp[XaL]
  | x :: xs,k => by
    rw[XaL,List.any_cons]
    cases hc:p x with
    | true => simp
    | false => simpa using XdI xs (k+1)
end Go.Vm
set_option autoImplicit false
namespace Go.Vm
@[go_sem] def Xy1:((0:Nat):Int)=0 :=nr rfl
@[go_sem] def Xy2:((1:Nat):Int)=1 :=nr rfl
@[go_sem] def Xkc:XdO .nilFunc=.u :=nr rfl
def QL{k:Int}(h0:-9223372036854775808<=k)(h:k<=9223372036854775807):(IntKind.i64).wrap k=k :=by
  simp[IntKind.wrap,IntKind.bits,IntKind.signed]
  omega
def Yl{k:Nat}(h:k<9223372036854775807):(IntKind.i64).wrap ((k:Int)+1)=((k+1:Nat):Int) :=by
  rw[QL (by omega) (by omega)]; rfl
def ZO(n k:Nat)(h:k<n):YJ n (k:Int)=some k :=by
  simp only[YJ]
  rw[if_pos ⟨by omega,by omega⟩]; rfl
def UM{α:Type}(f:α->List AV)(xs:List α)(k:Nat)(h:k<xs.length):(xs.map f).getD k []=f xs[k] :=by simp[List.getD,h]
def XfZ{α:Type}(f:α->List AV)(xs:List α)(k:Nat)(h:k<xs.length):(xs.map f)[k]?=some (f xs[k]) :=by simp[h]
@[go_sem] def XkW{α:Type}(f:α->List AV)(xs:List α):(xs.map f).take xs.length=xs.map f :=by
  have :=List.take_length (l :=xs.map f)
  rwa [List.length_map] at this
noncomputable def eqv{α:Type}(a b:α):Bool :=open Classical in decide (a=b)
def YY{α:Type}{a b:α}:eqv a b=true↔a=b :=by simp[eqv]
def Ub{α:Type}(a:α):eqv a a=true :=by simp[eqv]
def QE{α:Type}{p:Bool}{a b:α}(h:p=true↔a=b):p=eqv a b :=by
  cases p with
  | true => exact(YY.2 (h.1 rfl)).symm
  | false =>
    cases he:eqv a b with
    | false => rfl
    | true => exact absurd (h.2 (YY.1 he)) (by simp)
def Xf0(a b:Int):(a==b)=eqv a b :=QE (by simp)
def Xf1(a b:Int):(a !=b)=!eqv a b :=by rw[bne,Xf0]
def XdJ(a b:Bool):(a==b)=eqv a b :=QE (by simp)
def Xew(a b:Bool):(a !=b)=!eqv a b :=by rw[bne,XdJ]
def XkX{a b:ByteArray}(h:a.toList=b.toList):a=b :=by
  rw[ByteArray.toList_eq,ByteArray.toList_eq] at h
  cases a; cases b
  simp only[ByteArray.mk.injEq] at h ⊢
  exact Array.ext' h
def ZP(a b:ByteArray):(a.toList==b.toList)=eqv a b :=QE (by
  constructor
  · intro h; exact XkX (by simpa using h)
  · rintro rfl; simp)
def Xbb:∀xs:List UInt8,U5 (xs.map λb => [.i .u8 b.toNat])=some xs
  | [] => rfl
  | x :: xs => by
    simp only[List.map_cons,U5,Xbb xs,Int.toNat_natCast,UInt8.ofNat_toNat]
@[go_sem] def Xll(o:Oper)(a b:List Oper):ZU (List.append (o :: a) b) 0=some o :=nr rfl
@[go_sem] def Xlm(o:Oper)(a b:List Oper)(n:Nat):ZU (List.append (o :: a) b) (n+1)=ZU (List.append a b) n :=nr rfl
@[go_sem] def Xln(b:List Oper)(n:Nat):ZU (List.append [] b) n=ZU b n :=nr rfl
@[go_sem] def Xlo(o:Oper)(a b:List Oper):ZK (List.append (o :: a) b) 0=o.dst :=nr rfl
@[go_sem] def Xlp(o:Oper)(a b:List Oper)(n:Nat):ZK (List.append (o :: a) b) (n+1)=ZK (List.append a b) n :=nr rfl
@[go_sem] def Xlq(b:List Oper)(n:Nat):ZK (List.append [] b) n=ZK b n :=nr rfl
@[go_sem] def Xkd(cx:Cx)(ops:List Oper)(cs:List (Option (List Nat)))(st:St)(o:Oper)(a b:List Oper):Xx cx ops cs st (List.append (o :: a) b)=Xx cx ops cs st (o :: List.append a b) :=nr rfl
@[go_sem] def Xke(cx:Cx)(ops:List Oper)(cs:List (Option (List Nat)))(st:St)(b:List Oper):Xx cx ops cs st (List.append [] b)=Xx cx ops cs st b :=nr rfl
@[go_sem] def Xl6{α β γ:Type}(f:β->γ)(g:α->β)(xs:List α):List.take xs.length ((xs.map g).map f)=(xs.map g).map f :=List.take_of_length_le (by simp)
end Go.Vm
set_option autoImplicit false
namespace Go.Vm
open Go.ChangeShapes Go.WideShapes
inductive Sh
  | b | i (k:IntKind) | s | sl (r:List Sh)
def Xlr(g:TypeId->Option (List Sh))(P:Program):List Field->Nat->Option (List Sh)
  | [],_ => some []
  | f :: r,off => match g f.type with
    | some q => if f.offset=off/\P.cellsOf f.type=q.length then(match Xlr g P r (off+q.length) with
      | some l => some (q++l)
      | none => none) else none
    | none => none
def XjO(P:Program):Nat->TypeId->Option (List Sh)
  | 0,_ => none
  | n+1,t => match P.underlying t with
    | some .bool => some [.b]
    | some (.int k) => some [.i k]
    | some .string => some [.s]
    | some (.slice e) => match XjO P n e with
      | some (x :: r) => if P.cellsOf e=(x :: r).length then some [.sl (x :: r)] else none
      | _ => none
    | some (.struct fs) => match Xlr (XjO P n) P fs.toList 0 with
      | some l => if P.cellsOf t=l.length then some l else none
      | none => none
    | _ => none
inductive Xdj:Sh->AV->Prop
  | b {x:Bool}:Xdj .b (.b x)
  | i {k:IntKind} {n:Int} (h:(Lit.int k n).wf=true):Xdj (.i k) (.i k n)
  | s {x:ByteArray} (h:x.size<=maxLen):Xdj .s (.s x)
  | sl {r:List Sh} {es:List (List AV)} (hl:es.length<=maxLen) (hz:∀row∈es,row.length=r.length) (h:∀row∈es,∀(j:Nat) (sh:Sh) (a:AV),r[j]?=some sh->row[j]?=some a->Xdj sh a):Xdj (.sl r) (.sl .ro r.length es)
def Xex(r:List Sh)(row:List AV):Prop :=row.length=r.length/\∀(j:Nat) (sh:Sh) (a:AV),r[j]?=some sh->row[j]?=some a->Xdj sh a
def Xgk(w:World):CS :=λg k => ∃v,Xo w g k=some v
def XjP{w:World}{g k:Nat}(h:Xgk w g k):g<w.heap.size :=by
  obtain⟨v,hv⟩ :=h
  exact World.block_lt_of_cell? w ⟨g,k,none⟩ hv
def Uc(w:World)(shs:List Sh)(cs:List Value)(as:List AV):Prop :=cs.length=shs.length/\Xex shs as/\∀(j:Nat) (v:Value) (a:AV),cs[j]?=some v->as[j]?=some a->Rep w (Xgk w) v a nos
def Uc.one{w:World}{sh:Sh}{v:Value}{a:AV}(h:Xdj sh a)(hr:Rep w (Xgk w) v a nos):Uc w [sh] [v] [a] :=by
  refine⟨rfl,⟨rfl,λj q b hs hb => ?_⟩,λj u b hu hb => ?_⟩
  · rcases j with _ | j
    · simp only[List.getElem?_cons_zero,Option.some.injEq] at hs hb; subst hs hb; exact h
    · simp at hs
  · rcases j with _ | j
    · simp only[List.getElem?_cons_zero,Option.some.injEq] at hu hb; subst hu hb; exact hr
    · simp at hu
def UN{α:Type}{l r:List α}{j:Nat}{x:α}(h:(l++r)[j]?=some x):l[j]?=some x\/(l.length<=j/\r[j-l.length]?=some x) :=by
  by_cases hj:j<l.length
  · rw[List.getElem?_append_left hj] at h; exact .inl h
  · rw[List.getElem?_append_right (by omega)] at h; exact .inr ⟨by omega,h⟩
def Uc.app{w:World}{s1 s2:List Sh}{c1 c2:List Value}{a1 a2:List AV}(h1:Uc w s1 c1 a1)(h2:Uc w s2 c2 a2):Uc w (s1++s2) (c1++c2) (a1++a2) :=by
  obtain⟨l1,⟨m1,p1⟩,q1⟩ :=h1
  obtain⟨l2,⟨m2,p2⟩,q2⟩ :=h2
  refine⟨by simp[l1,l2],⟨by simp[m1,m2],λj q a hs ha => ?_⟩,λj v a hv ha => ?_⟩
  · rcases UN hs with hs | ⟨h0,hs⟩
    · have hlt :=(List.getElem?_eq_some_iff.1 hs).1
      rw[List.getElem?_append_left (by omega)] at ha
      exact p1 j q a hs ha
    · rw[List.getElem?_append_right (by omega),m1] at ha
      exact p2 _ q a hs ha
  · rcases UN hv with hv | ⟨h0,hv⟩
    · have hlt :=(List.getElem?_eq_some_iff.1 hv).1
      rw[List.getElem?_append_left (by omega)] at ha
      exact q1 j v a hv ha
    · rw[List.getElem?_append_right (by omega),m1,<-l1] at ha
      exact q2 _ v a hv ha
def XkY{a:Addr}(h:a.spot=none)(n:Nat):a.add n=⟨a.block,a.off+n,none⟩ :=by
  unfold Addr.add
  split
  · rename_i h0; subst h0; cases a; simp only at h; subst h; rfl
  · cases a; rfl
section
variable {H : Type} {enc : TypeId × Value -> H} {P : Program} {w : World}
def Xey(n:Nat):∀{fuel:Nat} {t:TypeId} {cs:List Value} {x:DataW H×List MemPlace} {shs:List Sh},DataW.trod enc P w 0 (λ_ => true) true fuel t cs=some x->XjO P n t=some shs->∃as,Uc w shs cs as :=by
  induction n with
  | zero => intro fuel t cs x shs _ h; cases h
  | succ n ih =>
    intro fuel t cs x shs ht hs
    unfold XjO at hs
    split at hs
    · rename_i hu
      injection hs with hs; subst hs
      obtain⟨b,rfl,_⟩ :=DataW.trod_bool hu ht
      exact⟨_,Uc.one .b .b⟩
    · rename_i k hu
      injection hs with hs; subst hs
      obtain⟨m,rfl,_,hwf⟩ :=DataW.trod_int hu ht
      exact⟨_,Uc.one (.i hwf) .i⟩
    · rename_i hu
      injection hs with hs; subst hs
      obtain⟨s,rfl,_,hsz⟩ :=DataW.trod_string hu ht
      exact⟨_,Uc.one (.s hsz) .s⟩
    · rename_i e hu
      split at hs
      · rename_i x0 r hr
        split at hs
        · rename_i hce
          injection hs with hs; subst hs
          rcases Go.Deep.open_slice hu ht with⟨rfl,_⟩ | ⟨a,len,cap,m,n',D,Pl,rfl,_,hl,hm,hmm,_,hi⟩
          · refine⟨_,Uc.one (.sl (es :=[]) (Nat.zero_le _) (λ_ h => by cases h) (λ_ h => by cases h)) ?_⟩
            exact .sl 0 0 (λ_ _ => undef) (λ_ _ => nos) rfl (Nat.le_refl _) (by simp) (λh => absurd h (by omega)) (λi row hi => by simp at hi) (λi row j a hi => by simp at hi) (λi row j a hi => by simp at hi)
              ⟨(λe => by cases e),(λe => by cases e),(λe => absurd rfl e),λ_ k hk => absurd hk (by simp)⟩ (λ_ _ => Xm _) (λ_ _ _ _ _ => Xe _) (λe => by cases e) (λ_ _ _ => rfl)
          · simp only[if_true] at hmm
            subst hmm
            generalize hzz:(x0 :: r).length=z at hce
            have hz0:0<z :=by rw[<-hzz]; simp
            rw[hce] at hi
            have hsp:0<m->a.spot=none :=by
              intro h0
              obtain⟨cs',h1,_⟩ :=hi 0 h0
              obtain⟨_,h3,h4⟩ :=World.cells?_some h1
              have :=h4 0 hz0
              rw[List.getElem?_eq_getElem (by omega),Nat.zero_mul] at this
              unfold World.cell? at this
              simp only[Addr.add,if_true] at this
              split at this
              · cases hs:a.spot with
                | none => rfl
                | some q => rw[hs] at this; simp at this
              · cases this
            have hrow:∀i,i<len->∃p:List Value×List AV,(∀j,j<z->Xo w a.block (a.off+(i*z+j))=p.1[j]?)/\Uc w (x0 :: r) p.1 p.2 :=by
              intro i hil
              obtain⟨cs',h1,h2⟩ :=hi i (by omega)
              obtain⟨as,h3⟩ :=ih h2 hr
              obtain⟨_,_,h6⟩ :=World.cells?_some h1
              refine⟨(cs',as),λj hj => ?_,h3⟩
              have :=h6 j hj
              rw[Go.Deep.add_add,XkY (hsp (by omega))] at this
              exact this
            obtain⟨f,hf⟩ :=Go.Deep.choose_lt hrow
            let es:List (List AV) :=(List.range len).map λi => (f i).2
            have hes:∀(i:Nat) (row:List AV),es[i]?=some row->i<len/\row=(f i).2 :=by
              intro i row h
              have hlt:i<len :=Decidable.byContradiction λhn => by
                rw[List.getElem?_eq_none (by simp only[es,List.length_map,List.length_range]; omega)] at h
                cases h
              simp only[es,List.getElem?_map,List.getElem?_range hlt,Option.map_some,Option.some.injEq] at h
              exact⟨hlt,h.symm⟩
            have hmem:∀row∈es,∃i,i<len/\row=(f i).2 :=by
              intro row h
              obtain⟨i,h⟩ :=List.getElem?_of_mem h
              exact⟨i,hes i row h⟩
            have hcell:∀i j,i<len->j<z->Xo w a.block (a.off+(i*z+j))=some ((f i).1.getD j undef) :=by
              intro i j h1 h2
              obtain⟨q1,q2,_⟩ :=hf i h1
              rw[q1 j h2,List.getD_eq_getElem?_getD,List.getElem?_eq_getElem (by rw[q2,hzz]; exact h2)]
              rfl
            refine⟨_,Uc.one (.sl (es :=es) (by simp only[es,List.length_map,List.length_range]; omega) (λrow h => ?_) (λrow h => ?_)) ?_⟩
            · obtain⟨i,h1,rfl⟩ :=hmem row h
              exact(hf i h1).2.2.1.1
            · obtain⟨i,h1,rfl⟩ :=hmem row h
              exact(hf i h1).2.2.1.2
            · rw[hzz]
              have hM:maxLen=9223372036854775807 :=rfl
              refine .sl a.block a.off (λi j => (f i).1.getD j undef) (λ_ _ => nos) (by simp[es]) hl (by omega) (λh0 => ?_) (λi row h => ?_) (λi row j b h hj => ?_) (λi row j b h hj => ?_)
                ⟨(λe => by cases e),(λe => by cases e),(λe => absurd rfl e),λ_ k hk => ?_⟩ (λ_ _ => Xm _) (λ_ _ _ _ _ => Xe _) (λe => by cases e) (λ_ _ _ => rfl)
              · have :=hsp h0
                cases a; simp only at this; subst this; rfl
              · obtain⟨h1,rfl⟩ :=hes i row h
                rw[<-hzz]; exact(hf i h1).2.2.1.1
              · obtain⟨h1,rfl⟩ :=hes i row h
                have hlt :=(List.getElem?_eq_some_iff.1 hj).1
                rw[(hf i h1).2.2.1.1,hzz] at hlt
                exact hcell i j h1 hlt
              · obtain⟨h1,rfl⟩ :=hes i row h
                have hlt :=(List.getElem?_eq_some_iff.1 hj).1
                obtain⟨_,q2,q3,q4⟩ :=hf i h1
                rw[q3.1] at hlt
                refine q4 j _ b ?_ hj
                rw[List.getD_eq_getElem?_getD,List.getElem?_eq_getElem (by rw[q2]; exact hlt)]
                rfl
              · have h1:k / z<len :=by rw[Nat.div_lt_iff_lt_mul hz0]; exact hk
                have h2:k%z<z :=Nat.mod_lt _ hz0
                have :=hcell (k / z) (k%z) h1 h2
                rw[Nat.mul_comm,Nat.div_add_mod] at this
                exact⟨_,this⟩
        · cases hs
      · cases hs
    · rename_i fs hu
      obtain⟨xs,n',rfl,_,hlen,hxl,hi⟩ :=DataW.trod_struct hu ht
      split at hs
      · rename_i l hl
        split at hs
        · rename_i hcl
          injection hs with hs; subst hs
          have key:∀(fl:List Field) (off:Nat) (l:List Sh),Xlr (XjO P n) P fl off=some l->(∀f∈fl,∃y,DataW.trod enc P w 0 (λ_ => true) true n' f.type ((cs.drop f.offset).take (P.cellsOf f.type))=some y)->∃as,Uc w l ((cs.drop off).take l.length) as :=by
            intro fl
            induction fl with
            | nil =>
              intro off l h _
              injection h with h; subst h
              exact⟨[],by simp,⟨rfl,λj q a h => by simp at h⟩,λj v a h => by simp at h⟩
            | cons f fl ihf =>
              intro off l h hy
              unfold Xlr at h
              split at h
              · rename_i s hfs
                split at h
                · rename_i hc
                  obtain⟨rfl,hc2⟩ :=hc
                  split at h
                  · rename_i l' hl'
                    injection h with h; subst h
                    obtain⟨y,hyy⟩ :=hy f (by simp)
                    obtain⟨a1,h1⟩ :=ih hyy hfs
                    obtain⟨a2,h2⟩ :=ihf _ _ hl' (λg hg => hy g (by simp[hg]))
                    refine⟨a1++a2,?_⟩
                    have e:(cs.drop f.offset).take (s++l').length=(cs.drop f.offset).take (P.cellsOf f.type)++(cs.drop (f.offset+s.length)).take l'.length :=by
                      rw[List.length_append,List.take_add,List.drop_drop,hc2]
                    rw[e]
                    exact h1.app h2
                  · cases h
                · cases h
              · cases h
          obtain⟨as,h⟩ :=key fs.toList 0 l hl (λf hf => by
            obtain⟨i,hi'⟩ :=List.getElem?_of_mem hf
            have hi2:fs[i]?=some f :=by simpa using hi'
            have :=hi i f hi2
            have hlt:i<fs.size :=(Array.getElem?_eq_some_iff.1 hi2).1
            rw[List.getElem?_eq_getElem (by omega)] at this
            exact⟨_,this⟩)
          rw[List.drop_zero,List.take_of_length_le (by omega)] at h
          exact⟨as,h⟩
        · cases hs
      · cases hs
    · cases hs
end
def Xex.cons{sh:Sh}{r:List Sh}{row:List AV}(h:Xex (sh :: r) row):∃a row',row=a :: row'/\Xdj sh a/\Xex r row' :=by
  obtain⟨h1,h2⟩ :=h
  cases row with
  | nil => simp at h1
  | cons a row => exact⟨a,row,rfl,h2 0 sh a rfl rfl,by simpa using h1,λj q b hs hb => h2 (j+1) q b (by simpa using hs) (by simpa using hb)⟩
def Xex.nil{row:List AV}(h:Xex [] row):row=[] :=List.length_eq_zero_iff.1 h.1
def Xdj.bool{a:AV}(h:Xdj .b a):∃x:Bool,a=.b x/\True :=by cases h; exact⟨_,rfl,trivial⟩
def Xdj.int{a:AV}(h:Xdj (.i .i64) a):∃x:Int,a=.i .i64 x/\(-9223372036854775808<=x/\x<=9223372036854775807) :=by
  cases h with
  | i h =>
    refine⟨_,rfl,?_⟩
    simp only[Lit.wf,Bool.and_eq_true,decide_eq_true_eq,IntKind.min,IntKind.max,IntKind.signed,IntKind.bits] at h
    simpa using h
def Xdj.str{a:AV}(h:Xdj .s a):∃x:ByteArray,a=.s x/\x.size<=9223372036854775807 :=by cases h with | s h => exact⟨_,rfl,h⟩
section
variable {H : Type} {enc : TypeId × Value -> H} {P : Program} {w : World}
def XjQ{r:Reach}{base:Nat}{t:TypeId}{v:Value}{d:DataW H}{p:List MemPlace}(n:Nat){u:TypeDesc}(hu:P.underlying t=some u)(hn:∀fs,u≠.struct fs){sh:Sh}(hs:XjO P n t=some [sh])(hval:Value.okWide P w r base t v)(hd:DataW.Trod enc P w 0 (λ_ => true) true t v d p) :
    ∃a,Xdj sh a/\Cl w (Xgk w) v a nos :=by
  obtain⟨fuel,hf⟩ :=hd
  obtain⟨as,h1⟩ :=Xey n hf hs
  have hc:v.cells.toList=[v] :=by
    cases n with
    | zero => cases hs
    | succ n =>
      unfold XjO at hs
      rw[hu] at hs
      cases u with
      | bool => obtain⟨b,rfl⟩ :=okWide_bool hu hval; rfl
      | int k => obtain⟨b,rfl⟩ :=okWide_int hu hval; rfl
      | string => obtain⟨b,rfl⟩ :=okWide_string hu hval; rfl
      | slice e => obtain⟨a,b,c,rfl⟩ :=okWide_slice hu hval; rfl
      | struct fs => exact absurd rfl (hn fs)
      | _ => cases hs
  rw[hc] at h1
  obtain⟨_,⟨h2,h3⟩,h4⟩ :=h1
  match as,h2 with
  | [a],_ => exact⟨a,h3 0 sh a rfl rfl,.leaf (.rep (h4 0 v a rfl rfl))⟩
end
def XhS{w w':World}(h:Vm.Frame w w' nos):Go.RowKit.Below w.heap.size w w' :=by
  refine⟨h.os,h.tape,h.output,h.size,λk hk => ?_⟩
  rcases h.block k hk with h1 | ⟨c,c',e,fr,h1,h2,h3,h4⟩
  · exact h1
  · rw[h1,h2]
    congr 2
    apply Array.ext_getElem?
    intro i
    exact h4 i (λh => h)
def XhT{P:Program}[HasTb P]{g:FuncId}{f:Func}{c:Code}{md:List Md}{F:List AV->Option (AV×List AV)}{wk:Bool}{W:World}{vs:List Value}{xs os:List AV}(hsp:Z3 P g ⟨md,F,wk⟩)(hro:md.all YO=true)(hF:F xs=some (.b true,os))(hl1:vs.length=md.length)(hl2:xs.length=md.length)
    (hargs : ∀ (j : Nat) (v : Value) (a : AV), vs[j]? = some v -> xs[j]? = some a -> Cl W (Xgk W) v a nos) (hf : P.funcs[g]? = some f) (hname : ¬ f.name = "runtime.NumGoroutine") (hb : f.body = some c) (hT : Tb P (Xgk W) W) :
    Calls P g vs.toArray W λe w' => e=.returned (.bool true)/\Go.RowKit.Below W.heap.size W w' :=by
  have h :=hsp W (Xgk W) vs xs (λ_ => nos) (.b true) os hF hl1 hl2 (λj m v a hm hv ha => by
    have :=List.all_eq_true.1 hro m (List.mem_of_getElem? hm)
    cases m with
    | ro n => exact hargs j v a hv ha
    | _ => cases this) (λ_ _ _ => Xe _) (λ_ => Xe _) (λ_ _ _ h => h.elim) (λ_ _ h => XjP h) hT
  rcases h with⟨v,w',h1,_⟩ | ⟨_,h2⟩
  · exfalso
    have:(callFunc g vs.toArray).run P W=.ok (.enter g vs.toArray) W :=by simp[callFunc,hf,hname,hb]
    rw[this] at h1
    cases h1
  · intro cs
    obtain⟨e,w',fr,k1,k2⟩ :=h2 cs
    refine⟨e,w',fr,?_,k2⟩
    cases e with
    | returned v =>
      obtain⟨Im',S,Of,b,_⟩ :=k1
      have hv:v=.bool true :=by
        have :=b.res
        cases this with
        | leaf h => cases h with
          | rep h => cases h; rfl
      exact⟨by rw[hv],XhS (b.frame.mono (λg k ⟨j,hb⟩ => hb))⟩
    | panicked => exact k1.elim
    | outgrown => exact k1.elim
def XkZ{P:Program}[HasTb P]{s:SP P}{f:Func}{c:Code}{W:World}{vs:List Value}{xs os:List AV}(hF:s.F xs=some (.b true,os))(hro:s.fs.md.all YO=true)(hl1:vs.length=s.fs.md.length)(hl2:xs.length=s.fs.md.length)
    (hargs : ∀ (j : Nat) (v : Value) (a : AV), vs[j]? = some v -> xs[j]? = some a -> Cl W (Xgk W) v a nos) (hf : P.funcs[s.g]? = some f) (hname : ¬ f.name = "runtime.NumGoroutine") (hb : f.body = some c) (hT : Tb P (Xgk W) W) :
    Calls P s.g vs.toArray W λe w' => e=.returned (.bool true)/\Go.RowKit.Below W.heap.size W w' :=XhT (md :=s.fs.md) (F :=s.fs.F) (wk :=s.fs.wk) s.ok hro hF hl1 hl2 hargs hf hname hb hT
end Go.Vm
set_option autoImplicit false
namespace Go.Vm
def mkL{α:Type}(f:α->Int->α×Int):List α->Int->List α×Int
  | [],k => ([],k)
  | x :: xs,k => ((f x k).1 :: (mkL f xs (f x k).2).1,(mkL f xs (f x k).2).2)
def Xbc{α:Type}{f:α->Int->α×Int}(hf:∀x k,k+1<=(f x k).2):∀(xs:List α) (k:Int),k<=(mkL f xs k).2
  | [],k => Int.le_refl k
  | x :: xs,k => by
    have h1 :=hf x k
    have h2 :=Xbc hf xs (f x k).2
    simp only[mkL]; omega
def Xk0{α:Type}{f:α->Int->α×Int}{p:α->Prop}{c:Nat}(hf:∀x k,p x->(f x k).2<=k+c)(xs:List α)(k:Int)(h:xs.length<=1048576/\∀x∈xs,p x):(mkL f xs k).2<=k+(c*1048576:Nat) :=by
  have key:∀(xs:List α) (k:Int),(∀x∈xs,p x)->(mkL f xs k).2<=k+(c*xs.length:Nat) :=by
    intro xs
    induction xs with
    | nil => intro k _; simp[mkL]
    | cons x xs ih =>
      intro k h
      have h1 :=hf x k (h x (by simp))
      have h2 :=ih (f x k).2 (λy hy => h y (by simp[hy]))
      simp only[mkL,List.length_cons]
      rw[Nat.mul_succ]
      omega
  have h1 :=key xs k h.2
  have h2:c*xs.length<=c*1048576 :=Nat.mul_le_mul_left c h.1
  omega
def YA{α:Type}{f:α->Int->α×Int}:∀(xs:List α) (k:Int),(mkL f xs k).1.length=xs.length
  | [],k => rfl
  | x :: xs,k => by simp only[mkL,List.length_cons,YA xs]
def UW{α:Type}{f:α->Int->α×Int}:∀(xs:List α) (k:Int) (y:α),mkL f (xs++[y]) k=((mkL f xs k).1++[(f y (mkL f xs k).2).1],(f y (mkL f xs k).2).2)
  | [],k,y => rfl
  | x :: xs,k,y => by simp only[List.cons_append,mkL,UW xs,List.cons_append]
def Xdk{α:Type}{f:α->Int->α×Int}:∀(xs ys:List α) (k:Int),mkL f (xs++ys) k=((mkL f xs k).1++(mkL f ys (mkL f xs k).2).1,(mkL f ys (mkL f xs k).2).2)
  | [],ys,k => rfl
  | x :: xs,ys,k => by simp only[List.cons_append,mkL,Xdk xs]
def Xdl{α:Type}(f:α->Int->α×Int)(xs:List α)(k:Int)(i:Nat):Int :=(mkL f (xs.take i) k).2
def Xcn{α:Type}(f:α->Int->α×Int)(xs:List α)(k:Int)(i:Nat):List α :=(mkL f (xs.take i) k).1++xs.drop i
def XdK{α:Type}{f:α->Int->α×Int}(xs:List α)(k:Int):Xdl f xs k xs.length=(mkL f xs k).2 :=by simp[Xdl]
def Xaw{α:Type}{f:α->Int->α×Int}(xs:List α)(k:Int)(i:Nat)(h:i<xs.length):Xdl f xs k (i+1)=(f xs[i] (Xdl f xs k i)).2 :=by
  simp only[Xdl]
  rw[List.take_succ_eq_append_getElem h,UW]
def Xf2{α:Type}{f:α->Int->α×Int}(hf:∀x k,k+1<=(f x k).2)(xs:List α)(k:Int)(i:Nat):k<=Xdl f xs k i :=Xbc hf _ _
def Xf3{α:Type}{f:α->Int->α×Int}(hf:∀x k,k+1<=(f x k).2)(xs:List α)(k:Int)(i:Nat)(h:i<xs.length):(f xs[i] (Xdl f xs k i)).2<=(mkL f xs k).2 :=by
  rw[<-Xaw xs k i h]
  have :=Xdk (f :=f) (xs.take (i+1)) (xs.drop (i+1)) k
  rw[List.take_append_drop] at this
  rw[this]
  exact Xbc hf _ _
def Xf4{α:Type}{f:α->Int->α×Int}(xs:List α)(k:Int):Xcn f xs k 0=xs :=rfl
def XhU{α:Type}{f:α->Int->α×Int}(xs:List α)(k:Int):Xcn f xs k xs.length=(mkL f xs k).1 :=by simp[Xcn]
def UX{α:Type}{f:α->Int->α×Int}(xs:List α)(k:Int)(i:Nat):(Xcn f xs k i).length=xs.length :=by simp[Xcn,YA]; omega
def Xco{α:Type}{f:α->Int->α×Int}(g:α->List AV)(xs:List α)(k:Int)(i:Nat):((Xcn f xs k i).map g).take xs.length=(Xcn f xs k i).map g :=List.take_of_length_le (by rw[List.length_map,UX]; exact Nat.le_refl _)
def XhV{α:Type}{f:α->Int->α×Int}(g:α->List AV)(xs:List α)(k:Int):((mkL f xs k).1.map g).take xs.length=(mkL f xs k).1.map g :=List.take_of_length_le (by rw[List.length_map,YA]; exact Nat.le_refl _)
def XdL{α:Type}{f:α->Int->α×Int}(g:α->List AV)(xs:List α)(k:Int)(i:Nat)(h:i<xs.length):((Xcn f xs k i).map g)[i]?=some (g xs[i]) :=by
  simp only[Xcn,List.map_append]
  rw[List.getElem?_append_right (by simp[YA]; omega)]
  simp only[List.length_map,YA,List.length_take]
  rw[show i-min i xs.length=0 by omega,List.drop_eq_getElem_cons h]; rfl
def Xf5{α:Type}{f:α->Int->α×Int}(g:α->List AV)(xs:List α)(k:Int)(i:Nat)(h:i<xs.length):((Xcn f xs k i).map g).getD i []=g xs[i] :=by
  rw[List.getD_eq_getElem?_getD,XdL g xs k i h]; rfl
def XhW{α:Type}{f:α->Int->α×Int}(g:α->List AV)(xs:List α)(k:Int)(i:Nat)(h:i<xs.length):((Xcn f xs k i).map g).set i (g (f xs[i] (Xdl f xs k i)).1)=(Xcn f xs k (i+1)).map g :=by
  simp only[Xcn,Xdl,List.map_append]
  rw[List.set_append_right _ _ (by simp[YA]; omega)]
  simp only[List.length_map,YA,List.length_take]
  rw[show i-min i xs.length=0 by omega,List.drop_eq_getElem_cons h,List.take_succ_eq_append_getElem h,UW,List.map_cons,List.set_cons_zero,List.map_append]
  simp
def XjR{α:Type}(l:List α)(i:Nat)(y:α)(h:i<l.length):(l.set i y)[i]?=some y :=by simp[h]
def XhX(l:List (List AV))(i:Nat)(y:List AV)(h:i<l.length):(l.set i y).getD i []=y :=by simp[h]
@[go_sem] def Xls{α:Type}(l:List α)(i:Nat)(y z:α):(l.set i y).set i z=l.set i z :=by simp
@[go_sem] def Xlt{α:Type}(l:List α)(i:Nat)(y:α):(l.set i y).length=l.length :=by simp
def XjS{α:Type}{f:α->Int->α×Int}(xs:List α)(k:Int)(i:Nat)(h:i<xs.length):(mkL f xs k).1[i]'(by rw[YA]; exact h)=(f xs[i] (Xdl f xs k i)).1 :=by
  have e :=Xdk (f :=f) (xs.take (i+1)) (xs.drop (i+1)) k
  rw[List.take_append_drop] at e
  have e2:(mkL f xs k).1[i]?=some (f xs[i] (Xdl f xs k i)).1 :=by
    rw[e,List.take_succ_eq_append_getElem h,UW]
    simp only[Xdl]
    rw[List.getElem?_append_left (by simp[YA]; omega),List.getElem?_append_right (by simp[YA]; omega)]
    simp only[YA,List.length_take]
    rw[show i-min i xs.length=0 by omega]; rfl
  rw[List.getElem?_eq_getElem (by rw[YA]; exact h)] at e2
  injection e2
def Xk1{α:Type}{f:α->Int->α×Int}(g:α->List AV)(xs:List α)(k:Int)(i:Nat)(h:i<xs.length):((mkL f xs k).1.map g).getD i []=g (f xs[i] (Xdl f xs k i)).1 :=by
  rw[UM g _ i (by rw[YA]; exact h),XjS xs k i h]
def mkB(k:Int):UInt8 :=UInt8.ofNat (k%256).toNat
def Xf6(k:Int):(IntKind.u8).wrap k=((mkB k).toNat:Int) :=by
  have h:(k%256).toNat<256 :=by omega
  simp only[mkB,UInt8.toNat_ofNat']
  simp[IntKind.wrap,IntKind.bits,IntKind.signed]
  omega
def Xdm{α:Type}{f:α->Int->α×Int}(hf:∀x k,k+1<=(f x k).2):∀(xs:List α) (k:Int),k+xs.length<=(mkL f xs k).2
  | [],k => by simp[mkL]
  | x :: xs,k => by
    have h1 :=hf x k
    have h2 :=Xdm hf xs (f x k).2
    simp only[mkL,List.length_cons]; omega
def Xcw:Nat->Int->ByteArray->ByteArray
  | 0,_,s => s
  | n+1,k,s => if k>0 then Xcw n (k.tdiv 10) (ByteArray.mk #[UInt8.ofNat ((48+k.tmod 10)%256).toNat]++s) else s
def Xf7(k:Int):ByteArray :=if k<=0 then⟨#[109,48]⟩ else⟨#[109]⟩++Xcw k.toNat k ⟨#[]⟩
def Yi(_:ByteArray)(k:Int):ByteArray×Int :=(Xf7 k,k+1)
def Zm(x:ByteArray)(k:Int):k+1<=(Yi x k).2 :=by simp only[Yi]; omega
def XhY(x:ByteArray)(k:Int)(p:Prop)(_:p):(Yi x k).2<=k+(1:Nat) :=by simp[Yi]
def Xcp:∀(n:Nat) (k:Int) (s:ByteArray),(Xcw n k s).size<=s.size+n
  | 0,k,s => by simp[Xcw]
  | n+1,k,s => by
    simp only[Xcw]
    split
    · have :=Xcp n (k.tdiv 10) (ByteArray.mk #[UInt8.ofNat ((48+k.tmod 10)%256).toNat]++s)
      rw[ByteArray.size_append] at this
      have e:(ByteArray.mk #[UInt8.ofNat ((48+k.tmod 10)%256).toNat]).size=1 :=rfl
      omega
    · omega
def Xcq:∀(n m:Nat) (k:Int) (s:ByteArray),k.toNat<=n->k.toNat<=m->Xcw n k s=Xcw m k s
  | 0,0,_,_,_,_ => rfl
  | 0,m+1,k,s,h,_ => by simp only[Xcw]; rw[if_neg (by omega)]
  | n+1,0,k,s,_,h => by simp only[Xcw]; rw[if_neg (by omega)]
  | n+1,m+1,k,s,h1,h2 => by
    simp only[Xcw]
    split
    · have:k.tdiv 10=k / 10 :=Int.tdiv_eq_ediv_of_nonneg (by omega)
      exact Xcq n m _ _ (by omega) (by omega)
    · rfl
end Go.Vm
set_option autoImplicit false
namespace Go.Vm
def Cl.str{w:World}{Im:CS}{v:Value}{x:ByteArray}{S:CS}(h:Cl w Im v (.s x) S):v=.string x :=by
  cases h with
  | leaf h => cases h with
    | rep h => cases h; rfl
def Cl.int{w:World}{Im:CS}{v:Value}{k:IntKind}{n:Int}{S:CS}(h:Cl w Im v (.i k n) S):v=.int k n :=by
  cases h with
  | leaf h => cases h with
    | rep h => cases h; rfl
def Xy3:List AV->Option (AV×List AV)
  | [.s s,.i .u8 c] => some (.i .i64 (Lib.indexByte s.data.toList c.toNat.toUInt8),[.u,.u])
  | _ => none
@[go_sem] def Xl7(s:ByteArray)(c:Int):Xy3 [.s s,.i .u8 c]=some (.i .i64 (Lib.indexByte s.data.toList c.toNat.toUInt8),[.u,.u]) :=nr rfl
def XaM {P : Program} {g : FuncId} {fn : Func} {c : Code} (hf : P.funcs[g]? = some fn) (hname : (fn.name == "runtime.NumGoroutine") = false) (hb : fn.body = some c) {args : Array Value} (w : World) : (callFunc g args).run P w = .ok (.enter g args) w := by
  have h1 : fn.name ≠ "runtime.NumGoroutine" := by simpa using hname
  simp[callFunc,hf,h1,hb,Sem.run]
@[go_sem] def XmZ:((2:Nat):Int)=2 :=nr rfl
@[go_sem] def Xm0:((3:Nat):Int)=3 :=nr rfl
@[go_sem] def Xm1:((4:Nat):Int)=4 :=nr rfl
@[go_sem] def Xm2:((5:Nat):Int)=5 :=nr rfl
@[go_sem] def Xm3:((6:Nat):Int)=6 :=nr rfl
@[go_sem] def Xm4:((7:Nat):Int)=7 :=nr rfl
@[go_sem] def Xm5:((8:Nat):Int)=8 :=nr rfl
@[go_sem] def Xl8:YJ 1 0=some 0 :=nr rfl
@[go_sem] def Xl9:YJ 2 0=some 0 :=nr rfl
@[go_sem] def Xma:YJ 2 1=some 1 :=nr rfl
@[go_sem] def Xmb:YJ 3 0=some 0 :=nr rfl
@[go_sem] def Xmc:YJ 3 1=some 1 :=nr rfl
@[go_sem] def Xmd:YJ 3 2=some 2 :=nr rfl
@[go_sem] def Xme:YJ 4 0=some 0 :=nr rfl
@[go_sem] def Xmf:YJ 4 1=some 1 :=nr rfl
@[go_sem] def Xmg:YJ 4 2=some 2 :=nr rfl
@[go_sem] def Xmh:YJ 4 3=some 3 :=nr rfl
@[go_sem] def Xmi:YJ 5 0=some 0 :=nr rfl
@[go_sem] def Xmj:YJ 5 1=some 1 :=nr rfl
@[go_sem] def Xmk:YJ 5 2=some 2 :=nr rfl
@[go_sem] def Xml:YJ 5 3=some 3 :=nr rfl
@[go_sem] def Xmm:YJ 5 4=some 4 :=nr rfl
@[go_sem] def Xmn:YJ 6 0=some 0 :=nr rfl
@[go_sem] def Xmo:YJ 6 1=some 1 :=nr rfl
@[go_sem] def Xmp:YJ 6 2=some 2 :=nr rfl
@[go_sem] def Xmq:YJ 6 3=some 3 :=nr rfl
@[go_sem] def Xmr:YJ 6 4=some 4 :=nr rfl
@[go_sem] def Xms:YJ 6 5=some 5 :=nr rfl
@[go_sem] def Xmt:YJ 7 0=some 0 :=nr rfl
@[go_sem] def Xmu:YJ 7 1=some 1 :=nr rfl
@[go_sem] def Xmv:YJ 7 2=some 2 :=nr rfl
@[go_sem] def Xmw:YJ 7 3=some 3 :=nr rfl
@[go_sem] def Xmx:YJ 7 4=some 4 :=nr rfl
@[go_sem] def Xmy:YJ 7 5=some 5 :=nr rfl
@[go_sem] def Xmz:YJ 7 6=some 6 :=nr rfl
@[go_sem] def XmA:YJ 8 0=some 0 :=nr rfl
@[go_sem] def XmB:YJ 8 1=some 1 :=nr rfl
@[go_sem] def XmC:YJ 8 2=some 2 :=nr rfl
@[go_sem] def XmD:YJ 8 3=some 3 :=nr rfl
@[go_sem] def XmE:YJ 8 4=some 4 :=nr rfl
@[go_sem] def XmF:YJ 8 5=some 5 :=nr rfl
@[go_sem] def XmG:YJ 8 6=some 6 :=nr rfl
@[go_sem] def XmH:YJ 8 7=some 7 :=nr rfl
def XmI:List AV->Option (AV×List AV)
  | [.nil,.i .i64 0] => some (.nil,[.u,.u])
  | _ => none
@[go_sem] def Xlu:XmI [.nil,.i .i64 0]=some (.nil,[.u,.u]) :=nr rfl
end Go.Vm
set_option autoImplicit false
namespace Go.Vm
@[go_sem] def XjT(z:Nat)(es:List (List AV)):plain (.sl .mut z es)=false :=nr rfl
@[go_sem] def XjU(z:Nat)(es:List (List AV)):plain (.sl .app z es)=false :=nr rfl
def Xk2(z bytes:Nat):List AV->Option (AV×List AV)
  | [.nil,.i .i64 n] => if 0<=n/\n*bytes<=140737488355328/\n<=4611686018427387904 then some (.sl .mut z [],[.u,.u]) else none
  | _ => none
@[go_sem] def Xk3(z bytes:Nat)(n:Int):Xk2 z bytes [.nil,.i .i64 n]=if 0<=n/\n*bytes<=140737488355328/\n<=4611686018427387904 then some (.sl .mut z [],[.u,.u]) else none :=nr rfl
def Xm6(n:Int):ByteArray :=⟨(Lib.itoa n).toArray⟩
def Xy4:List AV->Option (AV×List AV)
  | [.i .i64 n,.i .i64 10] => if -9223372036854775808<=n/\n<=9223372036854775807 then some (.s (Xm6 n),[.u,.u]) else none
  | _ => none
@[go_sem] def XmJ(n:Int):Xy4 [.i .i64 n,.i .i64 10]=if -9223372036854775808<=n/\n<=9223372036854775807 then some (.s (Xm6 n),[.u,.u]) else none :=nr rfl
end Go.Vm
set_option autoImplicit false
namespace Go.Vm
def XjV{w:World}{g k:Nat}{v:Value}(h:Xo w g k=some v):g<w.heap.size :=by
  unfold Xo World.cell? at h
  split at h
  · rename_i hc; exact(Array.getElem?_eq_some_iff.1 hc).1
  · cases h
end Go.Vm
set_option autoImplicit false
namespace Go.Vm
def XjW{w:World}{Im S:CS}{v:Value}{x:ByteArray}(h:Rep w Im v (.s x) S):v=.string x :=by cases h; rfl
end Go.Vm
set_option autoImplicit false
namespace Go.Vm
def Xez{P:Program}[HasTb P]{g:FuncId}{md:List Md}{F:List AV->Option (AV×List AV)}{wk:Bool}(hro:md.all YO=true)
    (h:∀(w:World) (Im:CS) (vs:List Value) (as:List AV) (r:AV) (os:List AV),F as=some (r,os)->vs.length=md.length->as.length=md.length ->
      (∀(j:Nat) (v:Value) (a:AV),vs[j]?=some v->as[j]?=some a->Cl w Im v a nos)->(∀g k,Im g k->g<w.heap.size)->Tb P Im w ->
      QS r=none/\(wk=false->XF r=false/\∀o∈os,XF o=false)/\Ans P g vs.toArray w λv w' => Frame w w' nos/\∃S:CS,Cl w' Im v r S/\∀g k,S g k->w.heap.size<=g/\g<w'.heap.size):Z3 P g ⟨md,F,wk⟩ :=by
  intro w Im vs as Sf r os hF hv ha harg hd hdI hin hI hT
  have hmd:∀(j:Nat) (m:Md),md[j]?=some m->YO m=true :=λj m hm => List.all_eq_true.1 hro m (List.mem_of_getElem? hm)
  obtain⟨h1,h2,h3⟩ :=h w Im vs as r os hF hv ha (λj v a hj hj' => by
    have hlt:j<md.length :=by rw[<-hv]; exact(List.getElem?_eq_some_iff.1 hj).1
    have hm :=List.getElem?_eq_getElem hlt
    have :=harg j _ v a hm hj hj'
    have h0 :=hmd j _ hm
    generalize md[j]=m at this h0
    cases m with
    | ro n => exact this
    | _ => cases h0) hI hT
  refine h3.mono λv w' ⟨hfr,S,hc,hS⟩ => ?_
  refine⟨Im,S,λ_ => nos,⟨hfr.mono (Xm _),Sub.rfl' _,λg k hx => .inl hx,λg k hx => Nat.lt_of_lt_of_le (hI g k hx) hfr.size,?_,λj m u o hm _ _ => ?_,λ_ _ _ => Xe _,λ_ => XP _,λb k hs hx => ?_,λ_ => Xe _,λg k hs => (hS g k hs).2,λ_ _ _ hx => hx.elim,λg k hs => .inr (hS g k hs).1,λ_ _ _ hx => hx.elim⟩,h2⟩
  · unfold Xbr; rw[h1]; exact hc
  · have h0 :=hmd j m hm
    cases m with
    | ro n => trivial
    | _ => cases h0
  · have :=hI b k hx
    have :=(hS b k hs).1
    omega
def tbm(g:Nat)(Im:CS)(w:World):Prop :=Im g 0/\∃m:Int,Xo w g 0=some (.int .i64 m)
def XhZ(g:Nat):∀{Im Im' L:CS} {w w':World},tbm g Im w->Sub Im Im'->Frame w w' L->XS Im L->tbm g Im' w' :=by
  intro Im Im' L w w' ⟨h1,m,h2⟩ hs hf hd
  have h3 :=hf.same (S :=λa b => a=g/\b=0) (λa b ⟨e1,e2⟩ hl => hd _ _ h1 (by rw[<-e1,<-e2]; exact hl)) (λa b ⟨e,_⟩ => by rw[e]; exact XjV h2) g 0 ⟨rfl,rfl⟩
  exact⟨hs _ _ h1,m,by rw[h3.1]; exact h2⟩
def Xk4{W:World}{g:Nat}(h:∃m:Int,W.cell? ⟨g,0,none⟩=some (.int .i64 m)):tbm g (Xgk W) W :=by
  obtain⟨m,hm⟩ :=h
  exact⟨⟨_,hm⟩,m,hm⟩
def Yj(t:ByteArray)(c:UInt8)(s:List ByteArray×Nat×Nat)(x:Option UInt8):List ByteArray×Nat×Nat :=if(x.getD c==c)=true then(s.1++[t.extract s.2.1 s.2.2],s.2.2+1,s.2.2+1) else(s.1,s.2.1,s.2.2+1)
def XaN(t:ByteArray):List (Option UInt8) :=t.data.toList.map some++[none]
def Xcx(t:ByteArray)(c:UInt8):List ByteArray :=((XaN t).foldl (λs x => Yj t c s x) ([],0,0)).1
def Z8(t:ByteArray):(XaN t).length=t.size+1 :=by simp[XaN]
def Xcr(t:ByteArray)(h:t.size<(XaN t).length):(XaN t)[t.size]=none :=by
  have:t.size=(t.data.toList.map some).length :=by simp
  simp only[XaN]
  rw[List.getElem_append_right (by omega)]
  simp
def XdM(t:ByteArray)(k:Nat)(h:k<t.size)(h':k<(XaN t).length):(XaN t)[k]=some (t.data[k]?.getD 0) :=by
  have hk:k<t.data.size :=h
  simp only[XaN]
  rw[List.getElem_append_left (by simpa using hk)]
  rw[Array.getElem?_eq_getElem hk]
  simp
def Xdn{a b:ByteArray}(h:a.data.toList=b.data.toList):a=b :=by
  cases a; cases b
  congr 1
  exact Array.ext' h
def ZC(t:ByteArray)(a b:Nat):(t.extract a b).data.toList=(t.data.toList.take b).drop a :=by
  have:(t.extract a b).data=t.data.extract a b :=by simp
  rw[this,Array.toList_extract,List.extract_eq_take_drop,List.drop_take]
def Xbd{c:UInt8}:∀{l:List UInt8},(∀b∈l,b≠c)->Lib.indexByte l c =-1
  | [],_ => rfl
  | b :: l,h => by
    unfold Lib.indexByte
    rw[if_neg (by simpa using h b (List.mem_cons_self ..)),Xbd (λx hx => h x (List.mem_cons_of_mem _ hx)),if_pos (by decide)]
def Xcs{c:UInt8}{r:List UInt8}:∀{l:List UInt8},(∀b∈l,b≠c)->Lib.indexByte (l++c :: r) c=l.length
  | [],_ => by rw[List.nil_append]; unfold Lib.indexByte; rw[if_pos (by simp)]; rfl
  | b :: l,h => by
    rw[List.cons_append]
    unfold Lib.indexByte
    rw[if_neg (by simpa using h b (List.mem_cons_self ..)),Xcs (λx hx => h x (List.mem_cons_of_mem _ hx)),if_neg (by simp<;>omega),List.length_cons]
    try rfl
def Xf8(t:ByteArray)(c:UInt8):∀(m k a:Nat) (out:List ByteArray),m=t.size-k->a<=k->k<=t.size->(∀b∈(t.data.toList.take k).drop a,b≠c) ->
    (((XaN t).drop k).foldl (λs x => Yj t c s x) (out,a,k)).1=out++Lib.splitB ⟨#[c]⟩ 0 (Lib.countB (t.extract a t.size) ⟨#[c]⟩) (t.extract a t.size) :=by
  intro m
  induction m with
  | zero =>
    intro k a out hm ha hk hno
    obtain rfl:k=t.size :=by omega
    have hl :=Z8 t
    rw[List.drop_eq_getElem_cons (by omega),Xcr t (by omega),List.drop_of_length_le (by omega)]
    simp only[List.foldl_cons,List.foldl_nil,Yj,Option.getD_none,beq_self_eq_true,if_true]
    have hix:Lib.indexB (t.extract a t.size) ⟨#[c]⟩ =-1 :=by
      show Lib.index (t.extract a t.size).data.toList [c] =-1
      rw[Lib.index_one,ZC]
      exact Xbd hno
    rw[Lib.splitB_miss _ _ _ _ hix]
  | succ m ih =>
    intro k a out hm ha hk hno
    have hl :=Z8 t
    have hkt:k<t.size :=by omega
    have hkd:k<t.data.toList.length :=hkt
    rw[List.drop_eq_getElem_cons (by omega),XdM t k hkt (by omega),List.foldl_cons]
    have hget:t.data[k]?.getD 0=t.data.toList[k] :=by
      have:k<t.data.size :=hkt
      rw[Array.getElem?_eq_getElem this]; rfl
    rw[hget]
    have htk:t.data.toList.take (k+1)=t.data.toList.take k++[t.data.toList[k]] :=by rw[List.take_add_one,List.getElem?_eq_getElem hkd]; rfl
    unfold Yj
    by_cases hc:t.data.toList[k]=c
    · rw[if_pos (by simpa using hc)]
      have h2 :=ih (k+1) (k+1) (out++[t.extract a k]) (by omega) (Nat.le_refl _) (by omega) (by rw[List.drop_of_length_le (by rw[List.length_take]; omega)]; intro b hb; cases hb)
      unfold Yj at h2
      rw[h2]
      have hix:Lib.indexB (t.extract a t.size) ⟨#[c]⟩=((k-a:Nat):Int) :=by
        show Lib.index (t.extract a t.size).data.toList [c]=_
        rw[Lib.index_one,ZC]
        have e:(t.data.toList.take t.size).drop a=(t.data.toList.take k).drop a++c :: t.data.toList.drop (k+1) :=by
          have hts:t.data.toList.take t.size=t.data.toList :=List.take_of_length_le (Nat.le_refl _)
          rw[hts,<-hc,<-List.drop_eq_getElem_cons hkd]
          conv => lhs; rw[<-List.take_append_drop k t.data.toList]
          rw[List.drop_append_of_le_length (by rw[List.length_take]; omega)]
        rw[e,Xcs hno,List.length_drop,List.length_take]
        congr 1; omega
      have hs1:(⟨#[c]⟩:ByteArray).size=1 :=rfl
      have hsz:(t.extract a t.size).size=t.size-a :=by simp
      have hts:t.data.toList.take t.size=t.data.toList :=List.take_of_length_le (Nat.le_refl _)
      have hlen:t.data.toList.length=t.size :=by simp
      have e1:(t.extract a t.size).extract (k-a+1) (t.extract a t.size).size=t.extract (k+1) t.size :=by
        apply Xdn
        rw[ZC,ZC,ZC,hsz,hts,List.take_of_length_le (by rw[List.length_drop,hlen]; exact Nat.le_refl _),List.drop_drop]
        congr 1; omega
      have e2:(t.extract a t.size).extract 0 (k-a+0)=t.extract a k :=by
        apply Xdn
        rw[ZC,ZC,ZC,hts,List.drop_zero,List.drop_take,Nat.add_zero]
      rw[Lib.countB_hit _ _ _ (by rw[hs1]; exact Nat.le_refl _) hix,hs1,e1,Nat.add_comm 1,Lib.splitB_hit _ _ _ _ _ hix,hs1,e1,e2]
      simp
    · rw[if_neg (by simpa using hc)]
      have h2 :=ih (k+1) a out (by omega) (by omega) (by omega) (by
        rw[htk,List.drop_append_of_le_length (by rw[List.length_take]; omega)]
        intro b hb
        rcases List.mem_append.1 hb with hb | hb
        · exact hno b hb
        · rw[List.mem_singleton.1 hb]; exact hc)
      unfold Yj at h2
      exact h2
def XeA(t:ByteArray)(c:UInt8):Lib.splitB ⟨#[c]⟩ 0 (Lib.countB t ⟨#[c]⟩) t=Xcx t c :=by
  have h :=Xf8 t c t.size 0 0 [] rfl (Nat.le_refl _) (Nat.zero_le _) (by intro b hb; simp at hb)
  have e:t.extract 0 t.size=t :=by simp
  rw[e,List.nil_append,List.drop_zero] at h
  exact h.symm
def Xkf(x:ByteArray):List AV :=[.s x]
def Xct:List AV->Option (AV×List AV)
  | [.s t,.s p] => if p.size=1/\t.size<=1048576 then some (.sl .mut 1 ((Xcx t (p.data[0]?.getD 0)).map Xkf),[.u,.u]) else none
  | _ => none
def Xcu:∀xs:List ByteArray,XU (xs.map Xkf)=false
  | [] => rfl
  | x :: xs => by rw[List.map_cons]; simp[XU,Xkf,X0,XF,Xcu xs]
def Xh0{p:ByteArray}(h:p.size=1):p=⟨#[p.data[0]?.getD 0]⟩ :=by
  apply Xdn
  have hp:p.data.toList.length=1 :=h
  match hl:p.data.toList,hp with
  | [b],_ =>
    have:p.data[0]?=some b :=by rw[<-Array.getElem?_toList,hl]; rfl
    rw[this]; rfl
def Xh1 {P : Program} [HasTb P] {g : FuncId} {fn : Func} {c : Code} (hf : P.funcs[g]? = some fn) (hname : (fn.name == "runtime.NumGoroutine") = false) (hb : fn.body = some c) {gM : Nat} {ty : TypeId}
    (htb:∀(Im:CS) (w:World),Tb P Im w->∃m:Int,w.cell? ⟨gM,0,none⟩=some (.int .i64 m))
    (h:∀(s sep:ByteArray) (m:Int) (w:World),s.size<4294967281->w.cell? ⟨gM,0,none⟩=some (.int .i64 m)->1<=sep.size->Calls P g #[.string s,.string sep] w λe w' =>
      e=.returned (.slice (some ⟨w.heap.size,0,none⟩) (Lib.countB s sep+1) (Lib.countB s sep+1))/\w'=w.alloc (.cells ((Lib.splitB sep 0 (Lib.countB s sep) s).map Value.string).toArray ty)):Z3 P g ⟨[.ro 1,.ro 1],Xct,false⟩ :=by
  refine Xez rfl λw Im vs as_ r os hF hv ha harg hI hT => ?_
  have hF:Xct as_=some (r,os) :=hF
  unfold Xct at hF
  split at hF
  rotate_left
  · cases hF
  rename_i t p hFF
  match vs,hv with
  | [v0,v1],_ =>
    split at hF
    rotate_left
    · cases hF
    rename_i hc
    injection hF with hF
    injection hF with e1 e2
    subst e1 e2
    refine⟨rfl,λ_ => ⟨by simp[XF,Xcu],λo ho => by simp at ho; subst ho; rfl⟩,?_⟩
    have str:∀{v:Value} {x:ByteArray},Cl w Im v (.s x) nos->v=.string x :=λhr => by
      cases hr with | leaf hr => cases hr with | rep hr => exact XjW hr
    obtain rfl :=str (harg 0 v0 _ rfl rfl)
    obtain rfl :=str (harg 1 v1 _ rfl rfl)
    refine .inr ⟨XaM hf hname hb w,λcs => ?_⟩
    obtain⟨m,hm⟩ :=htb Im w hT
    obtain⟨e',w',fr,⟨k1,k2⟩,k3⟩ :=h t p m w (by omega) hm (by omega) cs
    subst k1
    have hsp:Lib.splitB p 0 (Lib.countB t p) t=Xcx t (p.data[0]?.getD 0) :=by
      have :=XeA t (p.data[0]?.getD 0)
      rwa [<-Xh0 hc.1] at this
    have hlen:(Lib.splitB p 0 (Lib.countB t p) t).length=Lib.countB t p+1 :=Lib.splitB_all p (by omega) 0 _ t rfl
    rw[hsp] at k2 hlen
    refine⟨.returned _,w',fr,⟨?_,_,.leaf (.rep (Xag (g :=w.heap.size) (z :=1) (es :=(Xcx t (p.data[0]?.getD 0)).map Xkf) (by rw[List.length_map,hlen]) (Nat.le_refl _) ?_ (λk => (((Xcx t (p.data[0]?.getD 0)).map Value.string)[k]?).getD undef) (λk hk => ?_) (λk hk => ?_) (λi row hi => ?_) (λ_ _ => nos) (λi row j a hi hj => ?_) (λ_ _ _ _ _ => Xe _) (λ_ _ _ hx => hx))),λg' k hx => ?_⟩,k3⟩
    · rw[k2]; exact XN w _
    · have :=Lib.countB_le p (by omega) t.size t (Nat.le_refl _); omega
    · rw[k2,YM,List.getElem?_toArray,List.getElem?_eq_getElem (by rw[List.length_map,hlen]; omega)]; rfl
    · rw[k2]; exact⟨Yn _ _ _ _,λ_ q => Yn _ _ _ q⟩
    · rw[List.getElem?_map] at hi
      obtain⟨x,_,rfl⟩ :=Option.map_eq_some_iff.1 hi
      rfl
    · rw[List.getElem?_map] at hi
      obtain⟨x,hx,rfl⟩ :=Option.map_eq_some_iff.1 hi
      match j,hj with
      | 0,hj =>
        have ha':a=.s x :=by simpa[Xkf] using hj.symm
        subst ha'
        rw[Nat.mul_one,Nat.add_zero,List.getElem?_map,hx]
        exact .s
      | j+1,hj => simp[Xkf] at hj
    · rcases hx with hx | ⟨_,_,hx⟩
      · rw[show g'=w.heap.size from hx]
        refine⟨Nat.le_refl _,?_⟩
        rw[k2]
        show w.heap.size<(w.heap.push _).size
        rw[Array.size_push]; exact Nat.lt_succ_self _
      · exact hx.elim
end Go.Vm
set_option autoImplicit false
set_option maxRecDepth 100000
set_option maxHeartbeats 4000000
attribute [go_sem] Nat.add_zero Nat.zero_add List.contains_cons List.contains_nil List.elem_cons List.elem_nil List.length_cons List.length_nil List.map_cons List.map_nil List.all_cons List.all_nil List.any_cons List.any_nil List.getElem?_cons_zero List.getElem?_cons_succ List.getElem?_nil List.getD_cons_zero List.getD_cons_succ List.append_nil List.nil_append List.cons_append List.isEmpty_cons List.isEmpty_nil List.headD_cons List.headD_nil List.tail_cons List.tail_nil List.take_nil List.drop_nil Bool.and_true Bool.true_and Bool.or_false Bool.or_true Bool.false_or Bool.true_or Bool.not_true Bool.not_false Bool.and_false Bool.false_and Bool.false_eq_true Bool.true_eq_false Bool.and_self Bool.not_not decide_true decide_false decide_eq_true_eq beq_self_eq_true Nat.le_refl Nat.zero_le and_self true_and and_true false_and and_false or_true true_or if_true if_false Option.map_some Option.map_none Option.isSome_none Option.isSome_some eq_self_iff_true not_true_eq_false not_false_eq_true ne_eq Nat.not_lt_zero Nat.succ_ne_zero List.length_map List.set_cons_zero List.set_cons_succ gt_iff_lt ge_iff_le List.take_succ_cons List.take_zero List.drop_zero List.drop_succ_cons bne_self_eq_false
namespace Go.Vm
def Ud(b:UInt8):List AV :=[.i .u8 b.toNat]
def Yk(s:ByteArray):List AV :=[.s s]
def Xkg(n:Int):List AV :=[.i .i64 n]
def XeB(b:Bool):List AV :=[.b b]
@[go_sem] def Xk5(b:UInt8):Ud b=[.i .u8 b.toNat] :=nr rfl
@[go_sem] def Xlv(s:ByteArray):Yk s=[.s s] :=nr rfl
@[go_sem] def Xlw(n:Int):Xkg n=[.i .i64 n] :=nr rfl
@[go_sem] def Xk6(b:Bool):XeB b=[.b b] :=nr rfl
def Ym{α:Type}{f g:α->List AV}(h:∀a,Ya (f a)=g a):∀xs:List α,Xy (xs.map f)=xs.map g
  | [] => rfl
  | x :: xs => by simp only[List.map_cons,Xy,h,Ym h xs]
def YI{α:Type}{f:α->List AV}(h:∀a,X0 (f a)=false):∀xs:List α,XU (xs.map f)=false
  | [] => rfl
  | x :: xs => by simp only[List.map_cons,XU,h,YI h xs,Bool.or_self]
@[go_sem] def QM(xs:List UInt8):Xy (xs.map Ud)=xs.map Ud :=Ym (λa => by simp only[Ud,Ya,strip]) xs
@[go_sem] def XeC(xs:List ByteArray):Xy (xs.map Yk)=xs.map Yk :=Ym (λa => by simp only[Yk,Ya,strip]) xs
@[go_sem] def Xkh(xs:List Int):Xy (xs.map Xkg)=xs.map Xkg :=Ym (λa => by simp only[Xkg,Ya,strip]) xs
@[go_sem] def XjX(xs:List Bool):Xy (xs.map XeB)=xs.map XeB :=Ym (λa => by simp only[XeB,Ya,strip]) xs
@[go_sem] def Uw(xs:List UInt8):XU (xs.map Ud)=false :=YI (λa => by simp only[Ud,X0,XF,Bool.or_self]) xs
@[go_sem] def Xf9(xs:List ByteArray):XU (xs.map Yk)=false :=YI (λa => by simp only[Yk,X0,XF,Bool.or_self]) xs
@[go_sem] def Xk7(xs:List Int):XU (xs.map Xkg)=false :=YI (λa => by simp only[Xkg,X0,XF,Bool.or_self]) xs
@[go_sem] def Xki(xs:List Bool):XU (xs.map XeB)=false :=YI (λa => by simp only[XeB,X0,XF,Bool.or_self]) xs
@[go_sem] def Xk8(xs:List UInt8):U5 (xs.map Ud)=some xs :=Xbb xs
def XmK(s:ByteArray):Prop :=s.size<=9223372036854775807
def XjY(s:ByteArray):Prop :=s.size<=1048576
def XmL(_:Int):Prop :=True
def smL{α:Type}(p:α->Prop)(xs:List α):Prop :=xs.length<=1048576/\∀x∈xs,p x
def Xdo{α:Type}{xs ys:List α}(h:xs.length=ys.length):(xs.zip ys).length=xs.length :=by simp[h]
def Xga{α:Type}:∀{xs ys:List α} {u u':Unit},xs.length=ys.length->XbC (λ(x:α×α) (_:Unit) => !eqv x.1 x.2) (λ_ _ => ()) (xs.zip ys) u=.inl u'->eqv xs ys=true
  | [],[],_,_,_,_ => Ub _
  | x :: xs,y :: ys,u,u',hl,h => by
    simp only[List.zip_cons_cons,XbC] at h
    cases hc:eqv x y with
    | false => simp[hc] at h
    | true =>
      simp only[hc,Bool.not_true,Bool.false_eq_true,if_false] at h
      have :=YY.1 (Xga (by simpa using hl) h)
      rw[YY.1 hc,this]; exact Ub _
def Xgb{α:Type}:∀{xs ys:List α} {u:Unit} {p:(α×α)×Unit},xs.length=ys.length->XbC (λ(x:α×α) (_:Unit) => !eqv x.1 x.2) (λ_ _ => ()) (xs.zip ys) u=.inr p->eqv xs ys=false
  | [],[],_,_,_,h => by simp[XbC] at h
  | x :: xs,y :: ys,u,p,hl,h => by
    simp only[List.zip_cons_cons,XbC] at h
    cases he:eqv (x :: xs) (y :: ys) with
    | false => rfl
    | true =>
      have hh :=YY.1 he
      injection hh with h1 h2
      subst h1 h2
      simp only[Ub,Bool.not_true,Bool.false_eq_true,if_false] at h
      have :=Xgb rfl h
      rw[Ub] at this; cases this
def XjZ{α:Type}{xs ys:List α}(h:¬xs.length=ys.length):eqv xs ys=false :=by
  cases he:eqv xs ys with
  | false => rfl
  | true => exact absurd (congrArg List.length (YY.1 he)) h
def Xy5(c:Prop)[Decidable c](x y:Bool)(l:List AV):(if c then some (AV.b x,l) else some (AV.b y,l))=some (AV.b (if c then x else y),l) :=by split<;>rfl
def Xh2(x:Bool):((!x)=true)=(x=false) :=by cases x<;>simp
def XmM(x y:Bool):(if x=false then false else y)=(x&&y) :=by cases x<;>rfl
end Go.Vm
namespace Go.Vm
structure Xi where
  Code:Int
  Names:List ByteArray
def X4(t:Tag)(a:Xi):List AV :=[.i .i64 a.Code,.sl t 1 (a.Names.map Yk)]
@[go_sem] def XeF(t:Tag)(a:Xi):X4 t a=[.i .i64 a.Code,.sl t 1 (a.Names.map Yk)] :=nr rfl
@[go_sem] def XdN(t:Tag)(xs:List Xi):Xy (xs.map (X4 t))=xs.map (X4 .ro) :=Ym (λa => by simp only[X4,Ya,strip,XeC]) xs
@[go_sem] def XeD(xs:List Xi):XU (xs.map (X4 .mut))=false :=YI (λa => by simp only[X4,X0,XF,Bool.or_self,Xf9]) xs
@[go_sem] def Xi.eta(a:Xi):Xi.mk a.Code a.Names=a :=nr rfl
def Xi.eqv(a b:Xi):Vm.eqv a b=(Vm.eqv a.Code b.Code&&(Vm.eqv a.Names b.Names)) :=(QE (by simp only[Bool.and_eq_true,YY]; cases a; cases b; simp only[Xi.mk.injEq,and_assoc])).symm
def Z9(a:Xi):Prop :=XmL a.Code/\(smL XjY) a.Names
structure Qd where
  Name:ByteArray
  Value:ByteArray
def YB(t:Tag)(a:Qd):List AV :=[.s a.Name,.s a.Value]
@[go_sem] def Xj0(t:Tag)(a:Qd):YB t a=[.s a.Name,.s a.Value] :=nr rfl
@[go_sem] def Zn(t:Tag)(xs:List Qd):Xy (xs.map (YB t))=xs.map (YB .ro) :=Ym (λa => by simp only[YB,Ya,strip]) xs
@[go_sem] def ZD(xs:List Qd):XU (xs.map (YB .mut))=false :=YI (λa => by simp only[YB,X0,XF,Bool.or_self]) xs
@[go_sem] def Qd.eta(a:Qd):Qd.mk a.Name a.Value=a :=nr rfl
def Qd.eqv(a b:Qd):Vm.eqv a b=(Vm.eqv a.Name b.Name&&(Vm.eqv a.Value b.Value)) :=(QE (by simp only[Bool.and_eq_true,YY]; cases a; cases b; simp only[Qd.mk.injEq,and_assoc])).symm
structure Response where
  Status:Int
  Headers:List Qd
  Body:List UInt8
def ZQ(t:Tag)(a:Response):List AV :=[.i .i64 a.Status,.sl t 2 (a.Headers.map (YB t)),.sl t 1 (a.Body.map Ud)]
@[go_sem] def Xh3(t:Tag)(a:Response):ZQ t a=[.i .i64 a.Status,.sl t 2 (a.Headers.map (YB t)),.sl t 1 (a.Body.map Ud)] :=nr rfl
@[go_sem] def Xgc(t:Tag)(xs:List Response):Xy (xs.map (ZQ t))=xs.map (ZQ .ro) :=Ym (λa => by simp only[ZQ,Ya,strip,QM,Zn]) xs
@[go_sem] def Xgl(xs:List Response):XU (xs.map (ZQ .mut))=false :=YI (λa => by simp only[ZQ,X0,XF,Bool.or_self,Uw,ZD]) xs
@[go_sem] def Response.eta(a:Response):Response.mk a.Status a.Headers a.Body=a :=nr rfl
def Response.eqv(a b:Response):Vm.eqv a b=(Vm.eqv a.Status b.Status&&(Vm.eqv a.Headers b.Headers&&(Vm.eqv a.Body b.Body))) :=(QE (by simp only[Bool.and_eq_true,YY]; cases a; cases b; simp only[Response.mk.injEq,and_assoc])).symm
structure Request where
  Method:ByteArray
  Host:ByteArray
  Path:ByteArray
  Headers:List Qd
def QA(t:Tag)(a:Request):List AV :=[.s a.Method,.s a.Host,.s a.Path,.sl t 2 (a.Headers.map (YB t))]
@[go_sem] def Xiq(t:Tag)(a:Request):QA t a=[.s a.Method,.s a.Host,.s a.Path,.sl t 2 (a.Headers.map (YB t))] :=nr rfl
@[go_sem] def Xgm(t:Tag)(xs:List Request):Xy (xs.map (QA t))=xs.map (QA .ro) :=Ym (λa => by simp only[QA,Ya,strip,Zn]) xs
@[go_sem] def Xh4(xs:List Request):XU (xs.map (QA .mut))=false :=YI (λa => by simp only[QA,X0,XF,Bool.or_self,ZD]) xs
@[go_sem] def Request.eta(a:Request):Request.mk a.Method a.Host a.Path a.Headers=a :=nr rfl
def Request.eqv(a b:Request):Vm.eqv a b=(Vm.eqv a.Method b.Method&&(Vm.eqv a.Host b.Host&&(Vm.eqv a.Path b.Path&&(Vm.eqv a.Headers b.Headers)))) :=(QE (by simp only[Bool.and_eq_true,YY]; cases a; cases b; simp only[Request.mk.injEq,and_assoc])).symm
structure Out where
  Kind:Int
  Id:Int
  Source:ByteArray
  Response:Response
  Request:Request
def Xkj(t:Tag)(a:Out):List AV :=[.i .i64 a.Kind,.i .i64 a.Id,.s a.Source,.i .i64 a.Response.Status,.sl t 2 (a.Response.Headers.map (YB t)),.sl t 1 (a.Response.Body.map Ud),.s a.Request.Method,.s a.Request.Host,.s a.Request.Path,.sl t 2 (a.Request.Headers.map (YB t))]
@[go_sem] def Xlx(t:Tag)(a:Out):Xkj t a=[.i .i64 a.Kind,.i .i64 a.Id,.s a.Source,.i .i64 a.Response.Status,.sl t 2 (a.Response.Headers.map (YB t)),.sl t 1 (a.Response.Body.map Ud),.s a.Request.Method,.s a.Request.Host,.s a.Request.Path,.sl t 2 (a.Request.Headers.map (YB t))] :=nr rfl
@[go_sem] def Xkk(t:Tag)(xs:List Out):Xy (xs.map (Xkj t))=xs.map (Xkj .ro) :=Ym (λa => by simp only[Xkj,Ya,strip,QM,Zn]) xs
@[go_sem] def Xk9(xs:List Out):XU (xs.map (Xkj .mut))=false :=YI (λa => by simp only[Xkj,X0,XF,Bool.or_self,Uw,ZD]) xs
@[go_sem] def Out.eta(a:Out):Out.mk a.Kind a.Id a.Source a.Response a.Request=a :=nr rfl
def Out.eqv(a b:Out):Vm.eqv a b=(Vm.eqv a.Kind b.Kind&&(Vm.eqv a.Id b.Id&&(Vm.eqv a.Source b.Source&&(Vm.eqv a.Response b.Response&&(Vm.eqv a.Request b.Request))))) :=(QE (by simp only[Bool.and_eq_true,YY]; cases a; cases b; simp only[Out.mk.injEq,and_assoc])).symm
structure Yo where
  Code:Int
  Text:ByteArray
def YZ(t:Tag)(a:Yo):List AV :=[.i .i64 a.Code,.s a.Text]
@[go_sem] def Xgd(t:Tag)(a:Yo):YZ t a=[.i .i64 a.Code,.s a.Text] :=nr rfl
@[go_sem] def XeE(t:Tag)(xs:List Yo):Xy (xs.map (YZ t))=xs.map (YZ .ro) :=Ym (λa => by simp only[YZ,Ya,strip]) xs
@[go_sem] def XeG(xs:List Yo):XU (xs.map (YZ .mut))=false :=YI (λa => by simp only[YZ,X0,XF,Bool.or_self]) xs
@[go_sem] def Yo.eta(a:Yo):Yo.mk a.Code a.Text=a :=nr rfl
def Yo.eqv(a b:Yo):Vm.eqv a b=(Vm.eqv a.Code b.Code&&(Vm.eqv a.Text b.Text)) :=(QE (by simp only[Bool.and_eq_true,YY]; cases a; cases b; simp only[Yo.mk.injEq,and_assoc])).symm
structure XH where
  Code:Int
  Response:Response
def X9(t:Tag)(a:XH):List AV :=[.i .i64 a.Code,.i .i64 a.Response.Status,.sl t 2 (a.Response.Headers.map (YB t)),.sl t 1 (a.Response.Body.map Ud)]
@[go_sem] def Xdp(t:Tag)(a:XH):X9 t a=[.i .i64 a.Code,.i .i64 a.Response.Status,.sl t 2 (a.Response.Headers.map (YB t)),.sl t 1 (a.Response.Body.map Ud)] :=nr rfl
@[go_sem] def Xcv(t:Tag)(xs:List XH):Xy (xs.map (X9 t))=xs.map (X9 .ro) :=Ym (λa => by simp only[X9,Ya,strip,QM,Zn]) xs
@[go_sem] def Xcy(xs:List XH):XU (xs.map (X9 .mut))=false :=YI (λa => by simp only[X9,X0,XF,Bool.or_self,Uw,ZD]) xs
@[go_sem] def XH.eta(a:XH):XH.mk a.Code a.Response=a :=nr rfl
def XH.eqv(a b:XH):Vm.eqv a b=(Vm.eqv a.Code b.Code&&(Vm.eqv a.Response b.Response)) :=(QE (by simp only[Bool.and_eq_true,YY]; cases a; cases b; simp only[XH.mk.injEq,and_assoc])).symm
end Go.Vm
set_option autoImplicit false
set_option maxRecDepth 100000
set_option maxHeartbeats 4000000
namespace Go.Vm
def XA(a:Xi)(k:Int):Xi×Int :=
  let p0 :=mkL Yi a.Names (k)
  (⟨a.Code,p0.1⟩,p0.2)
def XO(a:Xi)(k:Int):XA a k=(let p0 :=mkL Yi a.Names (k); (⟨a.Code,p0.1⟩,p0.2)) :=nr rfl
def Ux(a:Xi)(k:Int):k<=(XA a k).2 :=by
  simp only[XA]
  have b0 :=Xbc Zm a.Names (k)
  generalize (mkL Yi a.Names (k)).2=q0 at b0 ⊢
  omega
def Uy(a:Xi)(k:Int)(h:Z9 a):(XA a k).2<=k+(1048576:Nat) :=by
  simp only[XA]
  have b0 :=Xk0 (c :=1) (λx k h => XhY x k _ h) a.Names (k) h.2
  generalize (mkL Yi a.Names (k)).2=q0 at b0 ⊢
  omega
end Go.Vm
set_option autoImplicit false
set_option maxRecDepth 100000
set_option maxHeartbeats 4000000
namespace Go.Vm
end Go.Vm
