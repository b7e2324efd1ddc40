/- Functions of the program, walked by the evaluator. -/
import Derived.Test.YtpoannkeaajngaaVf
import Derived.Test.YtpoannkeaajngaaVe
import Derived.Laws.Strings
import Derived.ChangeShapes
import Derived.ChangeArms
import Derived.Deep.Slices
import Derived.RowKit
import Derived.Below
import Derived.Lib.Bytealg
import Derived.Laws.Externs
import Derived.WalkKit
import Derived.Lib.SlTrimSet
import Derived.Lib.LaidTab
import Derived.Lib.ItoaNum
import Derived.Lib.AppendIntMem
import Derived.Lib.Overlaps
import Derived.Laws.IdiomCopy
import Derived.Lib.SplitLaws
import Derived.Lib.Replace
import Derived.Lib.IndexMore
import Derived.Lib.Join
import Derived.WalkSmall
set_option linter.unusedVariables false
set_option linter.unusedSimpArgs false
set_option autoImplicit false
set_option linter.defProp false
namespace Go.Vm
def XdS{cx:Cx}{n:Nat}:Xcg {cx with rounds :=n}=Xcg cx :=by
  funext ts xs as
  induction ts generalizing xs as with
  | nil => rfl
  | cons t ts ih => cases xs with
    | nil => rfl
    | cons x xs => cases as with
      | nil => rfl
      | cons a as => simp only[Xcg,ih]; cases x<;>rfl
def Xbc{cx:Cx}{n:Nat}:XO {cx with rounds :=n}=XO cx :=by
  funext st ms ts xs
  induction ms generalizing st ts xs with
  | nil => rfl
  | cons m ms ih => cases ts with
    | nil => rfl
    | cons t ts => cases xs with
      | nil => rfl
      | cons x xs => simp only[XO,ih]; rfl
def UH{cx:Cx}{n:Nat}(st:St)(o:Oper):Xg {cx with rounds :=n} st o=Xg cx st o :=by
  have h:∀d c,Yo {cx with rounds :=n} st d c=Yo cx st d c :=λd c => by
    have h2:∀f ts xs,Uf {cx with rounds :=n} st f ts xs=Uf cx st f ts xs :=λf ts xs => by
      have h3:∀st,Qj {cx with rounds :=n} st f ts xs=Qj cx st f ts xs :=λst => by simp only[Qj,XdS]
      have h4:∀st g fs k m,Xa3 {cx with rounds :=n} st g fs k m f ts xs=Xa3 cx st g fs k m f ts xs :=λst g fs k m => by simp only[Xa3,h3]; rfl
      have h5:∀st g fs,Xaq {cx with rounds :=n} st g fs f ts xs=Xaq cx st g fs f ts xs :=λst g fs => by simp only[Xaq,h3,Xbc]
      have h6:∀st g fs,Xar {cx with rounds :=n} st g fs f ts xs=Xar cx st g fs f ts xs :=λst g fs => by simp only[Xar,h4,h5]
      simp only[Uf,h3,Xas,h6]
    simp only[Yo,h2]
  simp only[Xg,h]
  rfl
def Qy{cx:Cx}{n:Nat}(ops:List Oper)(st:St)(o:Oper):Zy {cx with rounds :=n} ops st o=Zy cx ops st o :=by simp only[Zy,UH]
def Ui{cx:Cx}{n:Nat}{ops:List Oper}:∀(l:List Oper) (cs:List (Option (List Nat))) (st:St),XE {cx with rounds :=n} ops cs st l=XE cx ops cs st l
  | [],_,_ => rfl
  | o :: l,cs,st => by
    simp only[XE,UH,Ui l]
def Zb{cx:Cx}{id n:Nat}{ops:List Oper}:∀(p:XaY) (st:St),Yi {cx with rounds :=n} id ops p st=Yi cx id ops p st
  | .done,_ => rfl
  | .take i p,st => by
    simp only[Yi,Qy,Zb p]
  | .one i p,st => by
    have h2:∀o,QM {cx with rounds :=n} o=QM cx o :=λ_ => rfl
    have h3:∀s o,Z7 {cx with rounds :=n} s o=Z7 cx s o :=λ_ _ => rfl
    simp only[Yi,Qy,h2,h3,Zb p]
  | .alt i p q,st => by
    have h2:∀o,QM {cx with rounds :=n} o=QM cx o :=λ_ => rfl
    have h3:∀s o,Z7 {cx with rounds :=n} s o=Z7 cx s o :=λ_ _ => rfl
    simp only[Yi,Qy,h2,h3,Zb p,Zb q]
def Xc1{f g:St->Option (Ex×St)}(h:∀s r,f s=some r->g s=some r):∀(n m:Nat) (s:St) (r:Ex×St),n<=m->Xiw f n s=some r->Xiw g m s=some r
  | 0,_,_,_,_,hr => by cases hr
  | n+1,0,_,_,hm,_ => by omega
  | n+1,m+1,s,r,hm,hr => by
    simp only[Xiw] at hr ⊢
    cases hf:f s with
    | none => rw[hf] at hr; cases hr
    | some p =>
      obtain⟨e,s'⟩ :=p
      rw[hf] at hr
      rw[h s _ hf]
      cases e with
      | nor => exact Xc1 h n m s' r (by omega) hr
      | _ => exact hr
def XaS{cx:Cx}{n m:Nat}(hnm:n<=m):∀(c:Code) (blk:Nat) (st:St) (r:Ex×St),Xl {cx with rounds :=n} blk c st=some r->Xl {cx with rounds :=m} blk c st=some r :=by
  intro c
  induction c with
  | region id ops draw =>
    intro blk st r h
    simp only[Xl,Ui,Zb] at h ⊢
    exact h
  | seq a b iha ihb =>
    intro blk st r h
    simp only[Xl] at h ⊢
    cases ha:Xl {cx with rounds :=n} blk a st with
    | none => rw[ha] at h; cases h
    | some p =>
      obtain⟨e,s⟩ :=p
      rw[ha] at h
      rw[iha blk st _ ha]
      cases e with
      | nor => exact ihb blk s r h
      | _ => exact h
  | cond c a b iha ihb =>
    intro blk st r h
    simp only[Xl] at h ⊢
    split at h
    · exact iha blk st r h
    · exact ihb blk st r h
    · cases h
  | block id c ih =>
    intro blk st r h
    simp only[Xl] at h ⊢
    cases hc:Xl {cx with rounds :=n} id c st with
    | none => rw[hc] at h; cases h
    | some p => rw[hc] at h; rw[ih id st _ hc]; exact h
  | loop c ih =>
    intro blk st r h
    simp only[Xl] at h ⊢
    exact Xc1 (λs r hs => ih blk _ r hs) n m st r hnm h
  | _ => intro blk st r h; exact h
def Xik{cx:Cx}{n m:Nat}(hnm:n<=m):∀(c:Code) (K K':St->Option (Ex×St)) (_:∀s r,K s=some r->K' s=some r) (st:St) (r:Ex×St),evN {cx with rounds :=n} c K st=some r->evN {cx with rounds :=m} c K' st=some r :=by
  have other:∀(c:Code) (K K':St->Option (Ex×St)) (_:∀s r,K s=some r->K' s=some r) (st:St) (r:Ex×St),Xbh (Xl {cx with rounds :=n} 0 c st) K=some r->Xbh (Xl {cx with rounds :=m} 0 c st) K'=some r :=by
    intro c K K' hK st r h
    cases hc:Xl {cx with rounds :=n} 0 c st with
    | none => rw[hc] at h; cases h
    | some p =>
      rw[hc] at h
      rw[XaS hnm c 0 st _ hc]
      obtain⟨e,s⟩ :=p
      cases e with
      | nor => exact hK s r h
      | _ => exact h
  intro c
  induction c with
  | skip => intro K K' hK st r h; exact hK st r h
  | seq a b iha ihb => intro K K' hK st r h; exact iha _ _ (λs r hs => ihb K K' hK s r hs) st r h
  | cond c a b iha ihb =>
    intro K K' hK st r h
    simp only[evN] at h ⊢
    split at h
    · exact iha K K' hK st r h
    · exact ihb K K' hK st r h
    · unfold Xde at h ⊢
      split at h
      · rename_i he
        have h1 :=iha K K' hK st r h
        have h2 :=ihb K K' hK st r (he▸h)
        rw[if_pos (h1.trans h2.symm)]
        exact h1
      · cases h
    · cases h
  | _ => intro K K' hK st r h; exact other _ K K' hK st r h
def XaT{cx:Cx}{md:List Md}{f:Func}{as:List AV}{r:AV×List AV}{n m:Nat}(hnm:n<=m)(h:Z9 {cx with rounds :=n} md f as=some r):Z9 {cx with rounds :=m} md f as=some r :=by
  unfold Z9 at h ⊢
  cases hb:f.body with
  | none => rw[hb] at h; cases h
  | some c =>
    rw[hb] at h
    simp only at h ⊢
    have hB:∀r,evB {cx with rounds :=n} c (QE md as)=some r->evB {cx with rounds :=m} c (QE md as)=some r :=by
      intro r hr
      unfold evB at hr ⊢
      by_cases hz:cx.nz=true
      · rw[if_pos (show({cx with rounds :=n}:Cx).nz=true from hz)] at hr
        rw[if_pos (show({cx with rounds :=m}:Cx).nz=true from hz)]
        exact Xik hnm c _ _ (λ_ _ h => h) _ r hr
      · rw[if_neg (show ¬({cx with rounds :=n}:Cx).nz=true from hz)] at hr
        rw[if_neg (show ¬({cx with rounds :=m}:Cx).nz=true from hz)]
        exact XaS hnm c 0 _ r hr
    cases hc:evB {cx with rounds :=n} c (QE md as) with
    | none => rw[hc] at h; cases h
    | some p =>
      rw[hc] at h
      rw[hB _ hc]
      have hres:∀(l:List ResultVar) (st:St),Uv {cx with rounds :=n} st l=Uv {cx with rounds :=m} st l :=by
        intro l
        induction l with
        | nil => intro st; rfl
        | cons x l ih => intro st; cases x<;>simp only[Uv,ih]
      have hfin:∀st,ZA {cx with rounds :=n} md f.results.toList st=ZA {cx with rounds :=m} md f.results.toList st :=λst => by simp only[ZA,XlT,Xi1,hres]
      obtain⟨e,s⟩ :=p
      cases e<;>simp only[hfin] at h ⊢<;>exact h
def Uo(wk:Bool)(r:AV)(os:List AV):Bool :=wk||(!XW r&&os.all λo => !XW o)
noncomputable def FR(cx:Cx)(md:List Md)(wk:Bool)(f:Func)(as:List AV):Option (AV×List AV) :=
  open Classical in if h : ∃ (r : AV × List AV) (n : Nat), Z9 { cx with rounds := n } md f as = some r /\ Uo wk r.1 r.2 = true then some h.choose else none
def XlA{cx:Cx}{md:List Md}{wk:Bool}{f:Func}{as:List AV}{r:AV×List AV}{n:Nat}(h:Z9 {cx with rounds :=n} md f as=some r)(hr:Uo wk r.1 r.2=true):FR cx md wk f as=some r :=by
  have hx:∃(r:AV×List AV) (n:Nat),Z9 {cx with rounds :=n} md f as=some r/\Uo wk r.1 r.2=true :=⟨r,n,h,hr⟩
  unfold FR
  rw[dif_pos hx]
  obtain⟨m,h1,h2⟩ :=hx.choose_spec
  have a1 :=XaT (Nat.le_max_left n m) h
  have a2 :=XaT (Nat.le_max_right n m) h1
  exact a2.symm.trans a1
def XiP{cx:Cx}{md:List Md}{wk:Bool}{f:Func}{as:List AV}{r:AV×List AV}(h:FR cx md wk f as=some r):∃n,Z9 {cx with rounds :=n} md f as=some r/\Uo wk r.1 r.2=true :=by
  unfold FR at h
  split at h
  · rename_i hx
    obtain⟨m,h1,h2⟩ :=hx.choose_spec
    injection h with h
    rw[<-h]
    exact⟨m,h1,h2⟩
  · cases h
structure SP (P:Program) [HasTb P] where
  g:Nat
  fs:FS
  ok:QG P g fs
def SP.F{P:Program}[HasTb P](s:SP P):List AV->Option (AV×List AV) :=s.fs.F
def Xil{P:Program}[HasTb P]:List (SP P)->Nat->Option FS
  | [],_ => none
  | s :: l,g => if g=s.g then some s.fs else Xil l g
@[go_sem] def Xl1{P:Program}[HasTb P](g:Nat):Xil ([]:List (SP P)) g=none :=nr rfl
@[go_sem] def XlB{P:Program}[HasTb P](s:SP P)(l:List (SP P))(g:Nat):Xil (s :: l) g=if g=s.g then some s.fs else Xil l g :=nr rfl
def XgD{P:Program}[HasTb P]:∀(l:List (SP P)) (g:Nat) (fs:FS),Xil l g=some fs->QG P g fs
  | [],g,fs,h => by cases h
  | s :: l,g,fs,h => by
    simp only[Xil] at h
    split at h
    · rename_i hg
      injection h with h
      subst h hg
      exact s.ok
    · exact XgD l g fs h
def asc{α:Type}:List (Nat×α)->Nat->Option α
  | [],_ => none
  | (k,a) :: l,n => if n=k then some a else asc l n
@[go_sem] def XmN{α:Type}(n:Nat):asc ([]:List (Nat×α)) n=none :=nr rfl
@[go_sem] def Xl2{α:Type}(k:Nat)(a:α)(l:List (Nat×α))(n:Nat):asc ((k,a) :: l) n=if n=k then some a else asc l n :=nr rfl
def Xkp{α:Type}:List (Nat×List α)->Nat->List α
  | [],_ => []
  | (k,a) :: l,n => if n=k then a else Xkp l n
@[go_sem] def Xl3{α:Type}(n:Nat):Xkp ([]:List (Nat×List α)) n=[] :=nr rfl
@[go_sem] def XlC{α:Type}(k:Nat)(a:List α)(l:List (Nat×List α))(n:Nat):Xkp ((k,a) :: l) n=if n=k then a else Xkp l n :=nr rfl
abbrev LV :=List (Nat×List Nat×List Nat)
structure FD where
  md:List Md
  wk:Bool :=false
  rg:LV :=[]
  lv:LV :=[]
  out:LV :=[]
  rets:Option (List Nat×List Nat) :=none
  al:List Nat :=[]
  plan:List (Nat×XaY) :=[]
  fz:List Nat :=[]
  nz:Bool :=false
  ws:List (Nat×List (Bool×Nat×Nat)) :=[]
structure Xkq (P:Program) where
  T:TypeId->Option TI
  Q:TypeId->Option (List Nat)
  ok:∀cx:Cx,cx.T=T->cx.eqs=Q->Xcs P cx
  wide:P.follows .mixedOrders=true
def XkP{P:Program}[HasTb P](ty:Xkq P)(tab:List (SP P))(d:FD)(n:Nat):Cx :=
  {T :=ty.T,fns :=Xil tab,cuts :=λ_ => [],rg :=asc d.rg,live :=asc d.lv,out :=asc d.out,rets :=d.rets,al :=d.al,plan :=asc d.plan,fz :=d.fz,eqs :=ty.Q,rounds :=n,nz :=d.nz,ws :=Xkp d.ws}
def XmO(md:List Md)(j:Nat):Bool :=match md[j]? with
  | some m => !YZ m
  | none => false
def ckS{P:Program}[HasTb P](ty:Xkq P)(tab:List (SP P))(d:FD)(f:Func):Bool :=match f.body with
  | some c => (!(f.name == "runtime.NumGoroutine")) && Yw (XkP ty tab d 0) (XmO d.md) f.ntmps c && decide (d.md.length <= f.ntmps) && Xle d.md
  | none => false
def XlD{P:Program}[HasTb P](ty:Xkq P)(g:Nat)(f:Func)(tab:List (SP P))(d:FD)(hf:P.funcs[g]?=some f)(hk:ckS ty tab d f=true):QG P g ⟨d.md,FR (XkP ty tab d 0) d.md d.wk f,d.wk⟩ :=by
  unfold ckS at hk
  cases hb:f.body with
  | none => rw[hb] at hk; cases hk
  | some c =>
    rw[hb] at hk
    simp only[Bool.and_eq_true,Bool.not_eq_true',decide_eq_true_eq] at hk
    obtain⟨⟨⟨h1,h2⟩,h3⟩,h4⟩ :=hk
    refine Xjk (cx :=XkP ty tab d 0) (c :=c) ty.wide (ty.ok _ rfl rfl) (XgD tab) hf h1 hb (XmO d.md) (λj m hj hm => ?_) h2 h3 h4 (λas r os h _ _ => ?_) (λhw as r os h => ?_)
    · simp only[XmO,hj,hm,Bool.not_false]
    · obtain⟨n,h5,_⟩ :=XiP h
      exact⟨n,h5⟩
    · obtain⟨n,_,h6⟩ :=XiP h
      have hw':d.wk=false :=hw
      simp only[Uo,hw',Bool.false_or,Bool.and_eq_true,Bool.not_eq_true',List.all_eq_true] at h6
      exact⟨h6.1,λo ho => by simpa using h6.2 o ho⟩
noncomputable def mkS{P:Program}[HasTb P](ty:Xkq P)(g:Nat)(f:Func)(tab:List (SP P))(d:FD)(hf:P.funcs[g]?=some f)(hk:ckS ty tab d f=true):SP P :=⟨g,⟨d.md,FR (XkP ty tab d 0) d.md d.wk f,d.wk⟩,XlD ty g f tab d hf hk⟩
def Xy{P:Program}[HasTb P]{ty:Xkq P}{f:Func}{tab:List (SP P)}{d:FD}{as:List AV}{r:AV}{os:List AV}{c:Code}{rv:List ResultVar}(n:Nat)(hb:f.body=some c)(hr:f.results=rv.toArray)
    (h:∀cx:Cx,(cx.T=ty.T/\cx.fns=Xil tab/\cx.rg=asc d.rg/\cx.live=asc d.lv/\cx.out=asc d.out/\cx.rets=d.rets/\cx.al=d.al/\cx.plan=asc d.plan/\cx.fz=d.fz/\cx.eqs=ty.Q/\cx.rounds=n/\cx.ws=Xkp d.ws/\∀k,cx.cuts k=[])->XgN cx d.md rv (Xl cx 0 c (QE d.md as))=some (r,os)) (hw:Uo d.wk r os=true) (hz:d.nz=false :=by rfl):FR (XkP ty tab d 0) d.md d.wk f as=some (r,os) :=by
  refine XlA (n :=n) ?_ hw
  rw[Xga _ _ f _ c rv hb hr hz]
  exact h _ ⟨rfl,rfl,rfl,rfl,rfl,rfl,rfl,rfl,rfl,rfl,rfl,rfl,λ_ => rfl⟩
def Xkr{P:Program}[HasTb P]{ty:Xkq P}{f:Func}{tab:List (SP P)}{d:FD}{as:List AV}{r:AV}{os:List AV}{c:Code}{rv:List ResultVar}(n:Nat)(hb:f.body=some c)(hr:f.results=rv.toArray)
    (h:∀cx:Cx,(cx.T=ty.T/\cx.fns=Xil tab/\cx.rg=asc d.rg/\cx.live=asc d.lv/\cx.out=asc d.out/\cx.rets=d.rets/\cx.al=d.al/\cx.plan=asc d.plan/\cx.fz=d.fz/\cx.eqs=ty.Q/\cx.rounds=n/\cx.ws=Xkp d.ws/\∀k,cx.cuts k=[])->XgN cx d.md rv (evN cx c (λs => some (.nor,s)) (QE d.md as))=some (r,os)) (hw:Uo d.wk r os=true) (hz:d.nz=true :=by rfl):FR (XkP ty tab d 0) d.md d.wk f as=some (r,os) :=by
  refine XlA (n :=n) ?_ hw
  rw[XeP _ _ f _ c rv hb hr hz]
  exact h _ ⟨rfl,rfl,rfl,rfl,rfl,rfl,rfl,rfl,rfl,rfl,rfl,rfl,λ_ => rfl⟩
def QY:Code->List Code
  | .loop c => c :: QY c
  | .seq a b => QY a++QY b
  | .cond _ a b => QY a++QY b
  | .block _ c => QY c
  | _ => []
def Qz(f:Func)(i:Nat):Code :=match f.body with
  | some b => ((QY b)[i]?).getD .skip
  | none => .skip
def Yk(f:Func)(i:Nat)(b c:Code)(hb:f.body=some b)(hl:(QY b)[i]?=some c):Qz f i=c :=by simp only[Qz,hb,hl,Option.getD_some]
def XbF{α σ:Type}(c:α->σ->Bool)(g:α->σ->σ):List α->σ->σ⊕(α×σ)
  | [],s => .inl s
  | x :: xs,s => if c x s=true then .inr (x,s) else XbF c g xs (g x s)
def Qd{α σ:Type}(c:α->σ->Bool)(g:α->σ->σ)(x:α)(xs:List α)(s:σ):XbF c g (x :: xs) s=if c x s=true then .inr (x,s) else XbF c g xs (g x s) :=rfl
def Xc2{α σ:Type}(g:α->σ->σ):∀(xs:List α) (s:σ),XbF (λ_ _ => false) g xs s=.inl (xs.foldl (λs x => g x s) s)
  | [],s => rfl
  | x :: xs,s => by simp only[XbF,Bool.false_eq_true,if_false,List.foldl_cons]; exact Xc2 g xs _
def Xc3{α σ:Type}{cx:Cx}{blk:Nat}{body:Code}(xs:List α)(S:Nat->σ->St)(X:σ->St)(c:α->σ->Bool)(g:α->σ->σ)(R:α->σ->Ex×St)(I:Nat->σ->Prop)
    (hend:∀s,I xs.length s->∀G,Xa9 (Xl cx blk body (S xs.length s)) G=some (.ex blk,X s))
    (hstep:∀k (hk:k<xs.length) s,I k s->(c xs[k] s=true/\∀G,Xa9 (Xl cx blk body (S k s)) G=some (R xs[k] s))\/(c xs[k] s=false/\I (k+1) (g xs[k] s)/\∃st',(∀G,Xa9 (Xl cx blk body (S k s)) G=G st')/\keep (cx.live blk) st'=S (k+1) (g xs[k] s)))
    (s:σ) (hI:I 0 s) (N:Nat) (hN:xs.length+1<=N) :
    ∃r,(∀st,keep (cx.live blk) st=S 0 s->XaP cx blk body N st=r)/\((∃s',XbF c g xs s=.inl s'/\I xs.length s'/\r=some (.ex blk,X s'))\/∃x s',XbF c g xs s=.inr (x,s')/\r=some (R x s')) :=by
  obtain⟨M,rfl⟩:∃M,N=M+1 :=⟨N-1,by omega⟩
  have key:∀(k:Nat) (s:σ) (M:Nat),k<=xs.length->I k s->xs.length-k<=M->(∃s',XbF c g (xs.drop k) s=.inl s'/\I xs.length s'/\Xa9 (Xl cx blk body (S k s)) (λs => XaP cx blk body M s)=some (.ex blk,X s'))\/∃x s',XbF c g (xs.drop k) s=.inr (x,s')/\Xa9 (Xl cx blk body (S k s)) (λs => XaP cx blk body M s)=some (R x s') :=by
    intro k s M
    induction M generalizing k s with
    | zero =>
      intro hk hI hM
      obtain rfl:k=xs.length :=by omega
      exact .inl ⟨s,by rw[List.drop_length]; rfl,hI,hend s hI _⟩
    | succ M ih =>
      intro hk hI hM
      by_cases he:k=xs.length
      · subst he
        exact .inl ⟨s,by rw[List.drop_length]; rfl,hI,hend s hI _⟩
      · have hlt:k<xs.length :=by omega
        rcases hstep k hlt s hI with⟨h1,h2⟩ | ⟨h1,h2,st',h4,h3⟩
        · exact .inr ⟨xs[k],s,by rw[List.drop_eq_getElem_cons hlt,Qd,if_pos h1],h2 _⟩
        · rw[h4,XbC,h3,List.drop_eq_getElem_cons hlt,Qd,if_neg (by simp[h1])]
          exact ih (k+1) _ (by omega) h2 (by omega)
  exact⟨_,λst hst => by rw[XbC,hst],key 0 s M (Nat.zero_le _) hI (by omega)⟩
def YU{α σ:Type}{cx:Cx}{blk:Nat}{body:Code}(xs:List α)(S:Nat->σ->St)(X:σ->St)(g:α->σ->σ)(I:Nat->σ->Prop)
    (hend:∀s,I xs.length s->∀G,Xa9 (Xl cx blk body (S xs.length s)) G=some (.ex blk,X s))
    (hstep:∀k (hk:k<xs.length) s,I k s->I (k+1) (g xs[k] s)/\∃st',(∀G,Xa9 (Xl cx blk body (S k s)) G=G st')/\keep (cx.live blk) st'=S (k+1) (g xs[k] s))
    (s:σ) (hI:I 0 s) (N:Nat) (hN:xs.length+1<=N) :
    I xs.length (xs.foldl (λs x => g x s) s)/\∀st,keep (cx.live blk) st=S 0 s->XaP cx blk body N st=some (.ex blk,X (xs.foldl (λs x => g x s) s)) :=by
  obtain⟨r,h1,h⟩ :=Xc3 (cx :=cx) (blk :=blk) (body :=body) xs S X (λ_ _ => false) g (λ_ s => (.ret,X s)) I hend (λk hk s hI => .inr ⟨rfl,hstep k hk s hI⟩) s hI N hN
  rw[Xc2] at h
  rcases h with⟨s',h2,h3,h4⟩ | ⟨x,s',h2,h3⟩
  · injection h2 with h2
    subst h2
    exact⟨h3,λst hst => by rw[h1 st hst,h4]⟩
  · cases h2
def ZV{α σ:Type}{cx:Cx}{blk:Nat}{body:Code}(xs:List α)(S:Nat->σ->St)(X:σ->St)(c:α->σ->Bool)(g:α->σ->σ)(R:α->σ->Ex×St)(I:Nat->σ->Prop)
    (hend:∀s,I xs.length s->∀G,Xa9 (Xl cx blk body (S xs.length s)) G=some (.ex blk,X s))
    (hstep:∀k (hk:k<xs.length) s,I k s->∃(C:Prop) (_:Decidable C) (st':St),(∀G,Xa9 (Xl cx blk body (S k s)) G=if C then some (R xs[k] s) else G st')/\(C↔c xs[k] s=true)/\(c xs[k] s=false->I (k+1) (g xs[k] s)/\keep (cx.live blk) st'=S (k+1) (g xs[k] s)))
    (s:σ) (hI:I 0 s) (N:Nat) (hN:xs.length+1<=N) :
    ∃r,(∀st,keep (cx.live blk) st=S 0 s->XaP cx blk body N st=r)/\((∃s',XbF c g xs s=.inl s'/\I xs.length s'/\r=some (.ex blk,X s'))\/∃x s',XbF c g xs s=.inr (x,s')/\r=some (R x s')) :=by
  refine Xc3 xs S X c g R I hend (λk hk s hI => ?_) s hI N hN
  obtain⟨C,_,st',h1,h2,h3⟩ :=hstep k hk s hI
  cases hc:c xs[k] s with
  | true => exact .inl ⟨rfl,λG => (h1 G).trans (if_pos (h2.2 hc))⟩
  | false =>
    obtain⟨h4,h5⟩ :=h3 hc
    exact .inr ⟨rfl,h4,st',λG => (h1 G).trans (if_neg (λhC => by rw[h2.1 hC] at hc; cases hc)),h5⟩
def Xak{α:Type}{p:α->Bool}:∀{xs:List α} {u u':Unit},XbF (λx _ => p x) (λ_ _ => ()) xs u=.inl u'->xs.any p=false
  | [],_,_,_ => rfl
  | x :: xs,u,u',h => by
    rw[Qd] at h
    split at h
    · cases h
    · rename_i hc
      rw[List.any_cons,Xak h]
      simpa using hc
def Uc{α:Type}{p:α->Bool}:∀{xs:List α} {u:Unit} {q:α×Unit},XbF (λx _ => p x) (λ_ _ => ()) xs u=.inr q->xs.any p=true/\p q.1=true/\xs.find? p=some q.1
  | [],_,_,h => by cases h
  | x :: xs,u,q,h => by
    rw[Qd] at h
    split at h
    · rename_i hc
      injection h with h
      subst h
      exact⟨by simp[hc],hc,by simp[hc]⟩
    · rename_i hc
      obtain⟨h1,h2,h3⟩ :=Uc h
      exact⟨by simp[h1],h2,by simp[hc,h3]⟩
def XaU{α:Type}(p:α->Bool):List α->Nat->Int
  | [],_ => -1
  | x :: xs,k => if p x=true then(k:Int) else XaU p xs (k+1)
def Xal{α:Type}{p:α->Bool}:∀{xs:List α} {k k':Nat},XbF (λx _ => p x) (λ_ k => k+1) xs k=.inl k'->XaU p xs k =-1
  | [],_,_,_ => rfl
  | x :: xs,k,k',h => by
    rw[Qd] at h
    split at h
    · cases h
    · rename_i hc
      rw[XaU,if_neg hc,Xal h]
def UI{α:Type}{p:α->Bool}:∀{xs:List α} {k:Nat} {q:α×Nat},XbF (λx _ => p x) (λ_ k => k+1) xs k=.inr q->XaU p xs k=(q.2:Int)
  | [],_,_,h => by cases h
  | x :: xs,k,q,h => by
    rw[Qd] at h
    split at h
    · rename_i hc
      injection h with h
      subst h
      rw[XaU,if_pos hc]
    · rename_i hc
      rw[XaU,if_neg hc,UI h]
def Xam{α:Type}{p:α->Bool}:∀(xs:List α) (k:Nat),decide (0<=XaU p xs k)=xs.any p
  | [],_ => by simp[XaU]
  | x :: xs,k => by
    rw[XaU,List.any_cons]
    cases hc:p x with
    | true => simp
    | false => simpa using Xam xs (k+1)
end Go.Vm
set_option autoImplicit false
namespace Go.Vm
@[go_sem] def Xz5:((0:Nat):Int)=0 :=nr rfl
@[go_sem] def Xz6:((1:Nat):Int)=1 :=nr rfl
@[go_sem] def XkQ:Xep .nilFunc=.u :=nr rfl
def Xv{k:Int}(h0:-9223372036854775808<=k)(h:k<=9223372036854775807):(IntKind.i64).wrap k=k :=by
  simp[IntKind.wrap,IntKind.bits,IntKind.signed]
  omega
def XJ{k:Nat}(h:k<9223372036854775807):(IntKind.i64).wrap ((k:Int)+1)=((k+1:Nat):Int) :=by
  rw[Xv (by omega) (by omega)]; rfl
def Yg(n k:Nat)(h:k<n):YY n (k:Int)=some k :=by
  simp only[YY]
  rw[if_pos ⟨by omega,by omega⟩]; rfl
def YN{α:Type}(f:α->List AV)(xs:List α)(k:Nat)(h:k<xs.length):(xs.map f).getD k []=f xs[k] :=by simp[List.getD,h]
def XbG{α:Type}(f:α->List AV)(xs:List α)(k:Nat)(h:k<xs.length):(xs.map f)[k]?=some (f xs[k]) :=by simp[h]
@[go_sem] def XlE{α:Type}(f:α->List AV)(xs:List α):(xs.map f).take xs.length=xs.map f :=by
  have :=List.take_length (l :=xs.map f)
  rwa [List.length_map] at this
noncomputable def eqv{α:Type}(a b:α):Bool :=open Classical in decide (a=b)
def Zk{α:Type}{a b:α}:eqv a b=true↔a=b :=by simp[eqv]
def Zc{α:Type}(a:α):eqv a a=true :=by simp[eqv]
def QZ{α:Type}{p:Bool}{a b:α}(h:p=true↔a=b):p=eqv a b :=by
  cases p with
  | true => exact(Zk.2 (h.1 rfl)).symm
  | false =>
    cases he:eqv a b with
    | false => rfl
    | true => exact absurd (h.2 (Zk.1 he)) (by simp)
def XdT(a b:Int):(a==b)=eqv a b :=QZ (by simp)
def Xc4(a b:Int):(a !=b)=!eqv a b :=by rw[bne,XdT]
def Xej(a b:Bool):(a==b)=eqv a b :=QZ (by simp)
def XbH(a b:Bool):(a !=b)=!eqv a b :=by rw[bne,Xej]
def Xim(a b:UInt8):((a.toNat:Int) !=(b.toNat:Int))=!eqv a b :=by
  rw[bne,QZ (p :=((a.toNat:Int)==(b.toNat:Int))) (a :=a) (b :=b)]
  simp only[beq_iff_eq,Int.ofNat_inj]
  exact UInt8.toNat_inj
def XlF{a b:ByteArray}(h:a.toList=b.toList):a=b :=by
  rw[ByteArray.toList_eq,ByteArray.toList_eq] at h
  cases a; cases b
  simp only[ByteArray.mk.injEq] at h ⊢
  exact Array.ext' h
def Xc5(a b:ByteArray):(a.toList==b.toList)=eqv a b :=QZ (by
  constructor
  · intro h; exact XlF (by simpa using h)
  · rintro rfl; simp)
def XlG(xs ys:List UInt8):eqv (ByteArray.mk xs.toArray) (ByteArray.mk ys.toArray)=eqv xs ys :=by
  refine QZ ?_
  rw[Zk]
  constructor
  · intro h
    have :=congrArg (λb => b.data.toList) h
    simpa using this
  · rintro rfl; rfl
def XbI:∀xs:List UInt8,Xa4 (xs.map λb => [.i .u8 b.toNat])=some xs
  | [] => rfl
  | x :: xs => by
    simp only[List.map_cons,Xa4,XbI xs,Int.toNat_natCast,UInt8.ofNat_toNat]
def Xks(a b:Bool):(if a=true then b else false)=(a&&b) :=by cases a<;>rfl
def XlH(a b:Bool):(if a=true then true else b)=(a||b) :=by cases a<;>rfl
def XmP(c:Prop)[Decidable c](x y:Bool)(l:List AV):(if c then some (AV.b x,l) else some (AV.b y,l))=some (AV.b (if c then x else y),l) :=by split<;>rfl
@[go_sem] def Xl4(o:Oper)(a b:List Oper):Ql (List.append (o :: a) b) 0=some o :=nr rfl
@[go_sem] def Xl5(o:Oper)(a b:List Oper)(n:Nat):Ql (List.append (o :: a) b) (n+1)=Ql (List.append a b) n :=nr rfl
@[go_sem] def Xl6(b:List Oper)(n:Nat):Ql (List.append [] b) n=Ql b n :=nr rfl
@[go_sem] def Xl7(o:Oper)(a b:List Oper):Z8 (List.append (o :: a) b) 0=o.dst :=nr rfl
@[go_sem] def Xl8(o:Oper)(a b:List Oper)(n:Nat):Z8 (List.append (o :: a) b) (n+1)=Z8 (List.append a b) n :=nr rfl
@[go_sem] def Xl9(b:List Oper)(n:Nat):Z8 (List.append [] b) n=Z8 b n :=nr rfl
@[go_sem] def XkR(cx:Cx)(ops:List Oper)(cs:List (Option (List Nat)))(st:St)(o:Oper)(a b:List Oper):XE cx ops cs st (List.append (o :: a) b)=XE cx ops cs st (o :: List.append a b) :=nr rfl
@[go_sem] def XkS(cx:Cx)(ops:List Oper)(cs:List (Option (List Nat)))(st:St)(b:List Oper):XE cx ops cs st (List.append [] b)=XE cx ops cs st b :=nr rfl
def Xkt(p q:Prop)[Decidable p][Decidable q](s:St)(y:Option (Ex×St)):(if p then some (Ex.ret,s) else if q then some (Ex.ret,s) else y)=if p\/q then some (Ex.ret,s) else y :=by by_cases h:p<;>by_cases h':q<;>simp[h,h']
def Xku{α:Type}(p:α->Prop)(xs:List α):Prop :=∀x∈xs,p x
@[go_sem] def XmQ{α β γ:Type}(f:β->γ)(g:α->β)(xs:List α):List.take xs.length ((xs.map g).map f)=(xs.map g).map f :=List.take_of_length_le (by simp)
end Go.Vm
set_option autoImplicit false
namespace Go.Vm
open Go.ChangeShapes Go.WideShapes
inductive Sh
  | b | i (k:IntKind) | s | sl (r:List Sh)
def Xma(g:TypeId->Option (List Sh))(P:Program):List Field->Nat->Option (List Sh)
  | [],_ => some []
  | f :: r,off => match g f.type with
    | some q => if f.offset=off/\P.cellsOf f.type=q.length then(match Xma g P r (off+q.length) with
      | some l => some (q++l)
      | none => none) else none
    | none => none
def Xkv(P:Program):Nat->TypeId->Option (List Sh)
  | 0,_ => none
  | n+1,t => match P.underlying t with
    | some .bool => some [.b]
    | some (.int k) => some [.i k]
    | some .string => some [.s]
    | some (.slice e) => match Xkv P n e with
      | some (x :: r) => if P.cellsOf e=(x :: r).length then some [.sl (x :: r)] else none
      | _ => none
    | some (.struct fs) => match Xma (Xkv P n) P fs.toList 0 with
      | some l => if P.cellsOf t=l.length then some l else none
      | none => none
    | _ => none
inductive Xcd:Sh->AV->Prop
  | b {x:Bool}:Xcd .b (.b x)
  | i {k:IntKind} {n:Int} (h:(Lit.int k n).wf=true):Xcd (.i k) (.i k n)
  | s {x:ByteArray} (h:x.size<=maxLen):Xcd .s (.s x)
  | sl {r:List Sh} {es:List (List AV)} (hl:es.length<=maxLen) (hz:∀row∈es,row.length=r.length) (h:∀row∈es,∀(j:Nat) (sh:Sh) (a:AV),r[j]?=some sh->row[j]?=some a->Xcd sh a):Xcd (.sl r) (.sl .ro r.length es)
def Xce(r:List Sh)(row:List AV):Prop :=row.length=r.length/\∀(j:Nat) (sh:Sh) (a:AV),r[j]?=some sh->row[j]?=some a->Xcd sh a
def Xin(w:World):CS :=λg k => ∃v,Xt w g k=some v
def Xkw{w:World}{g k:Nat}(h:Xin w g k):g<w.heap.size :=by
  obtain⟨v,hv⟩ :=h
  exact World.block_lt_of_cell? w ⟨g,k,none⟩ hv
def UJ(w:World)(shs:List Sh)(cs:List Value)(as:List AV):Prop :=cs.length=shs.length/\Xce shs as/\∀(j:Nat) (v:Value) (a:AV),cs[j]?=some v->as[j]?=some a->Rep w (Xin w) v a nos
def UJ.one{w:World}{sh:Sh}{v:Value}{a:AV}(h:Xcd sh a)(hr:Rep w (Xin w) v a nos):UJ w [sh] [v] [a] :=by
  refine⟨rfl,⟨rfl,λj q b hs hb => ?_⟩,λj u b hu hb => ?_⟩
  · rcases j with _ | j
    · simp only[List.getElem?_cons_zero,Option.some.injEq] at hs hb; subst hs hb; exact h
    · simp at hs
  · rcases j with _ | j
    · simp only[List.getElem?_cons_zero,Option.some.injEq] at hu hb; subst hu hb; exact hr
    · simp at hu
def Xad{α:Type}{l r:List α}{j:Nat}{x:α}(h:(l++r)[j]?=some x):l[j]?=some x\/(l.length<=j/\r[j-l.length]?=some x) :=by
  by_cases hj:j<l.length
  · rw[List.getElem?_append_left hj] at h; exact .inl h
  · rw[List.getElem?_append_right (by omega)] at h; exact .inr ⟨by omega,h⟩
def UJ.app{w:World}{s1 s2:List Sh}{c1 c2:List Value}{a1 a2:List AV}(h1:UJ w s1 c1 a1)(h2:UJ w s2 c2 a2):UJ w (s1++s2) (c1++c2) (a1++a2) :=by
  obtain⟨l1,⟨m1,p1⟩,q1⟩ :=h1
  obtain⟨l2,⟨m2,p2⟩,q2⟩ :=h2
  refine⟨by simp[l1,l2],⟨by simp[m1,m2],λj q a hs ha => ?_⟩,λj v a hv ha => ?_⟩
  · rcases Xad hs with hs | ⟨h0,hs⟩
    · have hlt :=(List.getElem?_eq_some_iff.1 hs).1
      rw[List.getElem?_append_left (by omega)] at ha
      exact p1 j q a hs ha
    · rw[List.getElem?_append_right (by omega),m1] at ha
      exact p2 _ q a hs ha
  · rcases Xad hv with hv | ⟨h0,hv⟩
    · have hlt :=(List.getElem?_eq_some_iff.1 hv).1
      rw[List.getElem?_append_left (by omega)] at ha
      exact q1 j v a hv ha
    · rw[List.getElem?_append_right (by omega),m1,<-l1] at ha
      exact q2 _ v a hv ha
def XlI{a:Addr}(h:a.spot=none)(n:Nat):a.add n=⟨a.block,a.off+n,none⟩ :=by
  unfold Addr.add
  split
  · rename_i h0; subst h0; cases a; simp only at h; subst h; rfl
  · cases a; rfl
section
variable {H : Type} {enc : TypeId × Value -> H} {P : Program} {w : World}
def Xe9(n:Nat):∀{fuel:Nat} {t:TypeId} {cs:List Value} {x:DataW H×List MemPlace} {shs:List Sh},DataW.trod enc P w 0 (λ_ => true) true fuel t cs=some x->Xkv P n t=some shs->∃as,UJ w shs cs as :=by
  induction n with
  | zero => intro fuel t cs x shs _ h; cases h
  | succ n ih =>
    intro fuel t cs x shs ht hs
    unfold Xkv at hs
    split at hs
    · rename_i hu
      injection hs with hs; subst hs
      obtain⟨b,rfl,_⟩ :=DataW.trod_bool hu ht
      exact⟨_,UJ.one .b .b⟩
    · rename_i k hu
      injection hs with hs; subst hs
      obtain⟨m,rfl,_,hwf⟩ :=DataW.trod_int hu ht
      exact⟨_,UJ.one (.i hwf) .i⟩
    · rename_i hu
      injection hs with hs; subst hs
      obtain⟨s,rfl,_,hsz⟩ :=DataW.trod_string hu ht
      exact⟨_,UJ.one (.s hsz) .s⟩
    · rename_i e hu
      split at hs
      · rename_i x0 r hr
        split at hs
        · rename_i hce
          injection hs with hs; subst hs
          rcases Go.Deep.open_slice hu ht with⟨rfl,_⟩ | ⟨a,len,cap,m,n',D,Pl,rfl,_,hl,hm,hmm,_,hi⟩
          · refine⟨_,UJ.one (.sl (es :=[]) (Nat.zero_le _) (λ_ h => by cases h) (λ_ h => by cases h)) ?_⟩
            exact .sl 0 0 (λ_ _ => undef) (λ_ _ => nos) rfl (Nat.le_refl _) (by simp) (λh => absurd h (by omega)) (λi row hi => by simp at hi) (λi row j a hi => by simp at hi) (λi row j a hi => by simp at hi)
              ⟨(λe => by cases e),(λe => by cases e),(λe => absurd rfl e),λ_ k hk => absurd hk (by simp)⟩ (λ_ _ => Xo _) (λ_ _ _ _ _ => Xh _) (λe => by cases e) (λ_ _ _ => rfl)
          · simp only[if_true] at hmm
            subst hmm
            generalize hzz:(x0 :: r).length=z at hce
            have hz0:0<z :=by rw[<-hzz]; simp
            rw[hce] at hi
            have hsp:0<m->a.spot=none :=by
              intro h0
              obtain⟨cs',h1,_⟩ :=hi 0 h0
              obtain⟨_,h3,h4⟩ :=World.cells?_some h1
              have :=h4 0 hz0
              rw[List.getElem?_eq_getElem (by omega),Nat.zero_mul] at this
              unfold World.cell? at this
              simp only[Addr.add,if_true] at this
              split at this
              · cases hs:a.spot with
                | none => rfl
                | some q => rw[hs] at this; simp at this
              · cases this
            have hrow:∀i,i<len->∃p:List Value×List AV,(∀j,j<z->Xt w a.block (a.off+(i*z+j))=p.1[j]?)/\UJ w (x0 :: r) p.1 p.2 :=by
              intro i hil
              obtain⟨cs',h1,h2⟩ :=hi i (by omega)
              obtain⟨as,h3⟩ :=ih h2 hr
              obtain⟨_,_,h6⟩ :=World.cells?_some h1
              refine⟨(cs',as),λj hj => ?_,h3⟩
              have :=h6 j hj
              rw[Go.Deep.add_add,XlI (hsp (by omega))] at this
              exact this
            obtain⟨f,hf⟩ :=Go.Deep.choose_lt hrow
            let es:List (List AV) :=(List.range len).map λi => (f i).2
            have hes:∀(i:Nat) (row:List AV),es[i]?=some row->i<len/\row=(f i).2 :=by
              intro i row h
              have hlt:i<len :=Decidable.byContradiction λhn => by
                rw[List.getElem?_eq_none (by simp only[es,List.length_map,List.length_range]; omega)] at h
                cases h
              simp only[es,List.getElem?_map,List.getElem?_range hlt,Option.map_some,Option.some.injEq] at h
              exact⟨hlt,h.symm⟩
            have hmem:∀row∈es,∃i,i<len/\row=(f i).2 :=by
              intro row h
              obtain⟨i,h⟩ :=List.getElem?_of_mem h
              exact⟨i,hes i row h⟩
            have hcell:∀i j,i<len->j<z->Xt w a.block (a.off+(i*z+j))=some ((f i).1.getD j undef) :=by
              intro i j h1 h2
              obtain⟨q1,q2,_⟩ :=hf i h1
              rw[q1 j h2,List.getD_eq_getElem?_getD,List.getElem?_eq_getElem (by rw[q2,hzz]; exact h2)]
              rfl
            refine⟨_,UJ.one (.sl (es :=es) (by simp only[es,List.length_map,List.length_range]; omega) (λrow h => ?_) (λrow h => ?_)) ?_⟩
            · obtain⟨i,h1,rfl⟩ :=hmem row h
              exact(hf i h1).2.2.1.1
            · obtain⟨i,h1,rfl⟩ :=hmem row h
              exact(hf i h1).2.2.1.2
            · rw[hzz]
              have hM:maxLen=9223372036854775807 :=rfl
              refine .sl a.block a.off (λi j => (f i).1.getD j undef) (λ_ _ => nos) (by simp[es]) hl (by omega) (λh0 => ?_) (λi row h => ?_) (λi row j b h hj => ?_) (λi row j b h hj => ?_)
                ⟨(λe => by cases e),(λe => by cases e),(λe => absurd rfl e),λ_ k hk => ?_⟩ (λ_ _ => Xo _) (λ_ _ _ _ _ => Xh _) (λe => by cases e) (λ_ _ _ => rfl)
              · have :=hsp h0
                cases a; simp only at this; subst this; rfl
              · obtain⟨h1,rfl⟩ :=hes i row h
                rw[<-hzz]; exact(hf i h1).2.2.1.1
              · obtain⟨h1,rfl⟩ :=hes i row h
                have hlt :=(List.getElem?_eq_some_iff.1 hj).1
                rw[(hf i h1).2.2.1.1,hzz] at hlt
                exact hcell i j h1 hlt
              · obtain⟨h1,rfl⟩ :=hes i row h
                have hlt :=(List.getElem?_eq_some_iff.1 hj).1
                obtain⟨_,q2,q3,q4⟩ :=hf i h1
                rw[q3.1] at hlt
                refine q4 j _ b ?_ hj
                rw[List.getD_eq_getElem?_getD,List.getElem?_eq_getElem (by rw[q2]; exact hlt)]
                rfl
              · have h1:k / z<len :=by rw[Nat.div_lt_iff_lt_mul hz0]; exact hk
                have h2:k%z<z :=Nat.mod_lt _ hz0
                have :=hcell (k / z) (k%z) h1 h2
                rw[Nat.mul_comm,Nat.div_add_mod] at this
                exact⟨_,this⟩
        · cases hs
      · cases hs
    · rename_i fs hu
      obtain⟨xs,n',rfl,_,hlen,hxl,hi⟩ :=DataW.trod_struct hu ht
      split at hs
      · rename_i l hl
        split at hs
        · rename_i hcl
          injection hs with hs; subst hs
          have key:∀(fl:List Field) (off:Nat) (l:List Sh),Xma (Xkv P n) P fl off=some l->(∀f∈fl,∃y,DataW.trod enc P w 0 (λ_ => true) true n' f.type ((cs.drop f.offset).take (P.cellsOf f.type))=some y)->∃as,UJ w l ((cs.drop off).take l.length) as :=by
            intro fl
            induction fl with
            | nil =>
              intro off l h _
              injection h with h; subst h
              exact⟨[],by simp,⟨rfl,λj q a h => by simp at h⟩,λj v a h => by simp at h⟩
            | cons f fl ihf =>
              intro off l h hy
              unfold Xma at h
              split at h
              · rename_i s hfs
                split at h
                · rename_i hc
                  obtain⟨rfl,hc2⟩ :=hc
                  split at h
                  · rename_i l' hl'
                    injection h with h; subst h
                    obtain⟨y,hyy⟩ :=hy f (by simp)
                    obtain⟨a1,h1⟩ :=ih hyy hfs
                    obtain⟨a2,h2⟩ :=ihf _ _ hl' (λg hg => hy g (by simp[hg]))
                    refine⟨a1++a2,?_⟩
                    have e:(cs.drop f.offset).take (s++l').length=(cs.drop f.offset).take (P.cellsOf f.type)++(cs.drop (f.offset+s.length)).take l'.length :=by
                      rw[List.length_append,List.take_add,List.drop_drop,hc2]
                    rw[e]
                    exact h1.app h2
                  · cases h
                · cases h
              · cases h
          obtain⟨as,h⟩ :=key fs.toList 0 l hl (λf hf => by
            obtain⟨i,hi'⟩ :=List.getElem?_of_mem hf
            have hi2:fs[i]?=some f :=by simpa using hi'
            have :=hi i f hi2
            have hlt:i<fs.size :=(Array.getElem?_eq_some_iff.1 hi2).1
            rw[List.getElem?_eq_getElem (by omega)] at this
            exact⟨_,this⟩)
          rw[List.drop_zero,List.take_of_length_le (by omega)] at h
          exact⟨as,h⟩
        · cases hs
      · cases hs
    · cases hs
end
def Xce.cons{sh:Sh}{r:List Sh}{row:List AV}(h:Xce (sh :: r) row):∃a row',row=a :: row'/\Xcd sh a/\Xce r row' :=by
  obtain⟨h1,h2⟩ :=h
  cases row with
  | nil => simp at h1
  | cons a row => exact⟨a,row,rfl,h2 0 sh a rfl rfl,by simpa using h1,λj q b hs hb => h2 (j+1) q b (by simpa using hs) (by simpa using hb)⟩
def Xce.nil{row:List AV}(h:Xce [] row):row=[] :=List.length_eq_zero_iff.1 h.1
def Xcd.bool{a:AV}(h:Xcd .b a):∃x:Bool,a=.b x/\True :=by cases h; exact⟨_,rfl,trivial⟩
def Xcd.int{a:AV}(h:Xcd (.i .i64) a):∃x:Int,a=.i .i64 x/\(-9223372036854775808<=x/\x<=9223372036854775807) :=by
  cases h with
  | i h =>
    refine⟨_,rfl,?_⟩
    simp only[Lit.wf,Bool.and_eq_true,decide_eq_true_eq,IntKind.min,IntKind.max,IntKind.signed,IntKind.bits] at h
    simpa using h
def Xcd.byte{a:AV}(h:Xcd (.i .u8) a):∃x:UInt8,a=.i .u8 x.toNat/\True :=by
  cases h with
  | @i _ n h =>
    simp only[Lit.wf,Bool.and_eq_true,IntKind.min,IntKind.max,IntKind.signed,IntKind.bits] at h
    have h1:0<=n :=by simpa using h.1
    have h2:n<=255 :=by simpa using h.2
    refine⟨UInt8.ofNat n.toNat,?_,trivial⟩
    congr 1
    have:(UInt8.ofNat n.toNat).toNat=n.toNat%256 :=UInt8.toNat_ofNat'
    omega
def Xcd.str{a:AV}(h:Xcd .s a):∃x:ByteArray,a=.s x/\x.size<=9223372036854775807 :=by cases h with | s h => exact⟨_,rfl,h⟩
def Xcd.list{α:Type}{r:List Sh}{f:α->List AV}{ok:α->Prop}(hf:∀row,Xce r row->∃x,row=f x/\ok x){a:AV}(h:Xcd (.sl r) a):∃xs:List α,a=.sl .ro r.length (xs.map f)/\(xs.length<=9223372036854775807/\∀x∈xs,ok x) :=by
  cases h with
  | @sl _ es hl hz h =>
    have key:∀es:List (List AV),(∀row∈es,Xce r row)->∃xs:List α,es=xs.map f/\∀x∈xs,ok x :=by
      intro es
      induction es with
      | nil => intro _; exact⟨[],rfl,λ_ h => by cases h⟩
      | cons row es ih =>
        intro hr
        obtain⟨x,rfl,hx⟩ :=hf row (hr row (by simp))
        obtain⟨xs,rfl,hxs⟩ :=ih (λq hq => hr q (by simp[hq]))
        exact⟨x :: xs,rfl,λy hy => (List.mem_cons.1 hy).elim (λe => e▸hx) (hxs y)⟩
    obtain⟨xs,rfl,hxs⟩ :=key es (λrow hr => ⟨hz row hr,h row hr⟩)
    have hM:maxLen=9223372036854775807 :=rfl
    exact⟨xs,rfl,by simp only[List.length_map] at hl; omega,hxs⟩
def Xio(row:List AV)(h:Xce [.i .u8] row):∃x:UInt8,row=[.i .u8 x.toNat]/\True :=by
  obtain⟨a,_,rfl,h0,h⟩ :=h.cons; obtain rfl :=h.nil; obtain⟨x,rfl,_⟩ :=h0.byte; exact⟨x,rfl,trivial⟩
section
variable {H : Type} {enc : TypeId × Value -> H} {P : Program} {w : World}
def Xkx{r:Reach}{base:Nat}{t:TypeId}{v:Value}{d:DataW H}{p:List MemPlace}(n:Nat){u:TypeDesc}(hu:P.underlying t=some u)(hn:∀fs,u≠.struct fs){sh:Sh}(hs:Xkv P n t=some [sh])(hval:Value.okWide P w r base t v)(hd:DataW.Trod enc P w 0 (λ_ => true) true t v d p) :
    ∃a,Xcd sh a/\Cl w (Xin w) v a nos :=by
  obtain⟨fuel,hf⟩ :=hd
  obtain⟨as,h1⟩ :=Xe9 n hf hs
  have hc:v.cells.toList=[v] :=by
    cases n with
    | zero => cases hs
    | succ n =>
      unfold Xkv at hs
      rw[hu] at hs
      cases u with
      | bool => obtain⟨b,rfl⟩ :=okWide_bool hu hval; rfl
      | int k => obtain⟨b,rfl⟩ :=okWide_int hu hval; rfl
      | string => obtain⟨b,rfl⟩ :=okWide_string hu hval; rfl
      | slice e => obtain⟨a,b,c,rfl⟩ :=okWide_slice hu hval; rfl
      | struct fs => exact absurd rfl (hn fs)
      | _ => cases hs
  rw[hc] at h1
  obtain⟨_,⟨h2,h3⟩,h4⟩ :=h1
  match as,h2 with
  | [a],_ => exact⟨a,h3 0 sh a rfl rfl,.leaf (.rep (h4 0 v a rfl rfl))⟩
end
def Xip{w w':World}(h:Vm.Frame w w' nos):Go.RowKit.Below w.heap.size w w' :=by
  refine⟨h.os,h.tape,h.output,h.size,λk hk => ?_⟩
  rcases h.block k hk with h1 | ⟨c,c',e,fr,h1,h2,h3,h4⟩
  · exact h1
  · rw[h1,h2]
    congr 2
    apply Array.ext_getElem?
    intro i
    exact h4 i (λh => h)
def Xiq{P:Program}[HasTb P]{g:FuncId}{f:Func}{c:Code}{md:List Md}{F:List AV->Option (AV×List AV)}{wk:Bool}{W:World}{vs:List Value}{xs os:List AV}(hsp:QG P g ⟨md,F,wk⟩)(hro:md.all YZ=true)(hF:F xs=some (.b true,os))(hl1:vs.length=md.length)(hl2:xs.length=md.length)
    (hargs : ∀ (j : Nat) (v : Value) (a : AV), vs[j]? = some v -> xs[j]? = some a -> Cl W (Xin W) v a nos) (hf : P.funcs[g]? = some f) (hname : ¬ f.name = "runtime.NumGoroutine") (hb : f.body = some c) (hT : Tb P (Xin W) W) :
    Calls P g vs.toArray W λe w' => e=.returned (.bool true)/\Go.RowKit.Below W.heap.size W w' :=by
  have h :=hsp W (Xin W) vs xs (λ_ => nos) (.b true) os hF hl1 hl2 (λj m v a hm hv ha => by
    have :=List.all_eq_true.1 hro m (List.mem_of_getElem? hm)
    cases m with
    | ro n => exact hargs j v a hv ha
    | _ => cases this) (λ_ _ _ => Xh _) (λ_ => Xh _) (λ_ _ _ h => h.elim) (λ_ _ h => Xkw h) hT
  rcases h with⟨v,w',h1,_⟩ | ⟨_,h2⟩
  · exfalso
    have:(callFunc g vs.toArray).run P W=.ok (.enter g vs.toArray) W :=by simp[callFunc,hf,hname,hb]
    rw[this] at h1
    cases h1
  · intro cs
    obtain⟨e,w',fr,k1,k2⟩ :=h2 cs
    refine⟨e,w',fr,?_,k2⟩
    cases e with
    | returned v =>
      obtain⟨Im',S,Of,b,_⟩ :=k1
      have hv:v=.bool true :=by
        have :=b.res
        cases this with
        | leaf h => cases h with
          | rep h => cases h; rfl
      exact⟨by rw[hv],Xip (b.frame.mono (λg k ⟨j,hb⟩ => hb))⟩
    | panicked => exact k1.elim
    | outgrown => exact k1.elim
def XlJ{P:Program}[HasTb P]{s:SP P}{f:Func}{c:Code}{W:World}{vs:List Value}{xs os:List AV}(hF:s.F xs=some (.b true,os))(hro:s.fs.md.all YZ=true)(hl1:vs.length=s.fs.md.length)(hl2:xs.length=s.fs.md.length)
    (hargs : ∀ (j : Nat) (v : Value) (a : AV), vs[j]? = some v -> xs[j]? = some a -> Cl W (Xin W) v a nos) (hf : P.funcs[s.g]? = some f) (hname : ¬ f.name = "runtime.NumGoroutine") (hb : f.body = some c) (hT : Tb P (Xin W) W) :
    Calls P s.g vs.toArray W λe w' => e=.returned (.bool true)/\Go.RowKit.Below W.heap.size W w' :=Xiq (md :=s.fs.md) (F :=s.fs.F) (wk :=s.fs.wk) s.ok hro hF hl1 hl2 hargs hf hname hb hT
end Go.Vm
set_option autoImplicit false
namespace Go.Vm
@[go_sem] def Xmb{α:Type}(l:List α)(i:Nat)(y z:α):(l.set i y).set i z=l.set i z :=by simp
@[go_sem] def Xmc{α:Type}(l:List α)(i:Nat)(y:α):(l.set i y).length=l.length :=by simp
end Go.Vm
set_option autoImplicit false
namespace Go.Vm
def Cl.str{w:World}{Im:CS}{v:Value}{x:ByteArray}{S:CS}(h:Cl w Im v (.s x) S):v=.string x :=by
  cases h with
  | leaf h => cases h with
    | rep h => cases h; rfl
def Cl.int{w:World}{Im:CS}{v:Value}{k:IntKind}{n:Int}{S:CS}(h:Cl w Im v (.i k n) S):v=.int k n :=by
  cases h with
  | leaf h => cases h with
    | rep h => cases h; rfl
def Xz7:List AV->Option (AV×List AV)
  | [.s s,.i .u8 c] => some (.i .i64 (Lib.indexByte s.data.toList c.toNat.toUInt8),[.u,.u])
  | _ => none
@[go_sem] def XmR(s:ByteArray)(c:Int):Xz7 [.s s,.i .u8 c]=some (.i .i64 (Lib.indexByte s.data.toList c.toNat.toUInt8),[.u,.u]) :=nr rfl
@[go_sem] def XnJ:((2:Nat):Int)=2 :=nr rfl
@[go_sem] def XnK:((3:Nat):Int)=3 :=nr rfl
@[go_sem] def XnL:((4:Nat):Int)=4 :=nr rfl
@[go_sem] def XnM:((5:Nat):Int)=5 :=nr rfl
@[go_sem] def XnN:((6:Nat):Int)=6 :=nr rfl
@[go_sem] def XnO:((7:Nat):Int)=7 :=nr rfl
@[go_sem] def XnP:((8:Nat):Int)=8 :=nr rfl
@[go_sem] def XmS:YY 1 0=some 0 :=nr rfl
@[go_sem] def XmT:YY 2 0=some 0 :=nr rfl
@[go_sem] def XmU:YY 2 1=some 1 :=nr rfl
@[go_sem] def XmV:YY 3 0=some 0 :=nr rfl
@[go_sem] def XmW:YY 3 1=some 1 :=nr rfl
@[go_sem] def XmX:YY 3 2=some 2 :=nr rfl
@[go_sem] def XmY:YY 4 0=some 0 :=nr rfl
@[go_sem] def XmZ:YY 4 1=some 1 :=nr rfl
@[go_sem] def Xm0:YY 4 2=some 2 :=nr rfl
@[go_sem] def Xm1:YY 4 3=some 3 :=nr rfl
@[go_sem] def Xm2:YY 5 0=some 0 :=nr rfl
@[go_sem] def Xm3:YY 5 1=some 1 :=nr rfl
@[go_sem] def Xm4:YY 5 2=some 2 :=nr rfl
@[go_sem] def Xm5:YY 5 3=some 3 :=nr rfl
@[go_sem] def Xm6:YY 5 4=some 4 :=nr rfl
@[go_sem] def Xm7:YY 6 0=some 0 :=nr rfl
@[go_sem] def Xm8:YY 6 1=some 1 :=nr rfl
@[go_sem] def Xm9:YY 6 2=some 2 :=nr rfl
@[go_sem] def Xna:YY 6 3=some 3 :=nr rfl
@[go_sem] def Xnb:YY 6 4=some 4 :=nr rfl
@[go_sem] def Xnc:YY 6 5=some 5 :=nr rfl
@[go_sem] def Xnd:YY 7 0=some 0 :=nr rfl
@[go_sem] def Xne:YY 7 1=some 1 :=nr rfl
@[go_sem] def Xnf:YY 7 2=some 2 :=nr rfl
@[go_sem] def Xng:YY 7 3=some 3 :=nr rfl
@[go_sem] def Xnh:YY 7 4=some 4 :=nr rfl
@[go_sem] def Xni:YY 7 5=some 5 :=nr rfl
@[go_sem] def Xnj:YY 7 6=some 6 :=nr rfl
@[go_sem] def Xnk:YY 8 0=some 0 :=nr rfl
@[go_sem] def Xnl:YY 8 1=some 1 :=nr rfl
@[go_sem] def Xnm:YY 8 2=some 2 :=nr rfl
@[go_sem] def Xnn:YY 8 3=some 3 :=nr rfl
@[go_sem] def Xno:YY 8 4=some 4 :=nr rfl
@[go_sem] def Xnp:YY 8 5=some 5 :=nr rfl
@[go_sem] def Xnq:YY 8 6=some 6 :=nr rfl
@[go_sem] def Xnr:YY 8 7=some 7 :=nr rfl
def Xns:List AV->Option (AV×List AV)
  | [.nil,.i .i64 0] => some (.nil,[.u,.u])
  | _ => none
@[go_sem] def Xmd:Xns [.nil,.i .i64 0]=some (.nil,[.u,.u]) :=nr rfl
end Go.Vm
set_option autoImplicit false
namespace Go.Vm
@[go_sem] def Xky(z:Nat)(es:List (List AV)):plain (.sl .mut z es)=false :=nr rfl
@[go_sem] def Xkz(z:Nat)(es:List (List AV)):plain (.sl .app z es)=false :=nr rfl
def XlK(z bytes:Nat):List AV->Option (AV×List AV)
  | [.nil,.i .i64 n] => if 0<=n/\n*bytes<=140737488355328/\n<=4611686018427387904 then some (.sl .mut z [],[.u,.u]) else none
  | _ => none
@[go_sem] def XlL(z bytes:Nat)(n:Int):XlK z bytes [.nil,.i .i64 n]=if 0<=n/\n*bytes<=140737488355328/\n<=4611686018427387904 then some (.sl .mut z [],[.u,.u]) else none :=nr rfl
def XnQ(n:Int):ByteArray :=⟨(Lib.itoa n).toArray⟩
def Xz8:List AV->Option (AV×List AV)
  | [.i .i64 n,.i .i64 10] => if -9223372036854775808<=n/\n<=9223372036854775807 then some (.s (XnQ n),[.u,.u]) else none
  | _ => none
@[go_sem] def Xnt(n:Int):Xz8 [.i .i64 n,.i .i64 10]=if -9223372036854775808<=n/\n<=9223372036854775807 then some (.s (XnQ n),[.u,.u]) else none :=nr rfl
end Go.Vm
set_option autoImplicit false
namespace Go.Vm
end Go.Vm
set_option autoImplicit false
namespace Go.Vm
end Go.Vm
set_option autoImplicit false
namespace Go.Vm
end Go.Vm
set_option autoImplicit false
namespace Go.Vm.A
open Go.Vm Go.RowKit
end Go.Vm.A
set_option autoImplicit false
set_option maxRecDepth 100000
set_option maxHeartbeats 4000000
attribute [go_sem] Nat.add_zero Nat.zero_add List.contains_cons List.contains_nil List.elem_cons List.elem_nil List.length_cons List.length_nil List.map_cons List.map_nil List.all_cons List.all_nil List.any_cons List.any_nil List.getElem?_cons_zero List.getElem?_cons_succ List.getElem?_nil List.getD_cons_zero List.getD_cons_succ List.append_nil List.nil_append List.cons_append List.isEmpty_cons List.isEmpty_nil List.headD_cons List.headD_nil List.tail_cons List.tail_nil List.take_nil List.drop_nil Bool.and_true Bool.true_and Bool.or_false Bool.or_true Bool.false_or Bool.true_or Bool.not_true Bool.not_false Bool.and_false Bool.false_and Bool.false_eq_true Bool.true_eq_false Bool.and_self Bool.not_not decide_true decide_false decide_eq_true_eq beq_self_eq_true Nat.le_refl Nat.zero_le and_self true_and and_true false_and and_false or_true true_or if_true if_false Option.map_some Option.map_none Option.isSome_none Option.isSome_some eq_self_iff_true not_true_eq_false not_false_eq_true ne_eq Nat.not_lt_zero Nat.succ_ne_zero List.length_map List.set_cons_zero List.set_cons_succ gt_iff_lt ge_iff_le List.take_succ_cons List.take_zero List.drop_zero List.drop_succ_cons bne_self_eq_false
namespace Go.Vm
def XP(b:UInt8):List AV :=[.i .u8 b.toNat]
def XkT(s:ByteArray):List AV :=[.s s]
def XiQ(n:Int):List AV :=[.i .i64 n]
def Xfa(b:Bool):List AV :=[.b b]
@[go_sem] def XlM(b:UInt8):XP b=[.i .u8 b.toNat] :=nr rfl
@[go_sem] def Xme(s:ByteArray):XkT s=[.s s] :=nr rfl
@[go_sem] def Xmf(n:Int):XiQ n=[.i .i64 n] :=nr rfl
@[go_sem] def XlN(b:Bool):Xfa b=[.b b] :=nr rfl
def YJ{α:Type}{f g:α->List AV}(h:∀a,Yz (f a)=g a):∀xs:List α,XH (xs.map f)=xs.map g
  | [] => rfl
  | x :: xs => by simp only[List.map_cons,XH,h,YJ h xs]
def Zd{α:Type}{f:α->List AV}(h:∀a,X4 (f a)=false):∀xs:List α,X8 (xs.map f)=false
  | [] => rfl
  | x :: xs => by simp only[List.map_cons,X8,h,Zd h xs,Bool.or_self]
@[go_sem] def XdU(xs:List UInt8):XH (xs.map XP)=xs.map XP :=YJ (λa => by simp only[XP,Yz,strip]) xs
@[go_sem] def XkU(xs:List ByteArray):XH (xs.map XkT)=xs.map XkT :=YJ (λa => by simp only[XkT,Yz,strip]) xs
@[go_sem] def XkV(xs:List Int):XH (xs.map XiQ)=xs.map XiQ :=YJ (λa => by simp only[XiQ,Yz,strip]) xs
@[go_sem] def XkA(xs:List Bool):XH (xs.map Xfa)=xs.map Xfa :=YJ (λa => by simp only[Xfa,Yz,strip]) xs
@[go_sem] def Xfb(xs:List UInt8):X8 (xs.map XP)=false :=Zd (λa => by simp only[XP,X4,XW,Bool.or_self]) xs
@[go_sem] def XlO(xs:List ByteArray):X8 (xs.map XkT)=false :=Zd (λa => by simp only[XkT,X4,XW,Bool.or_self]) xs
@[go_sem] def XlP(xs:List Int):X8 (xs.map XiQ)=false :=Zd (λa => by simp only[XiQ,X4,XW,Bool.or_self]) xs
@[go_sem] def XkW(xs:List Bool):X8 (xs.map Xfa)=false :=Zd (λa => by simp only[Xfa,X4,XW,Bool.or_self]) xs
@[go_sem] def XlQ(xs:List UInt8):Xa4 (xs.map XP)=some xs :=XbI xs
def XiR(_:UInt8):Prop :=True
def okL{α:Type}(p:α->Prop)(xs:List α):Prop :=xs.length<=9223372036854775807/\∀x∈xs,p x
def Xir(_:Int):Prop :=True
def XlR(_:Bool):Prop :=True
def smL{α:Type}(p:α->Prop)(xs:List α):Prop :=xs.length<=1048576/\∀x∈xs,p x
def XdV{α:Type}{xs ys:List α}(h:xs.length=ys.length):(xs.zip ys).length=xs.length :=by simp[h]
def XgE{α:Type}:∀{xs ys:List α} {u u':Unit},xs.length=ys.length->XbF (λ(x:α×α) (_:Unit) => !eqv x.1 x.2) (λ_ _ => ()) (xs.zip ys) u=.inl u'->eqv xs ys=true
  | [],[],_,_,_,_ => Zc _
  | x :: xs,y :: ys,u,u',hl,h => by
    simp only[List.zip_cons_cons,XbF] at h
    cases hc:eqv x y with
    | false => simp[hc] at h
    | true =>
      simp only[hc,Bool.not_true,Bool.false_eq_true,if_false] at h
      have :=Zk.1 (XgE (by simpa using hl) h)
      rw[Zk.1 hc,this]; exact Zc _
def XgF{α:Type}:∀{xs ys:List α} {u:Unit} {p:(α×α)×Unit},xs.length=ys.length->XbF (λ(x:α×α) (_:Unit) => !eqv x.1 x.2) (λ_ _ => ()) (xs.zip ys) u=.inr p->eqv xs ys=false
  | [],[],_,_,_,h => by simp[XbF] at h
  | x :: xs,y :: ys,u,p,hl,h => by
    simp only[List.zip_cons_cons,XbF] at h
    cases he:eqv (x :: xs) (y :: ys) with
    | false => rfl
    | true =>
      have hh :=Zk.1 he
      injection hh with h1 h2
      subst h1 h2
      simp only[Zc,Bool.not_true,Bool.false_eq_true,if_false] at h
      have :=XgF rfl h
      rw[Zc] at this; cases this
def XkB{α:Type}{xs ys:List α}(h:¬xs.length=ys.length):eqv xs ys=false :=by
  cases he:eqv xs ys with
  | false => rfl
  | true => exact absurd (congrArg List.length (Zk.1 he)) h
def Xz9(c:Prop)[Decidable c](k:IntKind)(x y:Int)(l:List AV):(if c then some (AV.i k x,l) else some (AV.i k y,l))=some (AV.i k (if c then x else y),l) :=by split<;>rfl
end Go.Vm
namespace Go.Vm
structure XQ where
  At:Int
  Good:Bool
def Xb(t:Tag)(a:XQ):List AV :=[.i .i64 a.At,.b a.Good]
@[go_sem] def XlS(t:Tag)(a:XQ):Xb t a=[.i .i64 a.At,.b a.Good] :=nr rfl
@[go_sem] def XaV(t:Tag)(xs:List XQ):XH (xs.map (Xb t))=xs.map (Xb .ro) :=YJ (λa => by simp only[Xb,Yz,strip]) xs
@[go_sem] def XbJ(xs:List XQ):X8 (xs.map (Xb .mut))=false :=Zd (λa => by simp only[Xb,X4,XW,Bool.or_self]) xs
@[go_sem] def XQ.eta(a:XQ):XQ.mk a.At a.Good=a :=nr rfl
def XQ.eqv(a b:XQ):Vm.eqv a b=(Vm.eqv a.At b.At&&(Vm.eqv a.Good b.Good)) :=(QZ (by simp only[Bool.and_eq_true,Zk]; cases a; cases b; simp only[XQ.mk.injEq,and_assoc])).symm
def ZB(a:XQ):Prop :=Xir a.At/\XlR a.Good
def XdW(a:XQ):ZB a :=⟨trivial,trivial⟩
structure Breaker where
  State:Int
  Since:Int
  Out:Int
  Marks:List XQ
def ZH(t:Tag)(a:Breaker):List AV :=[.i .i64 a.State,.i .i64 a.Since,.i .i64 a.Out,.sl t 2 (a.Marks.map (Xb t))]
@[go_sem] def XiS(t:Tag)(a:Breaker):ZH t a=[.i .i64 a.State,.i .i64 a.Since,.i .i64 a.Out,.sl t 2 (a.Marks.map (Xb t))] :=nr rfl
@[go_sem] def XgP(t:Tag)(xs:List Breaker):XH (xs.map (ZH t))=xs.map (ZH .ro) :=YJ (λa => by simp only[ZH,Yz,strip,XaV]) xs
@[go_sem] def Xis(xs:List Breaker):X8 (xs.map (ZH .mut))=false :=Zd (λa => by simp only[ZH,X4,XW,Bool.or_self,XbJ]) xs
@[go_sem] def Breaker.eta(a:Breaker):Breaker.mk a.State a.Since a.Out a.Marks=a :=nr rfl
def Breaker.eqv(a b:Breaker):Vm.eqv a b=(Vm.eqv a.State b.State&&(Vm.eqv a.Since b.Since&&(Vm.eqv a.Out b.Out&&(Vm.eqv a.Marks b.Marks)))) :=(QZ (by simp only[Bool.and_eq_true,Zk]; cases a; cases b; simp only[Breaker.mk.injEq,and_assoc])).symm
def Qe(a:Breaker):Prop :=Xir a.State/\Xir a.Since/\Xir a.Out/\(smL ZB) a.Marks
structure Xf where
  Window:Int
  Min:Int
  Ratio:Int
  Cool:Int
  Quota:Int
def Q0(t:Tag)(a:Xf):List AV :=[.i .i64 a.Window,.i .i64 a.Min,.i .i64 a.Ratio,.i .i64 a.Cool,.i .i64 a.Quota]
@[go_sem] def XkX(t:Tag)(a:Xf):Q0 t a=[.i .i64 a.Window,.i .i64 a.Min,.i .i64 a.Ratio,.i .i64 a.Cool,.i .i64 a.Quota] :=nr rfl
@[go_sem] def XiT(t:Tag)(xs:List Xf):XH (xs.map (Q0 t))=xs.map (Q0 .ro) :=YJ (λa => by simp only[Q0,Yz,strip]) xs
@[go_sem] def XkC(xs:List Xf):X8 (xs.map (Q0 .mut))=false :=Zd (λa => by simp only[Q0,X4,XW,Bool.or_self]) xs
@[go_sem] def Xf.eta(a:Xf):Xf.mk a.Window a.Min a.Ratio a.Cool a.Quota=a :=nr rfl
def Xf.eqv(a b:Xf):Vm.eqv a b=(Vm.eqv a.Window b.Window&&(Vm.eqv a.Min b.Min&&(Vm.eqv a.Ratio b.Ratio&&(Vm.eqv a.Cool b.Cool&&(Vm.eqv a.Quota b.Quota))))) :=(QZ (by simp only[Bool.and_eq_true,Zk]; cases a; cases b; simp only[Xf.mk.injEq,and_assoc])).symm
structure XU where
  Code:Int
  Breaker:Breaker
def Yl(t:Tag)(a:XU):List AV :=[.i .i64 a.Code,.i .i64 a.Breaker.State,.i .i64 a.Breaker.Since,.i .i64 a.Breaker.Out,.sl t 2 (a.Breaker.Marks.map (Xb t))]
@[go_sem] def Xek(t:Tag)(a:XU):Yl t a=[.i .i64 a.Code,.i .i64 a.Breaker.State,.i .i64 a.Breaker.Since,.i .i64 a.Breaker.Out,.sl t 2 (a.Breaker.Marks.map (Xb t))] :=nr rfl
@[go_sem] def Xc6(t:Tag)(xs:List XU):XH (xs.map (Yl t))=xs.map (Yl .ro) :=YJ (λa => by simp only[Yl,Yz,strip,XaV]) xs
@[go_sem] def XdX(xs:List XU):X8 (xs.map (Yl .mut))=false :=Zd (λa => by simp only[Yl,X4,XW,Bool.or_self,XbJ]) xs
@[go_sem] def XU.eta(a:XU):XU.mk a.Code a.Breaker=a :=nr rfl
def XU.eqv(a b:XU):Vm.eqv a b=(Vm.eqv a.Code b.Code&&(Vm.eqv a.Breaker b.Breaker)) :=(QZ (by simp only[Bool.and_eq_true,Zk]; cases a; cases b; simp only[XU.mk.injEq,and_assoc])).symm
structure YK where
  Code:Int
  Value:Int
def Y3(t:Tag)(a:YK):List AV :=[.i .i64 a.Code,.i .i64 a.Value]
@[go_sem] def XgQ(t:Tag)(a:YK):Y3 t a=[.i .i64 a.Code,.i .i64 a.Value] :=nr rfl
@[go_sem] def Xfc(t:Tag)(xs:List YK):XH (xs.map (Y3 t))=xs.map (Y3 .ro) :=YJ (λa => by simp only[Y3,Yz,strip]) xs
@[go_sem] def XgG(xs:List YK):X8 (xs.map (Y3 .mut))=false :=Zd (λa => by simp only[Y3,X4,XW,Bool.or_self]) xs
@[go_sem] def YK.eta(a:YK):YK.mk a.Code a.Value=a :=nr rfl
def YK.eqv(a b:YK):Vm.eqv a b=(Vm.eqv a.Code b.Code&&(Vm.eqv a.Value b.Value)) :=(QZ (by simp only[Bool.and_eq_true,Zk]; cases a; cases b; simp only[YK.mk.injEq,and_assoc])).symm
structure Xbd where
  Code:List UInt8
  At:Int
def XbK(t:Tag)(a:Xbd):List AV :=[.sl t 1 (a.Code.map XP),.i .i64 a.At]
@[go_sem] def XkY(t:Tag)(a:Xbd):XbK t a=[.sl t 1 (a.Code.map XP),.i .i64 a.At] :=nr rfl
@[go_sem] def XiU(t:Tag)(xs:List Xbd):XH (xs.map (XbK t))=xs.map (XbK .ro) :=YJ (λa => by simp only[XbK,Yz,strip,XdU]) xs
@[go_sem] def XkD(xs:List Xbd):X8 (xs.map (XbK .mut))=false :=Zd (λa => by simp only[XbK,X4,XW,Bool.or_self,Xfb]) xs
@[go_sem] def Xbd.eta(a:Xbd):Xbd.mk a.Code a.At=a :=nr rfl
def Xbd.eqv(a b:Xbd):Vm.eqv a b=(Vm.eqv a.Code b.Code&&(Vm.eqv a.At b.At)) :=(QZ (by simp only[Bool.and_eq_true,Zk]; cases a; cases b; simp only[Xbd.mk.injEq,and_assoc])).symm
end Go.Vm
set_option autoImplicit false
set_option maxRecDepth 100000
set_option maxHeartbeats 4000000
namespace Go.Vm
end Go.Vm
set_option autoImplicit false
set_option maxRecDepth 100000
set_option maxHeartbeats 4000000
namespace Go.Vm
end Go.Vm
