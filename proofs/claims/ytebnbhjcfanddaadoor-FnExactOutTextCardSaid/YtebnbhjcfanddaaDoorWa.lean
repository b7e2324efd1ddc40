/- Functions of the program, walked by the evaluator. -/
import Derived.Test.YtebnbhjcfanddaaDoorVf
import Derived.Test.YtebnbhjcfanddaaDoorVe
import Derived.Laws.Strings
import Derived.ChangeShapes
import Derived.ChangeArms
import Derived.Deep.Slices
import Derived.RowKit
import Derived.Below
import Derived.Lib.Bytealg
import Derived.Laws.Externs
import Derived.WalkKit
import Derived.Lib.SlTrimSet
import Derived.Lib.LaidTab
import Derived.Lib.ItoaNum
import Derived.Lib.AppendIntMem
import Derived.Lib.Overlaps
import Derived.Laws.IdiomCopy
set_option linter.unusedVariables false
set_option linter.unusedSimpArgs false
set_option autoImplicit false
set_option linter.defProp false
namespace Go.Vm
def XdJ{cx:Cx}{n:Nat}:Xb7 {cx with rounds :=n}=Xb7 cx :=by
  funext ts xs as
  induction ts generalizing xs as with
  | nil => rfl
  | cons t ts ih => cases xs with
    | nil => rfl
    | cons x xs => cases as with
      | nil => rfl
      | cons a as => simp only[Xb7,ih]; cases x<;>rfl
def Xa3{cx:Cx}{n:Nat}:XE {cx with rounds :=n}=XE cx :=by
  funext st ms ts xs
  induction ms generalizing st ts xs with
  | nil => rfl
  | cons m ms ih => cases ts with
    | nil => rfl
    | cons t ts => cases xs with
      | nil => rfl
      | cons x xs => simp only[XE,ih]; rfl
def Un{cx:Cx}{n:Nat}(st:St)(o:Oper):Xe {cx with rounds :=n} st o=Xe cx st o :=by
  have h:∀d c,X9 {cx with rounds :=n} st d c=X9 cx st d c :=λd c => by
    have h2:∀f ts xs,QR {cx with rounds :=n} st f ts xs=QR cx st f ts xs :=λf ts xs => by
      have h3:∀st,Z4 {cx with rounds :=n} st f ts xs=Z4 cx st f ts xs :=λst => by simp only[Z4,XdJ]
      have h4:∀st g fs k m,XaW {cx with rounds :=n} st g fs k m f ts xs=XaW cx st g fs k m f ts xs :=λst g fs k m => by simp only[XaW,h3]; rfl
      have h5:∀st g fs,Xaj {cx with rounds :=n} st g fs f ts xs=Xaj cx st g fs f ts xs :=λst g fs => by simp only[Xaj,h3,Xa3]
      have h6:∀st g fs,Xak {cx with rounds :=n} st g fs f ts xs=Xak cx st g fs f ts xs :=λst g fs => by simp only[Xak,h4,h5]
      simp only[QR,h3,Xal,h6]
    simp only[X9,h2]
  simp only[Xe,h]
  rfl
def Qi{cx:Cx}{n:Nat}(ops:List Oper)(st:St)(o:Oper):Zn {cx with rounds :=n} ops st o=Zn cx ops st o :=by simp only[Zn,Un]
def QT{cx:Cx}{n:Nat}{ops:List Oper}:∀(l:List Oper) (cs:List (Option (List Nat))) (st:St),Xz {cx with rounds :=n} ops cs st l=Xz cx ops cs st l
  | [],_,_ => rfl
  | o :: l,cs,st => by
    simp only[Xz,Un,QT l]
def YV{cx:Cx}{id n:Nat}{ops:List Oper}:∀(p:XaR) (st:St),X5 {cx with rounds :=n} id ops p st=X5 cx id ops p st
  | .done,_ => rfl
  | .take i p,st => by
    simp only[X5,Qi,YV p]
  | .one i p,st => by
    have h2:∀o,Qt {cx with rounds :=n} o=Qt cx o :=λ_ => rfl
    have h3:∀s o,ZW {cx with rounds :=n} s o=ZW cx s o :=λ_ _ => rfl
    simp only[X5,Qi,h2,h3,YV p]
  | .alt i p q,st => by
    have h2:∀o,Qt {cx with rounds :=n} o=Qt cx o :=λ_ => rfl
    have h3:∀s o,ZW {cx with rounds :=n} s o=ZW cx s o :=λ_ _ => rfl
    simp only[X5,Qi,h2,h3,YV p,YV q]
def XcU{f g:St->Option (Ex×St)}(h:∀s r,f s=some r->g s=some r):∀(n m:Nat) (s:St) (r:Ex×St),n<=m->Xij f n s=some r->Xij g m s=some r
  | 0,_,_,_,_,hr => by cases hr
  | n+1,0,_,_,hm,_ => by omega
  | n+1,m+1,s,r,hm,hr => by
    simp only[Xij] at hr ⊢
    cases hf:f s with
    | none => rw[hf] at hr; cases hr
    | some p =>
      obtain⟨e,s'⟩ :=p
      rw[hf] at hr
      rw[h s _ hf]
      cases e with
      | nor => exact XcU h n m s' r (by omega) hr
      | _ => exact hr
def XaI{cx:Cx}{n m:Nat}(hnm:n<=m):∀(c:Code) (blk:Nat) (st:St) (r:Ex×St),Xi {cx with rounds :=n} blk c st=some r->Xi {cx with rounds :=m} blk c st=some r :=by
  intro c
  induction c with
  | region id ops draw =>
    intro blk st r h
    simp only[Xi,QT,YV] at h ⊢
    exact h
  | seq a b iha ihb =>
    intro blk st r h
    simp only[Xi] at h ⊢
    cases ha:Xi {cx with rounds :=n} blk a st with
    | none => rw[ha] at h; cases h
    | some p =>
      obtain⟨e,s⟩ :=p
      rw[ha] at h
      rw[iha blk st _ ha]
      cases e with
      | nor => exact ihb blk s r h
      | _ => exact h
  | cond c a b iha ihb =>
    intro blk st r h
    simp only[Xi] at h ⊢
    split at h
    · exact iha blk st r h
    · exact ihb blk st r h
    · cases h
  | block id c ih =>
    intro blk st r h
    simp only[Xi] at h ⊢
    cases hc:Xi {cx with rounds :=n} id c st with
    | none => rw[hc] at h; cases h
    | some p => rw[hc] at h; rw[ih id st _ hc]; exact h
  | loop c ih =>
    intro blk st r h
    simp only[Xi] at h ⊢
    exact XcU (λs r hs => ih blk _ r hs) n m st r hnm h
  | _ => intro blk st r h; exact h
def Xh7{cx:Cx}{n m:Nat}(hnm:n<=m):∀(c:Code) (K K':St->Option (Ex×St)) (_:∀s r,K s=some r->K' s=some r) (st:St) (r:Ex×St),evN {cx with rounds :=n} c K st=some r->evN {cx with rounds :=m} c K' st=some r :=by
  have other:∀(c:Code) (K K':St->Option (Ex×St)) (_:∀s r,K s=some r->K' s=some r) (st:St) (r:Ex×St),Xbg (Xi {cx with rounds :=n} 0 c st) K=some r->Xbg (Xi {cx with rounds :=m} 0 c st) K'=some r :=by
    intro c K K' hK st r h
    cases hc:Xi {cx with rounds :=n} 0 c st with
    | none => rw[hc] at h; cases h
    | some p =>
      rw[hc] at h
      rw[XaI hnm c 0 st _ hc]
      obtain⟨e,s⟩ :=p
      cases e with
      | nor => exact hK s r h
      | _ => exact h
  intro c
  induction c with
  | skip => intro K K' hK st r h; exact hK st r h
  | seq a b iha ihb => intro K K' hK st r h; exact iha _ _ (λs r hs => ihb K K' hK s r hs) st r h
  | cond c a b iha ihb =>
    intro K K' hK st r h
    simp only[evN] at h ⊢
    split at h
    · exact iha K K' hK st r h
    · exact ihb K K' hK st r h
    · unfold Xc5 at h ⊢
      split at h
      · rename_i he
        have h1 :=iha K K' hK st r h
        have h2 :=ihb K K' hK st r (he▸h)
        rw[if_pos (h1.trans h2.symm)]
        exact h1
      · cases h
    · cases h
  | _ => intro K K' hK st r h; exact other _ K K' hK st r h
def XaJ{cx:Cx}{md:List Md}{f:Func}{as:List AV}{r:AV×List AV}{n m:Nat}(hnm:n<=m)(h:Qu {cx with rounds :=n} md f as=some r):Qu {cx with rounds :=m} md f as=some r :=by
  unfold Qu at h ⊢
  cases hb:f.body with
  | none => rw[hb] at h; cases h
  | some c =>
    rw[hb] at h
    simp only at h ⊢
    have hB:∀r,evB {cx with rounds :=n} c (QV md as)=some r->evB {cx with rounds :=m} c (QV md as)=some r :=by
      intro r hr
      unfold evB at hr ⊢
      by_cases hz:cx.nz=true
      · rw[if_pos (show({cx with rounds :=n}:Cx).nz=true from hz)] at hr
        rw[if_pos (show({cx with rounds :=m}:Cx).nz=true from hz)]
        exact Xh7 hnm c _ _ (λ_ _ h => h) _ r hr
      · rw[if_neg (show ¬({cx with rounds :=n}:Cx).nz=true from hz)] at hr
        rw[if_neg (show ¬({cx with rounds :=m}:Cx).nz=true from hz)]
        exact XaI hnm c 0 _ r hr
    cases hc:evB {cx with rounds :=n} c (QV md as) with
    | none => rw[hc] at h; cases h
    | some p =>
      rw[hc] at h
      rw[hB _ hc]
      have hres:∀(l:List ResultVar) (st:St),U6 {cx with rounds :=n} st l=U6 {cx with rounds :=m} st l :=by
        intro l
        induction l with
        | nil => intro st; rfl
        | cons x l ih => intro st; cases x<;>simp only[U6,ih]
      have hfin:∀st,Zo {cx with rounds :=n} md f.results.toList st=Zo {cx with rounds :=m} md f.results.toList st :=λst => by simp only[Zo,Xlm,hres]
      obtain⟨e,s⟩ :=p
      cases e<;>simp only[hfin] at h ⊢<;>exact h
def QP(wk:Bool)(r:AV)(os:List AV):Bool :=wk||(!XG r&&os.all λo => !XG o)
noncomputable def FR(cx:Cx)(md:List Md)(wk:Bool)(f:Func)(as:List AV):Option (AV×List AV) :=
  open Classical in if h : ∃ (r : AV × List AV) (n : Nat), Qu { cx with rounds := n } md f as = some r /\ QP wk r.1 r.2 = true then some h.choose else none
def Xme{cx:Cx}{md:List Md}{wk:Bool}{f:Func}{as:List AV}{r:AV×List AV}{n:Nat}(h:Qu {cx with rounds :=n} md f as=some r)(hr:QP wk r.1 r.2=true):FR cx md wk f as=some r :=by
  have hx:∃(r:AV×List AV) (n:Nat),Qu {cx with rounds :=n} md f as=some r/\QP wk r.1 r.2=true :=⟨r,n,h,hr⟩
  unfold FR
  rw[dif_pos hx]
  obtain⟨m,h1,h2⟩ :=hx.choose_spec
  have a1 :=XaJ (Nat.le_max_left n m) h
  have a2 :=XaJ (Nat.le_max_right n m) h1
  exact a2.symm.trans a1
def XiB{cx:Cx}{md:List Md}{wk:Bool}{f:Func}{as:List AV}{r:AV×List AV}(h:FR cx md wk f as=some r):∃n,Qu {cx with rounds :=n} md f as=some r/\QP wk r.1 r.2=true :=by
  unfold FR at h
  split at h
  · rename_i hx
    obtain⟨m,h1,h2⟩ :=hx.choose_spec
    injection h with h
    rw[<-h]
    exact⟨m,h1,h2⟩
  · cases h
structure SP (P:Program) [HasTb P] where
  g:Nat
  fs:FS
  ok:Ze P g fs
def SP.F{P:Program}[HasTb P](s:SP P):List AV->Option (AV×List AV) :=s.fs.F
def XiC{P:Program}[HasTb P]:List (SP P)->Nat->Option FS
  | [],_ => none
  | s :: l,g => if g=s.g then some s.fs else XiC l g
@[go_sem] def Xlt{P:Program}[HasTb P](g:Nat):XiC ([]:List (SP P)) g=none :=nr rfl
@[go_sem] def Xk2{P:Program}[HasTb P](s:SP P)(l:List (SP P))(g:Nat):XiC (s :: l) g=if g=s.g then some s.fs else XiC l g :=nr rfl
def Xgr{P:Program}[HasTb P]:∀(l:List (SP P)) (g:Nat) (fs:FS),XiC l g=some fs->Ze P g fs
  | [],g,fs,h => by cases h
  | s :: l,g,fs,h => by
    simp only[XiC] at h
    split at h
    · rename_i hg
      injection h with h
      subst h hg
      exact s.ok
    · exact Xgr l g fs h
def asc{α:Type}:List (Nat×α)->Nat->Option α
  | [],_ => none
  | (k,a) :: l,n => if n=k then some a else asc l n
@[go_sem] def Xmf{α:Type}(n:Nat):asc ([]:List (Nat×α)) n=none :=nr rfl
@[go_sem] def Xlu{α:Type}(k:Nat)(a:α)(l:List (Nat×α))(n:Nat):asc ((k,a) :: l) n=if n=k then some a else asc l n :=nr rfl
def Xkl{α:Type}:List (Nat×List α)->Nat->List α
  | [],_ => []
  | (k,a) :: l,n => if n=k then a else Xkl l n
@[go_sem] def Xlv{α:Type}(n:Nat):Xkl ([]:List (Nat×List α)) n=[] :=nr rfl
@[go_sem] def Xk3{α:Type}(k:Nat)(a:List α)(l:List (Nat×List α))(n:Nat):Xkl ((k,a) :: l) n=if n=k then a else Xkl l n :=nr rfl
abbrev LV :=List (Nat×List Nat×List Nat)
structure FD where
  md:List Md
  wk:Bool :=false
  rg:LV :=[]
  lv:LV :=[]
  out:LV :=[]
  rets:Option (List Nat×List Nat) :=none
  al:List Nat :=[]
  plan:List (Nat×XaR) :=[]
  fz:List Nat :=[]
  nz:Bool :=false
  ws:List (Nat×List (Bool×Nat×Nat)) :=[]
structure Xkm (P:Program) where
  T:TypeId->Option TI
  Q:TypeId->Option (List Nat)
  ok:∀cx:Cx,cx.T=T->cx.eqs=Q->Xcm P cx
  wide:P.follows .mixedOrders=true
def Xk4{P:Program}[HasTb P](ty:Xkm P)(tab:List (SP P))(d:FD)(n:Nat):Cx :=
  {T :=ty.T,fns :=XiC tab,cuts :=λ_ => [],rg :=asc d.rg,live :=asc d.lv,out :=asc d.out,rets :=d.rets,al :=d.al,plan :=asc d.plan,fz :=d.fz,eqs :=ty.Q,rounds :=n,nz :=d.nz,ws :=Xkl d.ws}
def Xmg(md:List Md)(j:Nat):Bool :=match md[j]? with
  | some m => !YQ m
  | none => false
def ckS{P:Program}[HasTb P](ty:Xkm P)(tab:List (SP P))(d:FD)(f:Func):Bool :=match f.body with
  | some c => (!(f.name == "runtime.NumGoroutine")) && Yk (Xk4 ty tab d 0) (Xmg d.md) f.ntmps c && decide (d.md.length <= f.ntmps) && XkL d.md
  | none => false
def Xk5{P:Program}[HasTb P](ty:Xkm P)(g:Nat)(f:Func)(tab:List (SP P))(d:FD)(hf:P.funcs[g]?=some f)(hk:ckS ty tab d f=true):Ze P g ⟨d.md,FR (Xk4 ty tab d 0) d.md d.wk f,d.wk⟩ :=by
  unfold ckS at hk
  cases hb:f.body with
  | none => rw[hb] at hk; cases hk
  | some c =>
    rw[hb] at hk
    simp only[Bool.and_eq_true,Bool.not_eq_true',decide_eq_true_eq] at hk
    obtain⟨⟨⟨h1,h2⟩,h3⟩,h4⟩ :=hk
    refine Xi3 (cx :=Xk4 ty tab d 0) (c :=c) ty.wide (ty.ok _ rfl rfl) (Xgr tab) hf h1 hb (Xmg d.md) (λj m hj hm => ?_) h2 h3 h4 (λas r os h _ _ => ?_) (λhw as r os h => ?_)
    · simp only[Xmg,hj,hm,Bool.not_false]
    · obtain⟨n,h5,_⟩ :=XiB h
      exact⟨n,h5⟩
    · obtain⟨n,_,h6⟩ :=XiB h
      have hw':d.wk=false :=hw
      simp only[QP,hw',Bool.false_or,Bool.and_eq_true,Bool.not_eq_true',List.all_eq_true] at h6
      exact⟨h6.1,λo ho => by simpa using h6.2 o ho⟩
noncomputable def mkS{P:Program}[HasTb P](ty:Xkm P)(g:Nat)(f:Func)(tab:List (SP P))(d:FD)(hf:P.funcs[g]?=some f)(hk:ckS ty tab d f=true):SP P :=⟨g,⟨d.md,FR (Xk4 ty tab d 0) d.md d.wk f,d.wk⟩,Xk5 ty g f tab d hf hk⟩
def XI{P:Program}[HasTb P]{ty:Xkm P}{f:Func}{tab:List (SP P)}{d:FD}{as:List AV}{r:AV}{os:List AV}{c:Code}{rv:List ResultVar}(n:Nat)(hb:f.body=some c)(hr:f.results=rv.toArray)
    (h:∀cx:Cx,(cx.T=ty.T/\cx.fns=XiC tab/\cx.rg=asc d.rg/\cx.live=asc d.lv/\cx.out=asc d.out/\cx.rets=d.rets/\cx.al=d.al/\cx.plan=asc d.plan/\cx.fz=d.fz/\cx.eqs=ty.Q/\cx.rounds=n/\cx.ws=Xkl d.ws/\∀k,cx.cuts k=[])->Xiz cx d.md rv (Xi cx 0 c (QV d.md as))=some (r,os)) (hw:QP d.wk r os=true) (hz:d.nz=false :=by rfl):FR (Xk4 ty tab d 0) d.md d.wk f as=some (r,os) :=by
  refine Xme (n :=n) ?_ hw
  rw[Xf1 _ _ f _ c rv hb hr hz]
  exact h _ ⟨rfl,rfl,rfl,rfl,rfl,rfl,rfl,rfl,rfl,rfl,rfl,rfl,λ_ => rfl⟩
def QC:Code->List Code
  | .loop c => c :: QC c
  | .seq a b => QC a++QC b
  | .cond _ a b => QC a++QC b
  | .block _ c => QC c
  | _ => []
def UL(f:Func)(i:Nat):Code :=match f.body with
  | some b => ((QC b)[i]?).getD .skip
  | none => .skip
def YW(f:Func)(i:Nat)(b c:Code)(hb:f.body=some b)(hl:(QC b)[i]?=some c):UL f i=c :=by simp only[UL,hb,hl,Option.getD_some]
def Xa4{α σ:Type}(c:α->σ->Bool)(g:α->σ->σ):List α->σ->σ⊕(α×σ)
  | [],s => .inl s
  | x :: xs,s => if c x s=true then .inr (x,s) else Xa4 c g xs (g x s)
def XcV{α σ:Type}(c:α->σ->Bool)(g:α->σ->σ)(x:α)(xs:List α)(s:σ):Xa4 c g (x :: xs) s=if c x s=true then .inr (x,s) else Xa4 c g xs (g x s) :=rfl
def XcW{α σ:Type}(g:α->σ->σ):∀(xs:List α) (s:σ),Xa4 (λ_ _ => false) g xs s=.inl (xs.foldl (λs x => g x s) s)
  | [],s => rfl
  | x :: xs,s => by simp only[Xa4,Bool.false_eq_true,if_false,List.foldl_cons]; exact XcW g xs _
def Uo{α σ:Type}{cx:Cx}{blk:Nat}{body:Code}(xs:List α)(S:Nat->σ->St)(X:σ->St)(c:α->σ->Bool)(g:α->σ->σ)(R:α->σ->Ex×St)(I:Nat->σ->Prop)
    (hend:∀s,I xs.length s->∀G,Xb2 (Xi cx blk body (S xs.length s)) G=some (.ex blk,X s))
    (hstep:∀k (hk:k<xs.length) s,I k s->(c xs[k] s=true/\∀G,Xb2 (Xi cx blk body (S k s)) G=some (R xs[k] s))\/(c xs[k] s=false/\I (k+1) (g xs[k] s)/\∃st',(∀G,Xb2 (Xi cx blk body (S k s)) G=G st')/\keep (cx.live blk) st'=S (k+1) (g xs[k] s)))
    (s:σ) (hI:I 0 s) (N:Nat) (hN:xs.length+1<=N) :
    ∃r,(∀st,keep (cx.live blk) st=S 0 s->Xa0 cx blk body N st=r)/\((∃s',Xa4 c g xs s=.inl s'/\I xs.length s'/\r=some (.ex blk,X s'))\/∃x s',Xa4 c g xs s=.inr (x,s')/\r=some (R x s')) :=by
  obtain⟨M,rfl⟩:∃M,N=M+1 :=⟨N-1,by omega⟩
  have key:∀(k:Nat) (s:σ) (M:Nat),k<=xs.length->I k s->xs.length-k<=M->(∃s',Xa4 c g (xs.drop k) s=.inl s'/\I xs.length s'/\Xb2 (Xi cx blk body (S k s)) (λs => Xa0 cx blk body M s)=some (.ex blk,X s'))\/∃x s',Xa4 c g (xs.drop k) s=.inr (x,s')/\Xb2 (Xi cx blk body (S k s)) (λs => Xa0 cx blk body M s)=some (R x s') :=by
    intro k s M
    induction M generalizing k s with
    | zero =>
      intro hk hI hM
      obtain rfl:k=xs.length :=by omega
      exact .inl ⟨s,by rw[List.drop_length]; rfl,hI,hend s hI _⟩
    | succ M ih =>
      intro hk hI hM
      by_cases he:k=xs.length
      · subst he
        exact .inl ⟨s,by rw[List.drop_length]; rfl,hI,hend s hI _⟩
      · have hlt:k<xs.length :=by omega
        rcases hstep k hlt s hI with⟨h1,h2⟩ | ⟨h1,h2,st',h4,h3⟩
        · exact .inr ⟨xs[k],s,by rw[List.drop_eq_getElem_cons hlt,XcV,if_pos h1],h2 _⟩
        · rw[h4,Xbz,h3,List.drop_eq_getElem_cons hlt,XcV,if_neg (by simp[h1])]
          exact ih (k+1) _ (by omega) h2 (by omega)
  exact⟨_,λst hst => by rw[Xbz,hst],key 0 s M (Nat.zero_le _) hI (by omega)⟩
def Zf{α σ:Type}{cx:Cx}{blk:Nat}{body:Code}(xs:List α)(S:Nat->σ->St)(X:σ->St)(g:α->σ->σ)(I:Nat->σ->Prop)
    (hend:∀s,I xs.length s->∀G,Xb2 (Xi cx blk body (S xs.length s)) G=some (.ex blk,X s))
    (hstep:∀k (hk:k<xs.length) s,I k s->I (k+1) (g xs[k] s)/\∃st',(∀G,Xb2 (Xi cx blk body (S k s)) G=G st')/\keep (cx.live blk) st'=S (k+1) (g xs[k] s))
    (s:σ) (hI:I 0 s) (N:Nat) (hN:xs.length+1<=N) :
    I xs.length (xs.foldl (λs x => g x s) s)/\∀st,keep (cx.live blk) st=S 0 s->Xa0 cx blk body N st=some (.ex blk,X (xs.foldl (λs x => g x s) s)) :=by
  obtain⟨r,h1,h⟩ :=Uo (cx :=cx) (blk :=blk) (body :=body) xs S X (λ_ _ => false) g (λ_ s => (.ret,X s)) I hend (λk hk s hI => .inr ⟨rfl,hstep k hk s hI⟩) s hI N hN
  rw[XcW] at h
  rcases h with⟨s',h2,h3,h4⟩ | ⟨x,s',h2,h3⟩
  · injection h2 with h2
    subst h2
    exact⟨h3,λst hst => by rw[h1 st hst,h4]⟩
  · cases h2
end Go.Vm
set_option autoImplicit false
namespace Go.Vm
@[go_sem] def Xzc:((0:Nat):Int)=0 :=nr rfl
@[go_sem] def Xzd:((1:Nat):Int)=1 :=nr rfl
@[go_sem] def Xkn:Xef .nilFunc=.u :=nr rfl
def UM{k:Int}(h0:-9223372036854775808<=k)(h:k<=9223372036854775807):(IntKind.i64).wrap k=k :=by
  simp[IntKind.wrap,IntKind.bits,IntKind.signed]
  omega
def X7{k:Nat}(h:k<9223372036854775807):(IntKind.i64).wrap ((k:Int)+1)=((k+1:Nat):Int) :=by
  rw[UM (by omega) (by omega)]; rfl
def YN(n k:Nat)(h:k<n):YH n (k:Int)=some k :=by
  simp only[YH]
  rw[if_pos ⟨by omega,by omega⟩]; rfl
def Zp{α:Type}(f:α->List AV)(xs:List α)(k:Nat)(h:k<xs.length):(xs.map f).getD k []=f xs[k] :=by simp[List.getD,h]
@[go_sem] def Xk6{α:Type}(f:α->List AV)(xs:List α):(xs.map f).take xs.length=xs.map f :=by
  have :=List.take_length (l :=xs.map f)
  rwa [List.length_map] at this
noncomputable def eqv{α:Type}(a b:α):Bool :=open Classical in decide (a=b)
def Y5{α:Type}{a b:α}:eqv a b=true↔a=b :=by simp[eqv]
def Up{α:Type}(a:α):eqv a a=true :=by simp[eqv]
def QD{α:Type}{p:Bool}{a b:α}(h:p=true↔a=b):p=eqv a b :=by
  cases p with
  | true => exact(Y5.2 (h.1 rfl)).symm
  | false =>
    cases he:eqv a b with
    | false => rfl
    | true => exact absurd (h.2 (Y5.1 he)) (by simp)
def Q0(a b:Int):(a==b)=eqv a b :=QD (by simp)
def Z1(a b:Int):(a !=b)=!eqv a b :=by rw[bne,Q0]
def Qj(a b:Bool):(a==b)=eqv a b :=QD (by simp)
def ZC(a b:Bool):(a !=b)=!eqv a b :=by rw[bne,Qj]
def Xd9(a b:UInt8):((a.toNat:Int) !=(b.toNat:Int))=!eqv a b :=by
  rw[bne,QD (p :=((a.toNat:Int)==(b.toNat:Int))) (a :=a) (b :=b)]
  simp only[beq_iff_eq,Int.ofNat_inj]
  exact UInt8.toNat_inj
def Xk7{a b:ByteArray}(h:a.toList=b.toList):a=b :=by
  rw[ByteArray.toList_eq,ByteArray.toList_eq] at h
  cases a; cases b
  simp only[ByteArray.mk.injEq] at h ⊢
  exact Array.ext' h
def Zg(a b:ByteArray):(a.toList==b.toList)=eqv a b :=QD (by
  constructor
  · intro h; exact Xk7 (by simpa using h)
  · rintro rfl; simp)
def XbC:∀xs:List UInt8,U5 (xs.map λb => [.i .u8 b.toNat])=some xs
  | [] => rfl
  | x :: xs => by
    simp only[List.map_cons,U5,XbC xs,Int.toNat_natCast,UInt8.ofNat_toNat]
@[go_sem] def Xlw(o:Oper)(a b:List Oper):Z6 (List.append (o :: a) b) 0=some o :=nr rfl
@[go_sem] def Xlx(o:Oper)(a b:List Oper)(n:Nat):Z6 (List.append (o :: a) b) (n+1)=Z6 (List.append a b) n :=nr rfl
@[go_sem] def Xly(b:List Oper)(n:Nat):Z6 (List.append [] b) n=Z6 b n :=nr rfl
@[go_sem] def Xlz(o:Oper)(a b:List Oper):ZX (List.append (o :: a) b) 0=o.dst :=nr rfl
@[go_sem] def XlA(o:Oper)(a b:List Oper)(n:Nat):ZX (List.append (o :: a) b) (n+1)=ZX (List.append a b) n :=nr rfl
@[go_sem] def XlB(b:List Oper)(n:Nat):ZX (List.append [] b) n=ZX b n :=nr rfl
@[go_sem] def Xko(cx:Cx)(ops:List Oper)(cs:List (Option (List Nat)))(st:St)(o:Oper)(a b:List Oper):Xz cx ops cs st (List.append (o :: a) b)=Xz cx ops cs st (o :: List.append a b) :=nr rfl
@[go_sem] def Xkp(cx:Cx)(ops:List Oper)(cs:List (Option (List Nat)))(st:St)(b:List Oper):Xz cx ops cs st (List.append [] b)=Xz cx ops cs st b :=nr rfl
@[go_sem] def Xmh{α β γ:Type}(f:β->γ)(g:α->β)(xs:List α):List.take xs.length ((xs.map g).map f)=(xs.map g).map f :=List.take_of_length_le (by simp)
end Go.Vm
set_option autoImplicit false
namespace Go.Vm
open Go.ChangeShapes Go.WideShapes
inductive Sh
  | b | i (k:IntKind) | s | sl (r:List Sh)
def XlC(g:TypeId->Option (List Sh))(P:Program):List Field->Nat->Option (List Sh)
  | [],_ => some []
  | f :: r,off => match g f.type with
    | some q => if f.offset=off/\P.cellsOf f.type=q.length then(match XlC g P r (off+q.length) with
      | some l => some (q++l)
      | none => none) else none
    | none => none
def Xkq(P:Program):Nat->TypeId->Option (List Sh)
  | 0,_ => none
  | n+1,t => match P.underlying t with
    | some .bool => some [.b]
    | some (.int k) => some [.i k]
    | some .string => some [.s]
    | some (.slice e) => match Xkq P n e with
      | some (x :: r) => if P.cellsOf e=(x :: r).length then some [.sl (x :: r)] else none
      | _ => none
    | some (.struct fs) => match XlC (Xkq P n) P fs.toList 0 with
      | some l => if P.cellsOf t=l.length then some l else none
      | none => none
    | _ => none
inductive Xb9:Sh->AV->Prop
  | b {x:Bool}:Xb9 .b (.b x)
  | i {k:IntKind} {n:Int} (h:(Lit.int k n).wf=true):Xb9 (.i k) (.i k n)
  | s {x:ByteArray} (h:x.size<=maxLen):Xb9 .s (.s x)
  | sl {r:List Sh} {es:List (List AV)} (hl:es.length<=maxLen) (hz:∀row∈es,row.length=r.length) (h:∀row∈es,∀(j:Nat) (sh:Sh) (a:AV),r[j]?=some sh->row[j]?=some a->Xb9 sh a):Xb9 (.sl r) (.sl .ro r.length es)
def U8(r:List Sh)(row:List AV):Prop :=row.length=r.length/\∀(j:Nat) (sh:Sh) (a:AV),r[j]?=some sh->row[j]?=some a->Xb9 sh a
def Xgs(w:World):CS :=λg k => ∃v,Xq w g k=some v
def Xj3{w:World}{g k:Nat}(h:Xgs w g k):g<w.heap.size :=by
  obtain⟨v,hv⟩ :=h
  exact World.block_lt_of_cell? w ⟨g,k,none⟩ hv
def Uq(w:World)(shs:List Sh)(cs:List Value)(as:List AV):Prop :=cs.length=shs.length/\U8 shs as/\∀(j:Nat) (v:Value) (a:AV),cs[j]?=some v->as[j]?=some a->Rep w (Xgs w) v a nos
def Uq.one{w:World}{sh:Sh}{v:Value}{a:AV}(h:Xb9 sh a)(hr:Rep w (Xgs w) v a nos):Uq w [sh] [v] [a] :=by
  refine⟨rfl,⟨rfl,λj q b hs hb => ?_⟩,λj u b hu hb => ?_⟩
  · rcases j with _ | j
    · simp only[List.getElem?_cons_zero,Option.some.injEq] at hs hb; subst hs hb; exact h
    · simp at hs
  · rcases j with _ | j
    · simp only[List.getElem?_cons_zero,Option.some.injEq] at hu hb; subst hu hb; exact hr
    · simp at hu
def U4{α:Type}{l r:List α}{j:Nat}{x:α}(h:(l++r)[j]?=some x):l[j]?=some x\/(l.length<=j/\r[j-l.length]?=some x) :=by
  by_cases hj:j<l.length
  · rw[List.getElem?_append_left hj] at h; exact .inl h
  · rw[List.getElem?_append_right (by omega)] at h; exact .inr ⟨by omega,h⟩
def Uq.app{w:World}{s1 s2:List Sh}{c1 c2:List Value}{a1 a2:List AV}(h1:Uq w s1 c1 a1)(h2:Uq w s2 c2 a2):Uq w (s1++s2) (c1++c2) (a1++a2) :=by
  obtain⟨l1,⟨m1,p1⟩,q1⟩ :=h1
  obtain⟨l2,⟨m2,p2⟩,q2⟩ :=h2
  refine⟨by simp[l1,l2],⟨by simp[m1,m2],λj q a hs ha => ?_⟩,λj v a hv ha => ?_⟩
  · rcases U4 hs with hs | ⟨h0,hs⟩
    · have hlt :=(List.getElem?_eq_some_iff.1 hs).1
      rw[List.getElem?_append_left (by omega)] at ha
      exact p1 j q a hs ha
    · rw[List.getElem?_append_right (by omega),m1] at ha
      exact p2 _ q a hs ha
  · rcases U4 hv with hv | ⟨h0,hv⟩
    · have hlt :=(List.getElem?_eq_some_iff.1 hv).1
      rw[List.getElem?_append_left (by omega)] at ha
      exact q1 j v a hv ha
    · rw[List.getElem?_append_right (by omega),m1,<-l1] at ha
      exact q2 _ v a hv ha
def Xk8{a:Addr}(h:a.spot=none)(n:Nat):a.add n=⟨a.block,a.off+n,none⟩ :=by
  unfold Addr.add
  split
  · rename_i h0; subst h0; cases a; simp only at h; subst h; rfl
  · cases a; rfl
section
variable {H : Type} {enc : TypeId × Value -> H} {P : Program} {w : World}
def XeX(n:Nat):∀{fuel:Nat} {t:TypeId} {cs:List Value} {x:DataW H×List MemPlace} {shs:List Sh},DataW.trod enc P w 0 (λ_ => true) true fuel t cs=some x->Xkq P n t=some shs->∃as,Uq w shs cs as :=by
  induction n with
  | zero => intro fuel t cs x shs _ h; cases h
  | succ n ih =>
    intro fuel t cs x shs ht hs
    unfold Xkq at hs
    split at hs
    · rename_i hu
      injection hs with hs; subst hs
      obtain⟨b,rfl,_⟩ :=DataW.trod_bool hu ht
      exact⟨_,Uq.one .b .b⟩
    · rename_i k hu
      injection hs with hs; subst hs
      obtain⟨m,rfl,_,hwf⟩ :=DataW.trod_int hu ht
      exact⟨_,Uq.one (.i hwf) .i⟩
    · rename_i hu
      injection hs with hs; subst hs
      obtain⟨s,rfl,_,hsz⟩ :=DataW.trod_string hu ht
      exact⟨_,Uq.one (.s hsz) .s⟩
    · rename_i e hu
      split at hs
      · rename_i x0 r hr
        split at hs
        · rename_i hce
          injection hs with hs; subst hs
          rcases Go.Deep.open_slice hu ht with⟨rfl,_⟩ | ⟨a,len,cap,m,n',D,Pl,rfl,_,hl,hm,hmm,_,hi⟩
          · refine⟨_,Uq.one (.sl (es :=[]) (Nat.zero_le _) (λ_ h => by cases h) (λ_ h => by cases h)) ?_⟩
            exact .sl 0 0 (λ_ _ => undef) (λ_ _ => nos) rfl (Nat.le_refl _) (by simp) (λh => absurd h (by omega)) (λi row hi => by simp at hi) (λi row j a hi => by simp at hi) (λi row j a hi => by simp at hi)
              ⟨(λe => by cases e),(λe => by cases e),(λe => absurd rfl e),λ_ k hk => absurd hk (by simp)⟩ (λ_ _ => Xm _) (λ_ _ _ _ _ => Xf _) (λe => by cases e) (λ_ _ _ => rfl)
          · simp only[if_true] at hmm
            subst hmm
            generalize hzz:(x0 :: r).length=z at hce
            have hz0:0<z :=by rw[<-hzz]; simp
            rw[hce] at hi
            have hsp:0<m->a.spot=none :=by
              intro h0
              obtain⟨cs',h1,_⟩ :=hi 0 h0
              obtain⟨_,h3,h4⟩ :=World.cells?_some h1
              have :=h4 0 hz0
              rw[List.getElem?_eq_getElem (by omega),Nat.zero_mul] at this
              unfold World.cell? at this
              simp only[Addr.add,if_true] at this
              split at this
              · cases hs:a.spot with
                | none => rfl
                | some q => rw[hs] at this; simp at this
              · cases this
            have hrow:∀i,i<len->∃p:List Value×List AV,(∀j,j<z->Xq w a.block (a.off+(i*z+j))=p.1[j]?)/\Uq w (x0 :: r) p.1 p.2 :=by
              intro i hil
              obtain⟨cs',h1,h2⟩ :=hi i (by omega)
              obtain⟨as,h3⟩ :=ih h2 hr
              obtain⟨_,_,h6⟩ :=World.cells?_some h1
              refine⟨(cs',as),λj hj => ?_,h3⟩
              have :=h6 j hj
              rw[Go.Deep.add_add,Xk8 (hsp (by omega))] at this
              exact this
            obtain⟨f,hf⟩ :=Go.Deep.choose_lt hrow
            let es:List (List AV) :=(List.range len).map λi => (f i).2
            have hes:∀(i:Nat) (row:List AV),es[i]?=some row->i<len/\row=(f i).2 :=by
              intro i row h
              have hlt:i<len :=Decidable.byContradiction λhn => by
                rw[List.getElem?_eq_none (by simp only[es,List.length_map,List.length_range]; omega)] at h
                cases h
              simp only[es,List.getElem?_map,List.getElem?_range hlt,Option.map_some,Option.some.injEq] at h
              exact⟨hlt,h.symm⟩
            have hmem:∀row∈es,∃i,i<len/\row=(f i).2 :=by
              intro row h
              obtain⟨i,h⟩ :=List.getElem?_of_mem h
              exact⟨i,hes i row h⟩
            have hcell:∀i j,i<len->j<z->Xq w a.block (a.off+(i*z+j))=some ((f i).1.getD j undef) :=by
              intro i j h1 h2
              obtain⟨q1,q2,_⟩ :=hf i h1
              rw[q1 j h2,List.getD_eq_getElem?_getD,List.getElem?_eq_getElem (by rw[q2,hzz]; exact h2)]
              rfl
            refine⟨_,Uq.one (.sl (es :=es) (by simp only[es,List.length_map,List.length_range]; omega) (λrow h => ?_) (λrow h => ?_)) ?_⟩
            · obtain⟨i,h1,rfl⟩ :=hmem row h
              exact(hf i h1).2.2.1.1
            · obtain⟨i,h1,rfl⟩ :=hmem row h
              exact(hf i h1).2.2.1.2
            · rw[hzz]
              have hM:maxLen=9223372036854775807 :=rfl
              refine .sl a.block a.off (λi j => (f i).1.getD j undef) (λ_ _ => nos) (by simp[es]) hl (by omega) (λh0 => ?_) (λi row h => ?_) (λi row j b h hj => ?_) (λi row j b h hj => ?_)
                ⟨(λe => by cases e),(λe => by cases e),(λe => absurd rfl e),λ_ k hk => ?_⟩ (λ_ _ => Xm _) (λ_ _ _ _ _ => Xf _) (λe => by cases e) (λ_ _ _ => rfl)
              · have :=hsp h0
                cases a; simp only at this; subst this; rfl
              · obtain⟨h1,rfl⟩ :=hes i row h
                rw[<-hzz]; exact(hf i h1).2.2.1.1
              · obtain⟨h1,rfl⟩ :=hes i row h
                have hlt :=(List.getElem?_eq_some_iff.1 hj).1
                rw[(hf i h1).2.2.1.1,hzz] at hlt
                exact hcell i j h1 hlt
              · obtain⟨h1,rfl⟩ :=hes i row h
                have hlt :=(List.getElem?_eq_some_iff.1 hj).1
                obtain⟨_,q2,q3,q4⟩ :=hf i h1
                rw[q3.1] at hlt
                refine q4 j _ b ?_ hj
                rw[List.getD_eq_getElem?_getD,List.getElem?_eq_getElem (by rw[q2]; exact hlt)]
                rfl
              · have h1:k / z<len :=by rw[Nat.div_lt_iff_lt_mul hz0]; exact hk
                have h2:k%z<z :=Nat.mod_lt _ hz0
                have :=hcell (k / z) (k%z) h1 h2
                rw[Nat.mul_comm,Nat.div_add_mod] at this
                exact⟨_,this⟩
        · cases hs
      · cases hs
    · rename_i fs hu
      obtain⟨xs,n',rfl,_,hlen,hxl,hi⟩ :=DataW.trod_struct hu ht
      split at hs
      · rename_i l hl
        split at hs
        · rename_i hcl
          injection hs with hs; subst hs
          have key:∀(fl:List Field) (off:Nat) (l:List Sh),XlC (Xkq P n) P fl off=some l->(∀f∈fl,∃y,DataW.trod enc P w 0 (λ_ => true) true n' f.type ((cs.drop f.offset).take (P.cellsOf f.type))=some y)->∃as,Uq w l ((cs.drop off).take l.length) as :=by
            intro fl
            induction fl with
            | nil =>
              intro off l h _
              injection h with h; subst h
              exact⟨[],by simp,⟨rfl,λj q a h => by simp at h⟩,λj v a h => by simp at h⟩
            | cons f fl ihf =>
              intro off l h hy
              unfold XlC at h
              split at h
              · rename_i s hfs
                split at h
                · rename_i hc
                  obtain⟨rfl,hc2⟩ :=hc
                  split at h
                  · rename_i l' hl'
                    injection h with h; subst h
                    obtain⟨y,hyy⟩ :=hy f (by simp)
                    obtain⟨a1,h1⟩ :=ih hyy hfs
                    obtain⟨a2,h2⟩ :=ihf _ _ hl' (λg hg => hy g (by simp[hg]))
                    refine⟨a1++a2,?_⟩
                    have e:(cs.drop f.offset).take (s++l').length=(cs.drop f.offset).take (P.cellsOf f.type)++(cs.drop (f.offset+s.length)).take l'.length :=by
                      rw[List.length_append,List.take_add,List.drop_drop,hc2]
                    rw[e]
                    exact h1.app h2
                  · cases h
                · cases h
              · cases h
          obtain⟨as,h⟩ :=key fs.toList 0 l hl (λf hf => by
            obtain⟨i,hi'⟩ :=List.getElem?_of_mem hf
            have hi2:fs[i]?=some f :=by simpa using hi'
            have :=hi i f hi2
            have hlt:i<fs.size :=(Array.getElem?_eq_some_iff.1 hi2).1
            rw[List.getElem?_eq_getElem (by omega)] at this
            exact⟨_,this⟩)
          rw[List.drop_zero,List.take_of_length_le (by omega)] at h
          exact⟨as,h⟩
        · cases hs
      · cases hs
    · cases hs
end
def U8.cons{sh:Sh}{r:List Sh}{row:List AV}(h:U8 (sh :: r) row):∃a row',row=a :: row'/\Xb9 sh a/\U8 r row' :=by
  obtain⟨h1,h2⟩ :=h
  cases row with
  | nil => simp at h1
  | cons a row => exact⟨a,row,rfl,h2 0 sh a rfl rfl,by simpa using h1,λj q b hs hb => h2 (j+1) q b (by simpa using hs) (by simpa using hb)⟩
def U8.nil{row:List AV}(h:U8 [] row):row=[] :=List.length_eq_zero_iff.1 h.1
def Xb9.bool{a:AV}(h:Xb9 .b a):∃x:Bool,a=.b x/\True :=by cases h; exact⟨_,rfl,trivial⟩
def Xb9.int{a:AV}(h:Xb9 (.i .i64) a):∃x:Int,a=.i .i64 x/\(-9223372036854775808<=x/\x<=9223372036854775807) :=by
  cases h with
  | i h =>
    refine⟨_,rfl,?_⟩
    simp only[Lit.wf,Bool.and_eq_true,decide_eq_true_eq,IntKind.min,IntKind.max,IntKind.signed,IntKind.bits] at h
    simpa using h
def Xb9.byte{a:AV}(h:Xb9 (.i .u8) a):∃x:UInt8,a=.i .u8 x.toNat/\True :=by
  cases h with
  | @i _ n h =>
    simp only[Lit.wf,Bool.and_eq_true,IntKind.min,IntKind.max,IntKind.signed,IntKind.bits] at h
    have h1:0<=n :=by simpa using h.1
    have h2:n<=255 :=by simpa using h.2
    refine⟨UInt8.ofNat n.toNat,?_,trivial⟩
    congr 1
    have:(UInt8.ofNat n.toNat).toNat=n.toNat%256 :=UInt8.toNat_ofNat'
    omega
def Xb9.str{a:AV}(h:Xb9 .s a):∃x:ByteArray,a=.s x/\x.size<=9223372036854775807 :=by cases h with | s h => exact⟨_,rfl,h⟩
def Xb9.list{α:Type}{r:List Sh}{f:α->List AV}{ok:α->Prop}(hf:∀row,U8 r row->∃x,row=f x/\ok x){a:AV}(h:Xb9 (.sl r) a):∃xs:List α,a=.sl .ro r.length (xs.map f)/\(xs.length<=9223372036854775807/\∀x∈xs,ok x) :=by
  cases h with
  | @sl _ es hl hz h =>
    have key:∀es:List (List AV),(∀row∈es,U8 r row)->∃xs:List α,es=xs.map f/\∀x∈xs,ok x :=by
      intro es
      induction es with
      | nil => intro _; exact⟨[],rfl,λ_ h => by cases h⟩
      | cons row es ih =>
        intro hr
        obtain⟨x,rfl,hx⟩ :=hf row (hr row (by simp))
        obtain⟨xs,rfl,hxs⟩ :=ih (λq hq => hr q (by simp[hq]))
        exact⟨x :: xs,rfl,λy hy => (List.mem_cons.1 hy).elim (λe => e▸hx) (hxs y)⟩
    obtain⟨xs,rfl,hxs⟩ :=key es (λrow hr => ⟨hz row hr,h row hr⟩)
    have hM:maxLen=9223372036854775807 :=rfl
    exact⟨xs,rfl,by simp only[List.length_map] at hl; omega,hxs⟩
def Xh8(row:List AV)(h:U8 [.i .u8] row):∃x:UInt8,row=[.i .u8 x.toNat]/\True :=by
  obtain⟨a,_,rfl,h0,h⟩ :=h.cons; obtain rfl :=h.nil; obtain⟨x,rfl,_⟩ :=h0.byte; exact⟨x,rfl,trivial⟩
section
variable {H : Type} {enc : TypeId × Value -> H} {P : Program} {w : World}
def Xj4{r:Reach}{base:Nat}{t:TypeId}{v:Value}{d:DataW H}{p:List MemPlace}(n:Nat){fs:Array Field}(hu:P.underlying t=some (.struct fs)){shs:List Sh}(hs:Xkq P n t=some shs)(hval:Value.okWide P w r base t v)(hd:DataW.Trod enc P w 0 (λ_ => true) true t v d p) :
    ∃as,U8 shs as/\Cl w (Xgs w) v (.agg as) nos :=by
  obtain⟨fuel,hf⟩ :=hd
  obtain⟨as,h1⟩ :=XeX n hf hs
  simp only[Value.okWide,hu] at hval
  obtain⟨cs,rfl,_,_⟩ :=hval
  obtain⟨h0,h2,h3⟩ :=h1
  have h0':cs.toList.length=shs.length :=h0
  refine⟨as,h2,?_⟩
  have:Cl w (Xgs w) (.agg cs.toList.toArray) (.agg as) nos :=.agg cs.toList (λ_ => nos) (by rw[h0',h2.1]) (λj v a hv ha => .rep (h3 j v a hv ha)) (λ_ => Xm _) (λ_ _ _ => Xf _)
  rwa [Array.toArray_toList] at this
end
def Xh9{w w':World}(h:Vm.Frame w w' nos):Go.RowKit.Below w.heap.size w w' :=by
  refine⟨h.os,h.tape,h.output,h.size,λk hk => ?_⟩
  rcases h.block k hk with h1 | ⟨c,c',e,fr,h1,h2,h3,h4⟩
  · exact h1
  · rw[h1,h2]
    congr 2
    apply Array.ext_getElem?
    intro i
    exact h4 i (λh => h)
def Xia{P:Program}[HasTb P]{g:FuncId}{f:Func}{c:Code}{md:List Md}{F:List AV->Option (AV×List AV)}{wk:Bool}{W:World}{vs:List Value}{xs os:List AV}(hsp:Ze P g ⟨md,F,wk⟩)(hro:md.all YQ=true)(hF:F xs=some (.b true,os))(hl1:vs.length=md.length)(hl2:xs.length=md.length)
    (hargs : ∀ (j : Nat) (v : Value) (a : AV), vs[j]? = some v -> xs[j]? = some a -> Cl W (Xgs W) v a nos) (hf : P.funcs[g]? = some f) (hname : ¬ f.name = "runtime.NumGoroutine") (hb : f.body = some c) (hT : Tb P (Xgs W) W) :
    Calls P g vs.toArray W λe w' => e=.returned (.bool true)/\Go.RowKit.Below W.heap.size W w' :=by
  have h :=hsp W (Xgs W) vs xs (λ_ => nos) (.b true) os hF hl1 hl2 (λj m v a hm hv ha => by
    have :=List.all_eq_true.1 hro m (List.mem_of_getElem? hm)
    cases m with
    | ro n => exact hargs j v a hv ha
    | _ => cases this) (λ_ _ _ => Xf _) (λ_ => Xf _) (λ_ _ _ h => h.elim) (λ_ _ h => Xj3 h) hT
  rcases h with⟨v,w',h1,_⟩ | ⟨_,h2⟩
  · exfalso
    have:(callFunc g vs.toArray).run P W=.ok (.enter g vs.toArray) W :=by simp[callFunc,hf,hname,hb]
    rw[this] at h1
    cases h1
  · intro cs
    obtain⟨e,w',fr,k1,k2⟩ :=h2 cs
    refine⟨e,w',fr,?_,k2⟩
    cases e with
    | returned v =>
      obtain⟨Im',S,Of,b,_⟩ :=k1
      have hv:v=.bool true :=by
        have :=b.res
        cases this with
        | leaf h => cases h with
          | rep h => cases h; rfl
      exact⟨by rw[hv],Xh9 (b.frame.mono (λg k ⟨j,hb⟩ => hb))⟩
    | panicked => exact k1.elim
    | outgrown => exact k1.elim
def Xk9{P:Program}[HasTb P]{s:SP P}{f:Func}{c:Code}{W:World}{vs:List Value}{xs os:List AV}(hF:s.F xs=some (.b true,os))(hro:s.fs.md.all YQ=true)(hl1:vs.length=s.fs.md.length)(hl2:xs.length=s.fs.md.length)
    (hargs : ∀ (j : Nat) (v : Value) (a : AV), vs[j]? = some v -> xs[j]? = some a -> Cl W (Xgs W) v a nos) (hf : P.funcs[s.g]? = some f) (hname : ¬ f.name = "runtime.NumGoroutine") (hb : f.body = some c) (hT : Tb P (Xgs W) W) :
    Calls P s.g vs.toArray W λe w' => e=.returned (.bool true)/\Go.RowKit.Below W.heap.size W w' :=Xia (md :=s.fs.md) (F :=s.fs.F) (wk :=s.fs.wk) s.ok hro hF hl1 hl2 hargs hf hname hb hT
end Go.Vm
set_option autoImplicit false
namespace Go.Vm
@[go_sem] def XlD{α:Type}(l:List α)(i:Nat)(y z:α):(l.set i y).set i z=l.set i z :=by simp
@[go_sem] def XlE{α:Type}(l:List α)(i:Nat)(y:α):(l.set i y).length=l.length :=by simp
end Go.Vm
set_option autoImplicit false
namespace Go.Vm
def Xib{P:Program}[HasTb P]{g:FuncId}{md:List Md}{F:List AV->Option (AV×List AV)}{wk:Bool}(hro:md.all YQ=true)
    (h:∀(w:World) (Im:CS) (vs:List Value) (as:List AV) (r:AV) (os:List AV),F as=some (r,os)->vs.length=md.length->as.length=md.length ->
      (∀(j:Nat) (v:Value) (a:AV),vs[j]?=some v->as[j]?=some a->Cl w Im v a nos)->Tb P Im w ->
      Q8 r=none/\(wk=false->XG r=false/\∀o∈os,XG o=false)/\Ans P g vs.toArray w λv w' => Frame w w' nos/\Cl w' Im v r nos):Ze P g ⟨md,F,wk⟩ :=by
  intro w Im vs as Sf r os hF hv ha harg hd hdI hin hI hT
  have hmd:∀(j:Nat) (m:Md),md[j]?=some m->YQ m=true :=λj m hm => List.all_eq_true.1 hro m (List.mem_of_getElem? hm)
  obtain⟨h1,h2,h3⟩ :=h w Im vs as r os hF hv ha (λj v a hj hj' => by
    have hlt:j<md.length :=by rw[<-hv]; exact(List.getElem?_eq_some_iff.1 hj).1
    have hm :=List.getElem?_eq_getElem hlt
    have :=harg j _ v a hm hj hj'
    have h0 :=hmd j _ hm
    generalize md[j]=m at this h0
    cases m with
    | ro n => exact this
    | _ => cases h0) hT
  refine h3.mono λv w' ⟨hfr,hc⟩ => ?_
  refine⟨Im,nos,λ_ => nos,⟨hfr.mono (Xm _),Sub.rfl' _,λg k hx => .inl hx,λg k hx => Nat.lt_of_lt_of_le (hI g k hx) hfr.size,?_,λj m u o hm _ _ => ?_,λ_ _ _ => Xf _,λ_ => Xf _,Xf _,λ_ => Xf _,λ_ _ hx => hx.elim,λ_ _ _ hx => hx.elim,λ_ _ hx => hx.elim,λ_ _ _ hx => hx.elim⟩,h2⟩
  · unfold XbW; rw[h1]; exact hc
  · have h0 :=hmd j m hm
    cases m with
    | ro n => trivial
    | _ => cases h0
def Cl.str{w:World}{Im:CS}{v:Value}{x:ByteArray}{S:CS}(h:Cl w Im v (.s x) S):v=.string x :=by
  cases h with
  | leaf h => cases h with
    | rep h => cases h; rfl
def Cl.int{w:World}{Im:CS}{v:Value}{k:IntKind}{n:Int}{S:CS}(h:Cl w Im v (.i k n) S):v=.int k n :=by
  cases h with
  | leaf h => cases h with
    | rep h => cases h; rfl
def Xze:List AV->Option (AV×List AV)
  | [.s s,.i .u8 c] => some (.i .i64 (Lib.indexByte s.data.toList c.toNat.toUInt8),[.u,.u])
  | _ => none
@[go_sem] def Xmi(s:ByteArray)(c:Int):Xze [.s s,.i .u8 c]=some (.i .i64 (Lib.indexByte s.data.toList c.toNat.toUInt8),[.u,.u]) :=nr rfl
def Xa5 {P : Program} {g : FuncId} {fn : Func} {c : Code} (hf : P.funcs[g]? = some fn) (hname : (fn.name == "runtime.NumGoroutine") = false) (hb : fn.body = some c) {args : Array Value} (w : World) : (callFunc g args).run P w = .ok (.enter g args) w := by
  have h1 : fn.name ≠ "runtime.NumGoroutine" := by simpa using hname
  simp[callFunc,hf,h1,hb,Sem.run]
@[go_sem] def Xm5:((2:Nat):Int)=2 :=nr rfl
@[go_sem] def Xm6:((3:Nat):Int)=3 :=nr rfl
@[go_sem] def Xm7:((4:Nat):Int)=4 :=nr rfl
@[go_sem] def Xm8:((5:Nat):Int)=5 :=nr rfl
@[go_sem] def Xm9:((6:Nat):Int)=6 :=nr rfl
@[go_sem] def Xna:((7:Nat):Int)=7 :=nr rfl
@[go_sem] def Xnb:((8:Nat):Int)=8 :=nr rfl
@[go_sem] def Xmj:YH 1 0=some 0 :=nr rfl
@[go_sem] def Xmk:YH 2 0=some 0 :=nr rfl
@[go_sem] def Xml:YH 2 1=some 1 :=nr rfl
@[go_sem] def Xmm:YH 3 0=some 0 :=nr rfl
@[go_sem] def Xmn:YH 3 1=some 1 :=nr rfl
@[go_sem] def Xmo:YH 3 2=some 2 :=nr rfl
@[go_sem] def Xmp:YH 4 0=some 0 :=nr rfl
@[go_sem] def Xmq:YH 4 1=some 1 :=nr rfl
@[go_sem] def Xmr:YH 4 2=some 2 :=nr rfl
@[go_sem] def Xms:YH 4 3=some 3 :=nr rfl
@[go_sem] def Xmt:YH 5 0=some 0 :=nr rfl
@[go_sem] def Xmu:YH 5 1=some 1 :=nr rfl
@[go_sem] def Xmv:YH 5 2=some 2 :=nr rfl
@[go_sem] def Xmw:YH 5 3=some 3 :=nr rfl
@[go_sem] def Xmx:YH 5 4=some 4 :=nr rfl
@[go_sem] def Xmy:YH 6 0=some 0 :=nr rfl
@[go_sem] def Xmz:YH 6 1=some 1 :=nr rfl
@[go_sem] def XmA:YH 6 2=some 2 :=nr rfl
@[go_sem] def XmB:YH 6 3=some 3 :=nr rfl
@[go_sem] def XmC:YH 6 4=some 4 :=nr rfl
@[go_sem] def XmD:YH 6 5=some 5 :=nr rfl
@[go_sem] def XmE:YH 7 0=some 0 :=nr rfl
@[go_sem] def XmF:YH 7 1=some 1 :=nr rfl
@[go_sem] def XmG:YH 7 2=some 2 :=nr rfl
@[go_sem] def XmH:YH 7 3=some 3 :=nr rfl
@[go_sem] def XmI:YH 7 4=some 4 :=nr rfl
@[go_sem] def XmJ:YH 7 5=some 5 :=nr rfl
@[go_sem] def XmK:YH 7 6=some 6 :=nr rfl
@[go_sem] def XmL:YH 8 0=some 0 :=nr rfl
@[go_sem] def XmM:YH 8 1=some 1 :=nr rfl
@[go_sem] def XmN:YH 8 2=some 2 :=nr rfl
@[go_sem] def XmO:YH 8 3=some 3 :=nr rfl
@[go_sem] def XmP:YH 8 4=some 4 :=nr rfl
@[go_sem] def XmQ:YH 8 5=some 5 :=nr rfl
@[go_sem] def XmR:YH 8 6=some 6 :=nr rfl
@[go_sem] def XmS:YH 8 7=some 7 :=nr rfl
def XmT:List AV->Option (AV×List AV)
  | [.nil,.i .i64 0] => some (.nil,[.u,.u])
  | _ => none
@[go_sem] def XlF:XmT [.nil,.i .i64 0]=some (.nil,[.u,.u]) :=nr rfl
def XdK{w w':World}(h:Go.RowKit.Below w.heap.size w w'):Frame w w' nos :=let ⟨a,b,c,d,e⟩ :=h; ⟨a,b,c,d,λg hg => .inl (e g hg)⟩
end Go.Vm
set_option autoImplicit false
namespace Go.Vm
@[go_sem] def Xj5(z:Nat)(es:List (List AV)):plain (.sl .mut z es)=false :=nr rfl
@[go_sem] def Xj6(z:Nat)(es:List (List AV)):plain (.sl .app z es)=false :=nr rfl
def Xla(z bytes:Nat):List AV->Option (AV×List AV)
  | [.nil,.i .i64 n] => if 0<=n/\n*bytes<=140737488355328/\n<=4611686018427387904 then some (.sl .mut z [],[.u,.u]) else none
  | _ => none
@[go_sem] def Xlb(z bytes:Nat)(n:Int):Xla z bytes [.nil,.i .i64 n]=if 0<=n/\n*bytes<=140737488355328/\n<=4611686018427387904 then some (.sl .mut z [],[.u,.u]) else none :=nr rfl
def XaK:Array Value :=(Lib.pow10Tab.map λz => Value.int .u64 z).toArray
def Xlc(gP:Nat)(Im:CS)(w:World):Prop :=(∀k,k<20->Im gP k)/\∃ty fr,w.heap[gP]?=some (.cells XaK ty fr)
def Qk:XaK.size=20 :=by simp[XaK,Lib.pow10Tab_length]
def Xgt(gP:Nat):∀{Im Im' L:CS} {w w':World},Xlc gP Im w->Sub Im Im'->Frame w w' L->XT Im L->Xlc gP Im' w' :=by
  intro Im Im' L w w' ⟨h1,ty,fr,h2⟩ hs hf hd
  refine⟨λk hk => hs _ _ (h1 k hk),?_⟩
  rcases hf.block gP (Array.getElem?_eq_some_iff.1 h2).1 with h3 | ⟨c,c',e,fr',h3,h4,h5,h6⟩
  · exact⟨ty,fr,h3.trans h2⟩
  · rw[h2] at h3
    injection h3 with h3
    injection h3 with e1 e2 e3
    subst e1 e2 e3
    refine⟨ty,fr,?_⟩
    rw[h4]
    congr 2
    apply Array.ext_getElem?
    intro k
    by_cases hk:k<20
    · exact h6 k (λhl => hd _ _ (h1 k hk) hl)
    · rw[Array.getElem?_eq_none (by rw[h5,Qk]; omega),Array.getElem?_eq_none (by rw[Qk]; omega)]
def Xic{P:Program}{Im:CS}{w:World}{gP:Nat}{name:String}(hg:P.globalNamed name=some gP)(h:Xlc gP Im w):Lib.TabIs P w name .u64 Lib.pow10Tab :=by
  obtain⟨_,ty,fr,h2⟩ :=h
  simp only[Lib.TabIs,World.var?,hg,Option.bind_some,h2]
  rfl
def Xj7{P:Program}{W:World}{gP:Nat}{name:String}(hg:P.globalNamed name=some gP)(h:Lib.TabIs P W name .u64 Lib.pow10Tab):Xlc gP (Xgs W) W :=by
  have hh:∃ty fr,W.heap[gP]?=some (.cells XaK ty fr) :=by
    simp only[Lib.TabIs,World.var?,hg,Option.bind_some] at h
    split at h
    · rename_i cs ty fr hc
      injection h with h
      subst h
      exact⟨_,_,hc⟩
    · cases h
  refine⟨λk hk => ?_,hh⟩
  obtain⟨ty,fr,hh⟩ :=hh
  refine⟨XaK[k]'(by rw[Qk]; exact hk),?_⟩
  have hp:XaK[k]?=some (XaK[k]'(by rw[Qk]; exact hk)) :=Array.getElem?_eq_getElem _
  simp[Xq,World.cell?,hh,hp]
def YZ(n:Int):ByteArray :=⟨(Lib.itoa n).toArray⟩
def Xld:List AV->Option (AV×List AV)
  | [.i .i64 n,.i .i64 10] => if -9223372036854775808<=n/\n<=9223372036854775807 then some (.s (YZ n),[.u,.u]) else none
  | _ => none
@[go_sem] def Xj8(n:Int):Xld [.i .i64 n,.i .i64 10]=if -9223372036854775808<=n/\n<=9223372036854775807 then some (.s (YZ n),[.u,.u]) else none :=nr rfl
def Xle {P : Program} [HasTb P] {g : FuncId} {fn : Func} {c : Code} (hf : P.funcs[g]? = some fn) (hname : (fn.name == "runtime.NumGoroutine") = false) (hb : fn.body = some c) {nm : String}
    (htb:∀(Im:CS) (w:World),Tb P Im w->Lib.TabIs P w nm .u64 Lib.pow10Tab)
    (h:∀(n:Int) (w:World),-9223372036854775808<=n->n<=9223372036854775807->Lib.TabIs P w nm .u64 Lib.pow10Tab->Calls P g #[.int .i64 n,.int .i64 10] w λe w' => e=.returned (.string ⟨(Lib.itoa n).toArray⟩)/\Go.RowKit.Below w.heap.size w w'):Ze P g ⟨[.ro 1,.ro 1],Xld,false⟩ :=by
  refine Xib rfl λw Im vs as r os hF hv ha harg hT => ?_
  unfold Xld at hF
  split at hF
  · match vs,hv with
    | [v0,v1],_ =>
      split at hF
      · rename_i hc
        injection hF with hF
        injection hF with h1 h2
        subst h1 h2
        refine⟨rfl,λ_ => ⟨rfl,λo ho => by rcases List.mem_cons.1 ho with rfl | ho; rfl; rcases List.mem_cons.1 ho with rfl | ho; rfl; cases ho⟩,?_⟩
        obtain rfl :=(harg 0 v0 _ rfl rfl).int
        obtain rfl :=(harg 1 v1 _ rfl rfl).int
        refine .inr ⟨Xa5 hf hname hb w,λcs => ?_⟩
        obtain⟨e,w',fr,⟨k1,k2⟩,k3⟩ :=h _ w hc.1 hc.2 (htb _ _ hT) cs
        subst k1
        exact⟨.returned _,w',fr,(⟨XdK k2,.leaf (.rep .s)⟩:Frame w w' nos/\Cl w' Im (.string (YZ _)) (.s (YZ _)) nos),k3⟩
      · cases hF
  · cases hF
end Go.Vm
set_option autoImplicit false
namespace Go.Vm
end Go.Vm
set_option autoImplicit false
namespace Go.Vm
end Go.Vm
set_option autoImplicit false
set_option maxRecDepth 100000
set_option maxHeartbeats 4000000
attribute [go_sem] Nat.add_zero Nat.zero_add List.contains_cons List.contains_nil List.elem_cons List.elem_nil List.length_cons List.length_nil List.map_cons List.map_nil List.all_cons List.all_nil List.any_cons List.any_nil List.getElem?_cons_zero List.getElem?_cons_succ List.getElem?_nil List.getD_cons_zero List.getD_cons_succ List.append_nil List.nil_append List.cons_append List.isEmpty_cons List.isEmpty_nil List.headD_cons List.headD_nil List.tail_cons List.tail_nil List.take_nil List.drop_nil Bool.and_true Bool.true_and Bool.or_false Bool.or_true Bool.false_or Bool.true_or Bool.not_true Bool.not_false Bool.and_false Bool.false_and Bool.false_eq_true Bool.true_eq_false Bool.and_self Bool.not_not decide_true decide_false decide_eq_true_eq beq_self_eq_true Nat.le_refl Nat.zero_le and_self true_and and_true false_and and_false or_true true_or if_true if_false Option.map_some Option.map_none Option.isSome_none Option.isSome_some eq_self_iff_true not_true_eq_false not_false_eq_true ne_eq Nat.not_lt_zero Nat.succ_ne_zero List.length_map List.set_cons_zero List.set_cons_succ gt_iff_lt ge_iff_le List.take_succ_cons List.take_zero List.drop_zero List.drop_succ_cons bne_self_eq_false
namespace Go.Vm
def XH(b:UInt8):List AV :=[.i .u8 b.toNat]
def XbD(s:ByteArray):List AV :=[.s s]
def Xkr(n:Int):List AV :=[.i .i64 n]
def XeY(b:Bool):List AV :=[.b b]
@[go_sem] def Xlf(b:UInt8):XH b=[.i .u8 b.toNat] :=nr rfl
@[go_sem] def XlG(s:ByteArray):XbD s=[.s s] :=nr rfl
@[go_sem] def XlH(n:Int):Xkr n=[.i .i64 n] :=nr rfl
@[go_sem] def Xlg(b:Bool):XeY b=[.b b] :=nr rfl
def Ym{α:Type}{f g:α->List AV}(h:∀a,Ye (f a)=g a):∀xs:List α,XA (xs.map f)=xs.map g
  | [] => rfl
  | x :: xs => by simp only[List.map_cons,XA,h,Ym h xs]
def YJ{α:Type}{f:α->List AV}(h:∀a,XX (f a)=false):∀xs:List α,XV (xs.map f)=false
  | [] => rfl
  | x :: xs => by simp only[List.map_cons,XV,h,YJ h xs,Bool.or_self]
@[go_sem] def Q1(xs:List UInt8):XA (xs.map XH)=xs.map XH :=Ym (λa => by simp only[XH,Ye,strip]) xs
@[go_sem] def XeZ(xs:List ByteArray):XA (xs.map XbD)=xs.map XbD :=Ym (λa => by simp only[XbD,Ye,strip]) xs
@[go_sem] def Xks(xs:List Int):XA (xs.map Xkr)=xs.map Xkr :=Ym (λa => by simp only[Xkr,Ye,strip]) xs
@[go_sem] def Xj9(xs:List Bool):XA (xs.map XeY)=xs.map XeY :=Ym (λa => by simp only[XeY,Ye,strip]) xs
@[go_sem] def UN(xs:List UInt8):XV (xs.map XH)=false :=YJ (λa => by simp only[XH,XX,XG,Bool.or_self]) xs
@[go_sem] def Xgu(xs:List ByteArray):XV (xs.map XbD)=false :=YJ (λa => by simp only[XbD,XX,XG,Bool.or_self]) xs
@[go_sem] def Xlh(xs:List Int):XV (xs.map Xkr)=false :=YJ (λa => by simp only[Xkr,XX,XG,Bool.or_self]) xs
@[go_sem] def Xkt(xs:List Bool):XV (xs.map XeY)=false :=YJ (λa => by simp only[XeY,XX,XG,Bool.or_self]) xs
@[go_sem] def Xli(xs:List UInt8):U5 (xs.map XH)=some xs :=XbC xs
def szs(n:Nat)(left:Int)(k:Int->Int):Int :=if(IntKind.i64).wrap (left-(n:Int))<0 then -1 else k ((IntKind.i64).wrap (left-(n:Int)))
def szn(r:Int)(k:Int->Int):Int :=if r<0 then -1 else k r
def szO{α:Type}(f:α->Int->Int):List α->Int->Option Int
  | [],l => some l
  | x :: xs,l => if f x l<0 then none else szO f xs (f x l)
def szL{α:Type}(f:α->Int->Int)(xs:List α)(left:Int):Int :=szs xs.length left λl => (szO f xs l).getD (-1)
def XaL(xs:List UInt8)(left:Int):Int :=szs xs.length left λl => l
def szF(n:Nat)(left:Int):Int :=szs n left λl => l
def Xgv(_:UInt8):Prop :=True
def Xe0(s:ByteArray):Prop :=s.size<=9223372036854775807
def Xka(n:Int):Prop :=-9223372036854775808<=n/\n<=9223372036854775807
def okL{α:Type}(p:α->Prop)(xs:List α):Prop :=xs.length<=9223372036854775807/\∀x∈xs,p x
def XdL(s:ByteArray):Prop :=s.size<=1048576
def Xea(_:UInt8):Prop :=True
def Xid(_:Int):Prop :=True
def smL{α:Type}(p:α->Prop)(xs:List α):Prop :=xs.length<=1048576/\∀x∈xs,p x
def ZN{n:Nat}{l:Int}{k:Int->Int}(hn:n<=9223372036854775807)(h0:0<=l)(hl:l<=1048576)(h:0<=szs n l k):n<=1048576/\∃l',0<=l'/\l'<=l/\szs n l k=k l' :=by
  unfold szs at h ⊢
  rw[UM (by omega) (by omega)] at h ⊢
  split at h
  · omega
  · rename_i hc
    rw[if_neg hc]
    exact⟨by omega,_,by omega,by omega,rfl⟩
def Ur{r:Int}{k:Int->Int}(h:0<=szn r k):0<=r/\szn r k=k r :=by
  unfold szn at h ⊢
  split at h
  · omega
  · rename_i hc
    rw[if_neg hc]
    exact⟨by omega,rfl⟩
def XaM{α:Type}(f:α->Int->Int)(ok sm:α->Prop):Prop :=∀a l,ok a->0<=l->l<=1048576->0<=f a l->sm a/\f a l<=l
def Xeb{α:Type}{f:α->Int->Int}{ok sm:α->Prop}(hf:XaM f ok sm):XaM (szL f) (okL ok) (smL sm) :=by
  intro xs l hok h0 hl h
  obtain⟨h1,l',a1,a2,e⟩ :=ZN hok.1 h0 hl h
  have key:∀(ys:List α) (m:Int),(∀x∈ys,ok x)->0<=m->m<=1048576->0<=(szO f ys m).getD (-1)->(∀x∈ys,sm x)/\(szO f ys m).getD (-1)<=m :=by
    intro ys
    induction ys with
    | nil => intro m _ _ _ _; simp[szO]
    | cons y ys ih =>
      intro m ho hm0 hm hs
      simp only[szO] at hs ⊢
      split at hs
      · simp at hs
      · rename_i hc
        rw[if_neg hc]
        obtain⟨s1,s2⟩ :=hf y m (ho y (by simp)) hm0 hm (by omega)
        obtain⟨s3,s4⟩ :=ih _ (λx hx => ho x (by simp[hx])) (by omega) (by omega) hs
        exact⟨λx hx => (List.mem_cons.1 hx).elim (λe => e▸s1) (λhx => s3 x hx),by omega⟩
  unfold szL at h ⊢
  rw[e] at h ⊢
  obtain⟨k1,k2⟩ :=key xs l' hok.2 a1 (by omega) h
  exact⟨⟨h1,k1⟩,by omega⟩
def XcX:XaM XaL (okL Xgv) (smL Xea) :=by
  intro xs l hok h0 hl h
  obtain⟨h1,l',a1,a2,e⟩ :=ZN hok.1 h0 hl h
  unfold XaL at h ⊢
  rw[e]
  exact⟨⟨h1,λ_ _ => trivial⟩,a2⟩
def Y0{α:Type}(f:α->List AV)(z:List AV)(xs:List α)(k:Nat):List (List AV) :=(xs.take k).map f++List.replicate (xs.length-k) z
def XaN{α:Type}(f:α->List AV)(z:List AV)(xs:List α):List.replicate xs.length z=Y0 f z xs 0 :=by simp[Y0]
def XbE{α:Type}(f:α->List AV)(z:List AV)(xs:List α):Y0 f z xs xs.length=xs.map f :=by simp[Y0]
def XbF{α:Type}(f:α->List AV)(z:List AV)(xs:List α)(k:Nat)(h:k<=xs.length):(Y0 f z xs k).length=xs.length :=by simp[Y0]; omega
def XbG{α:Type}(f:α->List AV)(z:List AV)(xs:List α)(k:Nat)(h:k<xs.length):(Y0 f z xs k).set k (f xs[k])=Y0 f z xs (k+1) :=by
  unfold Y0
  rw[List.set_append_right _ _ (by simp; omega)]
  simp only[List.length_map,List.length_take]
  rw[show k-min k xs.length=0 by omega,show xs.length-k=(xs.length-(k+1))+1 by omega,List.replicate_succ,List.set_cons_zero,List.take_succ_eq_append_getElem h,List.map_append]
  simp only[List.map_cons,List.map_nil,List.append_assoc,List.cons_append,List.nil_append]
def UO{α:Type}(f:α->List AV)(z:List AV)(xs:List α)(k:Nat)(h:k<xs.length):(Y0 f z xs k)[k]?=some z :=by
  unfold Y0
  rw[List.getElem?_append_right (by simp; omega)]
  simp only[List.length_map,List.length_take]
  rw[show k-min k xs.length=0 by omega,List.getElem?_replicate,if_pos (by omega)]
def XaO{α:Type}(f:α->List AV)(z:List AV)(xs:List α)(k:Nat)(h:k<xs.length):(Y0 f z xs k).getD k []=z :=by
  rw[List.getD_eq_getElem?_getD,UO f z xs k h]; rfl
def Xgw{α:Type}{f:α->Int->Int}:∀{xs:List α} {l l':Int},Xa4 (λx l => decide (f x l<0)) (λx l => f x l) xs l=.inl l'->szO f xs l=some l'
  | [],l,l',h => by simpa[szO,Xa4] using h
  | x :: xs,l,l',h => by
    by_cases hc:f x l<0
    · simp[Xa4,hc] at h
    · simp only[Xa4,decide_eq_false hc,Bool.false_eq_true,if_false] at h
      simp only[szO,if_neg hc,Xgw h]
def Xgx{α:Type}{f:α->Int->Int}:∀{xs:List α} {l:Int} {p:α×Int},Xa4 (λx l => decide (f x l<0)) (λx l => f x l) xs l=.inr p->szO f xs l=none
  | [],l,p,h => by simp[Xa4] at h
  | x :: xs,l,p,h => by
    by_cases hc:f x l<0
    · simp only[szO,if_pos hc]
    · simp only[Xa4,decide_eq_false hc,Bool.false_eq_true,if_false] at h
      simp only[szO,if_neg hc,Xgx h]
def UP{α:Type}{xs ys:List α}(h:xs.length=ys.length):(xs.zip ys).length=xs.length :=by simp[h]
def XdM{α:Type}:∀{xs ys:List α} {u u':Unit},xs.length=ys.length->Xa4 (λ(x:α×α) (_:Unit) => !eqv x.1 x.2) (λ_ _ => ()) (xs.zip ys) u=.inl u'->eqv xs ys=true
  | [],[],_,_,_,_ => Up _
  | x :: xs,y :: ys,u,u',hl,h => by
    simp only[List.zip_cons_cons,Xa4] at h
    cases hc:eqv x y with
    | false => simp[hc] at h
    | true =>
      simp only[hc,Bool.not_true,Bool.false_eq_true,if_false] at h
      have :=Y5.1 (XdM (by simpa using hl) h)
      rw[Y5.1 hc,this]; exact Up _
def XdN{α:Type}:∀{xs ys:List α} {u:Unit} {p:(α×α)×Unit},xs.length=ys.length->Xa4 (λ(x:α×α) (_:Unit) => !eqv x.1 x.2) (λ_ _ => ()) (xs.zip ys) u=.inr p->eqv xs ys=false
  | [],[],_,_,_,h => by simp[Xa4] at h
  | x :: xs,y :: ys,u,p,hl,h => by
    simp only[List.zip_cons_cons,Xa4] at h
    cases he:eqv (x :: xs) (y :: ys) with
    | false => rfl
    | true =>
      have hh :=Y5.1 he
      injection hh with h1 h2
      subst h1 h2
      simp only[Up,Bool.not_true,Bool.false_eq_true,if_false] at h
      have :=XdN rfl h
      rw[Up] at this; cases this
def Xgy{α:Type}{xs ys:List α}(h:¬xs.length=ys.length):eqv xs ys=false :=by
  cases he:eqv xs ys with
  | false => rfl
  | true => exact absurd (congrArg List.length (Y5.1 he)) h
def Xlj(c:Prop)[Decidable c](k:IntKind)(x y:Int)(l:List AV):(if c then some (AV.i k x,l) else some (AV.i k y,l))=some (AV.i k (if c then x else y),l) :=by split<;>rfl
def Xku(c:Prop)[Decidable c](x y:Bool)(l:List AV):(if c then some (AV.b x,l) else some (AV.b y,l))=some (AV.b (if c then x else y),l) :=by split<;>rfl
def QN(x:Bool):((!x)=true)=(x=false) :=by cases x<;>simp
def Xe1(x y:Bool):(if x=false then false else y)=(x&&y) :=by cases x<;>rfl
end Go.Vm
namespace Go.Vm
structure X8 where
  Code:Int
  Names:List ByteArray
def YO(t:Tag)(a:X8):List AV :=[.i .i64 a.Code,.sl t 1 (a.Names.map XbD)]
@[go_sem] def Xe7(t:Tag)(a:X8):YO t a=[.i .i64 a.Code,.sl t 1 (a.Names.map XbD)] :=nr rfl
@[go_sem] def Xec(t:Tag)(xs:List X8):XA (xs.map (YO t))=xs.map (YO .ro) :=Ym (λa => by simp only[YO,Ye,strip,XeZ]) xs
@[go_sem] def Xe2(xs:List X8):XV (xs.map (YO .mut))=false :=YJ (λa => by simp only[YO,XX,XG,Bool.or_self,Xgu]) xs
@[go_sem] def X8.eta(a:X8):X8.mk a.Code a.Names=a :=nr rfl
def X8.eqv(a b:X8):Vm.eqv a b=(Vm.eqv a.Code b.Code&&(Vm.eqv a.Names b.Names)) :=(QD (by simp only[Bool.and_eq_true,Y5]; cases a; cases b; simp only[X8.mk.injEq,and_assoc])).symm
structure Xj where
  Name:ByteArray
  Value:ByteArray
def Xc(t:Tag)(a:Xj):List AV :=[.s a.Name,.s a.Value]
@[go_sem] def Xkb(t:Tag)(a:Xj):Xc t a=[.s a.Name,.s a.Value] :=nr rfl
@[go_sem] def Zx(t:Tag)(xs:List Xj):XA (xs.map (Xc t))=xs.map (Xc .ro) :=Ym (λa => by simp only[Xc,Ye,strip]) xs
@[go_sem] def ZO(xs:List Xj):XV (xs.map (Xc .mut))=false :=YJ (λa => by simp only[Xc,XX,XG,Bool.or_self]) xs
@[go_sem] def Xj.eta(a:Xj):Xj.mk a.Name a.Value=a :=nr rfl
def Xj.eqv(a b:Xj):Vm.eqv a b=(Vm.eqv a.Name b.Name&&(Vm.eqv a.Value b.Value)) :=(QD (by simp only[Bool.and_eq_true,Y5]; cases a; cases b; simp only[Xj.mk.injEq,and_assoc])).symm
def ZP(a:Xj):Prop :=Xe0 a.Name/\Xe0 a.Value
def XW(a:Xj):Prop :=XdL a.Name/\XdL a.Value
def Y8(a:Xj)(left:Int):Int :=szs a.Name.size left λl => szs a.Value.size l λl => l
def Us:XaM Y8 ZP XW :=by
  intro a left hok h0 hl h
  unfold Y8 at h ⊢
  obtain⟨qName,qValue⟩ :=hok
  obtain⟨sName,l0,a0,b0,e0⟩ :=ZN qName h0 (by omega) h
  rw[e0] at h ⊢
  obtain⟨sValue,l1,a1,b1,e1⟩ :=ZN qValue a0 (by omega) h
  rw[e1] at h ⊢
  exact⟨⟨sName,sValue⟩,by omega⟩
structure Response where
  Status:Int
  Headers:List Xj
  Body:List UInt8
def ZJ(t:Tag)(a:Response):List AV :=[.i .i64 a.Status,.sl t 2 (a.Headers.map (Xc t)),.sl t 1 (a.Body.map XH)]
@[go_sem] def Xie(t:Tag)(a:Response):ZJ t a=[.i .i64 a.Status,.sl t 2 (a.Headers.map (Xc t)),.sl t 1 (a.Body.map XH)] :=nr rfl
@[go_sem] def Xgz(t:Tag)(xs:List Response):XA (xs.map (ZJ t))=xs.map (ZJ .ro) :=Ym (λa => by simp only[ZJ,Ye,strip,Q1,Zx]) xs
@[go_sem] def XgH(xs:List Response):XV (xs.map (ZJ .mut))=false :=YJ (λa => by simp only[ZJ,XX,XG,Bool.or_self,UN,ZO]) xs
@[go_sem] def Response.eta(a:Response):Response.mk a.Status a.Headers a.Body=a :=nr rfl
def Response.eqv(a b:Response):Vm.eqv a b=(Vm.eqv a.Status b.Status&&(Vm.eqv a.Headers b.Headers&&(Vm.eqv a.Body b.Body))) :=(QD (by simp only[Bool.and_eq_true,Y5]; cases a; cases b; simp only[Response.mk.injEq,and_assoc])).symm
def UQ(a:Response):Prop :=Xka a.Status/\(okL ZP) a.Headers/\(okL Xgv) a.Body
def QO(a:Response):Prop :=Xid a.Status/\(smL XW) a.Headers/\(smL Xea) a.Body
def Z2(a:Response)(left:Int):Int :=szn (szL Y8 a.Headers left) λl => szn (XaL a.Body l) λl => l
def XaP:XaM Z2 UQ QO :=by
  intro a left hok h0 hl h
  unfold Z2 at h ⊢
  obtain⟨qStatus,qHeaders,qBody⟩ :=hok
  obtain⟨a0,e0⟩ :=Ur h
  obtain⟨sHeaders,b0⟩ :=(Xeb Us) _ _ qHeaders h0 (by omega) a0
  rw[e0] at h ⊢
  obtain⟨a1,e1⟩ :=Ur h
  obtain⟨sBody,b1⟩ :=XcX _ _ qBody a0 (by omega) a1
  rw[e1] at h ⊢
  exact⟨⟨trivial,sHeaders,sBody⟩,by omega⟩
structure Request where
  Method:ByteArray
  Host:ByteArray
  Path:ByteArray
  Headers:List Xj
def Ql(t:Tag)(a:Request):List AV :=[.s a.Method,.s a.Host,.s a.Path,.sl t 2 (a.Headers.map (Xc t))]
@[go_sem] def XiD(t:Tag)(a:Request):Ql t a=[.s a.Method,.s a.Host,.s a.Path,.sl t 2 (a.Headers.map (Xc t))] :=nr rfl
@[go_sem] def XgI(t:Tag)(xs:List Request):XA (xs.map (Ql t))=xs.map (Ql .ro) :=Ym (λa => by simp only[Ql,Ye,strip,Zx]) xs
@[go_sem] def Xif(xs:List Request):XV (xs.map (Ql .mut))=false :=YJ (λa => by simp only[Ql,XX,XG,Bool.or_self,ZO]) xs
@[go_sem] def Request.eta(a:Request):Request.mk a.Method a.Host a.Path a.Headers=a :=nr rfl
def Request.eqv(a b:Request):Vm.eqv a b=(Vm.eqv a.Method b.Method&&(Vm.eqv a.Host b.Host&&(Vm.eqv a.Path b.Path&&(Vm.eqv a.Headers b.Headers)))) :=(QD (by simp only[Bool.and_eq_true,Y5]; cases a; cases b; simp only[Request.mk.injEq,and_assoc])).symm
def XaQ(a:Request):Prop :=Xe0 a.Method/\Xe0 a.Host/\Xe0 a.Path/\(okL ZP) a.Headers
def Ut(a:Request):Prop :=XdL a.Method/\XdL a.Host/\XdL a.Path/\(smL XW) a.Headers
def QE(a:Request)(left:Int):Int :=szs a.Method.size left λl => szs a.Host.size l λl => szs a.Path.size l λl => szn (szL Y8 a.Headers l) λl => l
def Xa6:XaM QE XaQ Ut :=by
  intro a left hok h0 hl h
  unfold QE at h ⊢
  obtain⟨qMethod,qHost,qPath,qHeaders⟩ :=hok
  obtain⟨sMethod,l0,a0,b0,e0⟩ :=ZN qMethod h0 (by omega) h
  rw[e0] at h ⊢
  obtain⟨sHost,l1,a1,b1,e1⟩ :=ZN qHost a0 (by omega) h
  rw[e1] at h ⊢
  obtain⟨sPath,l2,a2,b2,e2⟩ :=ZN qPath a1 (by omega) h
  rw[e2] at h ⊢
  obtain⟨a3,e3⟩ :=Ur h
  obtain⟨sHeaders,b3⟩ :=(Xeb Us) _ _ qHeaders a2 (by omega) a3
  rw[e3] at h ⊢
  exact⟨⟨sMethod,sHost,sPath,sHeaders⟩,by omega⟩
structure Out where
  Kind:Int
  Id:Int
  Source:ByteArray
  Response:Response
  Request:Request
def Xig(t:Tag)(a:Out):List AV :=[.i .i64 a.Kind,.i .i64 a.Id,.s a.Source,.i .i64 a.Response.Status,.sl t 2 (a.Response.Headers.map (Xc t)),.sl t 1 (a.Response.Body.map XH),.s a.Request.Method,.s a.Request.Host,.s a.Request.Path,.sl t 2 (a.Request.Headers.map (Xc t))]
@[go_sem] def XlI(t:Tag)(a:Out):Xig t a=[.i .i64 a.Kind,.i .i64 a.Id,.s a.Source,.i .i64 a.Response.Status,.sl t 2 (a.Response.Headers.map (Xc t)),.sl t 1 (a.Response.Body.map XH),.s a.Request.Method,.s a.Request.Host,.s a.Request.Path,.sl t 2 (a.Request.Headers.map (Xc t))] :=nr rfl
@[go_sem] def Xkv(t:Tag)(xs:List Out):XA (xs.map (Xig t))=xs.map (Xig .ro) :=Ym (λa => by simp only[Xig,Ye,strip,Q1,Zx]) xs
@[go_sem] def Xlk(xs:List Out):XV (xs.map (Xig .mut))=false :=YJ (λa => by simp only[Xig,XX,XG,Bool.or_self,UN,ZO]) xs
@[go_sem] def Out.eta(a:Out):Out.mk a.Kind a.Id a.Source a.Response a.Request=a :=nr rfl
def Out.eqv(a b:Out):Vm.eqv a b=(Vm.eqv a.Kind b.Kind&&(Vm.eqv a.Id b.Id&&(Vm.eqv a.Source b.Source&&(Vm.eqv a.Response b.Response&&(Vm.eqv a.Request b.Request))))) :=(QD (by simp only[Bool.and_eq_true,Y5]; cases a; cases b; simp only[Out.mk.injEq,and_assoc])).symm
def Xih(a:Out):Prop :=Xka a.Kind/\Xka a.Id/\Xe0 a.Source/\UQ a.Response/\XaQ a.Request
def Xe3(a:Out):Prop :=Xid a.Kind/\Xid a.Id/\XdL a.Source/\QO a.Response/\Ut a.Request
def Xe4(a:Out)(left:Int):Int :=szs a.Source.size left λl => szn (Z2 a.Response l) λl => szn (QE a.Request l) λl => l
def Xe5:XaM Xe4 Xih Xe3 :=by
  intro a left hok h0 hl h
  unfold Xe4 at h ⊢
  obtain⟨qKind,qId,qSource,qResponse,qRequest⟩ :=hok
  obtain⟨sSource,l0,a0,b0,e0⟩ :=ZN qSource h0 (by omega) h
  rw[e0] at h ⊢
  obtain⟨a1,e1⟩ :=Ur h
  obtain⟨sResponse,b1⟩ :=XaP _ _ qResponse a0 (by omega) a1
  rw[e1] at h ⊢
  obtain⟨a2,e2⟩ :=Ur h
  obtain⟨sRequest,b2⟩ :=Xa6 _ _ qRequest a1 (by omega) a2
  rw[e2] at h ⊢
  exact⟨⟨trivial,trivial,sSource,sResponse,sRequest⟩,by omega⟩
structure Xt where
  Code:Int
  Text:ByteArray
def Yz(t:Tag)(a:Xt):List AV :=[.i .i64 a.Code,.s a.Text]
@[go_sem] def XgA(t:Tag)(a:Xt):Yz t a=[.i .i64 a.Code,.s a.Text] :=nr rfl
@[go_sem] def Xe6(t:Tag)(xs:List Xt):XA (xs.map (Yz t))=xs.map (Yz .ro) :=Ym (λa => by simp only[Yz,Ye,strip]) xs
@[go_sem] def Xe8(xs:List Xt):XV (xs.map (Yz .mut))=false :=YJ (λa => by simp only[Yz,XX,XG,Bool.or_self]) xs
@[go_sem] def Xt.eta(a:Xt):Xt.mk a.Code a.Text=a :=nr rfl
def Xt.eqv(a b:Xt):Vm.eqv a b=(Vm.eqv a.Code b.Code&&(Vm.eqv a.Text b.Text)) :=(QD (by simp only[Bool.and_eq_true,Y5]; cases a; cases b; simp only[Xt.mk.injEq,and_assoc])).symm
def XcY(a:Xt):Prop :=Xid a.Code/\XdL a.Text
structure XK where
  Code:Int
  Response:Response
def Yd(t:Tag)(a:XK):List AV :=[.i .i64 a.Code,.i .i64 a.Response.Status,.sl t 2 (a.Response.Headers.map (Xc t)),.sl t 1 (a.Response.Body.map XH)]
@[go_sem] def XdO(t:Tag)(a:XK):Yd t a=[.i .i64 a.Code,.i .i64 a.Response.Status,.sl t 2 (a.Response.Headers.map (Xc t)),.sl t 1 (a.Response.Body.map XH)] :=nr rfl
@[go_sem] def XcZ(t:Tag)(xs:List XK):XA (xs.map (Yd t))=xs.map (Yd .ro) :=Ym (λa => by simp only[Yd,Ye,strip,Q1,Zx]) xs
@[go_sem] def Xc0(xs:List XK):XV (xs.map (Yd .mut))=false :=YJ (λa => by simp only[Yd,XX,XG,Bool.or_self,UN,ZO]) xs
@[go_sem] def XK.eta(a:XK):XK.mk a.Code a.Response=a :=nr rfl
def XK.eqv(a b:XK):Vm.eqv a b=(Vm.eqv a.Code b.Code&&(Vm.eqv a.Response b.Response)) :=(QD (by simp only[Bool.and_eq_true,Y5]; cases a; cases b; simp only[XK.mk.injEq,and_assoc])).symm
end Go.Vm
set_option autoImplicit false
set_option maxRecDepth 100000
set_option maxHeartbeats 4000000
namespace Go.Vm
end Go.Vm
set_option autoImplicit false
set_option maxRecDepth 100000
set_option maxHeartbeats 4000000
namespace Go.Vm
def Xed(row:List AV)(h:U8 [.s,.s] row):∃x:Xj,row=Xc .ro x/\ZP x :=by
  obtain⟨a0,_,rfl,h0,h⟩ :=h.cons
  obtain⟨a1,_,rfl,h1,h⟩ :=h.cons
  obtain rfl :=h.nil
  obtain⟨x0,rfl,o0⟩ :=h0.str
  obtain⟨x1,rfl,o1⟩ :=h1.str
  exact⟨⟨x0,x1⟩,rfl,⟨o0,o1⟩⟩
def XmU(row:List AV)(h:U8 [.i .i64,.i .i64,.s,.i .i64,.sl [.s,.s],.sl [.i .u8],.s,.s,.s,.sl [.s,.s]] row):∃x:Out,row=Xig .ro x/\Xih x :=by
  obtain⟨a0,_,rfl,h0,h⟩ :=h.cons
  obtain⟨a1,_,rfl,h1,h⟩ :=h.cons
  obtain⟨a2,_,rfl,h2,h⟩ :=h.cons
  obtain⟨a3,_,rfl,h3,h⟩ :=h.cons
  obtain⟨a4,_,rfl,h4,h⟩ :=h.cons
  obtain⟨a5,_,rfl,h5,h⟩ :=h.cons
  obtain⟨a6,_,rfl,h6,h⟩ :=h.cons
  obtain⟨a7,_,rfl,h7,h⟩ :=h.cons
  obtain⟨a8,_,rfl,h8,h⟩ :=h.cons
  obtain⟨a9,_,rfl,h9,h⟩ :=h.cons
  obtain rfl :=h.nil
  obtain⟨x0,rfl,o0⟩ :=h0.int
  obtain⟨x1,rfl,o1⟩ :=h1.int
  obtain⟨x2,rfl,o2⟩ :=h2.str
  obtain⟨x3,rfl,o3⟩ :=h3.int
  obtain⟨x4,rfl,o4⟩ :=h4.list (f :=(Xc .ro)) (ok :=ZP) Xed
  obtain⟨x5,rfl,o5⟩ :=h5.list (f :=XH) (ok :=Xgv) Xh8
  obtain⟨x6,rfl,o6⟩ :=h6.str
  obtain⟨x7,rfl,o7⟩ :=h7.str
  obtain⟨x8,rfl,o8⟩ :=h8.str
  obtain⟨x9,rfl,o9⟩ :=h9.list (f :=(Xc .ro)) (ok :=ZP) Xed
  exact⟨⟨x0,x1,x2,⟨x3,x4,x5⟩,⟨x6,x7,x8,x9⟩⟩,rfl,⟨o0,o1,o2,⟨o3,o4,o5⟩,⟨o6,o7,o8,o9⟩⟩⟩
end Go.Vm
