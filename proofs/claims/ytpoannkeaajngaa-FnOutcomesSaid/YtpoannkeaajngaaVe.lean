/- A part of a reflected evaluator of the program's code, and the proof that what it computes is what the machine does. -/
import Derived.Test.YtpoannkeaajngaaVd
import Derived.OrdersHeld
import Derived.LoopN
set_option linter.unusedVariables false
set_option linter.unusedSimpArgs false
set_option autoImplicit false
set_option linter.defProp false
namespace Go.Vm
variable {w0 : World} {L Im0 : CS} {st : St} {tm : Array Value} {w : World} {Im : CS} {base : Nat -> Nat × Nat} {SO : Bool -> Nat -> CS} {P : Program} {cx : Cx} {np : Nat -> Bool} {vals : Nat -> Value} {b0 : Nat -> Nat × Nat}
def XfP[HasTb P](hFs:∀g fs,cx.fns g=some fs->QG P g fs)(hTb:∀w Im,Frame w0 w L->Sub Im0 Im->Tb P Im w)(h:Xp w0 L Im0 st tm w Im base SO){f:Operand}{ts:List TypeId}{xs:List Operand}{r:AV}{st':St}(he:Uf cx st f ts xs=some (r,st')) :
  ∃(g:Nat) (fs:FS) (caps cs:List Value) (cas:List AV),cx.fns g=some fs/\Vm.view st f=.fn g cas/\Xe tm f=.func (.func g) #[] caps.toArray/\Ua P w0 L Im0 tm w base g fs.md (xs.map (Xe tm)++caps) r st':=by
 unfold Uf at he
 split at he
 ·rename_i g as hav
  obtain⟨cas,hcas⟩:∃cas,Vm.view st f=.fn g cas:=by
   unfold Qj at hav
   generalize Vm.view st f=vf at hav
   cases vf with
   | fn g' cs=>simp only[fnV,Option.some.injEq,Prod.mk.injEq] at hav; rw[hav.1]; exact⟨cs,rfl⟩
   | _=>cases hav
  split at he
  ·rename_i fs hfs
   have hS:=hFs g fs hfs
   have key:∀{st1:St} {Im1:CS} {SO1:Bool->Nat->CS},Xp w0 L Im0 st1 tm w Im1 base SO1->Xar cx st1 g fs f ts xs=some (r,st')->∃(g:Nat) (fs:FS) (caps cs:List Value) (cas:List AV),cx.fns g=some fs/\Vm.view st f=.fn g cas/\Xe tm f=.func (.func g) #[] caps.toArray/\Ua P w0 L Im0 tm w base g fs.md (xs.map (Xe tm)++caps) r st':=by
    intro st1 Im1 SO1 h1 he
    unfold Xar at he
    split at he
    ·rename_i k n hrw; obtain⟨caps,k1,k2⟩:=Xhi h1 hTb hS hrw he; exact⟨g,fs,caps,[],cas,hfs,hcas,k1,k2⟩
    ·rename_i hrw; obtain⟨caps,k1,k2⟩:=Xhf h1 hTb hS hrw he; exact⟨g,fs,caps,[],cas,hfs,hcas,k1,k2⟩
   unfold Xas at he
   split at he
   ·split at he
    ·rename_i st1 hw
     obtain⟨Im1,SO1,h1⟩:=h.weakAll hw
     exact key h1 he
    ·cases he
   ·exact key h he
  ·cases he
 ·cases he
def YT(tm:Array Value)(d:Option Nat)(v:Value):(XgK tm d v).size=tm.size:=by cases d<;>simp[XgK]
def YX(a:Act)(d:Option Nat)(v:Value):a.put d v={a with tmps:=XgK a.tmps d v}:=by cases d<;>rfl
def Ub(a:Act):a.eval=Xe a.tmps:=funext (Xk4 a)
def Xlc[HasTb P](hC:Xcs P cx)(hFs:∀g fs,cx.fns g=some fs->QG P g fs)(hTb:∀w Im,Frame w0 w L->Sub Im0 Im->Tb P Im w){a:Act}(h:ZL np vals b0 w0 L Im0 st a.tmps w){o:Oper}(hd:UY np a.tmps.size o){st':St}(he:Xg cx st o=some st'){K:Act->World->Prop}{Q:Exit->Act->World->Prop}
  (hK:∀(tm':Array Value) (w':World),tm'.size=a.tmps.size->ZL np vals b0 w0 L Im0 st' tm' w'->(Z7 cx st o.op=true->Frame w w' nos)->K {a with tmps:=tm'} w'):o.wp P a w K Q:=by
 unfold Oper.wp
 rw[Ub]
 by_cases hc:Xd7 o.op=false
 ·obtain⟨nx,v,w',r1,r2,r4,r3⟩:=Xmo hC h hd hc he
  rw[r1]
  rcases r2 with rfl | ⟨rfl,hdn⟩
  ·rw[Oper.upon_value,YX]; exact hK _ _ (YT _ _ _) r3 r4
  ·rw[Oper.upon_skip,YX]
   rw[hdn] at r3 ⊢
   exact hK _ _ rfl r3 r4
 ·obtain⟨dst,op,type,pos,aft,guard⟩:=o
  cases op with
  | call c =>
   obtain⟨callee,args,ats⟩:=c
   cases callee with
   | value f =>
    obtain⟨Im,base,SO,h,hi⟩:=h
    simp only[Xg,Yo] at he
    cases hdc:Uf cx st f ats.toList args.toList with
    | none=>rw[hdc] at he; cases he
    | some p =>
     obtain⟨r,st1⟩:=p
     rw[hdc] at he
     simp only[Xmj] at he
     obtain⟨g,fs,caps,_,cas,e3,e4,e1,e2⟩:=XfP hFs hTb h hdc
     have hrun:(execOp (Xe a.tmps) ⟨dst,.call ⟨.value f,args,ats⟩,type,pos,aft,guard⟩).run P w=(callFunc g (args.toList.map (Xe a.tmps)++caps).toArray).run P w:=by
      have:(args.map (Xe a.tmps))++caps.toArray=(args.toList.map (Xe a.tmps)++caps).toArray:=by apply Array.ext'; simp
      rw[<-this]
      simp[execOp,resolve,e1,Deferred.ofValue,invoke]
     rw[hrun]
     have fin:∀v w',((fs.md.all YZ=true->Frame w w' nos)/\∃(Im':CS) (SO':Bool->Nat->CS) (S:CS),Xp w0 L Im0 st1 a.tmps w' Im' base SO'/\Xb4 w' Im' v r S/\Xw w0 L w' Im' SO' S)->K (a.put dst v) w':=by
      rintro v w' ⟨k0,Im',SO',S,k1,k2,k3⟩
      rw[YX]
      refine hK _ _ (YT _ _ _) ?_ (λhg=>k0 (by simpa[Z7,e4,Xft,e3] using hg))
      unfold Xb4 at k2
      cases hn:UK r with
      | none =>
       rw[hn] at he k2
       simp only[putN] at he
       simp only at k2
       cases hq:Z6 r with
       | some q =>
        rw[hq] at he k2
        simp only at k2
        obtain⟨us,g0,o0,Sf,S2,rfl,n2,n3,n4,n5,n6,n7,n8,n9⟩:=k2
        cases dst with
        | none=>cases he
        | some d =>
         simp only[XkG,Xk2] at he
         obtain⟨d1,d2⟩:=hd d rfl
         cases hnb:YB st1 d q.1 with
         | none=>rw[hnb] at he; cases he
         | some st2 =>
          rw[hnb] at he
          simp only[Option.some.injEq] at he
          subst he
          obtain⟨_,hs,rfl⟩:=QT hnb
          obtain⟨SO2,r2,r3⟩:=k1.newBoxAt d2 hs n7 (k3.mono n8) n6
          have hpv:=r2.env d
          have e1:(newBox st1 d q.1).env d=.p ⟨false,d,[],0⟩:=by unfold newBox; split<;>simp[Zf]
          rw[e1] at hpv
          obtain⟨ad,a1,a2⟩:=hpv.p
          have e2:(a.tmps.setIfInBounds d (.pointer (some ⟨g0,o0,none⟩))).getD d undef=.pointer (some ⟨g0,o0,none⟩):=by simp[Array.getD,d2]
          rw[e2] at a1
          injection a1 with a1
          injection a1 with a1
          subst a1
          have hT:Top w' Im' (Pt (newBox st1 d q.1) (a.tmps.setIfInBounds d (.pointer (some ⟨g0,o0,none⟩))) w' (upd base d (g0,o0))) (Rf (newBox st1 d q.1) (a.tmps.setIfInBounds d (.pointer (some ⟨g0,o0,none⟩))) w' (upd base d (g0,o0))) (.tuple (us++[Value.pointer (some ⟨g0,o0,none⟩)]).toArray) (.tup (q.2++[.p ⟨false,d,[],0⟩])) (λb k=>∃j,Sf j b k):=by
           refine .tup _ (λj=>if j<us.length then Sf j else nos) (by simp[n2]) (λj u x hu hx=>?_) (λj b k hb=>?_) (λi k hik=>?_)
           ·by_cases hj:j<us.length
            ·rw[List.getElem?_append_left hj] at hu
             rw[List.getElem?_append_left (by omega)] at hx
             rw[if_pos hj]
             exact(n3 j u x hu hx).keep (Sub.rfl' _) (XN.refl _ _) (λ_ _ h=>h.elim) (λ_ _ _ _ _ h=>h.elim) (Sub.rfl' _) (XN.refl _ _)
            ·rw[List.getElem?_append_right (by omega)] at hu
             rw[List.getElem?_append_right (by omega)] at hx
             rw[if_neg hj]
             rw[<-n2] at hx
             cases hz:j-us.length with
             | zero =>
              rw[hz] at hu hx
              simp only[List.getElem?_cons_zero,Option.some.injEq] at hu hx
              subst hu hx
              exact .leaf (.p a2)
             | succ m=>rw[hz] at hu; simp at hu
           ·by_cases hj:j<us.length
            ·rw[if_pos hj] at hb; exact⟨j,hb⟩
            ·rw[if_neg hj] at hb; exact hb.elim
           ·by_cases hi:i<us.length
            ·by_cases hk:k<us.length
             ·rw[if_pos hi,if_pos hk]; exact n4 i k hik
             ·rw[if_neg hk]; exact XM _
            ·rw[if_neg hi]; exact Xh _
          have r4:=r2.put (d:=d) (by simpa using d2) hT (λe r _ b k hb hb'=>by
            obtain⟨j,hb⟩:=hb
            rcases r3 e r b k hb' with hx | hx
            ·exact k3.dis e r b k (n5 j b k hb) hx
            ·exact n9 j b k hb hx)
           (λb k hb=>by obtain⟨j,hb⟩:=hb; exact k3.disI b k (n5 j b k hb)) (λb k hb=>by obtain⟨j,hb⟩:=hb; exact k3.ins b k (n5 j b k hb)) (λb k hb=>by obtain⟨j,hb⟩:=hb; exact k3.from_ b k (n5 j b k hb))
          have e3:(a.tmps.setIfInBounds d (.pointer (some ⟨g0,o0,none⟩))).setIfInBounds d (.tuple (us++[Value.pointer (some ⟨g0,o0,none⟩)]).toArray)=a.tmps.setIfInBounds d (.tuple (us++[Value.pointer (some ⟨g0,o0,none⟩)]).toArray):=by
           apply Array.ext
           ·simp
           ·intro i h1 h2
            by_cases hdi:d=i
            ·subst hdi; simp
            ·simp[Array.getElem_setIfInBounds,hdi]
          rw[e3] at r4
          exact⟨Im',_,_,r4,ZS hi d1 (λr hr=>Yr _ _ hr)⟩
       | none =>
       rw[hq] at he k2
       simp only[XkG,Option.some.injEq] at he
       simp only at k2
       subst he
       cases dst with
       | none=>exact⟨Im',base,SO',k1,hi⟩
       | some d =>
        obtain⟨d1,d2⟩:=hd d rfl
        exact⟨Im',base,_,k1.put d2 (k2.keep (Sub.rfl' _) (XN.refl _ _) (λ_ _ h=>h.elim) (λ_ _ _ _ _ h=>h.elim) (Sub.rfl' _) (XN.refl _ _)) (λe r _=>k3.dis e r) k3.disI k3.ins k3.from_,ZS hi d1 (λ_ _=>rfl)⟩
      | some cs =>
       rw[hn] at he k2
       simp only at k2
       obtain⟨g0,o0,rfl,n2,n3⟩:=k2
       cases dst with
       | none=>cases he
       | some d =>
        simp only[putN] at he
        obtain⟨d1,d2⟩:=hd d rfl
        obtain⟨_,hs,rfl⟩:=QT he
        obtain⟨SO2,r2,_⟩:=k1.newBoxAt d2 hs n3 k3 n2
        exact⟨Im',_,SO2,r2,ZS hi d1 (λr hr=>Yr _ _ hr)⟩
     rcases e2 with⟨v,w',k1,k2⟩ | ⟨k1,k2⟩
     ·rw[k1,Oper.upon_value]; exact fin v w' k2
     ·rw[k1,Oper.upon_enter]
      intro cs
      obtain⟨e,w',fr,q1,q2⟩:=k2 cs
      refine⟨e,w',fr,?_,q2⟩
      cases e with
      | returned v=>exact fin v w' q1
      | panicked=>exact q1.elim
      | outgrown=>exact q1.elim
   | builtin b =>
    cases b with
    | clear =>
     obtain⟨Im,base,SO,h,hi⟩:=h
     simp only[Xg,Yo] at he
     split at he
     ·rename_i x tx h1 h2
      obtain⟨ti,hT,he⟩:=Xx he
      cases dst with
      | some d=>cases he
      | none =>
       have e1:args=#[x]:=by rw[<-Array.toArray_toList (xs:=args),h1]
       have e2:ats=#[tx]:=by rw[<-Array.toArray_toList (xs:=ats),h2]
       subst e1 e2
       obtain⟨w',SO',k1,k2⟩:=h.clear (rt:=type) (hC _ _ hT) (h.view x) he
       have hrun:(execOp (Xe a.tmps) ⟨none,.call ⟨.builtin .clear,#[x],#[tx]⟩,type,pos,aft,guard⟩).run P w=.ok (.value (.tuple #[])) w':=by simp[execOp,resolve,invoke,builtin,k1]
       rw[hrun,Oper.upon_value,YX]
       exact hK _ _ (YT _ _ _) ⟨Im,base,SO',k2,hi⟩ (λhg=>by cases hg)
     ·cases he
    | _=>exact absurd rfl hc
   | _=>exact absurd rfl hc
  | _=>exact absurd rfl hc
end Go.Vm
set_option autoImplicit false
namespace Go.Vm
variable {w0 : World} {L Im0 : CS} {st : St} {tm : Array Value} {w : World} {Im : CS} {base : Nat -> Nat × Nat} {SO : Bool -> Nat -> CS} {P : Program} {cx : Cx} {np : Nat -> Bool} {vals : Nat -> Value} {b0 : Nat -> Nat × Nat}
def Xp.forget(h:Xp w0 L Im0 st tm w Im base SO){k:Pl->Bool}{pe pb:Nat->Bool}(hk:∀q,k q=true->if q.e=true then pe q.r=true else pb q.r=true) :
  Xp w0 L Im0 ⟨λt=>if pe t=true then filt k k (st.env t) else .u,λr=>if pb r=true then XR k k (st.bx r) else[]⟩ tm w Im base SO:=by
 have hroot:∀q,k q=true->Xa (⟨λt=>if pe t=true then filt k k (st.env t) else .u,λr=>if pb r=true then XR k k (st.bx r) else[]⟩:St) q.e q.r=Xa (st.filt k k) q.e q.r:=by
  intro q hq
  have:=hk q hq
  unfold Xa
  by_cases he:q.e=true
  ·rw[if_pos he] at this
   simp only[he,if_true,this,St.filt]
  ·rw[if_neg he] at this
   simp only[he,if_false,this,if_true,St.filt]
   simp[he]
 have hp:∀pl ad,k pl=true->Pt st tm w base pl ad->Pt (⟨λt=>if pe t=true then filt k k (st.env t) else .u,λr=>if pb r=true then XR k k (st.bx r) else[]⟩:St) tm w base pl ad:=by
  intro pl ad hq hpt
  refine⟨hpt.1,?_⟩
  have h2:=(ZI k k pl).2 hpt.2
  refine Xay (hroot pl hq) (λhe=>?_) h2
  have:=hk pl hq
  rw[he] at this
  simp only[Bool.false_eq_true,if_false] at this
  simp only[this,if_true,St.filt]
 have hr:∀pl z lo n v,k pl=true->Rf st tm w base pl z lo n v->Rf (⟨λt=>if pe t=true then filt k k (st.env t) else .u,λr=>if pb r=true then XR k k (st.bx r) else[]⟩:St) tm w base pl z lo n v:=by
  intro pl z lo n v hq hrf
  exact⟨hrf.1,U2 (hroot pl hq) ((YH k k pl pl.c).2 hrf.2)⟩
 refine⟨λt=>?_,λr=>?_,h.dis,h.disI,h.inI,h.inS,h.imm,h.fromI,h.fromS,h.frame⟩
 ·show Top _ _ _ _ _ (if pe t=true then filt k k (st.env t) else .u) _
  split
  ·exact(h.env t).filt k k hp hr
  ·exact .u
 ·show Up _ _ _ _ (if pb r=true then XR k k (st.bx r) else[]) _
  split
  ·obtain⟨vs,Sf,h1,h2,h3,h4,h5⟩:=h.bx r
   refine⟨vs,Sf,λj a hj=>?_,λj a hj=>?_,h3,h4,λg o e j hj=>by have hq:=h5 g o e j (by simpa[XT] using hj); rwa [<-XT k k] at hq⟩
   all_goals
    rw[Yq] at hj
    obtain⟨a',ha',rfl⟩:=Option.map_eq_some_iff.1 hj
   ·exact h1 j a' ha'
   ·exact(h2 j a' ha').filt k k hp hr
  ·exact⟨λ_=>undef,λ_=>nos,λj a hj=>by simp at hj,λj a hj=>by simp at hj,λ_=>Xo _,λ_ _ _=>Xh _,λg o e j hj=>by simp at hj⟩
def ZL.trim(h:ZL np vals b0 w0 L Im0 st tm w)(ks:List Nat):ZL np vals b0 w0 L Im0 (trim ks st) tm w:=by
 obtain⟨Im,base,SO,h,hi⟩:=h
 refine⟨Im,base,SO,?_,hi⟩
 have:=h.forget (k:=inE ks) (pe:=λt=>ks.contains t) (pb:=λ_=>true) (λq hq=>by
  unfold inE at hq
  split at hq
  ·rename_i he; rw[if_pos he]; exact hq
  ·rename_i he; rw[if_neg he])
 exact this
def ZL.trim?(h:ZL np vals b0 w0 L Im0 st tm w)(ks:Option (List Nat)):ZL np vals b0 w0 L Im0 (trim? ks st) tm w:=by
 cases ks with
 | none=>exact h
 | some ks=>exact h.trim ks
def ZL.keep(h:ZL np vals b0 w0 L Im0 st tm w)(l:Option (List Nat×List Nat)):ZL np vals b0 w0 L Im0 (keep l st) tm w:=by
 cases l with
 | none=>exact h
 | some l =>
  obtain⟨ks,bs⟩:=l
  obtain⟨Im,base,SO,h,hi⟩:=h
  refine⟨Im,base,SO,?_,hi⟩
  have:=h.forget (k:=within ks bs) (pe:=λt=>ks.contains t) (pb:=λt=>bs.contains t) (λq hq=>by
   unfold within at hq
   split at hq
   ·rename_i he; rw[if_pos he]; exact hq
   ·rename_i he; rw[if_neg he]; exact hq)
  exact this
end Go.Vm
set_option autoImplicit false
namespace Go.Vm
section
variable {P : Program} {ops : Array Oper} {Q : Exit -> Act -> World -> Prop} {late : Nat -> Bool}
def YM(late:Nat->Bool)(listed:Array Bool):Prop:=∃j,late j=true/\listed.getD j false=true
def QV{listed:Array Bool}{i:Nat}(h:YM late listed):YM late (listed.setIfInBounds i true):=by
 obtain⟨j,h1,h2⟩:=h
 exact⟨j,h1,getD_set_true h2⟩
def wpL(P:Program)(ops:Array Oper)(Q:Exit->Act->World->Prop)(late:Nat->Bool)(S:World->Prop):Nat->Array Bool->Act->World->Prop
 | 0,listed,a,w=>Region.ready .any ops listed=[]/\Q .normal a w
 | fuel+1,listed,a,w =>
  (Region.ready .any ops listed=[]->Q .normal a w) /\
  ∀i∈Region.ready .any ops listed,wpOp P ops Q i (λa' w'=>(YM late (listed.setIfInBounds i true)\/S w')/\wpL P ops Q late S fuel (listed.setIfInBounds i true) a' w') a w
def Xbw{S:World->Prop}:∀(fuel:Nat) (listed:Array Bool) (a:Act) (w:World),wpL P ops Q late S fuel listed a w->wpAny P .any ops Q fuel listed a w
 | 0,_,_,_,h=>h
 | fuel+1,_,_,_,h=>⟨h.1,λi hi=>wpOp_mono (λa' w' h'=>Xbw fuel _ a' w' h'.2) (h.2 i hi)⟩
def Xed{S S':World->Prop}:∀(fuel:Nat) (listed:Array Bool) (a:Act) (w:World),(YM late listed\/∀w,S w->S' w)->wpL P ops Q late S fuel listed a w->wpL P ops Q late S' fuel listed a w
 | 0,_,_,_,_,h=>h
 | fuel+1,listed,_,_,hs,h=>⟨h.1,λi hi=>wpOp_mono (λa' w' h'=>by
   have hs':YM late (listed.setIfInBounds i true)\/∀w,S w->S' w:=hs.imp QV id
   refine⟨?_,Xed fuel _ a' w' hs' h'.2⟩
   rcases hs' with hs' | hs'
   ·exact .inl hs'
   ·exact h'.1.imp id (hs' w')) (h.2 i hi)⟩
def Z1(ops:Array Oper)(listed:Array Bool):Prop:=∀(k:Nat) (o:Oper),listed.getD k false=true->ops[k]?=some o->∀e∈o.after,Region.binds .any e=true->listed.getD e.on false=true
def ZT{listed:Array Bool}{i:Nat}(h:Z1 ops listed)(hi:i∈Region.ready .any ops listed):Z1 ops (listed.setIfInBounds i true):=by
 intro k o hk ho e he hb
 by_cases hki:k=i
 ·subst hki
  obtain⟨_,o',ho',hall⟩:=mem_ready.1 hi
  rw[ho] at ho'
  injection ho' with ho'
  subst ho'
  exact getD_set_true (hall e he hb)
 ·rw[getD_set_ne false (Ne.symm hki)] at hk
  exact getD_set_true (h k o hk ho e he hb)
def Xdu(ops:Array Oper):Nat->Nat->Nat->Bool
 | 0,_,_=>false
 | n+1,j,i=>match ops[j]? with
  | some o=>o.after.any λe=>Region.binds .any e&&(e.on==i||Xdu ops n e.on i)
  | none=>false
def Xaa{listed:Array Bool}(hc:Z1 ops listed):∀(n:Nat) {j i:Nat},Xdu ops n j i=true->listed.getD j false=true->listed.getD i false=true
 | 0,j,i,h,_=>by cases h
 | n+1,j,i,h,hj=>by
  simp only[Xdu] at h
  cases ho:ops[j]? with
  | none=>rw[ho] at h; cases h
  | some o =>
   rw[ho] at h
   obtain⟨e,he,hb⟩:=Array.any_eq_true'.1 h
   simp only[Bool.and_eq_true,Bool.or_eq_true,beq_iff_eq] at hb
   have h1:=hc j o hj ho e he hb.1
   rcases hb.2 with h2 | h2
   ·rw[<-h2]; exact h1
   ·exact Xaa hc n h2 h1
def XfQ{S:World->Prop}{i n:Nat}{oi:Oper}{v:Value}(hi:ops[i]?=some oi)(hsel:∀(j:Nat) (o:Oper) cs b,ops[j]?=some o->o.op≠.select cs b)(hQ:∀c a w,Q (.panic c) (a.put oi.dst v) w->Q (.panic c) a w)
  (hlate:∀j,j≠i->late j=true->Xdu ops n j i=true) :
  ∀(fuel:Nat) (listed:Array Bool) (a:Act) (w:World),
   (∀j oj,ops[j]?=some oj->j≠i->listed.getD j true=false->(∀e∈oj.after,Region.binds .any e=true->e.on≠i)->oi.apart ops oj=true)->Z1 ops listed->late i=false ->
   i∈Region.ready .any ops listed->YieldsIf P ops S oi v a->S w ->
   wpL P ops Q late S fuel (listed.setIfInBounds i true) (a.put oi.dst v) w->wpL P ops Q late S (fuel+1) listed a w:=by
 intro fuel
 have unl:∀(listed:Array Bool),i∈Region.ready .any ops listed->listed.getD i false=false:=by
  intro listed hr
  have h0:=(mem_ready.1 hr).1
  rcases Nat.lt_or_ge i listed.size with h' | h'
  ·simp[h'] at h0 ⊢; exact h0
  ·simp[Array.getElem?_eq_none h'] at h0
 have nosee:∀(listed:Array Bool),Z1 ops listed->listed.getD i false=false->late i=false->¬YM late listed:=by
  rintro listed hc hu hl ⟨j,h1,h2⟩
  by_cases hji:j=i
  ·subst hji; rw[hl] at h1; cases h1
  ·have:=Xaa hc n (hlate j hji h1) h2
   rw[hu] at this; cases this
 induction fuel with
 | zero =>
  intro listed a w _ hc hli hr hy hS H
  refine⟨λh=>(by rw[h] at hr; cases hr),λj hj=>?_⟩
  by_cases hji:j=i
  ·subst hji; exact hy.wpOp hi hS ⟨.inr hS,H⟩
  ·have:=ready_mono hj hji
   rw[H.1] at this
   cases this
 | succ fuel ih =>
  intro listed a w hfree hc hli hr hy hS H
  refine⟨λh=>(by rw[h] at hr; cases hr),λj hj=>?_⟩
  by_cases hji:j=i
  ·subst hji; exact hy.wpOp hi hS ⟨.inr hS,H⟩
  ·have h1:=H.2 j (ready_mono hj hji)
   obtain⟨hjun,oj,hoj,hall⟩:=mem_ready.1 hj
   have hnot:∀e∈oj.after,Region.binds .any e=true->e.on≠i:=λe he hb heq=>by
    have h1:=hall e he hb
    rw[heq,unl listed hr] at h1
    cases h1
   have h2:=wpOp_putIf hoj (hfree j oj hoj hji hjun hnot) (λcs b=>hsel i oi cs b hi) (λcs b=>hsel j oj cs b hoj) hQ hy h1
   have hfree':∀k ok,ops[k]?=some ok->k≠i->(listed.setIfInBounds j true).getD k true=false ->
     (∀e∈ok.after,Region.binds .any e=true->e.on≠i)->oi.apart ops ok=true:=λk ok hk hki hun hno=>by
    refine hfree k ok hk hki ?_ hno
    by_cases hjk:j=k
    ·subst hjk; exact hjun
    ·rw[getD_set_ne true hjk] at hun; exact hun
   have hc':=ZT hc hj
   have hr':=ready_mono hr (Ne.symm hji)
   refine wpOp_mono (λa' w' h3=>?_) h2
   obtain⟨h4,h5,h6⟩:=h3
   have hSw:S w':=by
    rcases h5 with h5 | h5
    ·exfalso
     refine nosee (listed.setIfInBounds j true) hc' (unl _ hr') hli ?_
     obtain⟨q,q1,q2⟩:=h5
     refine⟨q,q1,?_⟩
     by_cases hqi:q=i
     ·subst hqi; rw[hli] at q1; cases q1
     ·rw[Array.setIfInBounds_comm _ _ (Ne.symm hji)] at q2
      rw[getD_set_ne false (Ne.symm hqi)] at q2
      exact q2
    ·exact h5
   refine⟨.inr hSw,ih (listed.setIfInBounds j true) a' w' hfree' hc' hli hr' h4 hSw ?_⟩
   rw[Array.setIfInBounds_comm _ _ hji]
   exact h6
def XeC{S:World->Prop}{i:Nat}{oi:Oper}{v:Value}(hi:ops[i]?=some oi)(hsel:∀(j:Nat) (o:Oper) cs b,ops[j]?=some o->o.op≠.select cs b)(hQ:∀c a w,Q (.panic c) (a.put oi.dst v) w->Q (.panic c) a w) :
  ∀(fuel:Nat) (listed:Array Bool) (a:Act) (w:World),
   (∀j oj,ops[j]?=some oj->j≠i->listed.getD j true=false->(∀e∈oj.after,Region.binds .any e=true->e.on≠i)->oi.apart ops oj=true)->Z1 ops listed->late i=false ->
   i∈Region.ready .any ops listed->YieldsIf P ops (λ_=>True) oi v a->(YM late listed\/S w) ->
   wpL P ops Q late S fuel (listed.setIfInBounds i true) (a.put oi.dst v) w->wpL P ops Q late S (fuel+1) listed a w:=by
 intro fuel
 have unl:∀(listed:Array Bool),i∈Region.ready .any ops listed->listed.getD i false=false:=by
  intro listed hr
  have h0:=(mem_ready.1 hr).1
  rcases Nat.lt_or_ge i listed.size with h' | h'
  ·simp[h'] at h0 ⊢; exact h0
  ·simp[Array.getElem?_eq_none h'] at h0
 induction fuel with
 | zero =>
  intro listed a w _ hc hli hr hy hS H
  refine⟨λh=>(by rw[h] at hr; cases hr),λj hj=>?_⟩
  by_cases hji:j=i
  ·subst hji; exact hy.wpOp hi trivial ⟨hS.imp QV id,H⟩
  ·have:=ready_mono hj hji
   rw[H.1] at this
   cases this
 | succ fuel ih =>
  intro listed a w hfree hc hli hr hy hS H
  refine⟨λh=>(by rw[h] at hr; cases hr),λj hj=>?_⟩
  by_cases hji:j=i
  ·subst hji; exact hy.wpOp hi trivial ⟨hS.imp QV id,H⟩
  ·have h1:=H.2 j (ready_mono hj hji)
   obtain⟨hjun,oj,hoj,hall⟩:=mem_ready.1 hj
   have hnot:∀e∈oj.after,Region.binds .any e=true->e.on≠i:=λe he hb heq=>by
    have h1:=hall e he hb
    rw[heq,unl listed hr] at h1
    cases h1
   have h2:=wpOp_putIf hoj (hfree j oj hoj hji hjun hnot) (λcs b=>hsel i oi cs b hi) (λcs b=>hsel j oj cs b hoj) hQ hy h1
   have hfree':∀k ok,ops[k]?=some ok->k≠i->(listed.setIfInBounds j true).getD k true=false ->
     (∀e∈ok.after,Region.binds .any e=true->e.on≠i)->oi.apart ops ok=true:=λk ok hk hki hun hno=>by
    refine hfree k ok hk hki ?_ hno
    by_cases hjk:j=k
    ·subst hjk; exact hjun
    ·rw[getD_set_ne true hjk] at hun; exact hun
   have hc':=ZT hc hj
   have hr':=ready_mono hr (Ne.symm hji)
   refine wpOp_mono (λa' w' h3=>?_) h2
   obtain⟨h4,h5,h6⟩:=h3
   have hSw:YM late (listed.setIfInBounds j true)\/S w':=by
    rcases h5 with h5 | h5
    ·obtain⟨q,q1,q2⟩:=h5
     refine .inl ⟨q,q1,?_⟩
     by_cases hqi:q=i
     ·subst hqi; rw[hli] at q1; cases q1
     ·rw[Array.setIfInBounds_comm _ _ (Ne.symm hji)] at q2
      rw[getD_set_ne false (Ne.symm hqi)] at q2
      exact q2
    ·exact .inr h5
   refine⟨hSw,ih (listed.setIfInBounds j true) a' w' hfree' hc' hli hr' h4 hSw ?_⟩
   rw[Array.setIfInBounds_comm _ _ hji]
   exact h6
end
end Go.Vm
set_option autoImplicit false
namespace Go.Vm
variable {w0 : World} {L Im0 : CS} {st : St} {tm : Array Value} {w : World} {Im : CS} {base : Nat -> Nat × Nat} {SO : Bool -> Nat -> CS} {P : Program} {cx : Cx} {np : Nat -> Bool} {vals : Nat -> Value} {b0 : Nat -> Nat × Nat}
def XcF:∀(ops:List Oper) (j:Nat),Z8 ops j=(ops[j]?).bind (·.dst)
 | [],j=>by simp[Z8]
 | o :: r,0=>by simp[Z8]
 | o :: r,j+1=>by simp[Z8,XcF r j]
def XaI:∀(ops:List Oper) (j:Nat),Ql ops j=ops[j]?
 | [],j=>by simp[Ql]
 | o :: r,0=>by simp[Ql]
 | o :: r,j+1=>by simp[Ql,XaI r j]
def getD_some{tm:Array Value}{d:Nat}{v:Value}(h:tm.getD d undef=v)(hv:v≠undef):tm[d]?=some v:=by
 rw[Array.getD_eq_getD_getElem?] at h
 cases hd:tm[d]? with
 | none=>rw[hd] at h; exact absurd h.symm hv
 | some u=>rw[hd] at h; rw[<-h]; rfl
def ZU(h:ZL np vals b0 w0 L Im0 st tm w){ops:Array Oper}{o:Oper}{b:Bool}(he:wanted ops.toList st o=some b):Region.wanted o (yielded ops tm)=b:=by
 obtain⟨Im,base,SO,h,hi⟩:=h
 unfold wanted at he
 unfold Region.wanted
 split at he
 ·rename_i hg
  rw[hg]
  injection he
 ·rename_i j want hg
  rw[hg]
  simp only
  rw[XcF] at he
  split at he
  ·rename_i d hd
   have hd':(ops[j]?).bind (·.dst)=some d:=by rw[<-hd,Array.getElem?_toList]
   have ht:=h.env d
   unfold yielded
   rw[hd']
   simp only[Option.bind_some]
   split at he
   ·rename_i x hx
    rw[hx] at ht
    have hv:tm.getD d undef=.bool x:=by
     generalize tm.getD d undef=v at ht
     cases ht with
     | leaf h=>cases h; rename_i h; cases h; rfl
    rw[getD_some hv (by intro e; cases e)]
    injection he
   ·rename_i hx
    rw[hx] at ht
    have hv:tm.getD d undef=undef:=by
     generalize hu:tm.getD d undef=v at ht
     cases ht with
     | no=>rfl
     | leaf h=>cases h; rename_i h; cases h
    injection he with he
    subst he
    rw[Array.getD_eq_getD_getElem?] at hv
    cases hd:tm[d]? with
    | none=>rfl
    | some u=>rw[hd] at hv; simp only[Option.getD_some] at hv; subst hv; rfl
   ·cases he
  ·cases he
def ZL.skip(h:ZL np vals b0 w0 L Im0 st tm w){o:Oper}(hd:UY np tm.size o):ZL np vals b0 w0 L Im0 (st.put? o.dst .no) (XgK tm o.dst undef) w:=by
 obtain⟨Im,base,SO,h,hi⟩:=h
 cases hdd:o.dst with
 | none=>exact⟨Im,base,SO,h,hi⟩
 | some d =>
  obtain⟨d1,d2⟩:=hd d hdd
  exact⟨Im,base,_,h.putN d2 .no,ZS hi d1 (λ_ _=>rfl)⟩
def YI(cx:Cx)(ops:Array Oper)(j:Nat):Bool:=match ops[j]? with
 | some o=>QM cx o.op||mvT cx o
 | none=>false
def XfR(ops:Array Oper)(i:Nat):Bool:=match ops[i]? with
 | some o=>Xdp o.op
 | none=>false
def QC(late:Nat->Bool)(ops:Array Oper):Bool->Array Bool->XaY->Bool
 | top,listed,.done=>top&&(Region.ready .any ops listed).isEmpty
 | top,listed,.take i p=>top&&(Region.ready .any ops listed).contains i&&Region.free .any ops listed i&&!late i&&(XfR ops i||(List.range ops.size).all (λj=>j==i||!late j||Xdu ops ops.size j i))&&QC late ops true (listed.setIfInBounds i true) p
 | top,listed,.one i p=>(!top||Region.ready .any ops listed==[i])&&(Region.ready .any ops listed).contains i&&QC late ops true (listed.setIfInBounds i true) p
 | top,listed,.alt i p q=>(!top||Region.ready .any ops listed==i :: q.heads)&&(Region.ready .any ops listed).contains i&&QC late ops true (listed.setIfInBounds i true) p&&QC late ops false listed q
def Xjf{x y:Option St}{s:St}(h:Xet x y=some s):x=some s/\y=some s:=by
 unfold Xet at h
 split at h
 ·rename_i e; exact⟨h,e▸h⟩
 ·cases h
def XfS{p:Bool}{x:Option St}{s:St}(h:Xaw p x=some s):p=true/\x=some s:=by
 unfold Xaw at h
 split at h
 ·rename_i e; exact⟨e,h⟩
 ·cases h
def Xjg[HasTb P](hC:Xcs P cx)(hFs:∀g fs,cx.fns g=some fs->QG P g fs)(hTb:∀w Im,Frame w0 w L->Sub Im0 Im->Tb P Im w){ops:Array Oper}{Q:Exit->Act->World->Prop}{a:Act}{i:Nat}{o:Oper}(ho:ops[i]?=some o)(hd:UY np a.tmps.size o){s1:St}(he:Zy cx ops.toList st o=some s1)
  (h:ZL np vals b0 w0 L Im0 st a.tmps w) {K:Act->World->Prop} (hK:∀(tm':Array Value) (w':World),tm'.size=a.tmps.size->ZL np vals b0 w0 L Im0 s1 tm' w'->(Z7 cx st o.op=true->Frame w w' nos)->K {a with tmps:=tm'} w'):wpOp P ops Q i K a w:=by
 unfold wpOp
 rw[ho]
 simp only
 unfold Zy at he
 split at he
 ·rename_i hw
  rw[ZU h hw,if_pos rfl]
  exact .inl (Xlc hC hFs hTb h hd he hK)
 ·rename_i hw
  injection he with he
  subst he
  rw[ZU h hw,if_neg (by simp),YX]
  exact hK _ _ (YT _ _ _) (h.skip hd) (λ_=>Frame.refl _ _)
 ·cases he
def Xhj{ops:Array Oper}{listed:Array Bool}{i:Nat}(h:i∈Region.ready .any ops listed):i<listed.size:=by
 have h0:=(mem_ready.1 h).1
 rcases Nat.lt_or_ge i listed.size with h' | h'
 ·exact h'
 ·simp[Array.getElem?_eq_none h'] at h0
def Xjh[HasTb P]{id:Nat}(hC:Xcs P cx)(hFs:∀g fs,cx.fns g=some fs->QG P g fs)(hTb:∀w Im,Frame w0 w L->Sub Im0 Im->Tb P Im w){ops:Array Oper}{Q:Exit->Act->World->Prop}(hns:Region.noSelect ops=true)(hQp:∀c a w,¬Q (.panic c) a w) :
  ∀(p:XaY) {top:Bool} {listed:Array Bool} {st st':St} {a:Act} {w:World} {fuel:Nat},QC (YI cx ops) ops top listed p=true->Yi cx id ops.toList p st=some st'->ZL np vals b0 w0 L Im0 st a.tmps w->(∀o∈ops.toList,UY np a.tmps.size o)->Z1 ops listed ->
   (∀(tm':Array Value) (w':World),tm'.size=a.tmps.size->ZL np vals b0 w0 L Im0 st' tm' w'->Q .normal {a with tmps:=tm'} w')->p.depth<=fuel+(if top=true then 0 else 1) ->
   if top=true then wpL P ops Q (YI cx ops) (λw'=>Frame w w' nos) fuel listed a w
   else ∀i∈p.heads,wpOp P ops Q i (λa' w'=>(YM (YI cx ops) (listed.setIfInBounds i true)\/Frame w w' nos)/\wpL P ops Q (YI cx ops) (λw''=>Frame w w'' nos) fuel (listed.setIfInBounds i true) a' w') a w:=by
 intro p
 have next:∀(i:Nat) (p:XaY),(∀{top:Bool} {listed:Array Bool} {st st':St} {a:Act} {w:World} {fuel:Nat},QC (YI cx ops) ops top listed p=true->Yi cx id ops.toList p st=some st'->ZL np vals b0 w0 L Im0 st a.tmps w->(∀o∈ops.toList,UY np a.tmps.size o)->Z1 ops listed ->
   (∀(tm':Array Value) (w':World),tm'.size=a.tmps.size->ZL np vals b0 w0 L Im0 st' tm' w'->Q .normal {a with tmps:=tm'} w')->p.depth<=fuel+(if top=true then 0 else 1) ->
   if top=true then wpL P ops Q (YI cx ops) (λw'=>Frame w w' nos) fuel listed a w
   else ∀i∈p.heads,wpOp P ops Q i (λa' w'=>(YM (YI cx ops) (listed.setIfInBounds i true)\/Frame w w' nos)/\wpL P ops Q (YI cx ops) (λw''=>Frame w w'' nos) fuel (listed.setIfInBounds i true) a' w') a w) ->
   ∀{listed:Array Bool} {st st':St} {a:Act} {w:World} {fuel:Nat},i∈Region.ready .any ops listed->QC (YI cx ops) ops true (listed.setIfInBounds i true) p=true ->
    (Ye (Ql ops.toList i) λo=>Xaw (QM cx o.op||Z7 cx st o.op) (Ye (Zy cx ops.toList st o) λs=>Yi cx id ops.toList p s))=some st'->ZL np vals b0 w0 L Im0 st a.tmps w->(∀o∈ops.toList,UY np a.tmps.size o)->Z1 ops listed ->
    (∀(tm':Array Value) (w':World),tm'.size=a.tmps.size->ZL np vals b0 w0 L Im0 st' tm' w'->Q .normal {a with tmps:=tm'} w')->p.depth<=fuel ->
    wpOp P ops Q i (λa' w'=>(YM (YI cx ops) (listed.setIfInBounds i true)\/Frame w w' nos)/\wpL P ops Q (YI cx ops) (λw''=>Frame w w'' nos) fuel (listed.setIfInBounds i true) a' w') a w:=by
  intro i p ih listed st st' a w fuel hr hok he h hd hc hQ hdep
  obtain⟨o,h1,h2⟩:=Xx he
  obtain⟨h3,h4⟩:=XfS h2
  obtain⟨s1,h5,h6⟩:=Xx h4
  rw[XaI,Array.getElem?_toList] at h1
  have hmem:o∈ops.toList:=Array.mem_toList_iff.2 (Array.mem_of_getElem? h1)
  refine Xjg hC hFs hTb h1 (hd o hmem) h5 h (λtm' w' hs hr' hg=>?_)
  have hor:YM (YI cx ops) (listed.setIfInBounds i true)\/Frame w w' nos:=by
   by_cases hl:QM cx o.op=true
   ·refine .inl ⟨i,by simp only[YI,h1,hl,Bool.true_or],?_⟩
    have:=Xhj hr
    simp[this]
   ·refine .inr (hg ?_)
    simpa[hl] using h3
  refine⟨hor,?_⟩
  have:=ih (top:=true) (fuel:=fuel) hok h6 (a:={a with tmps:=tm'}) hr' (λo ho=>by rw[show({a with tmps:=tm'}:Act).tmps.size=a.tmps.size from hs]; exact hd o ho) (ZT hc hr) (λtm'' w'' hs' hr''=>hQ tm'' w'' (by rw[hs',hs]) hr'') (by simpa using hdep)
  rw[if_pos rfl] at this
  exact Xed fuel _ _ _ (hor.imp (λx=>x) (λhf w'' hf'=>hf.trans hf')) this
 induction p with
 | done =>
  intro top listed st st' a w fuel hok he h hd hc hQ hdep
  simp only[QC,Bool.and_eq_true] at hok
  rw[if_pos hok.1]
  simp only[Yi,Option.some.injEq] at he
  subst he
  have hr:Region.ready .any ops listed=[]:=by simpa using hok.2
  have hq:=hQ a.tmps w rfl (h.keep _)
  cases fuel with
  | zero=>exact⟨hr,hq⟩
  | succ n=>exact⟨λ_=>hq,by rw[hr]; simp⟩
 | take i p ih =>
  intro top listed st st' a w fuel hok he h hd hc hQ hdep
  simp only[QC,Bool.and_eq_true] at hok
  obtain⟨⟨⟨⟨⟨h1,h2⟩,h3⟩,h4⟩,h5⟩,h6⟩:=hok
  rw[if_pos h1]
  simp only[h1,if_true,XaY.depth] at hdep
  cases fuel with
  | zero=>omega
  | succ fuel =>
   simp only[Yi] at he
   obtain⟨o,g1,g2⟩:=Xx he
   obtain⟨g3,g4⟩:=XfS g2
   obtain⟨s1,g5,g6⟩:=Xx g4
   rw[XaI,Array.getElem?_toList] at g1
   have hmem:o∈ops.toList:=Array.mem_toList_iff.2 (Array.mem_of_getElem? g1)
   have hr:i∈Region.ready .any ops listed:=by simpa using h2
   have hl:YI cx ops i=false:=by simpa using h4
   have hmv:mvT cx o=false:=by
    simp only[YI,g1,Bool.or_eq_false_iff] at hl
    exact hl.2
   by_cases hmf:XfR ops i=true
   ·have hm1:Xdp o.op=true:=by simpa only[XfR,g1] using hmf
    have fin:∀(v:Value),YieldsIf P ops (λ_=>True) o v a->ZL np vals b0 w0 L Im0 s1 (XgK a.tmps o.dst v) w->wpL P ops Q (YI cx ops) (λw'=>Frame w w' nos) (fuel+1) listed a w:=by
     intro v hy hr1
     refine XeC g1 (Region.noSelect_spec hns) (λc a w hq=>absurd hq (hQp c _ w)) fuel listed a w (Region.free_spec g1 h3) hc hl hr hy (.inr (Frame.refl _ _)) ?_
     have:=ih (top:=true) (fuel:=fuel) h6 g6 (a:=a.put o.dst v) (by rw[YX]; exact hr1) (λo' ho'=>by rw[YX]; show UY np (XgK a.tmps o.dst v).size o'; rw[YT]; exact hd o' ho') (ZT hc hr)
      (λtm'' w'' hs' hr''=>by rw[YX] at hs' ⊢; exact hQ tm'' w'' (by rw[hs']; exact YT _ _ _) hr'') (by simp only[if_true]; omega)
     rw[if_pos rfl] at this
     exact this
    unfold Zy at g5
    split at g5
    ·rename_i hw
     obtain⟨Im,base,SO,hR,hi⟩:=h
     obtain⟨x,v,e1,e2,e3⟩:=Xjb hC hR hm1 hmv g5
     refine fin v (.inl ⟨ZU ⟨Im,base,SO,hR,hi⟩ hw,λw' _=>by rw[Ub]; exact e3 w'⟩) ?_
     subst e1
     cases hdd:o.dst with
     | none=>exact⟨Im,base,SO,hR,hi⟩
     | some d =>
      obtain⟨d1,d2⟩:=hd o hmem d hdd
      exact⟨_,_,_,hR.putN d2 e2,ZS hi d1 (λ_ _=>rfl)⟩
    ·rename_i hw
     injection g5 with g5
     subst g5
     exact fin undef (.inr ⟨ZU h hw,rfl⟩) (h.skip (hd o hmem))
    ·cases g5
   have h5:(List.range ops.size).all (λj=>j==i||!YI cx ops j||Xdu ops ops.size j i)=true:=(Bool.or_eq_true_iff.1 h5).resolve_left hmf
   have hlate:∀j,j≠i->YI cx ops j=true->Xdu ops ops.size j i=true:=by
    intro j hji hlj
    have hjs:j<ops.size:=by
     rcases Nat.lt_or_ge j ops.size with h' | h'
     ·exact h'
     ·simp[YI,Array.getElem?_eq_none h'] at hlj
    have:=List.all_eq_true.1 h5 j (List.mem_range.2 hjs)
    simpa[hji,hlj] using this
   have fin:∀(v:Value),YieldsIf P ops (λw'=>Frame w w' nos) o v a->ZL np vals b0 w0 L Im0 s1 (XgK a.tmps o.dst v) w->wpL P ops Q (YI cx ops) (λw'=>Frame w w' nos) (fuel+1) listed a w:=by
    intro v hy hr1
    refine XfQ (n:=ops.size) g1 (Region.noSelect_spec hns) (λc a w hq=>absurd hq (hQp c _ w)) hlate fuel listed a w (Region.free_spec g1 h3) hc hl hr hy (Frame.refl _ _) ?_
    have:=ih (top:=true) (fuel:=fuel) h6 g6 (a:=a.put o.dst v) (by rw[YX]; exact hr1) (λo' ho'=>by rw[YX]; show UY np (XgK a.tmps o.dst v).size o'; rw[YT]; exact hd o' ho') (ZT hc hr)
     (λtm'' w'' hs' hr''=>by rw[YX] at hs' ⊢; exact hQ tm'' w'' (by rw[hs']; exact YT _ _ _) hr'') (by simp only[if_true]; omega)
    rw[if_pos rfl] at this
    exact this
   unfold Zy at g5
   split at g5
   ·rename_i hw
    obtain⟨Im,base,SO,hR,hi⟩:=h
    obtain⟨x,v,e1,e2,e3⟩:=XfL hC hR g3 hmv g5
    refine fin v (.inl ⟨ZU ⟨Im,base,SO,hR,hi⟩ hw,λw' hw'=>by rw[Ub]; exact e3 w' hw'⟩) ?_
    subst e1
    cases hdd:o.dst with
    | none=>exact⟨Im,base,SO,hR,hi⟩
    | some d =>
     obtain⟨d1,d2⟩:=hd o hmem d hdd
     exact⟨_,_,_,hR.putN d2 e2,ZS hi d1 (λ_ _=>rfl)⟩
   ·rename_i hw
    injection g5 with g5
    subst g5
    exact fin undef (.inr ⟨ZU h hw,rfl⟩) (h.skip (hd o hmem))
   ·cases g5
 | one i p ih =>
  intro top listed st st' a w fuel hok he h hd hc hQ hdep
  simp only[QC,Bool.and_eq_true] at hok
  obtain⟨⟨h1,h2⟩,h3⟩:=hok
  have hr:i∈Region.ready .any ops listed:=by simpa using h2
  simp only[Yi] at he
  simp only[XaY.depth] at hdep
  cases top with
  | true =>
   rw[if_pos rfl]
   simp only[if_true] at hdep
   cases fuel with
   | zero=>omega
   | succ fuel =>
    have hre:Region.ready .any ops listed=[i]:=by simpa using h1
    refine⟨λh0=>(by rw[h0] at hr; cases hr),λj hj=>?_⟩
    rw[hre] at hj
    have:j=i:=by simpa using hj
    subst this
    exact next j p @ih hr h3 he h hd hc hQ (by omega)
  | false =>
   rw[if_neg (by simp)]
   intro j hj
   have:j=i:=by simpa[XaY.heads] using hj
   subst this
   exact next j p @ih hr h3 he h hd hc hQ (by simpa using hdep)
 | alt i p q ihp ihq =>
  intro top listed st st' a w fuel hok he h hd hc hQ hdep
  simp only[QC,Bool.and_eq_true] at hok
  obtain⟨⟨⟨h1,h2⟩,h3⟩,h4⟩:=hok
  have hr:i∈Region.ready .any ops listed:=by simpa using h2
  simp only[Yi] at he
  obtain⟨he1,he2⟩:=Xjf he
  simp only[XaY.depth] at hdep
  have both:∀fuel,max (p.depth+1) q.depth<=fuel+1->∀j∈i :: q.heads,wpOp P ops Q j (λa' w'=>(YM (YI cx ops) (listed.setIfInBounds j true)\/Frame w w' nos)/\wpL P ops Q (YI cx ops) (λw''=>Frame w w'' nos) fuel (listed.setIfInBounds j true) a' w') a w:=by
   intro fuel hdep j hj
   rcases List.mem_cons.1 hj with rfl | hj
   ·exact next j p @ihp hr h3 he1 h hd hc hQ (by omega)
   ·have:=ihq (top:=false) (fuel:=fuel) h4 he2 h hd hc hQ (by simp; omega)
    rw[if_neg (by simp)] at this
    exact this j hj
  cases top with
  | true =>
   rw[if_pos rfl]
   simp only[if_true] at hdep
   cases fuel with
   | zero=>omega
   | succ fuel =>
    have hre:Region.ready .any ops listed=i :: q.heads:=by simpa using h1
    refine⟨λh0=>(by rw[h0] at hr; cases hr),λj hj=>?_⟩
    rw[hre] at hj
    exact both fuel (by omega) j hj
  | false =>
   rw[if_neg (by simp)]
   exact both fuel (by simpa using hdep)
end Go.Vm
set_option autoImplicit false
namespace Go.Vm
variable {w0 : World} {L Im0 : CS} {st : St} {tm : Array Value} {w : World} {Im : CS} {base : Nat -> Nat × Nat} {SO : Bool -> Nat -> CS} {P : Program} {cx : Cx} {np : Nat -> Bool} {vals : Nat -> Value} {b0 : Nat -> Nat × Nat}
def XfT[HasTb P](hC:Xcs P cx)(hFs:∀g fs,cx.fns g=some fs->QG P g fs)(hTb:∀w Im,Frame w0 w L->Sub Im0 Im->Tb P Im w){ops:Array Oper}{Q:Exit->Act->World->Prop}:∀(rest:List Oper) (i:Nat) (cs:List (Option (List Nat))) (st:St) (a:Act) (w:World) (st':St),(∀k,k<rest.length->ops[i+k]?=rest[k]?) ->
  XE cx ops.toList cs st rest=some st'->ZL np vals b0 w0 L Im0 st a.tmps w->(∀o∈rest,UY np a.tmps.size o) ->
  (∀(tm':Array Value) (w':World),tm'.size=a.tmps.size->ZL np vals b0 w0 L Im0 st' tm' w'->Q .normal {a with tmps:=tm'} w')->wpOps P ops Q (List.range' i rest.length) a w
 | [],i,cs,st,a,w,st',hget,he,h,hd,hQ=>by
  simp only[XE,Option.some.injEq] at he
  subst he
  exact hQ a.tmps w rfl h
 | o :: rest,i,cs,st,a,w,st',hget,he,h,hd,hQ=>by
  have ho:ops[i]?=some o:=by have:=hget 0 (by simp); simpa using this
  have hget':∀k,k<rest.length->ops[i+1+k]?=rest[k]?:=λk hk=>by
   have:=hget (k+1) (by simpa using hk)
   rw[show i+1+k=i+(k+1) by omega]; simpa using this
  simp only[XE] at he
  have h1:=h.trim? (hd? cs)
  generalize Vm.trim? (hd? cs) st=st1 at he h1
  simp only[List.length_cons,List.range'_succ,wpOps,ho]
  cases hw:wanted ops.toList st1 o with
  | none=>rw[hw] at he; cases he
  | some b =>
   rw[hw] at he
   rw[ZU h1 hw]
   cases b with
   | true =>
    simp only at he
    rw[if_pos rfl]
    cases hop:Xg cx st1 o with
    | none=>rw[hop] at he; cases he
    | some st2 =>
     rw[hop] at he
     refine .inl (Xlc hC hFs hTb h1 (hd o (by simp)) hop (λtm' w' hs hr _=>?_))
     exact XfT hC hFs hTb rest (i+1) cs.tail st2 {a with tmps:=tm'} w' st' hget' he hr (λo' ho'=>by rw[hs]; exact hd o' (by simp[ho'])) (λtm'' w'' hs' hr'=>hQ tm'' w'' (by rw[hs',hs]) hr')
   | false =>
    simp only at he
    rw[if_neg (by simp)]
    rw[YX]
    refine XfT hC hFs hTb rest (i+1) cs.tail _ {a with tmps:=XgK a.tmps o.dst undef} w st' hget' he ?_ (λo' ho'=>by rw[YT]; exact hd o' (by simp[ho'])) (λtm'' w'' hs' hr'=>hQ tm'' w'' (by rw[hs',YT]) hr')
    obtain⟨Im,base,SO,h2,hi⟩:=h1
    cases hdd:o.dst with
    | none=>exact⟨Im,base,SO,h2,hi⟩
    | some d =>
     obtain⟨d1,d2⟩:=hd o (by simp) d hdd
     exact⟨Im,base,_,h2.putN d2 .no,ZS hi d1 (λ_ _=>rfl)⟩
def Xp.weakAt(h:Xp w0 L Im0 st tm w Im base SO){b c:Nat}{st':St}(he:weakAt st b c=some st'):∃(Im1:CS) (SO1:Bool->Nat->CS),Xp w0 L Im0 st' tm w Im1 base SO1:=by
 unfold Vm.weakAt at he
 split at he
 ·rename_i z es hc
  obtain⟨vs,Sf,h1,h2,_,_,_⟩:=h.bx b
  have hl:=h2 c _ hc
  cases hv:vs c with
  | slice A N cap =>
   rw[hv] at hl
   have hr:=hl.sl
   have hrf:Rf st tm w base ⟨false,b,[],c⟩ z 0 es.length (.slice A N cap):=by
    cases hr with
    | sl g off vs2 Sf2 hn hcc hL hA hz =>
     refine⟨⟨.mem (base b).1 (base b).2,A,N,cap,A,rfl,?_,by rw[hn,Nat.sub_zero],by omega,hcc,λh0=>⟨g,off,hA h0,by rw[hA h0]; simp⟩⟩,?_⟩
     ·have:=h1 c _ hc; rw[hv] at this; exact this
     ·exact⟨st.bx b,by simp[nav,Xa],by rw[hc]; rfl⟩
   exact h.weakLeaf (.rf hrf rfl) he
  | _ =>
   rw[hv] at hl
   have hr:=hl.sl
   cases hr
 ·injection he with he; subst he; exact⟨Im,SO,h⟩
def Xp.weakW:∀{l:List (Bool×Nat×Nat)} {st:St} {Im:CS} {SO:Bool->Nat->CS} {st':St},Xp w0 L Im0 st tm w Im base SO->weakW st l=some st'->∃(Im1:CS) (SO1:Bool->Nat->CS),Xp w0 L Im0 st' tm w Im1 base SO1
 | [],st,Im,SO,st',h,he=>by
  simp only[Vm.weakW,Option.some.injEq] at he
  subst he; exact⟨Im,SO,h⟩
 | (true,r,_) :: l,st,Im,SO,st',h,he=>by
  simp only[Vm.weakW] at he
  obtain⟨s,h1,h2⟩:=Xx he
  obtain⟨Im1,SO1,h3⟩:=h.weakArg h1
  exact Xp.weakW h3 h2
 | (false,r,c) :: l,st,Im,SO,st',h,he=>by
  simp only[Vm.weakW] at he
  obtain⟨s,h1,h2⟩:=Xx he
  obtain⟨Im1,SO1,h3⟩:=h.weakAt h1
  exact Xp.weakW h3 h2
def XiF{x:Option St}{e:Ex}{st':St}(h:XkH x=some (e,st')):x=some st'/\e=.nor:=by
 cases x with
 | none=>cases h
 | some s=>simp only[XkH,Option.some.injEq,Prod.mk.injEq] at h; exact⟨by rw[h.2],h.1.symm⟩
def ZL.weakW(h:ZL np vals b0 w0 L Im0 st tm w){l:List (Bool×Nat×Nat)}{st':St}(he:weakW st l=some st'):ZL np vals b0 w0 L Im0 st' tm w:=by
 obtain⟨Im,base,SO,h,hi⟩:=h
 obtain⟨Im1,SO1,h1⟩:=h.weakW he
 exact⟨Im1,base,SO1,h1,hi⟩
def ZL.world{w':World}(h:ZL np vals b0 w0 L Im0 st tm w)(hf:Frame w w' nos):ZL np vals b0 w0 L Im0 st tm w':=by
 obtain⟨Im,base,SO,h,hi⟩:=h
 exact⟨Im,base,SO,h.world hf,hi⟩
def Yw(cx:Cx)(np:Nat->Bool)(n:Nat):Code->Bool
 | .region id ops draw=>(ops.toList.all λo=>match o.dst with
  | some d=>!np d&&decide (d<n)
  | none=>true)&&(!draw||match cx.plan id with
   | some p=>QC (YI cx ops) ops true (Array.replicate ops.size false) p&&Region.noSelect ops&&decide (p.depth<=ops.size)
   | none=>true)
 | .seq a b=>Yw cx np n a&&Yw cx np n b
 | .cond _ a b=>Yw cx np n a&&Yw cx np n b
 | .block _ c=>Yw cx np n c
 | .loop c=>Yw cx np n c
 | _=>true
def XcG:Ex->Exit
 | .nor=>.normal
 | .ex id=>.exit id
 | .ret=>.ret
def XfU[HasTb P](hm:P.follows .mixedOrders=true)(hC:Xcs P cx)(hFs:∀g fs,cx.fns g=some fs->QG P g fs)(hTb:∀w Im,Frame w0 w L->Sub Im0 Im->Tb P Im w):∀(c:Code) {blk:Nat} {st:St} {e:Ex} {st':St} {Q:Exit->Act->World->Prop} {a:Act} {w:World},Xl cx blk c st=some (e,st')->ZL np vals b0 w0 L Im0 st a.tmps w->Yw cx np a.tmps.size c=true ->
  (∀(tm':Array Value) (w':World),tm'.size=a.tmps.size->ZL np vals b0 w0 L Im0 st' tm' w'->Q (XcG e) {a with tmps:=tm'} w')->c.wp P Q a w:=by
 intro c
 induction c with
 | skip =>
  intro blk st e st' Q a w he h hc hQ
  simp only[Xl,Option.some.injEq,Prod.mk.injEq] at he
  obtain⟨rfl,rfl⟩:=he
  exact wp_skip (hQ a.tmps w rfl h)
 | region id ops draw =>
  intro blk st e st' Q a w he h hc hQ
  simp only[Yw,Bool.and_eq_true] at hc
  obtain⟨hc,hc2⟩:=hc
  have hdst:∀o∈ops.toList,UY np a.tmps.size o:=by
   intro o ho d hd
   have:=List.all_eq_true.1 hc o ho
   rw[hd] at this
   simpa using this
  cases draw with
  | true =>
   simp only[Xl,if_true] at he
   obtain⟨s1,he1,he2⟩:=Xx he
   obtain⟨p,hp,he3⟩:=Xx he1
   obtain⟨hwk,rfl⟩:=XiF he2
   rw[hp] at hc2
   simp only[Bool.not_true,Bool.false_or,Bool.and_eq_true,decide_eq_true_eq] at hc2
   obtain⟨⟨q1,q2⟩,q3⟩:=hc2
   have h1:ZL np vals b0 w0 L Im0 st a.tmps {w with drawn:=w.drawn+1}:=h.world ⟨rfl,rfl,rfl,Nat.le_refl _,λ_ _=>.inl rfl⟩
   have hcl:Z1 ops (Array.replicate ops.size false):=by
    intro k o hk
    rw[Array.getD_eq_getD_getElem?,Array.getElem?_replicate] at hk
    split at hk<;>cases hk
   have:=Xjh (Q:=λe a w=>match e with | .normal=>Q .normal a w | _=>False) hC hFs hTb q2 (λc a w h=>h) p q1 he3 h1 hdst hcl (λtm' w' hs hr=>hQ tm' w' hs (hr.weakW hwk)) (fuel:=ops.size) (by simpa using q3)
   rw[if_pos rfl] at this
   exact wp_mono (wp_region_any hm (Xbw _ _ _ _ this)) (λe a w h=>by cases e<;>first | exact h | exact h.elim)
  | false =>
   simp only[Xl,Bool.false_eq_true,if_false] at he
   cases hev:XE cx ops.toList (cx.cuts id) st ops.toList with
   | none=>rw[hev] at he; cases he
   | some st1 =>
    rw[hev] at he
    obtain⟨hwk,rfl⟩:=XiF he
    refine wp_region ?_
    rw[List.range_eq_range',<-Array.length_toList]
    refine XfT hC hFs hTb ops.toList 0 (cx.cuts id) st a w st1 (λk hk=>by rw[Nat.zero_add,Array.getElem?_toList]) hev h hdst (λtm' w' hs hr=>hQ tm' w' hs ((hr.keep _).weakW hwk))
 | seq x y ihx ihy =>
  intro blk st e st' Q a w he h hc hQ
  simp only[Yw,Bool.and_eq_true] at hc
  simp only[Xl] at he
  cases hx:Xl cx blk x st with
  | none=>rw[hx] at he; cases he
  | some p =>
   obtain⟨e1,st1⟩:=p
   rw[hx] at he
   refine wp_seq (ihx hx h hc.1 (λtm' w' hs hr=>?_))
   cases e1 with
   | nor=>exact ihy he hr (by simpa[hs] using hc.2) (λtm'' w'' hs' hr'=>hQ tm'' w'' (by rw[hs',hs]) hr')
   | ex id =>
    simp only[Option.some.injEq,Prod.mk.injEq] at he
    obtain⟨rfl,rfl⟩:=he
    exact hQ tm' w' hs hr
   | ret =>
    simp only[Option.some.injEq,Prod.mk.injEq] at he
    obtain⟨rfl,rfl⟩:=he
    exact hQ tm' w' hs hr
 | cond c x y ihx ihy =>
  intro blk st e st' Q a w he h hc hQ
  simp only[Yw,Bool.and_eq_true] at hc
  simp only[Xl] at he
  have hv:∀t,view st c=.b t->a.eval c=.bool t:=by
   intro t ht
   obtain⟨Im,base,SO,h,hi⟩:=h
   have:=h.view c
   rw[ht] at this
   rw[Ub]
   generalize Xe a.tmps c=v at this
   cases this with
   | leaf h=>cases h; rename_i h; cases h; rfl
  split at he
  ·rename_i ht; exact wp_cond_true (hv true ht) (ihx he h hc.1 hQ)
  ·rename_i ht; exact wp_cond_false (hv false ht) (ihy he h hc.2 hQ)
  ·cases he
 | block id c ih =>
  intro blk st e st' Q a w he h hc hQ
  simp only[Yw] at hc
  simp only[Xl] at he
  cases hx:Xl cx id c st with
  | none=>rw[hx] at he; cases he
  | some p =>
   obtain⟨e1,st1⟩:=p
   rw[hx] at he
   refine wp_block (ih hx h hc (λtm' w' hs hr=>?_))
   cases e1 with
   | nor =>
    simp only[Option.some.injEq,Prod.mk.injEq] at he
    obtain⟨rfl,rfl⟩:=he
    exact hQ tm' w' hs hr
   | ret =>
    simp only[Option.some.injEq,Prod.mk.injEq] at he
    obtain⟨rfl,rfl⟩:=he
    exact hQ tm' w' hs hr
   | ex j =>
    simp only[XcG,Exit.inBlock]
    simp only at he
    split at he
    ·rename_i hj
     simp only[Option.some.injEq,Prod.mk.injEq] at he
     obtain⟨rfl,rfl⟩:=he
     rw[if_pos hj]
     exact hQ tm' w' hs hr
    ·rename_i hj
     simp only[Option.some.injEq,Prod.mk.injEq] at he
     obtain⟨rfl,rfl⟩:=he
     rw[if_neg hj]
     exact hQ tm' w' hs hr
 | loop c ih =>
  intro blk st e st' Q a w he h hc hQ
  simp only[Yw] at hc
  simp only[Xl] at he
  refine wp_loop_rounds cx.rounds ?_
  generalize cx.rounds=n at he
  induction n generalizing st a w with
  | zero=>cases he
  | succ n ihn =>
   simp only[Xiw] at he
   cases hx:Xl cx blk c (Vm.keep (cx.live blk) st) with
   | none=>rw[hx] at he; cases he
   | some p =>
    obtain⟨e1,st1⟩:=p
    rw[hx] at he
    refine ih hx (h.keep _) hc (λtm' w' hs hr=>?_)
    cases e1 with
    | nor=>exact ihn hr (by simpa[hs] using hc) (λtm'' w'' hs' hr'=>hQ tm'' w'' (by rw[hs',hs]) hr') he
    | ex id =>
     simp only[Option.some.injEq,Prod.mk.injEq] at he
     obtain⟨rfl,rfl⟩:=he
     exact hQ tm' w' hs hr
    | ret =>
     simp only[Option.some.injEq,Prod.mk.injEq] at he
     obtain⟨rfl,rfl⟩:=he
     exact hQ tm' w' hs hr
 | exit id =>
  intro blk st e st' Q a w he h hc hQ
  simp only[Xl,Option.some.injEq,Prod.mk.injEq] at he
  obtain⟨rfl,rfl⟩:=he
  exact wp_exit (hQ a.tmps w rfl (h.keep _))
 | ret =>
  intro blk st e st' Q a w he h hc hQ
  simp only[Xl,Option.some.injEq,Prod.mk.injEq] at he
  obtain⟨rfl,rfl⟩:=he
  exact wp_ret (hQ a.tmps w rfl (h.keep _))
 | _=>intro blk st e st' Q a w he h hc hQ; cases he
def Xld[HasTb P](hm:P.follows .mixedOrders=true)(hC:Xcs P cx)(hFs:∀g fs,cx.fns g=some fs->QG P g fs)(hTb:∀w Im,Frame w0 w L->Sub Im0 Im->Tb P Im w):∀(c:Code) {K:St->Option (Ex×St)} {st:St} {e:Ex} {st':St} {KK:Act->World->Prop} {Q:Exit->Act->World->Prop} {a:Act} {w:World},evN cx c K st=some (e,st')->ZL np vals b0 w0 L Im0 st a.tmps w->Yw cx np a.tmps.size c=true ->
  (∀(st1:St) (tm1:Array Value) (w1:World),tm1.size=a.tmps.size->ZL np vals b0 w0 L Im0 st1 tm1 w1->K st1=some (e,st')->KK {a with tmps:=tm1} w1) ->
  (∀(tm':Array Value) (w':World),tm'.size=a.tmps.size->ZL np vals b0 w0 L Im0 st' tm' w'->e≠.nor->Q (XcG e) {a with tmps:=tm'} w')->c.wp P (Exit.then KK Q) a w:=by
 have other:∀(c:Code) {K:St->Option (Ex×St)} {st:St} {e:Ex} {st':St} {KK:Act->World->Prop} {Q:Exit->Act->World->Prop} {a:Act} {w:World},Xbh (Xl cx 0 c st) K=some (e,st')->ZL np vals b0 w0 L Im0 st a.tmps w->Yw cx np a.tmps.size c=true ->
   (∀(st1:St) (tm1:Array Value) (w1:World),tm1.size=a.tmps.size->ZL np vals b0 w0 L Im0 st1 tm1 w1->K st1=some (e,st')->KK {a with tmps:=tm1} w1) ->
   (∀(tm':Array Value) (w':World),tm'.size=a.tmps.size->ZL np vals b0 w0 L Im0 st' tm' w'->e≠.nor->Q (XcG e) {a with tmps:=tm'} w')->c.wp P (Exit.then KK Q) a w:=by
  intro c K st e st' KK Q a w he h hc hK hQ
  cases hx:Xl cx 0 c st with
  | none=>rw[hx] at he; cases he
  | some p =>
   obtain⟨e1,s1⟩:=p
   rw[hx] at he
   unfold Xbh at he
   refine XfU hm hC hFs hTb c hx h hc (λtm' w' hs hr=>?_)
   cases e1 with
   | nor=>exact hK s1 tm' w' hs hr he
   | ex id=>simp only[Option.some.injEq,Prod.mk.injEq] at he; obtain⟨rfl,rfl⟩:=he; exact hQ tm' w' hs hr (by simp)
   | ret=>simp only[Option.some.injEq,Prod.mk.injEq] at he; obtain⟨rfl,rfl⟩:=he; exact hQ tm' w' hs hr (by simp)
 intro c
 induction c with
 | skip =>
  intro K st e st' KK Q a w he h hc hK hQ
  exact wp_skip (hK st a.tmps w rfl h (by simpa only[evN] using he))
 | seq x y ihx ihy =>
  intro K st e st' KK Q a w he h hc hK hQ
  simp only[Yw,Bool.and_eq_true] at hc
  simp only[evN] at he
  refine wp_seq (wp_mono (ihx (KK:=λa w=>y.wp P (Exit.then KK Q) a w) he h hc.1 (λst1 tm1 w1 hs hr hk=>ihy hk hr (by simpa[hs] using hc.2) (λst2 tm2 w2 hs2 hr2 hk2=>hK st2 tm2 w2 (by rw[hs2,hs]) hr2 hk2) (λtm2 w2 hs2 hr2 hn=>hQ tm2 w2 (by rw[hs2,hs]) hr2 hn)) (λtm' w' hs hr hn=>hQ tm' w' hs hr hn)) (λe a w hq=>?_))
  cases e<;>exact hq
 | cond c x y ihx ihy =>
  intro K st e st' KK Q a w he h hc hK hQ
  simp only[Yw,Bool.and_eq_true] at hc
  simp only[evN] at he
  have hv:∀t,view st c=.b t->a.eval c=.bool t:=by
   intro t ht
   obtain⟨Im,base,SO,h,hi⟩:=h
   have:=h.view c
   rw[ht] at this
   rw[Ub]
   exact this.b
  split at he
  ·rename_i ht; exact wp_cond_true (hv true ht) (ihx he h hc.1 hK hQ)
  ·rename_i ht; exact wp_cond_false (hv false ht) (ihy he h hc.2 hK hQ)
  ·rename_i ht
   have hu:∃t,a.eval c=.bool t:=by
    obtain⟨Im,base,SO,h,hi⟩:=h
    have:=h.view c
    rw[ht] at this
    rw[Ub]
    generalize Xe a.tmps c=v at this
    cases this with
    | leaf h=>cases h with
     | rep h=>cases h; exact⟨_,rfl⟩
   unfold Xde at he
   split at he
   ·rename_i heq
    obtain⟨t,ht⟩:=hu
    cases t with
    | true=>exact wp_cond_true ht (ihx he h hc.1 hK hQ)
    | false=>exact wp_cond_false ht (ihy (heq▸he) h hc.2 hK hQ)
   ·cases he
  ·cases he
 | _ =>
  intro K st e st' KK Q a w he h hc hK hQ
  exact other _ (by simpa only[evN] using he) h hc hK hQ
end Go.Vm
set_option autoImplicit false
namespace Go.Vm
variable {w0 : World} {L Im0 : CS} {st : St} {tm : Array Value} {w : World} {Im : CS} {base : Nat -> Nat × Nat} {SO : Bool -> Nat -> CS} {P : Program} {cx : Cx} {np : Nat -> Bool} {vals : Nat -> Value} {b0 : Nat -> Nat × Nat}
def Xji{v:Value}{a:AV}{V:CS}(h:PT st tm w Im base v a V)(ha:XL a=true):Cl w Im v a V:=by
 cases h with
 | u=>exact .u
 | no=>cases ha
 | leaf h =>
  by_cases hf:∃f cs,a=.fn f cs
  ·obtain⟨f,cs,rfl⟩:=hf
   exact .leaf (.rep (Xbr h ha))
  have:XL a=XK a:=by cases a<;>first | rfl | exact absurd ⟨_,_,rfl⟩ hf | (cases h; rename_i h; cases h)
  rw[this] at ha
  exact .leaf (.rep (h.row ha))
 | agg vs Sf hl hin hsub hd =>
  exact .agg vs Sf hl (λj v a hv hj=>.rep ((hin j v a hv hj).row (List.all_eq_true.1 ha a (List.mem_of_getElem? hj)))) hsub hd
 | tup=>cases ha
def XiG(tm:Array Value):ResultVar->Sem Value
 | .tmp t=>pure (tm.getD t undef)
 | .cell a t=>do loadVar t (<-asAddr (tm.getD a undef))
def XaJ(fn:Func)(tm:Array Value):results fn tm=(do
  let vs <-fn.results.mapM (XiG tm)
  pure (if h:vs.size=1 then vs[0] else .tuple vs)):=by
 unfold results
 congr 1
def Xb7(hC:Xcs P cx):∀(rv:List ResultVar) {st:St} {SO:Bool->Nat->CS} {l:List AV} {st':St},Xp w0 L Im0 st tm w Im base SO->Uv cx st rv=some (l,st')->l.all XL=true ->
  ∃(vs:List Value) (SO':Bool->Nat->CS) (Vf:Nat->CS),(rv.mapM (XiG tm)).run P w=.ok vs w/\Xp w0 L Im0 st' tm w Im base SO'/\(∀e r,Sub (SO' e r) (SO e r))/\vs.length=l.length /\
   (∀(j:Nat) (v:Value) (a:AV),vs[j]?=some v->l[j]?=some a->Cl w Im v a (Vf j))/\(∀j,Xw w0 L w Im SO' (Vf j))/\(∀j,Sub (Vf j) (Xai SO))/\∀i k,i≠k->XY (Vf i) (Vf k)
 | [],st,SO,l,st',h,he,ha=>by
  simp only[Uv,Option.some.injEq,Prod.mk.injEq] at he
  obtain⟨rfl,rfl⟩:=he
  exact⟨[],SO,λ_=>nos,by simp,h,λ_ _=>Sub.rfl' _,rfl,λj v a hj=>by simp at hj,λ_=>Xw.nos,λ_=>Xo _,λ_ _ _=>Xh _⟩
 | .tmp t :: r,st,SO,l,st',h,he,ha=>by
  simp only[Uv] at he
  cases ht:Vm.take st (.tmp t) with
  | none=>rw[ht] at he; cases he
  | some p =>
   obtain⟨v,st1⟩:=p
   rw[ht] at he
   simp only at he
   cases hr:Uv cx st1 r with
   | none=>rw[hr] at he; cases he
   | some p =>
    obtain⟨l',st2⟩:=p
    rw[hr] at he
    simp only[Option.some.injEq,Prod.mk.injEq] at he
    obtain⟨rfl,rfl⟩:=he
    simp only[List.all_cons,Bool.and_eq_true] at ha
    obtain⟨SO1,V,r1,r2,r3,r4,r5⟩:=h.take ht
    obtain⟨vs,SO2,Vf,s0,s1,s2,s3,s4,s5,s6,s7⟩:=Xb7 hC r r1 hr ha.2
    refine⟨tm.getD t undef :: vs,SO2,λi=>match i with | 0=>V | i+1=>Vf i,?_,s1,λe q=>(s2 e q).trans (r2 e q),by simp[s3],λj u a hu hj=>?_,λi=>?_,λi=>?_,λi k hik=>?_⟩
    ·simp only[List.mapM_cons,XiG,Sem.run_bind,Sem.run_pure,Result.andThen_ok,s0]
    ·cases j with
     | zero =>
      simp only[List.getElem?_cons_zero,Option.some.injEq] at hu hj
      subst hu hj
      exact Xji r3 ha.1
     | succ j=>exact s4 j u a (by simpa using hu) (by simpa using hj)
    ·cases i with
     | zero=>exact r4.of s2
     | succ i=>exact s5 i
    ·cases i with
     | zero=>exact r5
     | succ i=>exact(s6 i).trans (ZR r2)
    ·cases i with
     | zero =>
      cases k with
      | zero=>exact absurd rfl hik
      | succ k=>exact λb q hb hb'=>by obtain⟨e,r,hr⟩:=s6 k b q hb'; exact r4.dis e r b q hb hr
     | succ i =>
      cases k with
      | zero=>exact λb q hb hb'=>by obtain⟨e,r,hr⟩:=s6 i b q hb; exact r4.dis e r b q hb' hr
      | succ k=>exact s7 i k (λe=>hik (by omega))
 | .cell a t :: r,st,SO,l,st',h,he,ha=>by
  simp only[Uv] at he
  cases ht:(Ye (cx.T t) λti=>Ye (Vm.loadAt st ti (Vm.view st (.tmp a))) λv=>Vm.takeVal st v) with
  | none=>rw[ht] at he; cases he
  | some p =>
   obtain⟨v,st1⟩:=p
   rw[ht] at he
   simp only at he
   cases hr:Uv cx st1 r with
   | none=>rw[hr] at he; cases he
   | some p =>
    obtain⟨l',st2⟩:=p
    rw[hr] at he
    simp only[Option.some.injEq,Prod.mk.injEq] at he
    obtain⟨rfl,rfl⟩:=he
    simp only[List.all_cons,Bool.and_eq_true] at ha
    obtain⟨ti,hT,ht⟩:=Xx ht
    obtain⟨lv,hlv,htv⟩:=Xx ht
    obtain⟨uv,p1,p2⟩:=XfA h (hC _ _ hT) hlv
    obtain⟨SO1,V,r1,r2,r3,r4,r5'⟩:=h.takeVal p1 Xw.nos htv
    have r5:Sub V (Xai SO):=λb k hb=>(r5' b k hb).elim (λx=>x.elim) id
    have hrunv:(XiG tm (.cell a t)).run P w=.ok uv w:=by
     have h0:=p2 w (Frame.refl _ _) ⟨none,.load t (.tmp a),0, "",#[],none⟩ rfl
     have hx:=h.view (.tmp a)
     generalize hvx:Vm.view st (.tmp a)=vx at hlv hx
     have key:∀ad,Xe tm (.tmp a)=.pointer (some ad)->(XiG tm (.cell a t)).run P w=.ok uv w:=by
      intro ad e
      have e':tm.getD a undef=.pointer (some ad):=e
      simp only[execOp,e,Instr.loadAt,Instr.sureAddr,Sem.run_bind,Sem.run_pure,Result.andThen_ok] at h0
      simp only[XiG,e',asAddr,Sem.run_bind,Sem.run_pure,Result.andThen_ok]
      cases hl:(loadVar t ad).run P w with
      | ok v' w'=>rw[hl] at h0; simp only[Result.andThen_ok,Result.ok.injEq,Next.value.injEq] at h0; rw[h0.1,h0.2]
      | halt x w'=>rw[hl] at h0; cases h0
     cases vx with
     | p pl=>obtain⟨ad,e,_⟩:=hx.p; exact key ad e
     | pr cs=>obtain⟨g,off,vs,e,_⟩:=hx.pr; exact key _ e
     | _=>cases hlv
    obtain⟨vs,SO2,Vf,s0,s1,s2,s3,s4,s5,s6,s7⟩:=Xb7 hC r r1 hr ha.2
    refine⟨uv :: vs,SO2,λi=>match i with | 0=>V | i+1=>Vf i,?_,s1,λe q=>(s2 e q).trans (r2 e q),by simp[s3],λj u a hu hj=>?_,λi=>?_,λi=>?_,λi k hik=>?_⟩
    ·simp only[List.mapM_cons,hrunv,Sem.run_bind,Sem.run_pure,Result.andThen_ok,s0]
    ·cases j with
     | zero =>
      simp only[List.getElem?_cons_zero,Option.some.injEq] at hu hj
      subst hu hj
      exact Xji r3 ha.1
     | succ j=>exact s4 j u a (by simpa using hu) (by simpa using hj)
    ·cases i with
     | zero=>exact r4.of s2
     | succ i=>exact s5 i
    ·cases i with
     | zero=>exact r5
     | succ i=>exact(s6 i).trans (ZR r2)
    ·cases i with
     | zero =>
      cases k with
      | zero=>exact absurd rfl hik
      | succ k=>exact λb q hb hb'=>by obtain⟨e,r,hr⟩:=s6 k b q hb'; exact r4.dis e r b q hb hr
     | succ i =>
      cases k with
      | zero=>exact λb q hb hb'=>by obtain⟨e,r,hr⟩:=s6 i b q hb; exact r4.dis e r b q hb' hr
      | succ k=>exact s7 i k (λe=>hik (by omega))
def Xab:∀{md:List Md} {as:List AV} {j t:Nat} {m:Md} {a:AV},md[t]?=some m->as[t]?=some a->YD md as j (j+t)=(if m.isRw=true then .p ⟨false,j+t,[],0⟩ else a)
 | [],as,j,t,m,a,hm,ha=>by simp at hm
 | _ :: _,[],j,t,m,a,hm,ha=>by simp at ha
 | m0 :: md,a0 :: as,j,0,m,a,hm,ha=>by
  simp only[List.getElem?_cons_zero,Option.some.injEq] at hm ha
  subst hm ha
  cases m0<;>simp[YD,Md.isRw]
 | m0 :: md,a0 :: as,j,t+1,m,a,hm,ha=>by
  have ih:=Xab (j:=j+1) (t:=t) (md:=md) (as:=as) (m:=m) (a:=a) (by simpa using hm) (by simpa using ha)
  rw[show j+1+t=j+(t+1) by omega] at ih
  have hne:¬(j+(t+1)=j):=by omega
  cases m0<;>simp only[YD,hne,if_false,ih]
def XaK:∀{md:List Md} {as:List AV} {j t:Nat},(md.length<=t\/as.length<=t)->YD md as j (j+t)=.u
 | [],[],j,t,h=>by simp[YD]
 | [],_ :: _,j,t,h=>by simp[YD]
 | _ :: _,[],j,t,h=>by simp[YD]
 | m0 :: md,a0 :: as,j,0,h=>by simp at h
 | m0 :: md,a0 :: as,j,t+1,h=>by
  have ih:=XaK (j:=j+1) (t:=t) (md:=md) (as:=as) (by simp at h; omega)
  rw[show j+1+t=j+(t+1) by omega] at ih
  have hne:¬(j+(t+1)=j):=by omega
  cases m0<;>simp only[YD,hne,if_false,ih]
def Un:∀{md:List Md} {as:List AV} {j t:Nat} {m:Md} {a:AV},md[t]?=some m->as[t]?=some a->Yx md as j (j+t)=(if m.isRw=true then cellsOf a else[])
 | [],as,j,t,m,a,hm,ha=>by simp at hm
 | _ :: _,[],j,t,m,a,hm,ha=>by simp at ha
 | m0 :: md,a0 :: as,j,0,m,a,hm,ha=>by
  simp only[List.getElem?_cons_zero,Option.some.injEq] at hm ha
  subst hm ha
  have key:∀(md:List Md) (as:List AV) (i:Nat),j<i->Yx md as i j=[]:=by
   intro md
   induction md with
   | nil=>intro as i hi; cases as<;>simp[Yx]
   | cons m md ih =>
    intro as i hi
    cases as with
    | nil=>simp[Yx]
    | cons a as =>
     have hne:¬(j=i):=by omega
     cases m<;>simp only[Yx,hne,if_false,ih as (i+1) (by omega)]
  cases m0<;>simp[Yx,Md.isRw,key]
 | m0 :: md,a0 :: as,j,t+1,m,a,hm,ha=>by
  have ih:=Un (j:=j+1) (t:=t) (md:=md) (as:=as) (m:=m) (a:=a) (by simpa using hm) (by simpa using ha)
  rw[show j+1+t=j+(t+1) by omega] at ih
  have hne:¬(j+(t+1)=j):=by omega
  cases m0<;>simp only[Yx,hne,if_false,ih]
def Xbx:∀{md:List Md} {as:List AV} {j t:Nat},(md.length<=t\/as.length<=t)->Yx md as j (j+t)=[]
 | [],[],j,t,h=>by simp[Yx]
 | [],_ :: _,j,t,h=>by simp[Yx]
 | _ :: _,[],j,t,h=>by simp[Yx]
 | m0 :: md,a0 :: as,j,0,h=>by simp at h
 | m0 :: md,a0 :: as,j,t+1,h=>by
  have ih:=Xbx (j:=j+1) (t:=t) (md:=md) (as:=as) (by simp at h; omega)
  rw[show j+1+t=j+(t+1) by omega] at ih
  have hne:¬(j+(t+1)=j):=by omega
  cases m0<;>simp only[Yx,hne,if_false,ih]
def Xee:∀{md:List Md} {i j:Nat} {o:AV} {m:Md},md[j]?=some m->(QN st md i)[j]?=some o->o=(match m with | .ro _=>.u | .rw _=>.agg (st.bx (i+j)) | .mv=>st.env (i+j))
 | [],i,j,o,m,hm,h=>by simp at hm
 | m0 :: md,i,0,o,m,hm,h=>by
  simp only[List.getElem?_cons_zero,Option.some.injEq] at hm
  subst hm
  cases m0<;>(simp only[QN,List.getElem?_cons_zero,Option.some.injEq] at h; subst h; rfl)
 | m0 :: md,i,j+1,o,m,hm,h=>by
  have hm':md[j]?=some m:=by simpa using hm
  have:(QN st md (i+1))[j]?=some o:=by cases m0<;>simpa[QN] using h
  have:=Xee hm' this
  rw[this,show i+1+j=i+(j+1) by omega]
def Xby:∀{md:List Md} {os:List AV} {j n:Nat} {cs:List AV},Zz md os=true->md[j]?=some (.rw n)->os[j]?=some (.agg cs)->cs.length=n
 | [],os,j,n,cs,h,hm,ho=>by simp at hm
 | _ :: _,[],j,n,cs,h,hm,ho=>by simp at ho
 | m0 :: md,o0 :: os,0,n,cs,h,hm,ho=>by
  simp only[List.getElem?_cons_zero,Option.some.injEq] at hm ho
  subst hm ho
  simp only[Zz,Bool.and_eq_true,decide_eq_true_eq] at h
  exact h.1
 | m0 :: md,o0 :: os,j+1,n,cs,h,hm,ho=>by
  refine Xby (md:=md) (os:=os) (j:=j) ?_ (by simpa using hm) (by simpa using ho)
  cases m0 with
  | rw n=>cases o0<;>simp[Zz] at h<;>first | exact h.2 | exact h
  | _=>simpa[Zz] using h
def UG(n:Nat){np:Nat->Bool}{m:Nat}:∀c:Code,Yw {cx with rounds:=n} np m c=Yw cx np m c:=by
 intro c
 induction c with
 | seq a b iha ihb=>simp only[Yw,iha,ihb]
 | cond _ a b iha ihb=>simp only[Yw,iha,ihb]
 | block _ c ih=>simp only[Yw,ih]
 | loop c ih=>simp only[Yw,ih]
 | region id ops draw=>rfl
 | _=>rfl
def Xle(md:List Md):Bool:=md.all fun | .rw n=>n !=0 | _=>true
def Xlf{md:List Md}{st:St}{a:AV}{cs:List AV}(h:npP md st a=some cs):∃b,a=.p ⟨false,b,[],0⟩/\md.length<=b/\cs=st.bx b:=by
 unfold npP at h
 split at h
 ·rename_i q
  split at h
  ·rename_i hc
   injection h with h
   simp only[Bool.and_eq_true,Bool.not_eq_true',List.isEmpty_iff,beq_iff_eq,decide_eq_true_eq] at hc
   obtain⟨e,r,path,c⟩:=q
   obtain⟨⟨⟨h1,h2⟩,h3⟩,h4⟩:=hc
   simp only at h1 h2 h3 h4 h
   subst h1 h2 h3
   exact⟨r,rfl,h4,h.symm⟩
  ·cases h
 ·cases h
def Xlg:∀{rv rs:List ResultVar} {t:Nat},rvQ rv=some (rs,t)->rv=rs++[.tmp t]
 | [],rs,t,h=>by simp[rvQ] at h
 | [.tmp t'],rs,t,h=>by simp only[rvQ,Option.some.injEq,Prod.mk.injEq] at h; obtain⟨rfl,rfl⟩:=h; rfl
 | [.cell a b],rs,t,h=>by simp[rvQ] at h
 | a :: b :: r,rs,t,h=>by
  simp only[rvQ] at h
  cases hq:rvQ (b :: r) with
  | none=>rw[hq] at h; cases h
  | some p =>
   obtain⟨rs',t'⟩:=p
   rw[hq] at h
   simp only[Option.some.injEq,Prod.mk.injEq] at h
   obtain⟨rfl,rfl⟩:=h
   rw[Xlg hq]; rfl
def Xhk{l:List AV}(h:l.all XL=true):Z6 (one l)=none:=by
 cases hn:Z6 (one l) with
 | none=>rfl
 | some q =>
  have h1:=XiD hn
  match l,h,h1 with
  | [a],h,h1=>simp only[one] at h1; subst h1; exact absurd (List.all_eq_true.1 h _ (List.mem_cons_self ..)) (by rw[show XL (AV.tup [AV.tup [AV.agg q.1],AV.tup q.2])=false from rfl]; exact Bool.false_ne_true)
  | [],h,h1=>simp[one] at h1
  | a :: b :: r,h,h1 =>
   simp only[one] at h1
   injection h1 with h1
   injection h1 with h1 _
   subst h1
   exact absurd (List.all_eq_true.1 h _ (List.mem_cons_self ..)) (by rw[show XL (AV.tup [AV.agg q.1])=false from rfl]; exact Bool.false_ne_true)
def Xjj{md:List Md}{st:St}{rv:List ResultVar}{cs:List AV}(h:Xa5 md st rv=some cs):∃t b,rv=[.tmp t]/\st.env t=.p ⟨false,b,[],0⟩/\md.length<=b/\cs=st.bx b:=by
 unfold Xa5 at h
 split at h
 ·rename_i t
  obtain⟨b,h1,h2,h3⟩:=Xlf h
  exact⟨t,b,rfl,h1,h2,h3⟩
 ·cases h
def Xhl{l:List AV}(h:l.all XL=true):UK (one l)=none:=by
 cases hn:UK (one l) with
 | none=>rfl
 | some cs =>
  have h1:=XiE hn
  match l,h,h1 with
  | [a],h,h1=>simp only[one] at h1; subst h1; exact absurd (List.all_eq_true.1 h _ (List.mem_cons_self ..)) (by rw[show XL (AV.tup [AV.agg cs])=false from rfl]; exact Bool.false_ne_true)
  | [],h,h1=>simp[one] at h1
  | a :: b :: r,h,h1=>simp[one] at h1
def Xjk [HasTb P] {cx : Cx} {g : FuncId} {f : Func} {c : Code} {fs : FS} (hm : P.follows .mixedOrders = true) (hC : Xcs P cx) (hFs : ∀ g fs,cx.fns g = some fs -> QG P g fs) (hf : P.funcs[g]? = some f) (hname : (f.name == "runtime.NumGoroutine") = false) (hb : f.body = some c)
  (np:Nat->Bool) (hnp:∀(j:Nat) (m:Md),fs.md[j]?=some m->YZ m=false->np j=true) (hcode:Yw cx np f.ntmps c=true) (hlen:fs.md.length<=f.ntmps) (hpos:Xle fs.md=true)
  (hev:∀as r os,fs.F as=some (r,os)->as.length=fs.md.length->U9 as->∃n,Z9 {cx with rounds:=n} fs.md f as=some (r,os)) (hwk:fs.wk=false->∀as r os,fs.F as=some (r,os)->XW r=false/\∀o∈os,XW o=false):QG P g fs:=by
 intro w Im vs as Sf r os hF h1 h2 harg hd hI hs hi hT
 have hTb:∀w' Im',Frame w w' (YS Sf)->Sub Im Im'->Tb P Im' w':=λw' Im' hf hsub=>hT.mono hsub hf (λb k hb ⟨j,hj⟩=>hI j b k hj hb)
 have hname' : ¬ f.name = "runtime.NumGoroutine":=by simpa using hname
 refine .inr ⟨by simp[callFunc,hf,hname',hb],?_⟩
 obtain⟨n,hev⟩:=hev as r os hF h2 (QU λj a hj=>by
  have hlt:j<as.length:=(List.getElem?_eq_some_iff.1 hj).1
  exact Xdr (harg j _ _ a (List.getElem?_eq_getElem (by omega)) (List.getElem?_eq_getElem (by omega)) hj))
 have hC':Xcs P {cx with rounds:=n}:=⟨hC.T,hC.eqs⟩
 let tm0:Array Value:=vs.toArray++Array.replicate (f.ntmps-vs.toArray.size) undef
 have hsz:tm0.size=f.ntmps:=by simp only[tm0,Array.size_append,Array.size_replicate,List.size_toArray]; omega
 have htm:∀j (v:Value),vs[j]?=some v->tm0.getD j undef=v:=by
  intro j v hj
  have hlt:j<vs.length:=(List.getElem?_eq_some_iff.1 hj).1
  have:tm0[j]?=some v:=by
   simp only[tm0]
   rw[Array.getElem?_append_left (by simpa using hlt)]
   simpa using hj
  rw[Array.getD_eq_getD_getElem?,this]; rfl
 have hex:∀j m,fs.md[j]?=some m->∃v a,vs[j]?=some v/\as[j]?=some a/\XfM w Im m v a (Sf j):=by
  intro j m hm
  have hlt:j<fs.md.length:=(List.getElem?_eq_some_iff.1 hm).1
  have e1:vs[j]?=some (vs[j]'(by omega)):=List.getElem?_eq_getElem (by omega)
  have e2:as[j]?=some (as[j]'(by omega)):=List.getElem?_eq_getElem (by omega)
  exact⟨_,_,e1,e2,harg j m _ _ hm e1 e2⟩
 let base:Nat->Nat×Nat:=λj=>match vs[j]? with
  | some (.pointer (some ad))=>(ad.block,ad.off)
  | _=>(0,0)
 let SO:Bool->Nat->CS:=λe j b k=>(if e=true then(fs.md[j]?).any Md.isMv=true else(fs.md[j]?).any Md.isRw=true)/\Sf j b k
 have hSO:∀e j,Sub (SO e j) (Sf j):=λe j b k hb=>hb.2
 have hR:Xp w (YS Sf) Im (QE fs.md as) tm0 w Im base SO:=by
  refine⟨λt=>?_,λt=>?_,λe q e' q' hne=>?_,λe q=>(hI q).mono (hSO e q) (Sub.rfl' _),hi,λe q g k hb=>hs q g k hb.2,Sub.rfl' _,λg k hb=>.inl hb,λe q g k hb=>.inl ⟨q,hb.2⟩,Frame.refl _ _⟩
  ·show Top _ _ _ _ _ (YD fs.md as 0 t) _
   cases hm:fs.md[t]? with
   | none =>
    have:=XaK (md:=fs.md) (as:=as) (j:=0) (t:=t) (.inl (List.getElem?_eq_none_iff.1 hm))
    rw[Nat.zero_add] at this
    rw[this]; exact .u
   | some m =>
    obtain⟨v,a,e1,e2,e3⟩:=hex t m hm
    have:=Xab (j:=0) hm e2
    rw[Nat.zero_add] at this
    rw[this,htm t v e1]
    cases m with
    | ro n =>
     rw[if_neg (by simp[Md.isRw])]
     exact Top.keep e3 (Sub.rfl' _) (XN.refl _ _) (λ_ _ h=>h.elim) (λ_ _ _ _ _ h=>h.elim) (Xo _) (XN.refl _ _)
    | mv =>
     rw[if_neg (by simp[Md.isRw])]
     exact Top.keep e3 (Sub.rfl' _) (XN.refl _ _) (λ_ _ h=>h.elim) (λ_ _ _ _ _ h=>h.elim) (λb k hb=>⟨by simp only[if_true,hm]; rfl,hb⟩) (XN.refl _ _)
    | rw n =>
     rw[if_pos (show Md.isRw (.rw n)=true from rfl)]
     obtain⟨g,o,cs,k1,k2,k3,k4,k5⟩:=e3
     subst k1 k2
     have hbx:(QE fs.md as).bx t=cs:=by
      have:=Un (j:=0) hm e2
      rw[Nat.zero_add] at this
      show Yx fs.md as 0 t=cs
      rw[this,if_pos (show Md.isRw (.rw n)=true from rfl)]; rfl
     have hn0:cs≠[]:=by
      intro e
      have:=List.all_eq_true.1 hpos _ (List.mem_of_getElem? hm)
      rw[e] at k3
      simp only[List.length_nil] at k3
      rw[<-k3] at this
      cases this
     refine .leaf (.p ⟨⟨g,o,?_,rfl⟩,⟨cs,?_⟩,λ_=>⟨rfl,by rw[hbx]; exact hn0⟩⟩)
     ·simp only[follow,Yn,Bool.false_eq_true,if_false,base,e1]
     ·simp only[nav,Xa,Bool.false_eq_true,if_false,hbx]
  ·show Up _ _ _ _ (Yx fs.md as 0 t) _
   have hnil:∀l S,Up (PL (QE fs.md as) tm0 w Im base) tm0 w l [] S:=λl S=>⟨λ_=>undef,λ_=>nos,λj a hj=>by simp at hj,λj a hj=>by simp at hj,λ_=>Xo _,λ_ _ _=>Xh _,λg o e j hj=>by simp at hj⟩
   cases hm:fs.md[t]? with
   | none =>
    have:=Xbx (md:=fs.md) (as:=as) (j:=0) (t:=t) (.inl (List.getElem?_eq_none_iff.1 hm))
    rw[Nat.zero_add] at this
    rw[this]; exact hnil _ _
   | some m =>
    obtain⟨v,a,e1,e2,e3⟩:=hex t m hm
    have:=Un (j:=0) hm e2
    rw[Nat.zero_add] at this
    rw[this]
    cases m with
    | ro n=>rw[if_neg (by simp[Md.isRw])]; exact hnil _ _
    | mv=>rw[if_neg (by simp[Md.isRw])]; exact hnil _ _
    | rw n =>
     rw[if_pos (show Md.isRw (.rw n)=true from rfl)]
     obtain⟨g,o,cs,k1,k2,k3,k4,k5⟩:=e3
     subst k1 k2
     have hb0:base t=(g,o):=by simp only[base,e1]
     rw[hb0]
     obtain⟨us,nS,q1,q2,q3,q4,q5⟩:=k5
     have hsub:Sub (Sf t) (SO false t):=λb k hb=>⟨by simp only[Bool.false_eq_true,if_false,hm]; rfl,hb⟩
     exact⟨us,nS,q1,λj a hj=>(q2 j a hj).keep (Sub.rfl' _) (XN.refl _ _) (λ_ _ h=>h.elim) (λ_ _ _ _ _ h=>h.elim) (Sub.rfl' _) (XN.refl _ _),λj=>(q3 j).trans hsub,q4,λg' o' e j hj=>by
      obtain⟨z1,z2,z3⟩:=q5 g' o' e j hj
      exact⟨hsub _ _ z1,z2,z3⟩⟩
  ·by_cases hq:q=q'
   ·subst hq
    intro b k hb hb'
    have he:e≠e':=λx=>hne ⟨x,rfl⟩
    have key:∀(x:Option Md),x.any Md.isMv=true->x.any Md.isRw=true->False:=by
     intro x
     cases x with
     | none=>intro h; cases h
     | some m=>cases m<;>simp[Md.isMv,Md.isRw]
    cases e with
    | true =>
     cases e' with
     | true=>exact he rfl
     | false=>exact key _ (by simpa using hb.1) (by simpa using hb'.1)
    | false =>
     cases e' with
     | true=>exact key _ (by simpa using hb'.1) (by simpa using hb.1)
     | false=>exact he rfl
   ·exact(hd q q' hq).mono (hSO e q) (hSO e' q')
 have hI0:ZL np (λj=>tm0.getD j undef) base w (YS Sf) Im (QE fs.md as) tm0 w:=⟨Im,base,SO,hR,λj _=>⟨rfl,rfl⟩⟩
 have hend:∀(st':St) (tm':Array Value) (w':World),ZA {cx with rounds:=n} fs.md f.results.toList st'=some (r,os)->ZL np (λj=>tm0.getD j undef) base w (YS Sf) Im st' tm' w' ->
   ∃v,(results f tm').run P w'=.ok v w'/\∃(Im' S:CS) (Of:Nat->CS),Xmp w w' Im (YS Sf) fs.md vs r os v Im' S Of/\(fs.wk=false->XW r=false/\∀o∈os,XW o=false):=by
  intro st' tm' w' hfin ⟨Im',base',SO',hR',hinv⟩
  have outF:∀(st2:St) (SO2:Bool->Nat->CS),Xp w (YS Sf) Im st2 tm' w' Im' base' SO2->(QN st2 fs.md 0).all XL=true->Zz fs.md (QN st2 fs.md 0)=true ->
    ∃Of:Nat->CS,(∀(j:Nat) (m:Md) (u:Value) (o:AV),fs.md[j]?=some m->vs[j]?=some u->(QN st2 fs.md 0)[j]?=some o->Xjc w' Im' m u o (Of j))/\(∀i j,i≠j->XY (Of i) (Of j))/\(∀j,∃e,Sub (Of j) (SO2 e j))/\∀b j,fs.md.length<=b->XY (SO2 false b) (Of j):=by
   intro st2 SO2 s1 c2 c3
   let Of:Nat->CS:=λj b k=>((fs.md[j]?).any Md.isMv=true/\SO2 true j b k)\/((fs.md[j]?).any Md.isRw=true/\SO2 false j b k)
   have hOf:∀j,∃e,Sub (Of j) (SO2 e j):=by
    intro j
    cases hm:fs.md[j]? with
    | none=>exact⟨true,λb k hb=>by simp[Of,hm] at hb⟩
    | some m =>
     cases m with
     | ro n=>exact⟨true,λb k hb=>by simp[Of,hm,Md.isMv,Md.isRw] at hb⟩
     | mv=>exact⟨true,λb k hb=>by simpa[Of,hm,Md.isMv,Md.isRw] using hb⟩
     | rw n=>exact⟨false,λb k hb=>by simpa[Of,hm,Md.isMv,Md.isRw] using hb⟩
   refine⟨Of,λj m u o hm hu ho=>?_,λi j hij=>?_,hOf,λb j hlb g k hb hb'=>?_⟩
   ·have hok:=List.all_eq_true.1 c2 o (List.mem_of_getElem? ho)
    have hog:=Xee hm ho
    rw[Nat.zero_add] at hog
    cases m with
    | ro n=>trivial
    | mv =>
     simp only at hog
     subst hog
     have hnp':np j=true:=hnp j _ hm rfl
     have hval:tm'.getD j undef=u:=by rw[(hinv j hnp').1]; exact htm j u hu
     refine⟨?_,hok⟩
     have:=Xji (s1.env j) hok
     rw[hval] at this
     exact this.mono (λb k hb=>.inl ⟨by rw[hm]; rfl,hb⟩)
    | rw n =>
     simp only at hog
     subst hog
     have hnp':np j=true:=hnp j _ hm rfl
     obtain⟨v0,a0,e1,e2,g,oo,cs0,k1,k2,_⟩:=hex j _ hm
     rw[hu] at e1
     injection e1 with e1
     subst e1 k1
     have hb0:base' j=(g,oo):=by rw[(hinv j hnp').2]; simp only[base,hu]
     refine⟨g,oo,st2.bx j,rfl,rfl,Xby c3 hm ho,hok,?_⟩
     have hn:=s1.bx j
     rw[hb0] at hn
     obtain⟨us',nS,q1,q2,q3,q4,q5⟩:=hn
     have hsub:Sub (SO2 false j) (Of j):=λb k hb=>.inr ⟨by rw[hm]; rfl,hb⟩
     exact⟨us',nS,q1,λi a hi=>.rep ((q2 i a hi).row (List.all_eq_true.1 hok a (List.mem_of_getElem? hi))),λi=>(q3 i).trans hsub,q4,λg' o' e i hi=>by
      obtain⟨z1,z2,z3⟩:=q5 g' o' e i hi
      exact⟨hsub _ _ z1,z2,z3⟩⟩
   ·obtain⟨e,he⟩:=hOf i
    obtain⟨e',he'⟩:=hOf j
    exact(s1.dis e i e' j (λx=>hij x.2)).mono he he'
   ·rcases hb' with⟨_,hb'⟩ | ⟨hm,hb'⟩
    ·exact s1.dis false b true j (λx=>by cases x.1) g k hb hb'
    ·have hlt:j<fs.md.length:=by
      cases hm':fs.md[j]? with
      | none=>rw[hm'] at hm; cases hm
      | some m=>exact(List.getElem?_eq_some_iff.1 hm').1
     exact s1.dis false b false j (λx=>by omega) g k hb hb'
  have boxF:∀(st2:St) (SO2:Bool->Nat->CS) (t b:Nat),Xp w (YS Sf) Im st2 tm' w' Im' base' SO2->st2.env t=.p ⟨false,b,[],0⟩->(st2.bx b).all XK=true->∃g0 o0,tm'.getD t undef=.pointer (some ⟨g0,o0,none⟩)/\Up (Yy w' Im' noP noR) #[] w' (.mem g0 o0) (st2.bx b) (SO2 false b):=by
   intro st2 SO2 t b s1 henv c0
   have ht:=s1.env t
   rw[henv] at ht
   obtain⟨ad,e1,hpt⟩:=ht.p
   obtain⟨⟨g0,o0,hf1,hf2⟩,_⟩:=hpt
   have hgo:base' b=(g0,o0):=by
    simp only[follow,Yn,Bool.false_eq_true,if_false,Option.some.injEq,Loc.mem.injEq] at hf1
    exact Prod.ext hf1.1 hf1.2
   refine⟨g0,o0,by rw[e1,hf2]; simp,?_⟩
   have hn:=s1.bx b
   rw[hgo] at hn
   obtain⟨us',nS,q1,q2,q3,q4,q5⟩:=hn
   exact⟨us',nS,q1,λi a hi=>.rep ((q2 i a hi).row (List.all_eq_true.1 c0 a (List.mem_of_getElem? hi))),q3,q4,q5⟩
  unfold ZA at hfin
  cases hnp0:Xa5 fs.md st' f.results.toList with
  | some cs0 =>
   rw[hnp0] at hfin
   simp only at hfin
   unfold Xk3 at hfin
   split at hfin
   ·rename_i hcond
    simp only[Option.some.injEq,Prod.mk.injEq] at hfin
    obtain⟨rfl,rfl⟩:=hfin
    simp only[Bool.and_eq_true,Bool.not_eq_true'] at hcond
    obtain⟨⟨⟨c0,cne⟩,c2⟩,c3⟩:=hcond
    obtain⟨t,b,hrv,henv,hlb,rfl⟩:=Xjj hnp0
    obtain⟨g0,o0,hval,hnode⟩:=boxF st' SO' t b hR' henv c0
    have hrun:(results f tm').run P w'=.ok (.pointer (some ⟨g0,o0,none⟩)) w':=by
     rw[XaJ,Array.mapM_eq_mapM_toList,hrv]
     simp[XiG,hval]
    obtain⟨Of,o1,o2,hOf,o4⟩:=outF st' SO' hR' c2 c3
    refine⟨_,hrun,Im',SO' false b,Of,⟨hR'.frame,hR'.imm,hR'.fromI,hR'.inI,⟨g0,o0,rfl,by simpa using cne,hnode⟩,o1,o2,λj=>o4 b j hlb,hR'.disI false b,λj=>?_,hR'.inS false b,λj g k hb=>?_,hR'.fromS false b,λj g k hb=>?_⟩,λhw=>hwk hw as _ _ hF⟩
    ·obtain⟨e,he⟩:=hOf j
     exact(hR'.disI e j).mono he (Sub.rfl' _)
    ·obtain⟨e,he⟩:=hOf j
     exact hR'.inS e j g k (he g k hb)
    ·obtain⟨e,he⟩:=hOf j
     exact hR'.fromS e j g k (he g k hb)
   ·cases hfin
  | none =>
  rw[hnp0] at hfin
  simp only at hfin
  unfold XlT at hfin
  cases hres:Uv {cx with rounds:=n} st' f.results.toList with
  | none=>rw[hres] at hfin; cases hfin
  | some p =>
   obtain⟨l,st2⟩:=p
   rw[hres] at hfin
   simp only at hfin
   split at hfin
   ·rename_i hcond
    simp only[Option.some.injEq,Prod.mk.injEq] at hfin
    obtain⟨rfl,rfl⟩:=hfin
    simp only[Bool.and_eq_true] at hcond
    obtain⟨⟨c1,c2⟩,c3⟩:=hcond
    obtain⟨us,SO2,Vf,s0,s1,s2,s3,s4,s5,s6,s7⟩:=Xb7 hC' f.results.toList hR' hres c1
    have hrun:(results f tm').run P w'=.ok (if h:us.toArray.size=1 then us.toArray[0] else .tuple us.toArray) w':=by
     rw[XaJ,Array.mapM_eq_mapM_toList]
     simp only[map_eq_pure_bind,Sem.run_bind,Sem.run_pure]
     erw [s0]
     rfl
    let S:CS:=λb k=>∃j,Vf j b k
    obtain⟨Of,o1,o2,hOf,o4⟩:=outF st2 SO2 s1 c2 c3
    refine⟨_,hrun,Im',S,Of,⟨s1.frame,s1.imm,s1.fromI,s1.inI,?_,o1,o2,λj=>?_,λb k ⟨j,hb⟩=>(s5 j).disI b k hb,λj=>?_,λg k ⟨j,hb⟩=>(s5 j).ins g k hb,λj g k hb=>?_,λg k ⟨j,hb⟩=>(s5 j).from_ g k hb,λj g k hb=>?_⟩,λhw=>hwk hw as _ _ hF⟩
    ·unfold Xb4
     rw[Xhl c1,Xhk c1]
     show Cl _ _ _ _ _
     by_cases h1:us.length=1
     ·obtain⟨u,rfl⟩:=List.length_eq_one_iff.1 h1
      obtain⟨a,rfl⟩:=List.length_eq_one_iff.1 (s3▸h1:l.length=1)
      simp only[List.size_toArray,List.length_cons,List.length_nil,one]
      exact(s4 0 u a rfl rfl).mono (λb k hb=>⟨0,hb⟩)
     ·have h1':¬us.toArray.size=1:=by simpa using h1
      rw[dif_neg h1']
      have:one l=.tup l:=by
       match l,s3 with
       | [],_=>rfl
       | [a],s3=>exact absurd s3 h1
       | a :: b :: r,_=>rfl
      rw[this]
      exact .tup us Vf s3 s4 (λj b k hb=>⟨j,hb⟩) s7
    ·obtain⟨e,he⟩:=hOf j
     exact λb k ⟨i,hb⟩ hb'=>(s5 i).dis e j b k hb (he b k hb')
    ·obtain⟨e,he⟩:=hOf j
     exact(s1.disI e j).mono he (Sub.rfl' _)
    ·obtain⟨e,he⟩:=hOf j
     exact s1.inS e j g k (he g k hb)
    ·obtain⟨e,he⟩:=hOf j
     exact s1.fromS e j g k (he g k hb)
   ·clear hres
    unfold Xi1 at hfin
    split at hfin
    ·rename_i rs t hrq
     split at hfin
     ·rename_i l st2 hres
      split at hfin
      ·rename_i cs hcs
       split at hfin
       ·rename_i hcond
        simp only[Option.some.injEq,Prod.mk.injEq] at hfin
        obtain⟨rfl,rfl⟩:=hfin
        simp only[Bool.and_eq_true,Bool.not_eq_true'] at hcond
        obtain⟨⟨⟨⟨⟨c1,cl⟩,c0⟩,cne⟩,c2⟩,c3⟩:=hcond
        obtain⟨b,henv,hlb,rfl⟩:=Xlf hcs
        obtain⟨us,SO2,Vf,s0,s1,s2,s3,s4,s5,s6,s7⟩:=Xb7 hC' rs hR' hres c1
        obtain⟨g0,o0,hval,hnode⟩:=boxF st2 SO2 t b s1 henv c0
        have hlen1:us.length≠0:=by rw[s3]; intro h0; rw[List.length_eq_zero_iff] at h0; rw[h0] at cl; cases cl
        have hrun:(results f tm').run P w'=.ok (.tuple (us++[Value.pointer (some ⟨g0,o0,none⟩)]).toArray) w':=by
         rw[XaJ,Array.mapM_eq_mapM_toList,Xlg hrq]
         simp only[map_eq_pure_bind,Sem.run_bind,Sem.run_pure,List.mapM_append]
         erw [s0]
         simp[XiG,hval]
         exact λh=>absurd (by rw[h]; rfl) hlen1
        obtain⟨Of,o1,o2,hOf,o4⟩:=outF st2 SO2 s1 c2 c3
        refine⟨_,hrun,Im',λg k=>(∃j,Vf j g k)\/SO2 false b g k,Of,⟨s1.frame,s1.imm,s1.fromI,s1.inI,?_,o1,o2,λj=>?_,λb' k hb=>hb.elim (λ⟨j,hb⟩=>(s5 j).disI b' k hb) (λhb=>s1.disI false b b' k hb),λj=>?_,λg k hb=>hb.elim (λ⟨j,hb⟩=>(s5 j).ins g k hb) (s1.inS false b g k),λj g k hb=>?_,λg k hb=>hb.elim (λ⟨j,hb⟩=>(s5 j).from_ g k hb) (s1.fromS false b g k),λj g k hb=>?_⟩,λhw=>hwk hw as _ _ hF⟩
        ·exact⟨us,g0,o0,Vf,SO2 false b,rfl,s3,s4,s7,λj b' k hb=>.inl ⟨j,hb⟩,by simpa using cne,hnode,λb' k hb=>.inr hb,λj=>(s5 j).dis false b⟩
        ·obtain⟨e,he⟩:=hOf j
         exact λb' k hb hb'=>hb.elim (λ⟨i,hb⟩=>(s5 i).dis e j b' k hb (he b' k hb')) (λhb=>o4 b j hlb b' k hb hb')
        ·obtain⟨e,he⟩:=hOf j
         exact(s1.disI e j).mono he (Sub.rfl' _)
        ·obtain⟨e,he⟩:=hOf j
         exact s1.inS e j g k (he g k hb)
        ·obtain⟨e,he⟩:=hOf j
         exact s1.fromS e j g k (he g k hb)
       ·cases hfin
      ·cases hfin
     ·cases hfin
    ·cases hfin
 unfold Z9 at hev
 rw[hb] at hev
 simp only at hev
 refine calls_of_wp hf hb ?_
 unfold evB at hev
 by_cases hnz:cx.nz=true
 ·rw[if_pos (show({cx with rounds:=n}:Cx).nz=true from hnz)] at hev
  cases hec:evN {cx with rounds:=n} c (λs=>some (.nor,s)) (QE fs.md as) with
  | none=>rw[hec] at hev; cases hev
  | some p =>
   obtain⟨e,st'⟩:=p
   rw[hec] at hev
   have hfin:∀{e:Ex},(match (some (e,st'):Option (Ex×St)) with
     | some (.nor,st)=>ZA {cx with rounds:=n} fs.md f.results.toList st
     | some (.ret,st)=>ZA {cx with rounds:=n} fs.md f.results.toList st
     | _=>none)=some (r,os)->(e=.nor\/e=.ret)/\ZA {cx with rounds:=n} fs.md f.results.toList st'=some (r,os):=by
    intro e h
    cases e with
    | nor=>exact⟨.inl rfl,h⟩
    | ret=>exact⟨.inr rfl,h⟩
    | ex j=>cases h
   obtain⟨he1,he2⟩:=hfin hev
   have hw:=Xld (np:=np) (a:={tmps:=tm0,defers:=[]}) (KK:=λa w'=>∃st1,ZL np (λj=>tm0.getD j undef) base w (YS Sf) Im st1 a.tmps w'/\(some (Ex.nor,st1):Option (Ex×St))=some (e,st')/\a={tmps:=a.tmps,defers:=[]}) (Q:=λx a w'=>x=XcG e/\e≠.nor/\ZL np (λj=>tm0.getD j undef) base w (YS Sf) Im st' a.tmps w'/\a={tmps:=a.tmps,defers:=[]}) hm hC' hFs hTb c hec hI0 (by show Yw {cx with rounds:=n} np tm0.size c=true; rw[hsz]; exact(UG n c).trans hcode)
    (λst1 tm1 w1 hs hr hk=>⟨st1,hr,hk,rfl⟩) (λtm' w' hs hr hn=>⟨rfl,hn,hr,rfl⟩)
   refine wp_mono hw (λx a w' hq=>?_)
   cases x with
   | normal =>
    obtain⟨st1,hr,hk,ha⟩:=hq
    simp only[Option.some.injEq,Prod.mk.injEq] at hk
    obtain⟨rfl,rfl⟩:=hk
    obtain⟨v,k1,k2⟩:=hend st1 a.tmps w' he2 hr
    rw[ha]
    exact⟨rfl,v,k1,k2⟩
   | ret =>
    obtain⟨hx,hn,hr,ha⟩:=hq
    obtain⟨v,k1,k2⟩:=hend st' a.tmps w' he2 hr
    rw[ha]
    exact⟨rfl,v,k1,k2⟩
   | _ =>
    obtain⟨hx,hn,hr,ha⟩:=hq
    rcases he1 with rfl | rfl<;>cases hx
 rw[if_neg (show ¬({cx with rounds:=n}:Cx).nz=true from hnz)] at hev
 cases hec:Xl {cx with rounds:=n} 0 c (QE fs.md as) with
 | none=>rw[hec] at hev; cases hev
 | some p =>
  obtain⟨e,st'⟩:=p
  rw[hec] at hev
  refine XfU (np:=np) (a:={tmps:=tm0,defers:=[]}) hm hC' hFs hTb c hec hI0 (by show Yw {cx with rounds:=n} np tm0.size c=true; rw[hsz]; exact(UG n c).trans hcode) (λtm' w' hs hr=>?_)
  cases e with
  | nor =>
   obtain⟨v,k1,k2⟩:=hend st' tm' w' hev hr
   exact⟨rfl,v,k1,k2⟩
  | ret =>
   obtain⟨v,k1,k2⟩:=hend st' tm' w' hev hr
   exact⟨rfl,v,k1,k2⟩
  | ex j=>cases hev
end Go.Vm
