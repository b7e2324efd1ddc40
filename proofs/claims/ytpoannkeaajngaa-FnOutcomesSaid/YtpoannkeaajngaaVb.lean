/- A part of a reflected evaluator of the program's code, and the proof that what it computes is what the machine does. -/
import Derived.Test.YtpoannkeaajngaaVa
import Derived.Laws.IdiomCopy
import Derived.Laws.Slices
import Derived.Laws.Concat
import Derived.Laws.StructEq
import Derived.Laws.Pointers
import Derived.Laws.BytesArg
import Derived.Laws.BytesString
import Derived.Laws.MakeOwn
set_option linter.unusedVariables false
set_option linter.unusedSimpArgs false
set_option autoImplicit false
set_option linter.defProp false
namespace Go.Vm
variable {w0 : World} {L Im0 : CS} {st : St} {tm : Array Value} {w : World} {Im : CS} {base : Nat -> Nat × Nat} {SO : Bool -> Nat -> CS}
variable {pl : Pl} {cells : List AV} {l' : Loc} {T : CS} {vs : Nat -> Value} {Sf : Nat -> CS}
def U4(lo n:Nat)(F:Nat->CS):CS:=λb k=>∃j,lo<=j/\j<lo+n/\F j b k
structure Xw (w0:World) (L:CS) (w:World) (Im:CS) (SO:Bool->Nat->CS) (V:CS):Prop where
 dis:∀e r,XY V (SO e r)
 disI:XY V Im
 ins:∀g k,V g k->g<w.heap.size
 from_:∀g k,V g k->L g k\/w0.heap.size<=g
def Xw.nos:Xw w0 L w Im SO nos:=⟨λ_ _=>Xh _,Xh _,λ_ _ h=>h.elim,λ_ _ h=>h.elim⟩
def Xw.mono{V V':CS}(h:Xw w0 L w Im SO V)(hs:Sub V' V):Xw w0 L w Im SO V':=⟨λe r=>(h.dis e r).mono hs (Sub.rfl' _),h.disI.mono hs (Sub.rfl' _),λg k x=>h.ins g k (hs g k x),λg k x=>h.from_ g k (hs g k x)⟩
def Xw.of{V:CS}{SO':Bool->Nat->CS}(h:Xw w0 L w Im SO V)(hs:∀e r,Sub (SO' e r) (SO e r)):Xw w0 L w Im SO' V:=⟨λe r=>(h.dis e r).mono (Sub.rfl' _) (hs e r),h.disI,h.ins,h.from_⟩
variable {w' : World} {M : CS} {c m c2 m2 : Nat} {new : List AV}
def Ys.putCellsG(o:Ys st tm w Im base SO pl cells l' T vs Sf)(h:Xp w0 L Im0 st tm w Im base SO)(k:Chg st w Im SO pl cells l' Sf w' M c m new){kp kr:Pl->Bool}
  (hp:∀(q:Pl) (ad:Addr),kp q=true->Pt st tm w base q ad->Pt (Xi st pl new) tm w' base q ad) (hr:∀(q:Pl) (z lo n:Nat) (v:Value),kr q=true->Rf st tm w base q z lo n v->Rf (Xi st pl new) tm w' base q z lo n v)
  (htop:pl.e=true->top (st.env pl.r)=true) (hout:∀j,¬(c2<=j/\j<c2+m2)->new[j]?=cells[j]?) (hcm:∀j,c<=j->j<c+m->c2<=j/\j<c2+m2)
  {Im':CS} (hII:Sub Im Im') (hE1:∀e r,¬(e=pl.e/\r=pl.r)->XY (SO e r) Im') (hE2:XY (ZJ (SO pl.e pl.r) T) Im') (hE3:XY (ZJ T (U4 c2 m2 Sf)) Im') (hIs:∀g i,Im' g i->g<w'.heap.size) (hIf:∀g i,Im' g i->Im0 g i\/L g i\/w0.heap.size<=g)
  (nv:Nat->Value) (nS:Nat->CS) (hget:∀j a,c2<=j->j<c2+m2->new[j]?=some a->YW tm w' l' j=some (nv j))
  (hsh:∀j a,c2<=j->j<c2+m2->new[j]?=some a->if pl.path=[] then PL (Xi st pl new) tm w' Im' base (nv j) (filt kp kr a) (nS j) else Rep w' Im' (nv j) a (nS j))
  (hnd:∀i j,i≠j->XY (nS i) (nS j)) (hspd:∀e r,¬(e=pl.e/\r=pl.r)->XY (U4 c2 m2 nS) (SO e r)) (hspd2:XY (U4 c2 m2 nS) (ZJ (SO pl.e pl.r) T)) (hspd3:XY (U4 c2 m2 nS) (ZJ T (U4 c2 m2 Sf))) (hspI:XY (U4 c2 m2 nS) Im') (hsps:∀g i,U4 c2 m2 nS g i->g<w'.heap.size) (hspf:∀g i,U4 c2 m2 nS g i->L g i\/w0.heap.size<=g)
  (hfz:∀g o j,l'=.mem g o->c2<=j->j<c2+m2->j<cells.length->fz w' g (o+j) cells.length)
  (hsz:w.heap.size<=w'.heap.size) (hfr:Frame w0 w' L) :
  ∃SO',Xp w0 L Im0 ((Xi st pl new).filt kp kr) tm w' Im' base SO'/\(∀e r,Sub (SO' e r) (un (SO e r) (U4 c2 m2 nS)))/\(∀e r j,c2<=j->j<c2+m2->XY (ZJ (Sf j) (U4 c2 m2 nS)) (SO' e r)):=by
 have hsI:=o.sameI h k
 have hcell:∀j,j<cells.length->¬(c2<=j/\j<c2+m2)->∀g oo,l'=.mem g oo->Xt w' g (oo+j)=Xt w g (oo+j)/\∀q,YE w' g q=YE w g q:=by
  intro j hj hn g oo e
  refine k.same g (oo+j) ⟨.inl ⟨_,_,o.sub _ _ (o.nd.mem g oo e j hj).1⟩,λhm=>?_⟩
  rcases k.hM _ _ hm with⟨g',o',j',e',k1,k2,k3,k4,k5⟩ | ⟨j',k3,k4,k5⟩
  ·rw[e] at e'; injection e' with e1 e2; subst e1 e2
   have:=hcm j' k3 k4
   exact hn ⟨by omega,by omega⟩
  ·exact(o.nd.mem g oo e j hj).2.2 j' k5
 have hsf:∀j,¬(c2<=j/\j<c2+m2)->XN (Sf j) w w':=by
  intro j hn
  refine k.same.mono λb i hb=>⟨.inl ⟨_,_,o.sub _ _ (o.nd.sub j b i hb)⟩,λhm=>?_⟩
  rcases k.hM _ _ hm with⟨g',o',j',e',k1,k2,k3,k4,k5⟩ | ⟨j',k3,k4,k5⟩
  ·subst k1 k2; exact(o.nd.mem _ _ e' j' k5).2.2 j hb
  ·have:=hcm j' k3 k4
   exact o.nd.dis j' j (λe=>hn (e▸this)) b i k5 hb
 have hlen:=k.len
 refine⟨_,o.relG h k hp hr hII hsz hfr htop (U:=un (ZJ T (U4 c2 m2 Sf)) (U4 c2 m2 nS)) (vs':=λj=>if c2<=j/\j<c2+m2 then nv j else vs j) (Sf':=λj=>if c2<=j/\j<c2+m2 then nS j else Sf j) ?_ ?_ ?_ ?_ ?_ ?_ ?_ ?_ ?_ ?_,?_,?_⟩
 ·intro b i hb hb'
  rcases hb with hb | hb
  ·exact hb'.2 hb.1
  ·exact hspd2 b i hb hb'
 ·intro e r hne b i hb hb'
  rcases hb with hb | hb
  ·exact h.dis e r _ _ hne b i hb' (o.sub b i hb.1)
  ·exact hspd e r hne b i hb hb'
 ·intro b i hb hb'
  rcases hb with hb | hb
  ·exact hE3 b i hb hb'
  ·exact hspI b i hb hb'
 ·exact hE1
 ·exact hE2
 ·intro g i hb
  rcases hb with hb | hb
  ·exact Nat.lt_of_lt_of_le (h.inS _ _ g i (o.sub g i hb.1)) hsz
  ·exact hsps g i hb
 ·exact hIs
 ·intro g i hb
  rcases hb with hb | hb
  ·exact h.fromS _ _ g i (o.sub g i hb.1)
  ·exact hspf g i hb
 ·exact hIf
 ·have hSub:∀j,Sub (if c2<=j/\j<c2+m2 then nS j else Sf j) (un (ZJ T (U4 c2 m2 Sf)) (U4 c2 m2 nS)):=by
   intro j b i hb
   split at hb
   ·rename_i hj; exact .inr ⟨j,hj.1,hj.2,hb⟩
   ·rename_i hj
    exact .inl ⟨o.nd.sub j b i hb,λ⟨j',h1,h2,h3⟩=>o.nd.dis j j' (λe=>hj (e▸⟨h1,h2⟩)) b i hb h3⟩
  have hDis:∀i j,i≠j->XY (if c2<=i/\i<c2+m2 then nS i else Sf i) (if c2<=j/\j<c2+m2 then nS j else Sf j):=by
   intro i j hij b x hb hb'
   split at hb<;>split at hb'
   ·exact hnd i j hij b x hb hb'
   ·rename_i hi hj; exact hspd3 b x ⟨i,hi.1,hi.2,hb⟩ ⟨o.nd.sub j b x hb',λ⟨j',k1,k2,k3⟩=>o.nd.dis j' j (λe=>hj (e▸⟨k1,k2⟩)) b x k3 hb'⟩
   ·rename_i hi hj; exact hspd3 b x ⟨j,hj.1,hj.2,hb'⟩ ⟨o.nd.sub i b x hb,λ⟨j',k1,k2,k3⟩=>o.nd.dis j' i (λe=>hi (e▸⟨k1,k2⟩)) b x k3 hb⟩
   ·exact o.nd.dis i j hij b x hb hb'
  have hMem:∀g oo,l'=.mem g oo->∀j,j<new.length->un (ZJ T (U4 c2 m2 Sf)) (U4 c2 m2 nS) g (oo+j)/\fz w' g (oo+j) new.length/\∀i,¬(if c2<=i/\i<c2+m2 then nS i else Sf i) g (oo+j):=by
   intro g oo e j hj
   rw[hlen] at hj
   obtain⟨m1,m2',m3⟩:=o.nd.mem g oo e j hj
   refine⟨.inl ⟨m1,λ⟨j',_,_,hb⟩=>m3 j' hb⟩,?_,λi hb=>?_⟩
   ·by_cases hr:c2<=j/\j<c2+m2
    ·rw[hlen]; exact hfz g oo j e hr.1 hr.2 hj
    ·rw[hlen]; exact m2'.to (hcell j hj hr g oo e).2
   ·split at hb
    ·rename_i hi; exact hspd3 _ _ ⟨i,hi.1,hi.2,hb⟩ ⟨m1,λ⟨j',_,_,hb⟩=>m3 j' hb⟩
    ·exact m3 i hb
  have hGet:∀j a,new[j]?=some a->YW tm w' l' j=some (if c2<=j/\j<c2+m2 then nv j else vs j):=by
   intro j a hj
   by_cases hr:c2<=j/\j<c2+m2
   ·rw[if_pos hr]; exact hget j a hr.1 hr.2 hj
   ·rw[if_neg hr]
    rw[hout j hr] at hj
    have hjl:j<cells.length:=(List.getElem?_eq_some_iff.1 hj).1
    have:YW tm w' l' j=YW tm w l' j:=by
     cases hl:l' with
     | slot r=>rfl
     | mem g oo=>exact(hcell j hjl hr g oo hl).1
    rw[this]; exact o.nd.get j a hj
  have nd0:=o.nd
  by_cases hpath:pl.path=[]
  ·rw[if_pos hpath] at nd0 ⊢
   refine⟨hGet,λj a hj=>?_,hSub,hDis,hMem⟩
   by_cases hr':c2<=j/\j<c2+m2
   ·rw[if_pos hr',if_pos hr']
    have:=hsh j a hr'.1 hr'.2 hj
    rwa [if_pos hpath] at this
   ·rw[if_neg hr',if_neg hr']
    rw[hout j hr'] at hj
    exact((nd0.sh j a hj).filt kp kr hp hr).keep hII hsI (λ_ _ h=>h) (λ_ _ _ _ _ h=>h) (Sub.rfl' _) (hsf j hr')
  ·rw[if_neg hpath] at nd0 ⊢
   refine⟨hGet,λj a hj=>?_,hSub,hDis,hMem⟩
   by_cases hr':c2<=j/\j<c2+m2
   ·rw[if_pos hr',if_pos hr']
    have:=hsh j a hr'.1 hr'.2 hj
    rwa [if_neg hpath] at this
   ·rw[if_neg hr',if_neg hr']
    rw[hout j hr'] at hj
    exact(nd0.sh j a hj).keep hII (Sub.rfl' _) hsI (hsf j hr')
 ·intro e r b i hb
  by_cases hr':e=pl.e/\r=pl.r
  ·obtain⟨rfl,rfl⟩:=hr'
   rw[YQ] at hb
   rcases hb with hb | hb | hb
   ·exact .inl hb.1
   ·exact .inl (o.sub b i hb.1)
   ·exact .inr hb
  ·rw[Zp hr'] at hb; exact .inl hb
 ·intro e r j h1 h2 b i hb hb'
  by_cases hr':e=pl.e/\r=pl.r
  ·obtain⟨rfl,rfl⟩:=hr'
   rw[YQ] at hb'
   rcases hb' with hb' | hb' | hb'
   ·exact hb'.2 (o.nd.sub j b i hb.1)
   ·exact hb'.2 ⟨j,h1,h2,hb.1⟩
   ·exact hb.2 hb'
  ·rw[Zp hr'] at hb'
   exact h.dis e r _ _ hr' b i hb' (o.sub b i (o.nd.sub j b i hb.1))
def Ys.putCells(o:Ys st tm w Im base SO pl cells l' T vs Sf)(h:Xp w0 L Im0 st tm w Im base SO)(k:Chg st w Im SO pl cells l' Sf w' M c m new){kp kr:Pl->Bool}(hkp:QF st pl c m kp kr)
  (htop:pl.e=true->top (st.env pl.r)=true) (hout:∀j,¬(c2<=j/\j<c2+m2)->new[j]?=cells[j]?) (hcm:∀j,c<=j->j<c+m->c2<=j/\j<c2+m2)
  (nv:Nat->Value) (nS:Nat->CS) (hget:∀j a,c2<=j->j<c2+m2->new[j]?=some a->YW tm w' l' j=some (nv j))
  (hsh:∀j a,c2<=j->j<c2+m2->new[j]?=some a->if pl.path=[] then PL (Xi st pl new) tm w' Im base (nv j) (filt kp kr a) (nS j) else Rep w' Im (nv j) a (nS j))
  (hnd:∀i j,i≠j->XY (nS i) (nS j)) (hsp:Xw w0 L w' Im SO (U4 c2 m2 nS)) (hfz:∀g o j,l'=.mem g o->c2<=j->j<c2+m2->j<cells.length->fz w' g (o+j) cells.length)
  (hsz:w.heap.size<=w'.heap.size) (hfr:Frame w0 w' L) :
  ∃SO',Xp w0 L Im0 ((Xi st pl new).filt kp kr) tm w' Im base SO'/\(∀e r,Sub (SO' e r) (un (SO e r) (U4 c2 m2 nS)))/\(∀e r j,c2<=j->j<c2+m2->XY (Sf j) (SO' e r)):=by
 obtain⟨SO',r1,r2,r3⟩:=o.putCellsG h k (λq ad hq hpt=>o.keepP h k (λrow2 e1 e2 e3=>hkp.p q row2 hq e1 e2 e3) hpt) (λq z lo n v hq hpt=>o.keepR h k (λrow2 e1 e2 e3 e4=>hkp.r q row2 hq e1 e2 e3 e4) hpt) htop hout hcm (Sub.rfl' _) (λe r _=>h.disI e r) ((h.disI _ _).mono (XbR _ _) (Sub.rfl' _))
  ((h.disI _ _).mono (λb i hb=>o.sub b i hb.1) (Sub.rfl' _)) (λg i hb=>Nat.lt_of_lt_of_le (h.inI g i hb) hsz) h.fromI nv nS hget hsh hnd (λe r _=>hsp.dis e r) ((hsp.dis _ _).mono (Sub.rfl' _) (XbR _ _)) ((hsp.dis _ _).mono (Sub.rfl' _) (λb i hb=>o.sub b i hb.1)) hsp.disI hsp.ins hsp.from_ hfz hsz hfr
 exact⟨SO',r1,r2,λe r j h1 h2 b i hb hb'=>r3 e r j h1 h2 b i ⟨hb,λhn=>hsp.dis _ _ b i hn (o.sub b i (o.nd.sub j b i hb))⟩ hb'⟩
end Go.Vm
set_option autoImplicit false
namespace Go.Vm
variable {w0 : World} {L Im0 : CS} {st : St} {tm : Array Value} {w : World} {Im : CS} {base : Nat -> Nat × Nat} {SO : Bool -> Nat -> CS}
variable {pl : Pl} {cells : List AV} {l' : Loc} {T : CS} {vs : Nat -> Value} {Sf : Nat -> CS}
def QF.cut(st:St)(pl:Pl)(c m:Nat):QF st pl c m (keepP pl.e pl.r pl.path c m) (keepR pl.e pl.r pl.path c m):=by
 refine⟨λq row2 hq e1 e2 _=>?_,λq row2 hq e1 e2 _ _=>?_⟩
 ·simpa[keepP,e1,e2] using hq
 ·rw[QP]
  simp only[keepR,e1,e2,beq_self_eq_true,Bool.true_and,Bool.and_true,Bool.not_eq_true',Bool.or_eq_false_iff] at hq
  refine⟨hq.1,?_⟩
  rw[hq.1,Bool.false_or]
  exact hq.2
def QF.zero(st:St)(pl:Pl)(c:Nat)(kp kr:Pl->Bool):QF st pl c 0 kp kr:=⟨λ_ _ _ _ _ _=>Yv _ _ _,λ_ _ _ _ _ _ _=>⟨Yv _ _ _,Yv _ _ _⟩⟩
def QF.plain{pl:Pl}{c m:Nat}(hn:nav (Xa st pl.e pl.r) pl.path=some cells)(hno:∀j,c<=j->j<c+m->(cells[j]?).any Zo=false)(kp kr:Pl->Bool):QF st pl c m kp kr :=
 ⟨λq row2 _ _ _ h=>ZP _ hn h hno,λq row2 _ _ _ h h2=>⟨ZP _ hn h hno,QQ _ hn h h2 hno⟩⟩
def all(_:Pl):Bool:=true
mutual
def filt_id:∀a:AV,filt all all a=a
 | .u=>rfl
 | .no=>rfl
 | .ub=>rfl
 | .b _=>rfl
 | .i _ _=>rfl
 | .s _=>rfl
 | .nil=>rfl
 | .sl _ _ _=>rfl
 | .rf _ _ _ _=>rfl
 | .p _=>rfl
 | .pr _=>rfl
 | .pn=>rfl
 | .fn f cs=>by simp[filt,filtL_id cs]
 | .fs cs=>by simp[filt,filtL_id cs]
 | .agg cs=>by simp[filt,filtL_id cs]
 | .tup cs=>by simp[filt,filtL_id cs]
def filtL_id:∀l:List AV,XR all all l=l
 | []=>rfl
 | a :: l=>by simp[XR,filt_id a,filtL_id l]
end
def St.filt_id(st:St):st.filt all all=st:=by
 unfold St.filt
 congr 1
 ·funext t; exact Vm.filt_id _
 ·funext t; exact Vm.filtL_id _
def Xp.na(h:Xp w0 L Im0 st tm w Im base SO){r:Nat}(ht:top (st.env r)=true):∀x∈Xa st true r,cellsOf x=[x]:=by
 obtain⟨vs,Sf,h1,h2,_⟩:=h.root true r (λ_=>ht)
 intro x hx
 obtain⟨j,hj⟩:=List.getElem?_of_mem hx
 exact(h2 j x hj).noAgg
def Ys.na(o:Ys st tm w Im base SO pl cells l' T vs Sf):∀x∈cells,cellsOf x=[x]:=by
 intro x hx
 obtain⟨j,hj⟩:=List.getElem?_of_mem hx
 have:=o.nd.sh j x hj
 split at this
 ·exact this.noAgg
 ·exact(Yy.rep (Pt:=λ_ _=>True) (Rf:=λ_ _ _ _ _=>True) this).noAgg
def XbT{e:Bool}{r:Nat}{path:List (Nat×Nat×Nat)}{row:List AV}(hn:nav (Xa st e r) path=some row)(hp:path≠[])(he:e=true):top (st.env r)=true:=by
 cases path with
 | nil=>exact absurd rfl hp
 | cons x ps =>
  obtain⟨c,i,z⟩:=x
  have:=Uz hn
  subst he
  exact Xah this
def UQ{pl:Pl}{c:Nat}(h:YG st pl c)(he:pl.e=true):top (st.env pl.r)=true:=by
 obtain⟨row,hn,hs⟩:=h
 by_cases hp:pl.path=[]
 ·rw[hp,he] at hn
  simp only[nav,Xa,if_true,Option.some.injEq] at hn
  subst hn
  exact Xah hs
 ·exact XbT hn hp he
def QR{pl:Pl}(h:Xco st pl)(he:pl.e=true):top (st.env pl.r)=true:=by
 obtain⟨⟨row,hn⟩,h2⟩:=h
 by_cases hp:pl.path=[]
 ·have:=(h2 hp).1; rw[he] at this; cases this
 ·exact XbT hn hp he
def Rep.part{A A':Option Addr}{N cap lo n z:Nat}{t:Tag}{es:List (List AV)}{S:CS}(h:Rep w Im (.slice A N cap) (.sl t z es) S)(h1:lo+n<=N)(h2:N<=cap)
  (hA:lo<cap->∃g o,A=some ⟨g,o,none⟩/\A'=some ⟨g,o+lo*z,none⟩) (ht:t=.app->lo+n=N):Rep w Im (.slice A' n (cap-lo)) (.sl t z ((es.drop lo).take n)) S:=by
 cases h with
 | sl g off vs Sf hn hc hL hA0 hz hrow hin hf hsub hd hself hnone =>
  have hget:∀(i:Nat) (row:List AV),((es.drop lo).take n)[i]?=some row->es[lo+i]?=some row/\i<n:=by
   intro i row hi
   rw[List.getElem?_take] at hi
   split at hi
   ·rename_i hlt; rw[List.getElem?_drop] at hi; exact⟨hi,hlt⟩
   ·cases hi
  have hmul:∀k,(lo+k)*z=lo*z+k*z:=λk=>Nat.add_mul _ _ _
  have hcap:∀k,k<(cap-lo)*z->lo*z+k<cap*z:=by
   intro k hk
   have:lo*z+(cap-lo)*z=cap*z:=by rw[<-Nat.add_mul]; congr 1; omega
   omega
  refine .sl g (off+lo*z) (λi j=>vs (lo+i) j) (λi j=>Sf (lo+i) j) ?_ (by omega) (by omega) ?_ ?_ ?_ ?_ ?_ (λi j=>hsub _ _) (λi j i' j' hne=>hd _ _ _ _ (λe=>hne ⟨by omega,e.2⟩)) ?_ (λe i j=>hnone e _ _)
  ·rw[List.length_take,List.length_drop]; omega
  ·intro hlt
   obtain⟨g1,o1,e1,e2⟩:=hA (by omega)
   rw[hA0 (by omega)] at e1
   injection e1 with e1
   injection e1 with e3 e4
   subst e3 e4
   exact e2
  ·intro i row hi; exact hz _ row (hget i row hi).1
  ·intro i row j a hi hj
   have:=hrow _ row j a (hget i row hi).1 hj
   rw[hmul] at this
   rw[show off+lo*z+(i*z+j)=off+(lo*z+i*z+j) by omega]
   exact this
  ·intro i row j a hi hj; exact hin _ row j a (hget i row hi).1 hj
  ·have hNz:(lo+n)*z<=N*z:=Nat.mul_le_mul_right _ h1
   rw[hmul] at hNz
   refine⟨λe k hk=>?_,λe k hk1 hk=>?_,λe k hk=>?_,λe k hk=>?_⟩
   ·rw[Nat.add_assoc]; exact hf.own e _ (hcap k hk)
   ·rw[Nat.add_assoc]
    refine hf.app e _ ?_ (hcap k hk)
    rw[<-ht e,hmul]; omega
   ·rw[Nat.add_assoc]; exact hf.free e _ (hcap k hk)
   ·rw[Nat.add_assoc]; exact hf.imm e _ (by omega)
  ·intro e i j k hk
   rw[Nat.add_assoc]
   exact hself e _ _ _ (hcap k hk)
def Xp.lookRf(h:Xp w0 L Im0 st tm w Im base SO){pl:Pl}{z lo n:Nat}{v:Value}(hrf:Rf st tm w base pl z lo n v){cells:List AV}{t:Tag}{z':Nat}{es:List (List AV)}(hn:node st pl=some cells)(hc:cells[pl.c]?=some (.sl t z' es)) :
  ∃A N cap A' V,v=.slice A' n (cap-lo)/\lo+n<=N/\N<=cap/\es.length=N/\(lo<cap->∃g o,A=some ⟨g,o,none⟩/\A'=some ⟨g,o+lo*z,none⟩)/\Rep w Im (.slice A N cap) (.sl t z' es) V/\Sub V (SO pl.e pl.r) /\
   ∃l,follow tm w (Yn base pl.e pl.r) pl.path=some l/\YW tm w l pl.c=some (.slice A N cap):=by
 obtain⟨⟨l,A,N,cap,A',h1,h2,h3,h4,h5,h6⟩,hok⟩:=hrf
 have hroot:=h.root pl.e pl.r (λe=>UQ hok e)
 obtain⟨l2,k1,_,_,k4⟩:=hroot.look (λ_ _ _ _ _ h=>h.sl) (λ_ _ _ h=>.rep h) pl.path hn
 rw[h1] at k1
 injection k1 with k1
 subst k1
 obtain⟨u,V,m1,m2,m3,_⟩:=k4 pl.c _ hc
 rw[h2] at m1
 injection m1 with m1
 subst m1
 have hR:=m3.sl
 refine⟨A,N,cap,A',V,h3,h4,h5,?_,h6,hR,m2,l,h1,h2⟩
 cases hR with
 | sl g off vs Sf hn hc hL hA0 hz hrow hin hf hsub hd hself hnone=>exact hn
def ZQ:∀(ps:List (Nat×Nat×Nat)) {cs cells new:List AV},nav cs ps=some cells->nav (XG cs ps new) ps=some new:=by
 intro ps
 induction ps with
 | nil=>intro cs cells new _; rfl
 | cons x ps ih =>
  obtain⟨cp,ip,z⟩:=x
  intro cs cells new hn
  obtain⟨t,es,row0,hc,hi,hn'⟩:=Yd hn
  have hset:XG cs ((cp,ip,z) :: ps) new=cs.set cp (.sl t z (es.set ip (XG row0 ps new))):=by
   simp only[XG,hc]
   rw[List.getD_eq_getElem?_getD,hi]; rfl
  rw[hset,ZY,List.getElem?_set_self (List.getElem?_eq_some_iff.1 hc).1]
  simp only[Option.bind,shp,if_true]
  rw[List.getElem?_set_self (List.getElem?_eq_some_iff.1 hi).1]
  exact ih hn'
def Xdh:∀(ps:List (Nat×Nat×Nat)) {cs cells new:List AV},nav cs ps=some cells->XG (XG cs ps new) ps cells=cs:=by
 intro ps
 induction ps with
 | nil=>intro cs cells new hn; simp only[nav,Option.some.injEq] at hn; simp only[XG]; exact hn.symm
 | cons x ps ih =>
  obtain⟨cp,ip,z⟩:=x
  intro cs cells new hn
  obtain⟨t,es,row0,hc,hi,hn'⟩:=Yd hn
  have hset:∀new,XG cs ((cp,ip,z) :: ps) new=cs.set cp (.sl t z (es.set ip (XG row0 ps new))):=by
   intro new
   simp only[XG,hc]
   rw[List.getD_eq_getElem?_getD,hi]; rfl
  rw[hset]
  simp only[XG]
  rw[List.getElem?_set_self (List.getElem?_eq_some_iff.1 hc).1]
  simp only[List.set_set]
  rw[List.getD_eq_getElem?_getD,List.getElem?_set_self (List.getElem?_eq_some_iff.1 hi).1]
  simp only[Option.getD_some]
  rw[ih hn']
  obtain⟨hlt,hc2⟩:=List.getElem?_eq_some_iff.1 hc
  obtain⟨hlt2,hi2⟩:=List.getElem?_eq_some_iff.1 hi
  rw[<-hi2,List.set_getElem_self,<-hc2,List.set_getElem_self]
def Xp.swap(h:Xp w0 L Im0 st tm w Im base SO){pl:Pl}{cells:List AV}(hn:node st pl=some cells)(hw:Xz st pl=true)(htop:pl.e=true->top (st.env pl.r)=true){t:Tag}{z:Nat}{es:List (List AV)}
  (hc:cells[pl.c]?=some (.sl t z es)) {x:AV} (hx:cellsOf x=[x]) {m:Nat} (hm:m<=1) {kp kr:Pl->Bool} (hk:QF st pl pl.c m kp kr) (hs:m=1\/shp x=some (z,es)) (hxr:∀v V,Rep w Im v (.sl t z es) V->Rep w Im v x nos)
  (hxf:filt kp kr x=x) :
  ∃SO' V l u,Xp w0 L Im0 ((Xi st pl (cells.set pl.c x)).filt kp kr) tm w Im base SO'/\(∀e r,Sub (SO' e r) (SO e r))/\follow tm w (Yn base pl.e pl.r) pl.path=some l/\YW tm w l pl.c=some u/\Rep w Im u (.sl t z es) V /\
   Xw w0 L w Im SO' V/\Sub V (SO pl.e pl.r) /\
   (∀(q:Pl) (z lo n:Nat) (u:Value),Rf st tm w base q z lo n u->(m=0\/(Zo x=false/\YG ((Xi st pl (cells.set pl.c x)).filt kp kr) q q.c))->Rf ((Xi st pl (cells.set pl.c x)).filt kp kr) tm w base q z lo n u) /\
   ∀(q:Pl),(m=0\/Zo x=false)->YG ((Xi st pl (cells.set pl.c x)).filt kp kr) q q.c->YG st q q.c:=by
 obtain⟨l',T,vs,Sf,o⟩:=h.open hn hw htop
 have hlt:pl.c<cells.length:=(List.getElem?_eq_some_iff.1 hc).1
 have hR:Rep w Im (vs pl.c) (.sl t z es) (Sf pl.c):=by
  have:=o.nd.sh pl.c _ hc
  split at this
  ·exact this.sl
  ·exact this
 have hnew:∀j,¬(pl.c<=j/\j<pl.c+1)->(cells.set pl.c x)[j]?=cells[j]?:=λj hj=>List.getElem?_set_ne (by omega)
 have k:Chg st w Im SO pl cells l' Sf w nos pl.c m (cells.set pl.c x):=by
  refine⟨by simp,λj hj=>?_,λe=>h.na (htop e),λy hy=>?_,Xo _,XN.refl _ _⟩
  ·by_cases hjc:j=pl.c
   ·subst hjc
    have hm0:m=0:=by omega
    rcases hs with hs | hs
    ·omega
    ·rw[List.getElem?_set_self hlt,hc]; exact hs
   ·rw[hnew j (by omega)]
  ·rcases List.mem_or_eq_of_mem_set hy with hy | rfl
   ·exact o.na y hy
   ·exact hx
 obtain⟨SO',r1,r2,r3⟩:=o.putCells h k hk htop (c2:=pl.c) (m2:=1) hnew (λj h1 h2=>⟨h1,by omega⟩) vs (λ_=>nos) (λj a h1 h2 hj=>by
   have hjc:j=pl.c:=by omega
   subst hjc; exact o.nd.get _ _ hc) (λj a h1 h2 hj=>by
   have hjc:j=pl.c:=by omega
   subst hjc
   rw[List.getElem?_set_self hlt] at hj
   injection hj with hj
   subst hj
   split
   ·rw[hxf]; exact .rep (hxr _ _ hR)
   ·exact hxr _ _ hR) (λ_ _ _=>Xh _) (Xw.nos.mono (λb i hb=>by obtain⟨_,_,_,hb⟩:=hb; exact hb.elim)) (λg oo j e h1 h2 h3=>(o.nd.mem g oo e j h3).2.1) (Nat.le_refl _) h.frame
 refine⟨SO',Sf pl.c,l',vs pl.c,r1,λe r b i hb=>?_,o.at_,o.nd.get _ _ hc,hR,⟨λe r=>r3 e r pl.c (Nat.le_refl _) (by omega),?_,?_,?_⟩,?_,?_,?_⟩
 ·rcases r2 e r b i hb with hb | ⟨_,_,_,hb⟩
  ·exact hb
  ·exact hb.elim
 ·exact(h.disI _ _).mono ((o.nd.sub _).trans o.sub) (Sub.rfl' _)
 ·intro g i hb; exact h.inS _ _ g i (o.sub _ _ (o.nd.sub _ _ _ hb))
 ·intro g i hb; exact h.fromS _ _ g i (o.sub _ _ (o.nd.sub _ _ _ hb))
 ·exact(o.nd.sub _).trans o.sub
 ·intro q z lo n u hq hcond
  refine Xdg.2 (o.keepR h k (λrow2 e1 e2 e3 e4=>?_) hq)
  rcases hcond with hm0 | ⟨hx0,hok⟩
  ·subst hm0; exact⟨Yv _ _ _,Yv _ _ _⟩
  ·rw[YH] at hok
   obtain⟨row3,hn3,hs3⟩:=hok
   rw[e1,e2,Zr (st:=st) o.nav k.len k.na0 k.na] at hn3
   have hself:=ZQ pl.path (new:=cells.set pl.c x) o.nav
   have hno:∀j,pl.c<=j->j<pl.c+m->(((cells.set pl.c x)[j]?).any Zo)=false:=by
    intro j h1 h2
    have hjc:j=pl.c:=by omega
    subst hjc
    rw[List.getElem?_set_self hlt]
    simpa using hx0
   exact⟨ZP _ hself hn3 hno,QQ _ hself hn3 hs3 hno⟩
 ·intro q hcond hok
  rw[YH] at hok
  by_cases hr:q.e=pl.e/\q.r=pl.r
  ·obtain⟨e1,e2⟩:=hr
   unfold YG at hok ⊢
   rw[e1,e2] at hok ⊢
   obtain⟨row3,hn3,hs3⟩:=hok
   rw[Zr (st:=st) o.nav k.len k.na0 k.na] at hn3
   have hself:=ZQ pl.path (new:=cells.set pl.c x) o.nav
   have hthr:Xq pl.path pl.c m q.path=false/\Xq pl.path pl.c m (q.path++[(q.c,0,0)])=false:=by
    rcases hcond with hm0 | hx0
    ·subst hm0; exact⟨Yv _ _ _,Yv _ _ _⟩
    ·have hno:∀j,pl.c<=j->j<pl.c+m->(((cells.set pl.c x)[j]?).any Zo)=false:=by
      intro j h1 h2
      have hjc:j=pl.c:=by omega
      subst hjc
      rw[List.getElem?_set_self hlt]
      simpa using hx0
     exact⟨ZP _ hself hn3 hno,QQ _ hself hn3 hs3 hno⟩
   obtain⟨row4,e3,e4⟩:=Xbj pl.path hself (new:=cells) (λj hj=>(k.out j hj).symm) hn3 hthr.1
   rw[Xdh pl.path o.nav] at e3
   exact⟨row4,e3,by rw[e4 q.c hthr.2]; exact hs3⟩
  ·unfold YG at hok ⊢
   rw[Qr hr] at hok
   exact hok
def Rep.toRo{v:Value}{t:Tag}{z:Nat}{es:List (List AV)}{V:CS}(ht:t≠.mut)(h:Rep w Im v (.sl t z es) V):Rep w Im v (.sl .ro z es) nos:=by
 cases h with
 | sl g off vs Sf hn hc hL hA0 hz hrow hin hf hsub hd hself hnone =>
  have h0:=hnone ht
  exact .sl g off vs Sf hn hc hL hA0 hz hrow hin ⟨(λe=>by cases e),(λe=>by cases e),(λe=>absurd rfl e),λ_ k hk=>hf.imm ht k hk⟩ (λi j=>by rw[h0]; exact Xo _) hd (λe=>by cases e) (λ_=>h0)
def Xp.takeRf(h:Xp w0 L Im0 st tm w Im base SO){pl:Pl}{z lo n:Nat}{v:Value}(hrf:Rf st tm w base pl z lo n v){a:AV}{st':St}(ht:takeRf st pl z lo n=some (a,st')) :
  ∃SO' V,Xp w0 L Im0 st' tm w Im base SO'/\(∀e r,Sub (SO' e r) (SO e r))/\Rep w Im v a V/\Xw w0 L w Im SO' V/\(∃e r,Sub V (SO e r)) /\
   ∀(q:Pl) (z lo n:Nat) (u:Value),(YG st q q.c->Rf st tm w base q z lo n u)->YG st' q q.c->Rf st' tm w base q z lo n u:=by
 unfold Vm.takeRf at ht
 cases hn:node st pl with
 | none=>rw[hn] at ht; cases ht
 | some cells =>
  rw[hn] at ht
  simp only at ht
  split at ht
  ·rename_i t z' es hc
   obtain⟨A,N,cap,A',V,e1,e2,e3,e4,e5,hR,hV,l,f1,f2⟩:=h.lookRf hrf hn hc
   split at ht
   ·rename_i hcond
    obtain⟨hlen,rfl⟩:=hcond
    have htop:=λe=>UQ hrf.2 e
    have ro:t≠.mut->a=.sl .ro z ((es.drop lo).take n)->st'=st ->
      ∃SO' V,Xp w0 L Im0 st' tm w Im base SO'/\(∀e r,Sub (SO' e r) (SO e r))/\Rep w Im v a V/\Xw w0 L w Im SO' V/\(∃e r,Sub V (SO e r)) /\
       ∀(q:Pl) (z lo n:Nat) (u:Value),(YG st q q.c->Rf st tm w base q z lo n u)->YG st' q q.c->Rf st' tm w base q z lo n u:=by
     intro htm ha hs
     subst ha hs
     refine⟨SO,nos,h,λ_ _=>Sub.rfl' _,?_,Xw.nos,⟨true,0,Xo _⟩,λ_ _ _ _ _ hq hok=>hq hok⟩
     rw[e1]
     exact((hR.toRo htm).part e2 e3 e5 (λe=>by cases e)).free rfl
    have fin:∀{SO':Bool->Nat->CS} {V:CS} {l1:Loc} {u:Value},follow tm w (Yn base pl.e pl.r) pl.path=some l1->YW tm w l1 pl.c=some u->Rep w Im u (.sl t z es) V->(t=.app->lo+n=N) ->
      Rep w Im v (.sl t z ((es.drop lo).take n)) V:=by
     intro SO' V l1 u g1 g2 g3 g4
     rw[f1] at g1
     injection g1 with g1
     subst g1
     rw[f2] at g2
     injection g2 with g2
     subst g2
     rw[e1]
     exact g3.part e2 e3 e5 g4
    cases t with
    | ro =>
     injection ht with ht
     injection ht with ha hs
     exact ro (by decide) ha.symm hs.symm
    | «mut» =>
     simp only at ht
     split at ht
     ·rename_i hw
      injection ht with ht
      injection ht with ha hs
      obtain⟨SO',V',l1,u,r1,r2,r3,r4,r5,r6,r7,r8,r9⟩:=h.swap hn hw htop hc (x:=.u) rfl (m:=1) (Nat.le_refl _) (QF.cut st pl pl.c 1) (.inl rfl) (λv V hv=>.u hv.one) rfl
      refine⟨SO',V',?_,r2,?_,r6,⟨_,_,r7⟩,λq z lo n u hq hok=>by rw[<-hs] at hok ⊢; exact r8 q z lo n u (hq (r9 q (.inr rfl) hok)) (.inr ⟨rfl,hok⟩)⟩
      ·rw[<-hs]
       have e:(Xi st pl (cells.set pl.c .u)).cut pl 1=(Xi st pl (cells.set pl.c .u)).filt (keepP pl.e pl.r pl.path pl.c 1) (keepR pl.e pl.r pl.path pl.c 1):=rfl
       rw[e]; exact r1
      ·rw[<-ha]; exact fin (SO':=SO') r3 r4 r5 (λe=>by cases e)
     ·cases ht
    | app =>
     simp only at ht
     split at ht
     ·rename_i hw
      simp only[Bool.and_eq_true,decide_eq_true_eq] at hw
      injection ht with ht
      injection ht with ha hs
      obtain⟨SO',V',l1,u,r1,r2,r3,r4,r5,r6,r7,r8,r9⟩:=h.swap hn hw.1 htop hc (x:=.sl .ro z es) rfl (m:=0) (by omega) (QF.zero st pl pl.c all all) (.inr rfl) (λv V hv=>hv.toRo (by decide)) rfl
      rw[St.filt_id] at r1 r8 r9
      refine⟨SO',V',by rw[<-hs]; exact r1,r2,?_,r6,⟨_,_,r7⟩,λq z lo n u hq hok=>by rw[<-hs] at hok ⊢; exact r8 q z lo n u (hq (r9 q (.inl rfl) hok)) (.inl rfl)⟩
      rw[<-ha]
      exact fin (SO':=SO') r3 r4 r5 (λ_=>by omega)
     ·injection ht with ht
      injection ht with ha hs
      exact ro (by decide) ha.symm hs.symm
   ·cases ht
  ·cases ht
end Go.Vm
set_option autoImplicit false
namespace Go.Vm
variable {w0 : World} {L Im0 : CS} {st : St} {tm : Array Value} {w : World} {Im : CS} {base : Nat -> Nat × Nat} {SO : Bool -> Nat -> CS}
def Xai(SO:Bool->Nat->CS):CS:=λb k=>∃e r,SO e r b k
def Xw.disAll{V:CS}(h:Xw w0 L w Im SO V):XY V (Xai SO):=λb k hv ⟨e,r,hs⟩=>h.dis e r b k hv hs
def ZR{SO SO':Bool->Nat->CS}(h:∀e r,Sub (SO' e r) (SO e r)):Sub (Xai SO') (Xai SO):=λb k ⟨e,r,hs⟩=>⟨e,r,h e r b k hs⟩
def Yy.gone{Pt Pt':Pl->Addr->Prop}{Rf Rf':Pl->Nat->Nat->Nat->Value->Prop}{v:Value}{a:AV}{S:CS}(h:Yy w Im Pt Rf v a S):Yy w Im Pt' Rf' v (Vm.filt Vm.gone Vm.gone a) S :=
 h.filt Vm.gone Vm.gone (λ_ _ e=>by cases e) (λ_ _ _ _ _ e=>by cases e)
def Top.leaf1{Pt:Pl->Addr->Prop}{Rf:Pl->Nat->Nat->Nat->Value->Prop}{v:Value}{a:AV}{S:CS}(h:Top w Im Pt Rf v a S)(h1:∀cs,a≠.agg cs)(h2:top a=true):Yy w Im Pt Rf v a S:=by
 cases h with
 | u=>simp[Vm.top] at h2
 | no=>simp[Vm.top] at h2
 | leaf h=>exact h
 | agg=>exact absurd rfl (h1 _)
 | tup=>simp[Vm.top] at h2
def Xfy{q:Pl}{z lo n:Nat}{x:AV×St}(h:takeRf st q z lo n=some x):YG st q q.c:=by
 unfold takeRf at h
 cases hn:node st q with
 | none=>rw[hn] at h; cases h
 | some cells =>
  rw[hn] at h
  simp only at h
  split at h
  ·rename_i hc; exact⟨cells,hn,by rw[hc]; rfl⟩
  ·cases h
def Xp.takeL:∀(l:List AV) {st:St} {SO:Bool->Nat->CS} {vs:List Value} {Sf:Nat->CS} {l':List AV} {st':St},Xp w0 L Im0 st tm w Im base SO->vs.length=l.length ->
  (∀(j:Nat) (v:Value) (a:AV),vs[j]?=some v->l[j]?=some a->∀z lo n q,a=.rf q z lo n->YG st q q.c->Rf st tm w base q z lo n v) ->
  (∀(j:Nat) (v:Value) (a:AV),vs[j]?=some v->l[j]?=some a->Yy w Im (λ_ _=>True) (λ_ _ _ _ _=>True) v a (Sf j))->(∀i j,i≠j->XY (Sf i) (Sf j))->(∀j,Xw w0 L w Im SO (Sf j))->takeL st l=some (l',st') ->
  ∃(SO':Bool->Nat->CS) (Sf':Nat->CS),Xp w0 L Im0 st' tm w Im base SO'/\(∀e r,Sub (SO' e r) (SO e r))/\l'.length=l.length /\
   (∀(Pt:Pl->Addr->Prop) (Rf:Pl->Nat->Nat->Nat->Value->Prop) (j:Nat) (v:Value) (a:AV),vs[j]?=some v->l'[j]?=some a->Yy w Im Pt Rf v a (Sf' j)) /\
   (∀i j,i≠j->XY (Sf' i) (Sf' j))/\(∀j,Xw w0 L w Im SO' (Sf' j))/\∀j,Sub (Sf' j) (un (Sf j) (Xai SO)):=by
 intro l
 induction l with
 | nil =>
  intro st SO vs Sf l' st' h hl hrf hlf hd hsp ht
  injection ht with ht
  injection ht with e1 e2
  subst e1 e2
  exact⟨SO,λ_=>nos,h,λ_ _=>Sub.rfl' _,rfl,λ_ _ j v a _ ha=>by simp at ha,λ_ _ _=>Xh _,λ_=>Xw.nos,λ_=>Xo _⟩
 | cons a l ih =>
  intro st SO vs Sf l' st' h hl hrf hlf hd hsp ht
  cases vs with
  | nil=>simp at hl
  | cons v vs =>
   simp only[Vm.takeL] at ht
   cases h1:XX st a with
   | none=>rw[h1] at ht; cases ht
   | some x =>
    obtain⟨a1,st1⟩:=x
    rw[h1] at ht
    simp only at ht
    cases h2:Vm.takeL st1 l with
    | none=>rw[h2] at ht; cases ht
    | some y =>
     obtain⟨l2,st2⟩:=y
     rw[h2] at ht
     simp only at ht
     injection ht with ht
     injection ht with e1 e2
     subst e1 e2
     have hla:=hlf 0 v a rfl rfl
     have first:∃(SO1:Bool->Nat->CS) (V:CS),Xp w0 L Im0 st1 tm w Im base SO1/\(∀e r,Sub (SO1 e r) (SO e r))/\(∀(Pt:Pl->Addr->Prop) (Rf:Pl->Nat->Nat->Nat->Value->Prop),Yy w Im Pt Rf v (Vm.filt Vm.gone Vm.gone a1) V)/\Xw w0 L w Im SO1 V/\Sub V (un (Sf 0) (Xai SO)) /\
       ∀(q:Pl) (z lo n:Nat) (u:Value),(YG st q q.c->Rf st tm w base q z lo n u)->YG st1 q q.c->Rf st1 tm w base q z lo n u:=by
      cases a with
      | rf pl z lo n =>
       simp only[XX] at h1
       have hok:=Xfy h1
       obtain⟨SO1,V,r1,r2,r3,r4,⟨e,r,r5⟩,r6⟩:=h.takeRf (hrf 0 v _ rfl rfl _ _ _ _ rfl hok) h1
       exact⟨SO1,V,r1,r2,λ_ _=>(Yy.rep (Pt:=λ_ _=>True) (Rf:=λ_ _ _ _ _=>True) r3).gone,r4,λb k hb=>.inr ⟨e,r,r5 b k hb⟩,r6⟩
      | tup=>cases h1
      | _ =>
       injection h1 with h1
       injection h1 with e1 e2
       subst e1 e2
       exact⟨SO,Sf 0,h,λ_ _=>Sub.rfl' _,λ_ _=>hla.gone,hsp 0,Xj _ _,λ_ _ _ _ _ hq hok=>hq hok⟩
     obtain⟨SO1,V,r1,r2,r3,r4,r5,r6⟩:=first
     obtain⟨SO2,Sf2,k1,k2,k3,k4,k5,k6,k7⟩:=ih (vs:=vs) (Sf:=λj=>Sf (j+1)) r1 (by simpa using hl) (λj u b hu hb z lo n q e hok=>r6 q z lo n u (λho=>hrf (j+1) u b (by simpa using hu) (by simpa using hb) z lo n q e ho) hok)
      (λj u b hu hb=>hlf (j+1) u b (by simpa using hu) (by simpa using hb)) (λi j hij=>hd (i+1) (j+1) (by omega)) (λj=>(hsp (j+1)).of r2) h2
     have hV2:∀j,XY V (Sf2 j):=by
      intro j b k hv hb
      rcases k7 j b k hb with hb | hb
      ·rcases r5 b k hv with hv | hv
       ·exact hd 0 (j+1) (by omega) b k hv hb
       ·exact(hsp (j+1)).disAll b k hb hv
      ·exact r4.disAll b k hv hb
     refine⟨SO2,λj=>match j with | 0=>V | j+1=>Sf2 j,k1,λe r=>(k2 e r).trans (r2 e r),by simp[k3],?_,?_,?_,?_⟩
     ·intro Pt Rf j u b hu hb
      cases j with
      | zero =>
       simp only[List.getElem?_cons_zero,Option.some.injEq] at hu hb
       subst hu hb
       exact r3 Pt Rf
      | succ j=>exact k4 Pt Rf j u b (by simpa using hu) (by simpa using hb)
     ·intro i j hij
      cases i with
      | zero =>
       cases j with
       | zero=>exact absurd rfl hij
       | succ j=>exact hV2 j
      | succ i =>
       cases j with
       | zero=>exact(hV2 i).symm
       | succ j=>exact k5 i j (by omega)
     ·intro j
      cases j with
      | zero=>exact r4.of k2
      | succ j=>exact k6 j
     ·intro j
      cases j with
      | zero=>exact r5
      | succ j=>exact(k7 j).trans (U3 (Xj _ _) ((ZR r2).trans (Yt _ _)))
def Xp.takeVal(h:Xp w0 L Im0 st tm w Im base SO){v:Value}{a b:AV}{S:CS}{st':St}(hl:PT st tm w Im base v a S)(hsp:Xw w0 L w Im SO S)(ht:takeVal st a=some (b,st')) :
  ∃(SO':Bool->Nat->CS) (V:CS),Xp w0 L Im0 st' tm w Im base SO'/\(∀e r,Sub (SO' e r) (SO e r))/\PT st' tm w Im base v b V/\Xw w0 L w Im SO' V/\Sub V (un S (Xai SO)):=by
 have other:b=a->st'=st->∃(SO':Bool->Nat->CS) (V:CS),Xp w0 L Im0 st' tm w Im base SO'/\(∀e r,Sub (SO' e r) (SO e r))/\PT st' tm w Im base v b V/\Xw w0 L w Im SO' V/\Sub V (un S (Xai SO)):=by
  intro e1 e2
  subst e1 e2
  exact⟨SO,S,h,λ_ _=>Sub.rfl' _,hl,hsp,Xj _ _⟩
 cases a with
 | rf pl z lo n =>
  have hrf:Rf st tm w base pl z lo n v:=by
   cases hl.leaf1 (λ_ e=>by cases e) rfl with
   | rep h=>cases h
   | rf h _=>exact h
  obtain⟨SO',V,r1,r2,r3,r4,⟨e,r,r5⟩,_⟩:=h.takeRf hrf ht
  exact⟨SO',V,r1,r2,.leaf (.rep r3),r4,λb k hb=>.inr ⟨e,r,r5 b k hb⟩⟩
 | tup=>cases ht
 | agg cs =>
  simp only[Vm.takeVal] at ht
  split at ht
  ·rename_i hany
   cases h1:Vm.takeL st cs with
   | none=>rw[h1] at ht; cases ht
   | some x =>
    obtain⟨cs',st1⟩:=x
    rw[h1] at ht
    simp only at ht
    injection ht with ht
    injection ht with e1 e2
    subst e1 e2
    cases hl with
    | leaf h=>cases h; rename_i h; cases h
    | agg vs Sf hlen hin hsub hd =>
     obtain⟨SO',Sf',k1,k2,k3,k4,k5,k6,k7⟩:=h.takeL cs hlen (λj u a hu ha z lo n q e _=>by
       have:=hin j u a hu ha
       rw[e] at this
       cases this with
       | rep h=>cases h
       | rf h _=>exact h) (λj u a hu ha=>(hin j u a hu ha).keep (Sub.rfl' _) (XN.refl _ _) (λ_ _ _=>trivial) (λ_ _ _ _ _ _=>trivial) (Sub.rfl' _) (XN.refl _ _)) hd (λj=>hsp.mono (hsub j)) h1
     refine⟨SO',λb k=>∃j,Sf' j b k,k1,k2,.agg vs Sf' (by omega) (k4 _ _) (λj b k hb=>⟨j,hb⟩) k5,⟨λe r b k ⟨j,hb⟩=>(k6 j).dis e r b k hb,λb k ⟨j,hb⟩=>(k6 j).disI b k hb,λg k ⟨j,hb⟩=>(k6 j).ins g k hb,λg k ⟨j,hb⟩=>(k6 j).from_ g k hb⟩,?_⟩
     rintro b k ⟨j,hb⟩
     exact(k7 j b k hb).imp (hsub j b k) id
  ·injection ht with ht; injection ht with e1 e2; exact other e1.symm e2.symm
 | _=>injection ht with ht; injection ht with e1 e2; exact other e1.symm e2.symm
def Top.nos{Pt:Pl->Addr->Prop}{Rf:Pl->Nat->Nat->Nat->Value->Prop}{v:Value}{a:AV}{S:CS}(h:Top w Im Pt Rf v a S)(h1:Yp a=false)(h2:∀cs,a≠.tup cs):Top w Im Pt Rf v a nos:=by
 have noSl:∀x,Zo x=false->XgI x=false:=by intro x hx; cases x<;>first | rfl | (simp[Zo] at hx)
 cases h with
 | u=>exact .u
 | no=>exact .no
 | leaf h=>exact .leaf (h.free (noSl _ (by cases a<;>first | rfl | (simp[Yp] at h1))))
 | @agg cs S vs Sf hl hin hsub hd =>
  simp only[Yp,List.any_eq_false] at h1
  exact .agg vs (λ_=>Vm.nos) hl (λj v a hv ha=>(hin j v a hv ha).free (noSl _ (by simpa using h1 a (List.mem_of_getElem? ha)))) (λ_=>Sub.rfl' _) (λ_ _ _=>Xh _)
 | tup=>exact absurd rfl (h2 _)
def Y9(tm:Array Value)(d:Nat):tm.setIfInBounds d (tm.getD d undef)=tm:=by
 apply Array.ext_getElem?
 intro i
 rw[Array.getElem?_setIfInBounds]
 by_cases hi:d=i
 ·subst hi
  simp only[if_true]
  split
  ·rename_i hlt; simp[Array.getD,hlt]
  ·rename_i hge; rw[Array.getElem?_eq_none (by omega)]
 ·rw[if_neg hi]
def Xp.lt_of_sl(h:Xp w0 L Im0 st tm w Im base SO){x:Nat}(hs:Yp (st.env x)=true):x<tm.size:=by
 by_cases hx:x<tm.size
 ·exact hx
 ·exfalso
  have ht:=h.env x
  have hu:tm.getD x undef=undef:=by rw[Array.getD_eq_getD_getElem?,Array.getElem?_eq_none (by omega)]; rfl
  rw[hu] at ht
  generalize st.env x=a at ht hs
  generalize hv:undef=v at ht
  cases ht with
  | u=>cases hs
  | no=>cases hs
  | leaf h =>
   have:=h.one
   rw[<-hv] at this
   cases this
  | agg=>cases hv
  | tup=>cases hs
def Xp.take(h:Xp w0 L Im0 st tm w Im base SO){x:Operand}{b:AV}{st':St}(ht:take st x=some (b,st')) :
  ∃(SO':Bool->Nat->CS) (V:CS),Xp w0 L Im0 st' tm w Im base SO'/\(∀e r,Sub (SO' e r) (SO e r))/\PT st' tm w Im base (Xe tm x) b V/\Xw w0 L w Im SO' V/\Sub V (Xai SO):=by
 cases x with
 | tmp t =>
  simp only[Vm.take] at ht
  by_cases hs:Yp (st.env t)=true
  ·rw[if_pos hs] at ht
   have hlt:=h.lt_of_sl hs
   have hp:=h.putN (v:=tm.getD t undef) (a:=.u) hlt .u
   rw[Y9] at hp
   have hcl:st.put t .u=clear st t:=by unfold St.put clear; rw[if_pos hs]; rfl
   rw[hcl] at hp
   have hsp:Xw w0 L w Im (own SO true t nos) (SO true t):=by
    refine⟨λe r=>?_,h.disI true t,h.inS true t,h.fromS true t⟩
    by_cases hr:e=true/\r=t
    ·obtain⟨rfl,rfl⟩:=hr; rw[YQ]; exact XM _
    ·rw[Zp hr]; exact h.dis true t e r (λx=>hr ⟨x.1.symm,x.2.symm⟩)
   have hown:∀e r,Sub (own SO true t nos e r) (SO e r):=by
    intro e r
    by_cases hr:e=true/\r=t
    ·obtain⟨rfl,rfl⟩:=hr; rw[YQ]; exact Xo _
    ·rw[Zp hr]; exact Sub.rfl' _
   have hv:PT (clear st t) tm w Im base (tm.getD t undef) (Vm.filt (Xu true t) (Xu true t) (st.env t)) (SO true t):=by
    refine(h.env t).filt _ _ (λpl ad hk hp=>?_) (λpl z lo n u hk hp=>?_)
    ·have:=Pt.set (st:=st.dropRoot true t) (d:=t) (v:=tm.getD t undef) (YF _ _ .u) (XZ.1 hk) ⟨hp.1,(ZI _ _ pl).2 hp.2⟩
     rwa [Y9] at this
    ·have:=Rf.set (st:=st.dropRoot true t) (d:=t) (v:=tm.getD t undef) (YF _ _ .u) (XZ.1 hk) ⟨hp.1,(YH _ _ pl _).2 hp.2⟩
     rwa [Y9] at this
   obtain⟨SO',V,r1,r2,r3,r4,r5⟩:=hp.takeVal hv hsp ht
   refine⟨SO',V,r1,λe r=>(r2 e r).trans (hown e r),r3,r4,λb k hb=>?_⟩
   rcases r5 b k hb with hb | hb
   ·exact⟨_,_,hb⟩
   ·exact ZR hown b k hb
  ·rw[if_neg hs] at ht
   have hs':Yp (st.env t)=false:=by simpa using hs
   have ht2:∀cs,st.env t≠.tup cs:=by intro cs e; rw[e] at ht; cases ht
   obtain⟨SO',V,r1,r2,r3,r4,r5⟩:=h.takeVal ((h.env t).nos hs' ht2) Xw.nos ht
   exact⟨SO',V,r1,r2,r3,r4,λb k hb=>(r5 b k hb).elim (λx=>x.elim) id⟩
 | const v =>
  injection ht with ht
  injection ht with e1 e2
  subst e1 e2
  exact⟨SO,nos,h,λ_ _=>Sub.rfl' _,h.view (.const v),Xw.nos,Xo _⟩
 | func f =>
  injection ht with ht
  injection ht with e1 e2
  subst e1 e2
  exact⟨SO,nos,h,λ_ _=>Sub.rfl' _,h.view (.func f),Xw.nos,Xo _⟩
 | global g=>cases ht
end Go.Vm
set_option autoImplicit false
namespace Go.Vm
variable {w0 : World} {L Im0 : CS} {st : St} {tm : Array Value} {w : World} {Im : CS} {base : Nat -> Nat × Nat} {SO : Bool -> Nat -> CS}
def seg(g o n:Nat):CS:=λb k=>b=g/\o<=k/\k<o+n
def XbU(w:World)(b o:Nat)(v:Value):Frame w (w.setCell ⟨b,o,none⟩ v) (seg b o 1):=by
 refine⟨rfl,rfl,rfl,by simp,λg hg=>?_⟩
 simp only[World.setCell,Array.getElem?_modify]
 by_cases hb:b=g
 ·subst hb
  rw[if_pos rfl]
  cases ho:w.heap[b]? with
  | none=>exact .inl rfl
  | some x =>
   cases x with
   | cells c e fr =>
    refine .inr ⟨c,_,e,fr,rfl,rfl,by simp,λk hk=>?_⟩
    rw[if_neg (by simp),Array.getElem?_setIfInBounds]
    rw[if_neg]
    rintro rfl
    exact hk ⟨rfl,Nat.le_refl _,by omega⟩
   | _=>exact .inl rfl
 ·rw[if_neg hb]; exact .inl rfl
def YR(b:Nat):∀(vs:List Value) (o:Nat) (w:World),Frame w (w.setCells b o vs) (seg b o vs.length)
 | [],o,w=>Frame.refl w _
 | v :: r,o,w=>by
  rw[World.setCells]
  refine((XbU w b o v).mono ?_).trans ((YR b r (o+1) _).mono ?_)
  ·rintro g k ⟨rfl,h1,h2⟩; exact⟨rfl,h1,by simp; omega⟩
  ·rintro g k ⟨rfl,h1,h2⟩; exact⟨rfl,by omega,by simp; omega⟩
def UA(b:Nat):∀(vs:List Value) (o:Nat) (w:World),(w.setCells b o vs).heap.size=w.heap.size
 | [],_,_=>rfl
 | v :: r,o,w=>by rw[World.setCells,UA b r]; simp
def ZE(b o:Nat)(vs:List Value)(w:World){S:CS}(hd:XY S (seg b o vs.length)):XN S w (w.setCells b o vs):=by
 intro g k hs
 refine⟨?_,λ_=>World.frozen?_setCells b vs o w _⟩
 exact World.cell?_setCells_out b vs o w ⟨g,k,none⟩ (λh1 _=>by
  have h1':g=b:=h1
  show k<o\/o+vs.length<=k
  by_cases h2:o<=k
  ·exact .inr (Nat.le_of_not_lt λh3=>hd g k hs ⟨h1',h2,h3⟩)
  ·exact .inl (by omega))
def Yy.row{Pt:Pl->Addr->Prop}{Rf:Pl->Nat->Nat->Nat->Value->Prop}{v:Value}{a:AV}{S:CS}(h:Yy w Im Pt Rf v a S)(ha:XK a=true):Rep w Im v a S:=by
 cases h with
 | rep h=>exact h
 | p=>simp[XK] at ha
 | rf=>simp[XK,QJ] at ha
 | fn=>simp[XK,QJ] at ha
 | fs=>simp[XK,QJ] at ha
def Xdi{a:AV}(h:QJ a=true):cellsOf a=[a]:=by cases a<;>first | rfl | (simp[QJ] at h)
def Xbk{a:AV}(h:XK a=true):QJ a=true:=by cases a<;>first | rfl | (simp[XK,QJ] at h)
def Xp.setCells(h:Xp w0 L Im0 st tm w Im base SO){pl:Pl}{n:Nat}{avs:List AV}{st':St}{ad:Addr}{uvs:List Value}(hs:setCells st pl n avs=some st')(hpt:Pt st tm w base pl ad)(hul:uvs.length=avs.length)
  (nS:Nat->CS) (hleaf:∀(j:Nat) (v:Value) (a:AV),uvs[j]?=some v->avs[j]?=some a->PL st tm w Im base v a (nS j)) (hnd:∀i j,i≠j->XY (nS i) (nS j)) (hsp:Xw w0 L w Im SO (U4 0 n nS)) :
  ∃(w':World) (SO':Bool->Nat->CS),(∀P,(storeCells ad uvs).run P w=.ok () w')/\Xp w0 L Im0 st' tm w' Im base SO':=by
 unfold Vm.setCells at hs
 cases hn:node st pl with
 | none=>rw[hn] at hs; cases hs
 | some cells =>
  rw[hn] at hs
  simp only at hs
  generalize hcond:(Xz st pl&&decide (avs.length=n)&&decide (pl.c+n<=cells.length)&&avs.all (if pl.path.isEmpty then QJ else XK))=bb at hs
  cases bb with
  | false=>cases hs
  | true =>
   rw[if_pos rfl] at hs
   simp only[Bool.and_eq_true,decide_eq_true_eq] at hcond
   obtain⟨⟨⟨hw,hlen⟩,hfit⟩,hall⟩:=hcond
   have htop:=λe=>QR hpt.2 e
   obtain⟨l',T,vs,Sf,o⟩:=h.open hn hw htop
   obtain⟨⟨g,oo,hfol,had⟩,hrp⟩:=hpt
   have hl':l'=.mem g oo:=by
    have:=o.at_
    rw[hfol] at this
    injection this with this
    exact this.symm
   subst had
   have hmemc:=o.nd.mem g oo hl'
   have hulen:uvs.length=n:=by omega
   have hrun:∀P,(storeCells ⟨g,oo+pl.c,none⟩ uvs).run P w=.ok () (w.setCells g (oo+pl.c) uvs):=by
    intro P
    have:=run_storeCells_cells (P:=P) g (oo+pl.c) uvs 0 w (λj hj=>?_) (λj hj=>?_) (λv hv=>?_)
    ·simpa using this
    ·have hlt:pl.c+j<cells.length:=by omega
     have:=o.nd.get (pl.c+j) _ (List.getElem?_eq_getElem hlt)
     rw[hl'] at this
     simp only[YW,Xt,<-Nat.add_assoc] at this
     simp only[Nat.add_zero]
     rw[this]; rfl
    ·have:=(hmemc (pl.c+j) (by omega)).2.1.1
     simpa[YE,<-Nat.add_assoc] using this
    ·obtain⟨j,hj⟩:=List.getElem?_of_mem hv
     have hlt:j<avs.length:=by have:=(List.getElem?_eq_some_iff.1 hj).1; omega
     exact(hleaf j v _ hj (List.getElem?_eq_getElem hlt)).one
   generalize hw':w.setCells g (oo+pl.c) uvs=w' at hrun
   have hsame:∀S:CS,XY S (seg g (oo+pl.c) n)->XN S w w':=by
    intro S hd
    rw[<-hw']
    exact ZE g (oo+pl.c) uvs w (by rw[hulen]; exact hd)
   have hsz:w.heap.size<=w'.heap.size:=by rw[<-hw',UA]; exact Nat.le_refl _
   have hfrm:Frame w w' (seg g (oo+pl.c) n):=by rw[<-hw',<-hulen]; exact YR _ _ _ _
   have hsegT:Sub (seg g (oo+pl.c) n) T:=by
    rintro b i ⟨rfl,h1,h2⟩
    have:=(hmemc (i-oo) (by omega)).1
    rwa [Nat.add_sub_cancel' (by omega)] at this
   have hfrz:∀j,YE w' g j=YE w g j:=by intro j; rw[<-hw']; exact World.frozen?_setCells g uvs _ w _
   let new:=cells.take pl.c++avs++cells.drop (pl.c+n)
   have hnew_in:∀j,pl.c<=j->j<pl.c+n->new[j]?=avs[j-pl.c]?:=by
    intro j h1 h2
    have hl1:(cells.take pl.c).length=pl.c:=by rw[List.length_take]; omega
    simp only[new,List.append_assoc]
    rw[List.getElem?_append_right (by omega),hl1,List.getElem?_append_left (by omega)]
   have hnew_out:∀j,¬(pl.c<=j/\j<pl.c+n)->new[j]?=cells[j]?:=by
    intro j hj
    have hl1:(cells.take pl.c).length=pl.c:=by rw[List.length_take]; omega
    simp only[new,List.append_assoc]
    by_cases h1:j<pl.c
    ·rw[List.getElem?_append_left (by omega),List.getElem?_take,if_pos h1]
    ·rw[List.getElem?_append_right (by omega),hl1,List.getElem?_append_right (by omega),List.getElem?_drop]
     congr 1; omega
   have hnewlen:new.length=cells.length:=by simp only[new,List.length_append,List.length_take,List.length_drop]; omega
   have hna:∀x∈new,cellsOf x=[x]:=by
    intro x hx
    simp only[new,List.mem_append] at hx
    rcases hx with(hx | hx) | hx
    ·exact o.na x (List.mem_of_mem_take hx)
    ·have:=List.all_eq_true.1 hall x hx
     split at this
     ·exact Xdi this
     ·exact Xdi (Xbk this)
    ·exact o.na x (List.mem_of_mem_drop hx)
   have k:Chg st w Im SO pl cells l' Sf w' (seg g (oo+pl.c) n) pl.c n new:=by
    refine⟨hnewlen,λj hj=>by rw[hnew_out j hj],λe=>h.na (htop e),hna,?_,hsame _ (λb i hb hm=>hb.2 hm)⟩
    rintro b i ⟨rfl,h1,h2⟩
    exact .inl ⟨b,oo,i-oo,hl',rfl,by omega,by omega,by omega,by omega⟩
   have fin:∀(kp kr:Pl->Bool),QF st pl pl.c n kp kr->∃SO',Xp w0 L Im0 ((Xi st pl new).filt kp kr) tm w' Im base SO':=by
    intro kp kr hk
    have hp:∀(q:Pl) (ad:Addr),kp q=true->Pt st tm w base q ad->Pt (Xi st pl new) tm w' base q ad:=λq ad hq hpt=>o.keepP h k (λrow2 e1 e2 e3=>hk.p q row2 hq e1 e2 e3) hpt
    have hr:∀(q:Pl) (z lo n:Nat) (v:Value),kr q=true->Rf st tm w base q z lo n v->Rf (Xi st pl new) tm w' base q z lo n v:=λq z lo n v hq hpt=>o.keepR h k (λrow2 e1 e2 e3 e4=>hk.r q row2 hq e1 e2 e3 e4) hpt
    have hnsd:∀j,j<n->XY (nS j) (seg g (oo+pl.c) n):=λj hj b i hb hm=>hsp.dis _ _ b i ⟨j,Nat.zero_le _,by omega,hb⟩ (o.sub b i (hsegT b i hm))
    refine Exists.elim (o.putCells h k hk htop (c2:=pl.c) (m2:=n) hnew_out (λj h1 h2=>⟨h1,h2⟩) (λj=>uvs.getD (j-pl.c) undef) (λj=>if pl.c<=j then nS (j-pl.c) else nos) ?_ ?_ ?_ ?_ ?_ hsz ?_) (λSO' r=>⟨SO',r.1⟩)
    ·intro j a h1 h2 hj
     have hjl:j-pl.c<uvs.length:=by omega
     have:=World.cell?_setCells_in g uvs (oo+pl.c) w (λi hi=>by
      have hlt:pl.c+i<cells.length:=by omega
      have:=o.nd.get (pl.c+i) _ (List.getElem?_eq_getElem hlt)
      rw[hl'] at this
      simp only[YW,Xt,<-Nat.add_assoc] at this
      rw[this]; rfl) (j-pl.c) hjl
     rw[hw'] at this
     rw[hl']
     simp only[YW,Xt]
     rw[show oo+j=oo+pl.c+(j-pl.c) by omega,this]
     simp[List.getD,hjl]
    ·intro j a h1 h2 hj
     rw[hnew_in j h1 h2] at hj
     have hjl:j-pl.c<uvs.length:=by omega
     have hu:uvs[j-pl.c]?=some (uvs.getD (j-pl.c) undef):=by simp[List.getD,hjl]
     have hlf:=hleaf (j-pl.c) _ a hu hj
     have hra:=List.all_eq_true.1 hall a (List.mem_of_getElem? hj)
     have hsv:XN (nS (j-pl.c)) w w':=hsame _ (hnsd _ (by omega))
     have hsI:XN Im w w':=o.sameI h k
     rw[if_pos h1]
     by_cases hpath:pl.path=[]
     ·rw[if_pos hpath]
      exact(hlf.filt kp kr hp hr).keep (Sub.rfl' _) hsI (λ_ _ h=>h) (λ_ _ _ _ _ h=>h) (Sub.rfl' _) hsv
     ·rw[if_neg hpath]
      have hemp:pl.path.isEmpty=false:=by cases hp:pl.path<;>simp_all
      rw[hemp] at hra
      exact(hlf.row (by simpa using hra)).keep (Sub.rfl' _) (Sub.rfl' _) hsI hsv
    ·intro i j hij
     by_cases h1:pl.c<=i
     ·by_cases h2:pl.c<=j
      ·simp only[h1,h2,if_true]; exact hnd _ _ (by omega)
      ·simp only[h2,if_false]; exact XM _
     ·simp only[h1,if_false]; exact Xh _
    ·refine⟨λe r=>?_,?_,λb i hb=>?_,λb i hb=>?_⟩
     all_goals
      have hb':Sub (U4 pl.c n (λj=>if pl.c<=j then nS (j-pl.c) else nos)) (U4 0 n nS):=by
       rintro b i ⟨j,h1,h2,h3⟩
       rw[if_pos h1] at h3
       exact⟨j-pl.c,Nat.zero_le _,by omega,h3⟩
     ·exact(hsp.dis e r).mono hb' (Sub.rfl' _)
     ·exact hsp.disI.mono hb' (Sub.rfl' _)
     ·exact Nat.lt_of_lt_of_le (hsp.ins b i (hb' b i hb)) hsz
     ·exact hsp.from_ b i (hb' b i hb)
    ·intro g1 o1 j e h1 h2 h3
     rw[hl'] at e
     injection e with e1 e2
     subst e1 e2
     exact(hmemc j h3).2.1.to hfrz
    ·exact h.frame.step hfrm (λb i hb=>h.fromS _ _ b i (o.sub b i (hsegT b i hb)))
   split at hs
   ·injection hs with hs
    obtain⟨SO',r1⟩:=fin _ _ (QF.cut st pl pl.c n)
    exact⟨w',SO',hrun,by rw[<-hs]; exact r1⟩
   ·rename_i hno
    injection hs with hs
    obtain⟨SO',r1⟩:=fin all all (QF.plain o.nav (λj h1 h2=>by
     simp only[Bool.not_eq_true,List.any_eq_false] at hno
     cases hj:cells[j]? with
     | none=>rfl
     | some a =>
      have:a∈(cells.drop pl.c).take n:=by
       apply List.mem_of_getElem? (i:=j-pl.c)
       rw[List.getElem?_take,if_pos (by omega),List.getElem?_drop,Nat.add_sub_cancel' h1]
       exact hj
      simpa using hno a this) all all)
    rw[St.filt_id] at r1
    exact⟨w',SO',hrun,by rw[<-hs]; exact r1⟩
end Go.Vm
set_option autoImplicit false
namespace Go.Vm
variable {w0 : World} {L Im0 : CS} {st : St} {tm : Array Value} {w : World} {Im : CS} {base : Nat -> Nat × Nat} {SO : Bool -> Nat -> CS} {P : Program}
def UR:Value->AV->Bool
 | .bool x,.b y=>x==y
 | .int k n,.i j m=>k==j&&n==m
 | .string x,.s y=>decide (x=y)
 | .slice none 0 0,.sl .mut _ []=>true
 | .pointer none,.pn=>true
 | v,.u=>v.oneCell'
 | _,_=>false
def QB:List Value->List AV->Bool
 | [],[]=>true
 | v :: vs,a :: as=>UR v a&&QB vs as
 | _,_=>false
def Xew:TypeDesc->Bool
 | .struct _=>true
 | .array _ _=>true
 | _=>false
def XgZ(P:Program)(f:Field)(x:Nat×Nat×Bool×Nat):Bool :=
 f.offset==x.1&&(match P.info? f.type with
  | some i=>i.size==x.2.1&&x.2.1 !=0
  | none=>false)&&(match P.underlying f.type with
  | some d=>Xew d==x.2.2.1
  | none=>false)
def XaA(P:Program):List Field->List (Nat×Nat×Bool×Nat)->Bool
 | [],[]=>true
 | f :: fs,x :: xs=>XgZ P f x&&XaA P fs xs
 | _,_=>false
def U5(P:Program):TypeDesc->TI->Bool
 | .bool,.bool=>true
 | .int k,.int j=>k==j
 | .string,.str=>true
 | .pointer _,.ptr=>true
 | .func _ _ _,.fn=>true
 | .slice e,.slice z b zero=>(match P.info? e with
  | some i=>i.size==z&&i.bytes==b&&b !=0&&(match i.zero with
   | some v=>QB v.cells.toList zero&&zero.length==z
   | none=>false)
  | none=>false)&&(!Xk1 zero||(match P.underlying e with
   | some (.int .u8)=>true
   | _=>false))
 | .struct fs,.struct sz fl _=>XaA P fs.toList fl&&fl.all λx=>decide (x.1+x.2.1<=sz)
 | .array m e,.array n z ag _=>m==n&&(match P.info? e with
  | some i=>i.size==z
  | none=>false)&&(match P.underlying e with
  | some d=>Xew d==ag
  | none=>false)
 | _,_=>false
def XnC(P:Program)(t:TypeId)(ti:TI):Bool :=
 (match P.info? t with
  | some i=>i.size==ti.size&&(match i.zero with
   | some v=>QB v.cells.toList ti.zero&&ti.zero.length==ti.size
   | none=>false)
  | none=>false)&&(match P.underlying t with
  | some d=>U5 P d ti
  | none=>false)
def Xcr(t:Tag)(z:Nat)(A:Option Addr):Rep w Im (.slice A 0 0) (.sl t z []) nos :=
 .sl 0 0 (λ_ _=>undef) (λ_ _=>nos) rfl (Nat.le_refl _) (by simp) (λh=>absurd h (by omega)) (λi row hi=>by simp at hi) (λi row j a hi=>by simp at hi) (λi row j a hi=>by simp at hi)
  ⟨λ_ k hk=>by simp at hk,λ_ k _ hk=>by simp at hk,λ_ k hk=>by simp at hk,λ_ k hk=>by simp at hk⟩ (λ_ _=>Xo _) (λ_ _ _ _ _=>Xh _) (λ_ _ _ k hk=>by simp at hk) (λ_ _ _=>rfl)
def QS{v:Value}{a:AV}(h:UR v a=true):Rep w Im v a nos:=by
 unfold UR at h
 split at h
 ·have:=eq_of_beq h; subst this; exact .b
 ·simp only[Bool.and_eq_true,beq_iff_eq] at h; obtain⟨rfl,rfl⟩:=h; exact .i
 ·have:=of_decide_eq_true h; subst this; exact .s
 ·exact Xcr _ _ _
 ·exact .pn
 ·exact .u h
 ·cases h
def ZK:∀{vs:List Value} {as:List AV},QB vs as=true->vs.length=as.length/\∀(j:Nat) (v:Value) (a:AV),vs[j]?=some v->as[j]?=some a->UR v a=true
 | [],[],_=>⟨rfl,λj v a h=>by simp at h⟩
 | v :: vs,a :: as,h=>by
  simp only[QB,Bool.and_eq_true] at h
  obtain⟨h1,h2⟩:=ZK h.2
  refine⟨by simp[h1],λj u b hu hb=>?_⟩
  cases j with
  | zero=>simp only[List.getElem?_cons_zero,Option.some.injEq] at hu hb; subst hu hb; exact h.1
  | succ j=>exact h2 j u b (by simpa using hu) (by simpa using hb)
 | [],_ :: _,h=>by cases h
 | _ :: _,[],h=>by cases h
structure TIs (P:Program) (t:TypeId) (ti:TI):Prop where
 ex:∃(i:TypeInfo) (z:Value) (d:TypeDesc),P.info? t=some i/\i.size=ti.size/\i.zero=some z/\QB z.cells.toList ti.zero=true/\ti.zero.length=ti.size/\P.underlying t=some d/\U5 P d ti=true
def Xk5{t:TypeId}{ti:TI}(h:XnC P t ti=true):TIs P t ti:=by
 unfold XnC at h
 simp only[Bool.and_eq_true] at h
 obtain⟨h1,h2⟩:=h
 cases hi:P.info? t with
 | none=>rw[hi] at h1; cases h1
 | some i =>
  rw[hi] at h1
  simp only[Bool.and_eq_true,beq_iff_eq] at h1
  obtain⟨h3,h4⟩:=h1
  cases hz:i.zero with
  | none=>rw[hz] at h4; cases h4
  | some z =>
   rw[hz] at h4
   simp only[Bool.and_eq_true,beq_iff_eq] at h4
   cases hd:P.underlying t with
   | none=>rw[hd] at h2; cases h2
   | some d =>
    rw[hd] at h2
    exact⟨i,z,d,hi,h3,hz,h4.1,h4.2,hd,h2⟩
def Xfz{d:TypeDesc}{ti:TI}(h:U5 P d ti=true):Xew d=ti.ag:=by
 unfold U5 at h
 split at h<;>first | rfl | cases h
def Xd4:Nat->Option TypeDesc->Bool
 | 0,some .bool=>true
 | 1,some (.int _)=>true
 | 2,some .string=>true
 | _,_=>false
def XkI(P:Program):Nat->List Nat->List Field->Bool
 | _,[],[]=>true
 | i,k :: ks,f :: fs=>f.name != "_" && f.offset == i && Xd4 k (P.underlying f.type) && XkI P (i + 1) ks fs
 | _,_,_=>false
def Xml(P:Program)(t:TypeId)(ks:List Nat):Bool:=match P.underlying t with
 | some (.struct fs)=>!P.stoodInHeld t&&!P.eqGuardType P.depth t&&XkI P 0 ks fs.toList
 | _=>false
structure Xcs (P:Program) (cx:Cx):Prop where
 T:∀t ti,cx.T t=some ti->TIs P t ti
 eqs:∀t ks,cx.eqs t=some ks->Xml P t ks=true
instance {P:Program} {cx:Cx}:CoeFun (Xcs P cx) (λ_=>∀t ti,cx.T t=some ti->TIs P t ti):=⟨Xcs.T⟩
section
variable {Pt : Pl -> Addr -> Prop} {Rf : Pl -> Nat -> Nat -> Nat -> Value -> Prop} {v : Value} {S : CS}
def Top.b{x:Bool}(h:Top w Im Pt Rf v (.b x) S):v=.bool x:=by
 cases h with
 | leaf h=>cases h with
  | rep h=>cases h; rfl
def Top.i{k:IntKind}{n:Int}(h:Top w Im Pt Rf v (.i k n) S):v=.int k n:=by
 cases h with
 | leaf h=>cases h with
  | rep h=>cases h; rfl
def Top.s{x:ByteArray}(h:Top w Im Pt Rf v (.s x) S):v=.string x:=by
 cases h with
 | leaf h=>cases h with
  | rep h=>cases h; rfl
def Top.nil(h:Top w Im Pt Rf v .nil S):v=.slice none 0 0:=by
 cases h with
 | leaf h=>cases h with
  | rep h=>cases h; rfl
def Top.pn(h:Top w Im Pt Rf v .pn S):v=.pointer none:=by
 cases h with
 | leaf h=>cases h with
  | rep h=>cases h; rfl
def Top.p{pl:Pl}(h:Top w Im Pt Rf v (.p pl) S):∃ad,v=.pointer (some ad)/\Pt pl ad:=by
 cases h with
 | leaf h=>cases h with
  | rep h=>cases h
  | p h=>exact⟨_,rfl,h⟩
def Top.pr{cs:List AV}(h:Top w Im Pt Rf v (.pr cs) S):∃(g off:Nat) (vs:Nat->Value),v=.pointer (some ⟨g,off,none⟩)/\(∀(j:Nat) (a:AV),cs[j]?=some a->Xt w g (off+j)=some (vs j)/\Im g (off+j))/\∀(j:Nat) (a:AV),cs[j]?=some a->Rep w Im (vs j) a Vm.nos:=by
 cases h with
 | leaf h=>cases h with
  | rep h=>cases h with
   | pr vs h1 h2=>exact⟨_,_,vs,rfl,h1,h2⟩
def Top.rf{pl:Pl}{z lo n:Nat}(h:Top w Im Pt Rf v (.rf pl z lo n) S):Rf pl z lo n v:=by
 cases h with
 | leaf h=>cases h with
  | rep h=>cases h
  | rf h _=>exact h
def Top.sl{t:Tag}{z:Nat}{es:List (List AV)}(h:Top w Im Pt Rf v (.sl t z es) S):Rep w Im v (.sl t z es) S:=by
 cases h with
 | leaf h=>exact h.sl
def Top.agg'{cs:List AV}(h:Top w Im Pt Rf v (.agg cs) S):∃(vs:List Value) (Sf:Nat->CS),v=.agg vs.toArray/\vs.length=cs.length/\(∀(j:Nat) (v:Value) (a:AV),vs[j]?=some v->cs[j]?=some a->Yy w Im Pt Rf v a (Sf j)) /\
  (∀j,Sub (Sf j) S)/\∀i j,i≠j->XY (Sf i) (Sf j):=by
 cases h with
 | leaf h=>cases h with
  | rep h=>cases h
 | agg vs Sf h1 h2 h3 h4=>exact⟨vs,Sf,rfl,h1,h2,h3,h4⟩
end
def Zh{z:Nat}{v:Value}{a:AV}{S:CS}(h:PT st tm w Im base v a S):PT st tm w Im base v (fix z a) S:=by
 cases a with
 | nil =>
  simp only[fix]
  split
  ·exact h
  ·rw[h.nil]; exact(Top.leaf (.rep (Xcr _ _ _))).mono (Xo _)
 | _=>exact h
def Xk{t:TypeId}{d:TypeDesc}(h:P.underlying t=some d):(underlying t).run P w=.ok d w:=by simp[underlying,h]
def Qs{t:TypeId}{i:TypeInfo}(h:P.info? t=some i):(Go.sizeOf t).run P w=.ok i.size w:=by simp[Go.sizeOf,typeInfo,h]
def Xct{t:TypeId}{d:TypeDesc}(h:P.underlying t=some d):(isAgg t).run P w=.ok (Xew d) w:=by
 simp only[isAgg,Sem.run_bind,Xk h,Result.andThen_ok]
 cases d<;>rfl
def Xdj(h:Xp w0 L Im0 st tm w Im base SO){x:Operand}{a:AV}(he:XbQ (view st x)=some a):PT st tm w Im base (Xe tm x) a nos/\∀w':World,Frame w w' nos->∀o:Oper,o.op=.nilCheck x->(execOp (Xe tm) o).run P w'=.ok (.value (Xe tm x)) w':=by
 have hv:=h.view x
 generalize hvx:Vm.view st x=y at he hv
 cases y with
 | p q =>
  injection he with he
  subst he
  refine⟨hv,λw' _ o ho=>?_⟩
  obtain⟨ad,e,_⟩:=hv.p
  simp[execOp,ho,e]
 | pr q =>
  injection he with he
  subst he
  refine⟨hv,λw' _ o ho=>?_⟩
  obtain⟨g,off,vs,e,_⟩:=hv.pr
  simp[execOp,ho,e]
 | _=>cases he
def Xi2(h:Xp w0 L Im0 st tm w Im base SO){c x y:Operand}{t:Bool}(he:view st c=.b t):∀(w':World) (o:Oper),o.op=.pick c x y->(execOp (Xe tm) o).run P w'=.ok (.value (Xe tm (if t then x else y))) w':=by
 intro w' o ho
 have hv:=h.view c
 rw[he] at hv
 simp only[execOp,ho,hv.b]
 cases t<;>simp[asBool]
def Xmm(h:Xp w0 L Im0 st tm w Im base SO){op:UnOp}{xt:TypeId}{x:Operand}{a:AV}(he:unV op (view st x)=some a):∃v,PT st tm w Im base v a nos/\∀w':World,Frame w w' nos->∀o:Oper,o.op=.unOp op xt x->(execOp (Xe tm) o).run P w'=.ok (.value v) w':=by
 have hv:=h.view x
 generalize hvx:Vm.view st x=y at he hv
 unfold unV at he
 split at he
 ·injection he with he
  subst he
  rename_i b
  refine⟨.bool !b,.leaf (.rep .b),λw' _ o ho=>?_⟩
  simp[execOp,ho,hv.b,Op.unary]
 ·injection he with he
  subst he
  rename_i k n
  refine⟨.int k (k.wrap (0-n)),.leaf (.rep .i),λw' _ o ho=>?_⟩
  simp[execOp,ho,hv.i,Op.unary,Op.intArith]
 ·cases he
def Xi3{op:BinOp}{k:IntKind}{x y:Int}{a:AV}{t:TypeId}(he:Xc9 op k x y=some a):∃v,Rep w Im v a nos/\∀w,(binOp op t (.int k x) (.int k y)).run P w=.ok v w:=by
 unfold Xc9 at he
 split at he
 ·injection he with he; subst he; exact⟨_,.i,λw=>by simp[binOp,Op.intArith]⟩
 ·injection he with he; subst he; exact⟨_,.i,λw=>by simp[binOp,Op.intArith]⟩
 ·injection he with he; subst he; exact⟨_,.i,λw=>by simp[binOp,Op.intArith]⟩
 ·split at he
  ·cases he
  ·rename_i h0; injection he with he; subst he; exact⟨_,.i,λw=>by simp[binOp,Op.intDiv,h0]⟩
 ·split at he
  ·cases he
  ·rename_i h0; injection he with he; subst he; exact⟨_,.i,λw=>by simp[binOp,Op.intDiv,h0]⟩
 ·injection he with he; subst he; exact⟨_,.b,λw=>by simp[binOp,Op.intCmp]⟩
 ·injection he with he; subst he; exact⟨_,.b,λw=>by simp[binOp,Op.intCmp]⟩
 ·injection he with he; subst he; exact⟨_,.b,λw=>by simp[binOp,Op.intCmp]⟩
 ·injection he with he; subst he; exact⟨_,.b,λw=>by simp[binOp,Op.intCmp]⟩
 ·injection he with he; subst he; exact⟨_,.b,λw=>by simp[binOp,Op.intCmp]⟩
 ·injection he with he; subst he; exact⟨_,.b,λw=>by simp[binOp,Op.intCmp]⟩
 ·cases he
def Xi4{op:BinOp}{x y:ByteArray}{a:AV}{t:TypeId}(he:Xiv op x y=some a):∃v,Rep w Im v a nos/\∀w,(binOp op t (.string x) (.string y)).run P w=.ok v w:=by
 unfold Xiv at he
 split at he
 ·split at he
  ·rename_i hs; injection he with he; subst he
   exact⟨_,.s,λw=>by simp only[binOp]; exact run_string_add_sum w _ _ (by omega)⟩
  ·cases he
 ·injection he with he; subst he; exact⟨_,.b,λw=>by simp[binOp,Op.stringOp]⟩
 ·injection he with he; subst he; exact⟨_,.b,λw=>by simp[binOp,Op.stringOp]⟩
 ·injection he with he; subst he; exact⟨_,.b,λw=>by simp[binOp,Op.stringOp]⟩
 ·injection he with he; subst he; exact⟨_,.b,λw=>by simp[binOp,Op.stringOp]⟩
 ·injection he with he; subst he; exact⟨_,.b,λw=>by simp[binOp,Op.stringOp]⟩
 ·injection he with he; subst he; exact⟨_,.b,λw=>by simp[binOp,Op.stringOp]⟩
 ·cases he
end Go.Vm
set_option autoImplicit false
namespace Go.Vm
variable {w0 : World} {L Im0 : CS} {st : St} {tm : Array Value} {w : World} {Im : CS} {base : Nat -> Nat × Nat} {SO : Bool -> Nat -> CS} {P : Program}
def Qa(l:List AV)(j:Nat):(Yz l)[j]?=(l[j]?).map strip:=by
 induction l generalizing j with
 | nil=>simp[Yz]
 | cons x r ih=>cases j<;>simp[Yz,ih]
def Zi(l:List (List AV))(j:Nat):(XH l)[j]?=(l[j]?).map Yz:=by
 induction l generalizing j with
 | nil=>simp[XH]
 | cons x r ih=>cases j<;>simp[XH,ih]
def Xbl(l:List AV):(Yz l).length=l.length:=by induction l<;>simp_all [Yz]
def XaB(l:List (List AV)):(XH l).length=l.length:=by induction l<;>simp_all [XH]
def Rep.strip{v:Value}{a:AV}{S:CS}(h:Rep w Im v a S):Rep w (un Im S) v (Vm.strip a) nos:=by
 induction h with
 | u h=>exact .u h
 | ub=>exact .ub
 | b=>exact .b
 | i=>exact .i
 | s=>exact .s
 | nil=>exact .nil
 | pn=>exact .pn
 | @sl A n cap t z es S g off vs Sf hn hc hL hA hz hrow hin hf hsub hd hself hnone ih =>
  have hmem:∀k,k<n*z->un Im S g (off+k):=by
   intro k hk
   by_cases ht:t=.mut
   ·exact .inr (hf.own ht k (Nat.lt_of_lt_of_le hk (Nat.mul_le_mul_right _ hc)))
   ·exact .inl (hf.imm ht k hk)
  simp only[Vm.strip]
  refine .sl g off vs (λ_ _=>nos) (by rw[XaB]; exact hn) hc hL hA ?_ ?_ ?_ ⟨(λe=>by cases e),(λe=>by cases e),(λe=>absurd rfl e),λ_ k hk=>hmem k hk⟩ (λ_ _=>Xo _) (λ_ _ _ _ _=>Xh _) (λe=>by cases e) (λ_ _ _=>rfl)
  ·intro i row hi
   rw[Zi] at hi
   obtain⟨row',hr',rfl⟩:=Option.map_eq_some_iff.1 hi
   rw[Xbl]; exact hz i row' hr'
  ·intro i row j a hi hj
   rw[Zi] at hi
   obtain⟨row',hr',rfl⟩:=Option.map_eq_some_iff.1 hi
   rw[Qa] at hj
   obtain⟨a',ha',rfl⟩:=Option.map_eq_some_iff.1 hj
   exact hrow i row' j a' hr' ha'
  ·intro i row j a hi hj
   rw[Zi] at hi
   obtain⟨row',hr',rfl⟩:=Option.map_eq_some_iff.1 hi
   rw[Qa] at hj
   obtain⟨a',ha',rfl⟩:=Option.map_eq_some_iff.1 hj
   exact(ih i row' j a' hr' ha').keep (U3 (Xj _ _) ((hsub i j).trans (Yt _ _))) (Sub.rfl' _) (XN.refl _ _) (XN.refl _ _)
 | pr vs hrow hin ih =>
  refine .pr vs (λj a hj=>⟨(hrow j a hj).1,.inl (hrow j a hj).2⟩) (λj a hj=>?_)
  exact(hin j a hj).keep (Xj _ _) (Sub.rfl' _) (XN.refl _ _) (XN.refl _ _)
 | fn=>exact .u rfl
 | fs=>exact .u rfl
def Xex{op:BinOp}{t:TypeId}{x y:Operand}{a b:Value}(ha:a.oneCell'=true)(hn:a≠.nilIface):(eqGuard op t x y a b).run P w=.ok () w:=by
 unfold eqGuard
 cases op<;>simp<;>(split<;>first | rfl | simp_all [Value.oneCell'])
def Xcu(d:Nat){t:TypeId}{a b:Bool}(h:P.underlying t=some .bool):(Op.equalIn (d+1) t (.bool a) (.bool b)).run P w=.ok (a==b) w:=by
 simp[Op.equalIn,Xk h]
def Xbm{t:TypeId}{a b:Bool}(h:P.underlying t=some .bool):(Op.equal t (.bool a) (.bool b)).run P w=.ok (a==b) w:=Xcu 9999 h
def Xcv(d:Nat){t e:TypeId}{p:Option Addr}(h:P.underlying t=some (.pointer e)):(Op.equalIn (d+1) t (.pointer p) (.pointer none)).run P w=.ok p.isNone w:=by
 cases p<;>simp[Op.equalIn,Xk h]
def Xbn{t e:TypeId}{p:Option Addr}(h:P.underlying t=some (.pointer e)):(Op.equal t (.pointer p) (.pointer none)).run P w=.ok p.isNone w:=Xcv 9999 h
def Xcw(n:Nat){t e:TypeId}{A:Option Addr}{m c:Nat}(h:P.underlying t=some (.slice e)):(Op.equalIn (n+1) t (.slice A m c) (.slice none 0 0)).run P w=.ok A.isNone w:=by
 cases A<;>simp[Op.equalIn,Xk h]
def Q7{t e:TypeId}{A:Option Addr}{m c:Nat}(h:P.underlying t=some (.slice e)):(Op.equal t (.slice A m c) (.slice none 0 0)).run P w=.ok A.isNone w:=Xcw 9999 h
def TIs.bool{t:TypeId}(h:TIs P t .bool):P.underlying t=some .bool:=by
 obtain⟨i,z,d,_,_,_,_,_,h1,h2⟩:=h
 cases d<;>first | exact h1 | cases h2
def TIs.ptr{t:TypeId}(h:TIs P t .ptr):∃e,P.underlying t=some (.pointer e):=by
 obtain⟨i,z,d,_,_,_,_,_,h1,h2⟩:=h
 cases d<;>first | exact⟨_,h1⟩ | cases h2
def TIs.str{t:TypeId}(h:TIs P t .str):P.underlying t=some .string:=by
 obtain⟨i,z,d,_,_,_,_,_,h1,h2⟩:=h
 cases d<;>first | exact h1 | cases h2
def TIs.int{t:TypeId}{k:IntKind}(h:TIs P t (.int k)):P.underlying t=some (.int k):=by
 obtain⟨i,z,d,_,_,_,_,_,h1,h2⟩:=h
 cases d<;>first | cases h2; done | (simp only[U5,beq_iff_eq] at h2; subst h2; exact h1) | cases h2
def TIs.struct{t:TypeId}{n:Nat}{fl:List (Nat×Nat×Bool×Nat)}{zero:List AV}(h:TIs P t (.struct n fl zero)):∃fs,P.underlying t=some (.struct fs)/\XaA P fs.toList fl=true/\∀x∈fl,x.1+x.2.1<=n:=by
 obtain⟨i,z,d,_,_,_,_,_,h1,h2⟩:=h
 cases d with
 | struct fs =>
  simp only[U5,Bool.and_eq_true,List.all_eq_true,decide_eq_true_eq] at h2
  exact⟨fs,h1,h2.1,h2.2⟩
 | _=>cases h2
def TIs.array{t:TypeId}{m z:Nat}{ag:Bool}{zero:List AV}(h:TIs P t (.array m z ag zero)):∃e i d,P.underlying t=some (.array m e)/\P.info? e=some i/\i.size=z/\P.underlying e=some d/\Xew d=ag:=by
 obtain⟨i,zv,d,_,_,_,_,_,h1,h2⟩:=h
 cases d with
 | array m' e =>
  simp only[U5,Bool.and_eq_true,beq_iff_eq] at h2
  obtain⟨⟨rfl,h3⟩,h4⟩:=h2
  cases hi:P.info? e with
  | none=>rw[hi] at h3; cases h3
  | some i =>
   rw[hi] at h3
   cases hd:P.underlying e with
   | none=>rw[hd] at h4; cases h4
   | some d =>
    rw[hd] at h4
    exact⟨e,i,d,h1,hi,by simpa using h3,hd,by simpa using h4⟩
 | _=>cases h2
def TIs.slice{t:TypeId}{z b:Nat}{zero:List AV}(h:TIs P t (.slice z b zero)):∃e i v,P.underlying t=some (.slice e)/\P.info? e=some i/\i.size=z/\i.bytes=b/\b≠0/\i.zero=some v/\QB v.cells.toList zero=true/\zero.length=z /\
  (Xk1 zero=true->P.underlying e=some (.int .u8)):=by
 obtain⟨i,y,d,_,_,_,_,_,h1,h2⟩:=h
 cases d with
 | slice e =>
  simp only[U5,Bool.and_eq_true] at h2
  obtain⟨h3,h4⟩:=h2
  cases hi:P.info? e with
  | none=>rw[hi] at h3; cases h3
  | some j =>
   rw[hi] at h3
   simp only[Bool.and_eq_true,beq_iff_eq,bne_iff_ne,ne_eq] at h3
   obtain⟨⟨⟨h5,h6⟩,h7⟩,h8⟩:=h3
   cases hz:j.zero with
   | none=>rw[hz] at h8; cases h8
   | some v =>
    rw[hz] at h8
    simp only[Bool.and_eq_true,beq_iff_eq] at h8
    refine⟨e,j,v,h1,hi,h5,h6,h7,hz,h8.1,h8.2,λhu=>?_⟩
    simp only[hu,Bool.not_true,Bool.false_or] at h4
    split at h4
    ·assumption
    ·cases h4
 | _=>cases h2
def Xk6(h:Xp w0 L Im0 st tm w Im base SO){op:BinOp}{xt yt:TypeId}{ti:Option TI}(hT:∀t,ti=some t->TIs P xt t){x y:Operand}{a:AV}(he:bin ti op (view st x) (view st y)=some a) :
  ∃v,PT st tm w Im base v a nos/\∀w':World,Frame w w' nos->∀o:Oper,o.op=.binOp op xt x y yt->(execOp (Xe tm) o).run P w'=.ok (.value v) w':=by
 have hx:=h.view x
 have hy:=h.view y
 generalize hvx:Vm.view st x=vx at he hx
 generalize hvy:Vm.view st y=vy at he hy
 have go:∀(vx vy v:Value),Xe tm x=vx->Xe tm y=vy->vx.oneCell'=true->vx≠.nilIface->(∀w,(binOp op xt vx vy).run P w=.ok v w)->∀w':World,Frame w w' nos->∀o:Oper,o.op=.binOp op xt x y yt->(execOp (Xe tm) o).run P w'=.ok (.value v) w':=by
  intro vx vy v e1 e2 h1 h2 hb w' _ o ho
  simp only[execOp,ho,e1,e2,Sem.run_bind,Xex h1 h2,Result.andThen_ok,hb]
  rfl
 have eqp:∀(p:Option Addr) (e:Bool),ti=some .ptr->eqB op e=some a->p.isNone=e->(∃v,Rep w Im v a nos/\∀w,(binOp op xt (.pointer p) (.pointer none)).run P w=.ok v w):=by
  intro p e e1 e2 e3
  obtain⟨el,hu⟩:=(hT _ e1).ptr
  unfold eqB at e2
  split at e2
  ·injection e2 with e2; subst e2; exact⟨_,.b,λw=>by simp[binOp,Xbn hu,e3]⟩
  ·injection e2 with e2; subst e2; exact⟨_,.b,λw=>by simp[binOp,Xbn hu,e3]⟩
  ·cases e2
 have eqs:∀(A:Option Addr) (n cap m:Nat),U0 ti op m=some a->(0<m->A.isNone=false)->(∃v,Rep w Im v a nos/\∀w,(binOp op xt (.slice A n cap) (.slice none 0 0)).run P w=.ok v w):=by
  intro A n cap m e1 e2
  unfold U0 at e1
  split at e1
  ·obtain⟨el,_,_,hu,_⟩:=(hT _ rfl).slice
   split at e1
   ·rename_i h0
    unfold eqB at e1
    split at e1
    ·injection e1 with e1; subst e1; exact⟨_,.b,λw=>by simp[binOp,Q7 hu,e2 h0]⟩
    ·injection e1 with e1; subst e1; exact⟨_,.b,λw=>by simp[binOp,Q7 hu,e2 h0]⟩
    ·cases e1
   ·split at e1
    ·injection e1 with e1; subst e1; exact⟨.bool A.isNone,.ub,λw=>by simp[binOp,Q7 hu]⟩
    ·injection e1 with e1; subst e1; exact⟨.bool (!A.isNone),.ub,λw=>by simp[binOp,Q7 hu]⟩
    ·cases e1
  ·cases e1
 unfold bin at he
 split at he
 ·rename_i es
  obtain⟨A,n,cap,e1,e2⟩:∃A n cap,Xe tm x=.slice A n cap/\(0<es.length->A.isNone=false):=by
   have hr:=hx.sl
   cases hr':Xe tm x with
   | slice A n cap =>
    rw[hr'] at hr
    cases hr with
    | sl g off vs Sf hn hc hL hA=>exact⟨A,n,cap,rfl,λh0=>by rw[hA (by omega)]; rfl⟩
   | _=>rw[hr'] at hr; cases hr
  obtain⟨v,h1,h2⟩:=eqs A n cap _ he e2
  exact⟨v,.leaf (.rep h1),go _ _ v e1 hy.nil rfl (by simp) h2⟩
 ·obtain⟨⟨l,A,N,cap,A',_,_,q3,q4,q5,q6⟩,_⟩:=hx.rf
  obtain⟨v,h1,h2⟩:=eqs A' _ _ _ he (λh0=>by
   obtain⟨g,o,_,q7⟩:=q6 (by omega)
   rw[q7]; rfl)
  exact⟨v,.leaf (.rep h1),go _ _ v q3 hy.nil rfl (by simp) h2⟩
 ·split at he
  ·rename_i hk
   subst hk
   obtain⟨v,h1,h2⟩:=Xi3 (t:=xt) (w:=w) (Im:=Im) (P:=P) he
   exact⟨v,.leaf (.rep h1),go _ _ v hx.i hy.i rfl (by simp) h2⟩
  ·cases he
 ·obtain⟨v,h1,h2⟩:=Xi4 (t:=xt) (w:=w) (Im:=Im) (P:=P) he
  exact⟨v,.leaf (.rep h1),go _ _ v hx.s hy.s rfl (by simp) h2⟩
 ·split at he
  ·have hu:=(hT _ rfl).bool
   unfold eqB at he
   split at he
   ·injection he with he; subst he; exact⟨_,.leaf (.rep .b),go _ _ _ hx.b hy.b rfl (by simp) (λw=>by simp[binOp,Xbm hu])⟩
   ·injection he with he; subst he; exact⟨_,.leaf (.rep .b),go _ _ _ hx.b hy.b rfl (by simp) (λw=>by simp[binOp,Xbm hu])⟩
   ·cases he
  ·cases he
 ·split at he
  ·obtain⟨ad,e1,_⟩:=hx.p
   obtain⟨v,h1,h2⟩:=eqp (some ad) false rfl he rfl
   exact⟨v,.leaf (.rep h1),go _ _ v e1 hy.pn rfl (by simp) h2⟩
  ·cases he
 ·split at he
  ·obtain⟨g,off,vs,e1,_⟩:=hx.pr
   obtain⟨v,h1,h2⟩:=eqp (some _) false rfl he rfl
   exact⟨v,.leaf (.rep h1),go _ _ v e1 hy.pn rfl (by simp) h2⟩
  ·cases he
 ·split at he
  ·obtain⟨v,h1,h2⟩:=eqp none true rfl he rfl
   exact⟨v,.leaf (.rep h1),go _ _ v hx.pn hy.pn rfl (by simp) h2⟩
  ·cases he
 ·cases he
def Xiz{Pt:Pl->Addr->Prop}{Rf:Pl->Nat->Nat->Nat->Value->Prop}{v:Value}{x:Bool}{S:CS}(h:Yy w Im Pt Rf v (.b x) S):v=.bool x:=by cases h with | rep h=>cases h; rfl
def XiA{Pt:Pl->Addr->Prop}{Rf:Pl->Nat->Nat->Nat->Value->Prop}{v:Value}{k:IntKind}{n:Int}{S:CS}(h:Yy w Im Pt Rf v (.i k n) S):v=.int k n:=by cases h with | rep h=>cases h; rfl
def XiB{Pt:Pl->Addr->Prop}{Rf:Pl->Nat->Nat->Nat->Value->Prop}{v:Value}{x:ByteArray}{S:CS}(h:Yy w Im Pt Rf v (.s x) S):v=.string x:=by cases h with | rep h=>cases h; rfl
def Xg0{d:Option TypeDesc}(h:Xd4 0 d=true):d=some .bool:=by
 cases d with
 | none=>cases h
 | some d=>cases d<;>first | rfl | cases h
def Xg1{d:Option TypeDesc}(h:Xd4 1 d=true):∃k,d=some (.int k):=by
 cases d with
 | none=>cases h
 | some d=>cases d<;>first | exact⟨_,rfl⟩ | cases h
def Xg2{d:Option TypeDesc}(h:Xd4 2 d=true):d=some .string:=by
 cases d with
 | none=>cases h
 | some d=>cases d<;>first | rfl | cases h
def UB{t:TypeId}{d:TypeDesc}(h:P.underlying t=some d)(hd:∀fs,d≠.struct fs)(hd2:∀n e,d≠.array n e){cs:Array Value}{off:Nat}{v:Value}(hv:cs[off]?=some v):(part t cs off).run P w=.ok v w:=by
 have:(isAgg t).run P w=.ok false w:=by
  unfold isAgg
  simp only[Sem.run_bind,Xk h,Result.andThen_ok]
  cases d<;>first | rfl | exact absurd rfl (hd _) | exact absurd rfl (hd2 _ _)
 simp[part,this,hv]
def U6{Pt:Pl->Addr->Prop}{Rf:Pl->Nat->Nat->Nat->Value->Prop}(d:Nat):∀(ks:List Nat) (i:Nat) (fs:List Field) (xa ya:List AV) (xs ys:List Value) (e:Bool),XkI P i ks fs=true->X0 ks xa ya=some e ->
  (∀j a,xa[j]?=some a->∃v S,xs[i+j]?=some v/\Yy w Im Pt Rf v a S)->(∀j a,ya[j]?=some a->∃v S,ys[i+j]?=some v/\Yy w Im Pt Rf v a S)->∀w':World,(Op.eqFields (d+1) xs.toArray ys.toArray fs).run P w'=.ok e w'
 | [],i,fs,xa,ya,xs,ys,e,h1,h2,hx,hy,w'=>by
  cases fs with
  | nil =>
   have:e=true:=by
    unfold X0 at h2
    split at h2<;>simp_all
   subst this
   rfl
  | cons f fs=>simp[XkI] at h1
 | k :: ks,i,fs,xa,ya,xs,ys,e,h1,h2,hx,hy,w'=>by
  cases fs with
  | nil=>simp[XkI] at h1
  | cons f fs =>
   simp only[XkI,Bool.and_eq_true,bne_iff_ne,ne_eq,beq_iff_eq] at h1
   obtain⟨⟨⟨h3,h4⟩,h5⟩,h6⟩:=h1
   have step:∀(a b:AV) (xa' ya':List AV) (va vb:Value) (e1 e2:Bool),xa=a :: xa'->ya=b :: ya'->X0 ks xa' ya'=some e2->e=(e1&&e2) ->
     (∀v S,Yy w Im Pt Rf v a S->v=va)->(∀v S,Yy w Im Pt Rf v b S->v=vb)->(∃dd,P.underlying f.type=some dd/\(∀fs,dd≠.struct fs)/\∀n e,dd≠.array n e)->((Op.equalIn (d+1) f.type va vb).run P w'=.ok e1 w')->(Op.eqFields (d+1) xs.toArray ys.toArray (f :: fs)).run P w'=.ok e w':=by
    intro a b xa' ya' va vb e1 e2 ha hb h7 he hva hvb ⟨dd,q1,q2,q3⟩ hr
    subst ha hb he
    obtain⟨v1,S1,g1,g2⟩:=hx 0 a rfl
    obtain⟨v2,S2,g3,g4⟩:=hy 0 b rfl
    obtain rfl:=hva _ _ g2
    obtain rfl:=hvb _ _ g4
    have p1:(part f.type xs.toArray f.offset).run P w'=.ok v1 w':=UB q1 q2 q3 (by rw[h4]; simpa using g1)
    have p2:(part f.type ys.toArray f.offset).run P w'=.ok v2 w':=UB q1 q2 q3 (by rw[h4]; simpa using g3)
    have ih:=U6 d ks (i+1) fs xa' ya' xs ys e2 h6 h7 (λj c hj=>by
     have:=hx (j+1) c (by simpa using hj)
     rwa [show i+(j+1)=i+1+j by omega] at this) (λj c hj=>by
     have:=hy (j+1) c (by simpa using hj)
     rwa [show i+(j+1)=i+1+j by omega] at this) w'
    simp only[Op.eqFields,ne_eq,h3,not_false_eq_true,if_true,Sem.run_bind,p1,p2,hr,Result.andThen_ok]
    cases e1
    ·simp
    ·simp[ih]
   unfold X0 at h2
   split at h2
   ·rename_i h; cases h
   ·rename_i ks' x a y b h; injection h with e1 e2; subst e1 e2
    cases hc:X0 ks a b with
    | none=>rw[hc] at h2; cases h2
    | some e2 =>
     rw[hc] at h2
     injection h2 with h2
     have hu:=Xg0 h5
     exact step _ _ _ _ (.bool x) (.bool y) (x==y) e2 rfl rfl hc h2.symm (λv S=>Xiz) (λv S=>Xiz) ⟨_,hu,λ_ h=>by(cases h),λ_ _ h=>by(cases h)⟩ (run_equalIn_bool' w' d _ _ _ hu)
   ·rename_i ks' k1 x a k2 y b h; injection h with e1 e2; subst e1 e2
    split at h2
    ·rename_i hk; subst hk
     cases hc:X0 ks a b with
     | none=>rw[hc] at h2; cases h2
     | some e2 =>
      rw[hc] at h2
      injection h2 with h2
      obtain⟨kk,hu⟩:=Xg1 h5
      exact step _ _ _ _ (.int k1 x) (.int k1 y) (x==y) e2 rfl rfl hc h2.symm (λv S=>XiA) (λv S=>XiA) ⟨_,hu,λ_ h=>by(cases h),λ_ _ h=>by(cases h)⟩ (run_equalIn_int w' d _ _ _ _ _ hu)
    ·cases h2
   ·rename_i ks' x a y b h; injection h with e1 e2; subst e1 e2
    cases hc:X0 ks a b with
    | none=>rw[hc] at h2; cases h2
    | some e2 =>
     rw[hc] at h2
     injection h2 with h2
     have hu:=Xg2 h5
     exact step _ _ _ _ (.string x) (.string y) (x.toList==y.toList) e2 rfl rfl hc h2.symm (λv S=>XiB) (λv S=>XiB) ⟨_,hu,λ_ h=>by(cases h),λ_ _ h=>by(cases h)⟩ (run_equalIn_string w' d _ _ _ hu)
   ·cases h2
def Xi5(h:Xp w0 L Im0 st tm w Im base SO){op:BinOp}{xt yt:TypeId}{ti:Option TI}{E:Option (List Nat)}(hT:∀t,ti=some t->TIs P xt t)(hE:∀ks,E=some ks->Xml P xt ks=true){x y:Operand}{a:AV}(he:Xa0 ti E op (view st x) (view st y)=some a) :
  ∃v,PT st tm w Im base v a nos/\∀w':World,Frame w w' nos->∀o:Oper,o.op=.binOp op xt x y yt->(execOp (Xe tm) o).run P w'=.ok (.value v) w':=by
 unfold Xa0 at he
 split at he
 ·rename_i xa hvx
  split at he
  ·rename_i ya hvy
   unfold Xfo at he
   split at he
   ·rename_i ks
    have hok:=hE ks rfl
    split at he
    ·rename_i e hc
     have hx:=h.view x
     have hy:=h.view y
     rw[hvx] at hx
     rw[hvy] at hy
     obtain⟨vs,Sf,e1,hl1,hin1⟩:∃(vs:List Value) (Sf:Nat->CS),Xe tm x=.agg vs.toArray/\vs.length=xa.length/\∀(j:Nat) (v:Value) (a:AV),vs[j]?=some v->xa[j]?=some a->Yy w Im (Pt st tm w base) (Rf st tm w base) v a (Sf j):=by
      generalize Xe tm x=u at hx
      cases hx with
      | leaf h=>cases h with | rep h=>cases h
      | agg vs Sf hl hin=>exact⟨vs,Sf,rfl,hl,hin⟩
     obtain⟨us,Tf,e2,hl2,hin2⟩:∃(vs:List Value) (Sf:Nat->CS),Xe tm y=.agg vs.toArray/\vs.length=ya.length/\∀(j:Nat) (v:Value) (a:AV),vs[j]?=some v->ya[j]?=some a->Yy w Im (Pt st tm w base) (Rf st tm w base) v a (Sf j):=by
      generalize Xe tm y=u at hy
      cases hy with
      | leaf h=>cases h with | rep h=>cases h
      | agg vs Sf hl hin=>exact⟨vs,Sf,rfl,hl,hin⟩
     unfold Xml at hok
     split at hok
     ·rename_i fs hu
      simp only[Bool.and_eq_true,Bool.not_eq_true'] at hok
      obtain⟨⟨h1,h2⟩,h3⟩:=hok
      have hfo:P.fieldsOf xt=fs:=by unfold Program.fieldsOf; rw[hu]
      have hrun:∀w':World,(Op.equalIn 10000 xt (.agg vs.toArray) (.agg us.toArray)).run P w'=.ok e w':=by
       intro w'
       rw[run_equalIn_struct w' 9999 xt _ _ (by rw[hfo]; exact hu) h1,hfo]
       exact U6 (w:=w) (Im:=Im) 9998 ks 0 fs.toList xa ya vs us e h3 hc (λj a hj=>by
        have hlt:j<vs.length:=by rw[hl1]; exact(List.getElem?_eq_some_iff.1 hj).1
        rw[Nat.zero_add]
        exact⟨_,_,List.getElem?_eq_getElem hlt,hin1 j _ a (List.getElem?_eq_getElem hlt) hj⟩) (λj a hj=>by
        have hlt:j<us.length:=by rw[hl2]; exact(List.getElem?_eq_some_iff.1 hj).1
        rw[Nat.zero_add]
        exact⟨_,_,List.getElem?_eq_getElem hlt,hin2 j _ a (List.getElem?_eq_getElem hlt) hj⟩) w'
      unfold eqB at he
      split at he
      ·injection he with he; subst he
       refine⟨_,.leaf (.rep .b),λw' _ o ho=>?_⟩
       simp only[execOp,ho,e1,e2,Sem.run_bind,run_eqGuard_agg w' _ _ _ _ _ _ h2,Result.andThen_ok,run_eql_struct,hrun]
       rfl
      ·injection he with he; subst he
       refine⟨_,.leaf (.rep .b),λw' _ o ho=>?_⟩
       simp only[execOp,ho,e1,e2,Sem.run_bind,run_eqGuard_agg w' _ _ _ _ _ _ h2,Result.andThen_ok,run_neq_struct,hrun]
       rfl
      ·cases he
     ·cases hok
    ·cases he
   ·cases he
  ·cases he
 ·exact Xk6 h hT he
end Go.Vm
set_option autoImplicit false
namespace Go.Vm
variable {w0 : World} {L Im0 : CS} {st : St} {tm : Array Value} {w : World} {Im : CS} {base : Nat -> Nat × Nat} {SO : Bool -> Nat -> CS} {P : Program}
def ZF(g o n:Nat):(⟨g,o,none⟩:Addr).add n=⟨g,o+n,none⟩:=by
 unfold Addr.add
 split
 ·rename_i h; subst h; rfl
 ·rfl
def Xdk{t:TypeId}{i:TypeInfo}{d:TypeDesc}(hi:P.info? t=some i)(hd:P.underlying t=some d){g o:Nat}{us:Nat->Value}(hc:∀j,j<i.size->Xt w g (o+j)=some (us j))(h1:Xew d=false->i.size=1) :
  (loadVar t ⟨g,o,none⟩).run P w=.ok (if Xew d then .agg ((List.range i.size).map us).toArray else us 0) w:=by
 have hl:=run_loadCells (P:=P) w ⟨g,o,none⟩ i.size us (λj hj=>by rw[ZF]; exact hc j hj)
 simp only[loadVar,Sem.run_bind,Xct hd,Result.andThen_ok]
 cases hag:Xew d with
 | true=>simp[Qs hi,hl]
 | false =>
  have h0:=hc 0 (by have:=h1 hag; omega)
  simp only[Nat.add_zero,Xt] at h0
  simp[h0]
def US{ti:TI}(h:ti.ag=false):ti.size=1:=by cases ti<;>first | rfl | cases h
def Xbo{t:TypeId}{ti:TI}(h:TIs P t ti){g o:Nat}{us:Nat->Value}(hc:∀j,j<ti.size->Xt w g (o+j)=some (us j)) :
  (Instr.loadAt t (.pointer (some ⟨g,o,none⟩))).run P w=.ok (if ti.ag then .agg ((List.range ti.size).map us).toArray else us 0) w:=by
 obtain⟨i,z,d,h1,h2,_,_,_,h3,h4⟩:=h
 have hag:=Xfz h4
 have:=Xdk (P:=P) (w:=w) h1 h3 (us:=us) (g:=g) (o:=o) (λj hj=>hc j (by omega)) (λe=>by rw[h2]; exact US (by rw[<-hag]; exact e))
 rw[hag,h2] at this
 simp only[Instr.loadAt,Instr.sureAddr,Sem.run_bind,Sem.run_pure,Result.andThen_ok,this]
def UT{w':World}(hf:Frame w w' nos){g k:Nat}{v:Value}(hv:Xt w g k=some v):Xt w' g k=some v:=by
 have hlt:g<w.heap.size:=World.block_lt_of_cell? w ⟨g,k,none⟩ hv
 rw[((hf.same (S:=λg' k'=>g'=g/\k'=k) (λ_ _ _ h=>h.elim) (λg' k' e=>e.1▸hlt)) g k ⟨rfl,rfl⟩).1]; exact hv
def XfA(h:Xp w0 L Im0 st tm w Im base SO){t:TypeId}{ti:TI}(hT:TIs P t ti){x:Operand}{a:AV}(he:loadAt st ti (view st x)=some a) :
  ∃v,PT st tm w Im base v a nos/\∀w':World,Frame w w' nos->∀o:Oper,o.op=.load t x->(execOp (Xe tm) o).run P w'=.ok (.value v) w':=by
 have hx:=h.view x
 generalize hvx:Vm.view st x=vx at he hx
 have go:∀(ad:Addr) (v:Value),Xe tm x=.pointer (some ad)->(∀w',Frame w w' nos->(Instr.loadAt t (.pointer (some ad))).run P w'=.ok v w')->∀w':World,Frame w w' nos->∀o:Oper,o.op=.load t x->(execOp (Xe tm) o).run P w'=.ok (.value v) w':=by
  intro ad v e hb w' hw o ho
  simp only[execOp,ho,e,Sem.run_bind,hb w' hw,Result.andThen_ok]
  rfl
 cases vx with
 | p pl =>
  obtain⟨ad,e1,⟨g,o,hf,rfl⟩,hrp⟩:=hx.p
  simp only[loadAt] at he
  cases hn:node st pl with
  | none=>rw[hn] at he; cases he
  | some cells =>
   rw[hn] at he
   simp only at he
   split at he
   ·rename_i hsz
    obtain⟨l',k1,k2,k3,k4⟩:=(h.root pl.e pl.r (λe=>QR hrp e)).look (λ_ _ _ _ _ h=>h.sl) (λ_ _ _ h=>.rep h) pl.path hn
    rw[hf] at k1
    injection k1 with k1
    subst k1
    have hval:∀j,j<ti.size->∃u V b,cells[pl.c+j]?=some b/\Xt w g (o+pl.c+j)=some u/\PL st tm w Im base u b V:=by
     intro j hj
     have hlt:pl.c+j<cells.length:=by omega
     obtain⟨u,V,m1,_,m3,_⟩:=k4 (pl.c+j) _ (List.getElem?_eq_getElem hlt)
     exact⟨u,V,_,List.getElem?_eq_getElem hlt,by rw[Nat.add_assoc]; exact m1,m3⟩
    let us:Nat->Value:=λj=>(Xt w g (o+pl.c+j)).getD undef
    have hus:∀j,j<ti.size->Xt w g (o+pl.c+j)=some (us j):=by
     intro j hj
     obtain⟨u,V,b,_,m2,_⟩:=hval j hj
     simp only[us,m2]; rfl
    have hleaf:∀j b,j<ti.size->cells[pl.c+j]?=some b->PL st tm w Im base (us j) (XA {pl with c:=pl.c+j} b) nos:=by
     intro j b hj hb
     obtain⟨u,V,b',m1,m2,m3⟩:=hval j hj
     rw[hb] at m1
     injection m1 with m1
     subst m1
     have:us j=u:=by simp only[us,m2]; rfl
     rw[this]
     exact Yy.view (pl:={pl with c:=pl.c+j}) m3 hf (by simp only[YW,<-Nat.add_assoc]; exact m2) hn hb
    have hrun:∀w',Frame w w' nos->_:=λw' hw=>Xbo (P:=P) (w:=w') hT (λj hj=>UT hw (hus j hj))
    refine⟨_,?_,go _ _ e1 hrun⟩
    split at he
    ·rename_i hag
     injection he with he
     subst he
     rw[if_pos hag]
     refine .agg _ (λ_=>nos) ?_ (λj u b hu hb=>?_) (λ_=>Sub.rfl' _) (λ_ _ _=>Xh _)
     ·rw[Qq]; simp; omega
     ·rw[Qp] at hb
      obtain⟨b',hb',rfl⟩:=Option.map_eq_some_iff.1 hb
      rw[List.getElem?_take] at hb'
      split at hb'
      ·rename_i hlt
       rw[List.getElem?_drop] at hb'
       simp only[List.getElem?_map,List.getElem?_range,hlt,Option.map_some] at hu
       have:=hleaf j b' hlt hb'
       simp at hu
       rw[<-hu]
       exact this
      ·cases hb'
    ·rename_i hag
     injection he with he
     subst he
     rw[if_neg hag]
     have h1:ti.size=1:=US (by simpa using hag)
     have hlt:pl.c<cells.length:=by omega
     have:=hleaf 0 cells[pl.c] (by omega) (List.getElem?_eq_getElem hlt)
     have hd:cells.getD pl.c .u=cells[pl.c]:=by simp[List.getD,hlt]
     rw[hd]
     exact .leaf this
   ·cases he
 | pr cs =>
  obtain⟨g,off,vs,e1,h1,h2⟩:=hx.pr
  simp only[loadAt] at he
  split at he
  ·rename_i hsz
   have hus:∀j,j<ti.size->Xt w g (off+j)=some (vs j):=λj hj=>(h1 j _ (List.getElem?_eq_getElem (by omega))).1
   have hrun:∀w',Frame w w' nos->_:=λw' hw=>Xbo (P:=P) (w:=w') hT (λj hj=>UT hw (hus j hj))
   refine⟨_,?_,go _ _ e1 hrun⟩
   split at he
   ·rename_i hag
    injection he with he
    subst he
    rw[if_pos hag]
    refine .agg _ (λ_=>nos) ?_ (λj u b hu hb=>?_) (λ_=>Sub.rfl' _) (λ_ _ _=>Xh _)
    ·simp; omega
    ·rw[List.getElem?_take] at hb
     split at hb
     ·rename_i hlt
      simp only[List.getElem?_map,List.getElem?_range,hlt,Option.map_some] at hu
      simp at hu
      rw[<-hu]
      exact .rep (h2 j b hb)
     ·cases hb
   ·rename_i hag
    injection he with he
    subst he
    rw[if_neg hag]
    have hs1:ti.size=1:=US (by simpa using hag)
    have hlt:0<cs.length:=by omega
    have hd:cs.getD 0 .u=cs[0]:=by simp[List.getD,hlt]
    rw[hd]
    exact .leaf (.rep (h2 0 _ (List.getElem?_eq_getElem hlt)))
  ·cases he
 | _=>cases he
end Go.Vm
set_option autoImplicit false
namespace Go.Vm
variable {w0 : World} {L Im0 : CS} {st : St} {tm : Array Value} {w : World} {Im : CS} {base : Nat -> Nat × Nat} {SO : Bool -> Nat -> CS} {P : Program}
def UU:∀{fs:List Field} {fl:List (Nat×Nat×Bool×Nat)},XaA P fs fl=true->∀(j:Nat) (x:Nat×Nat×Bool×Nat),fl[j]?=some x->∃f,fs[j]?=some f/\XgZ P f x=true
 | [],[],_,j,x,h=>by simp at h
 | f :: fs,y :: fl,h,j,x,hx=>by
  simp only[XaA,Bool.and_eq_true] at h
  cases j with
  | zero=>simp only[List.getElem?_cons_zero,Option.some.injEq] at hx; subst hx; exact⟨f,rfl,h.1⟩
  | succ j=>exact UU h.2 j x (by simpa using hx)
 | [],_ :: _,h,_,_,_=>by cases h
 | _ :: _,[],h,_,_,_=>by cases h
def Xdl{f:Field}{off n z:Nat}{ag:Bool}(h:XgZ P f (off,n,ag,z)=true):f.offset=off/\(∃i,P.info? f.type=some i/\i.size=n)/\n≠0/\∃d,P.underlying f.type=some d/\Xew d=ag:=by
 unfold XgZ at h
 simp only[Bool.and_eq_true,beq_iff_eq] at h
 obtain⟨⟨h1,h2⟩,h3⟩:=h
 cases hi:P.info? f.type with
 | none=>rw[hi] at h2; cases h2
 | some i =>
  rw[hi] at h2
  simp only[Bool.and_eq_true,beq_iff_eq,bne_iff_ne,ne_eq] at h2
  cases hd:P.underlying f.type with
  | none=>rw[hd] at h3; cases h3
  | some d =>
   rw[hd] at h3
   exact⟨h1,⟨i,rfl,h2.1⟩,h2.2,d,rfl,by simpa using h3⟩
def Xk7{pl:Pl}{g o c:Nat}(hp:Pt st tm w base pl ⟨g,o,none⟩):Pt st tm w base {pl with c:=pl.c+c} ⟨g,o+c,none⟩:=by
 obtain⟨⟨g',o',h1,h2⟩,h3⟩:=hp
 injection h2 with e1 e2
 subst e1 e2
 exact⟨⟨g,o',h1,by simp[Nat.add_assoc]⟩,h3⟩
def Xk8{pl:Pl}{ad:Addr}(hp:Pt st tm w base pl ad):∃g o,ad=⟨g,o,none⟩:=by
 obtain⟨⟨g',o',h1,h2⟩,h3⟩:=hp
 exact⟨g',_,h2⟩
def U7(h:Xp w0 L Im0 st tm w Im base SO){t:TypeId}{ti:TI}(hT:TIs P t ti){x:Operand}{f:Nat}{a:AV}(he:Uu ti f (view st x)=some a) :
  ∃v,PT st tm w Im base v a nos/\∀w':World,∀o:Oper,o.op=.fieldAddr t x f->(execOp (Xe tm) o).run P w'=.ok (.value v) w':=by
 have hx:=h.view x
 generalize hvx:Vm.view st x=vx at he hx
 unfold Uu at he
 cases ti with
 | struct n fl zero =>
  simp only at he
  obtain⟨fs,hu,hfl,_⟩:=hT.struct
  cases hf:fl[f]? with
  | none=>rw[hf] at he; cases he
  | some y =>
   obtain⟨off,m,ag,z⟩:=y
   rw[hf] at he
   simp only at he
   obtain⟨fd,hfd,hok⟩:=UU hfl f _ hf
   obtain⟨h1,⟨i,hi,hm⟩,hne,d,hd,_⟩:=Xdl hok
   have hfd':fs[f]?=some fd:=by rw[<-Array.getElem?_toList]; exact hfd
   have go:∀(g o:Nat),Xe tm x=.pointer (some ⟨g,o,none⟩)->∀w':World,∀op:Oper,op.op=.fieldAddr t x f->(execOp (Xe tm) op).run P w'=.ok (.value (.pointer (some ⟨g,o+off,none⟩))) w':=by
    intro g o e w' op ho
    simp only[execOp,ho,e,Instr.fieldAt,Sem.run_bind,Xk hu,Result.andThen_ok,hfd',Instr.sureAddr,Sem.run_pure,fieldPlace,Qs hi,hm,Sem.run_ite,if_neg hne,ZF,h1]
   cases vx with
   | p q =>
    injection he with he
    subst he
    obtain⟨ad,e1,hp⟩:=hx.p
    obtain⟨g,o,rfl⟩:=Xk8 hp
    exact⟨_,.leaf (.p (Xk7 hp)),go g o e1⟩
   | pr cs =>
    injection he with he
    subst he
    obtain⟨g,o,vs,e1,k1,k2⟩:=hx.pr
    refine⟨_,.leaf (.rep (.pr (λj=>vs (off+j)) (λj b hj=>?_) (λj b hj=>?_))),go g o e1⟩
    all_goals rw[List.getElem?_drop] at hj
    ·rw[Nat.add_assoc]; exact k1 _ _ hj
    ·exact k2 _ _ hj
   | _=>cases he
 | _=>cases he
def Xd5{ty:TypeId}{i:TypeInfo}{d:TypeDesc}(hi:P.info? ty=some i)(hd:P.underlying ty=some d){vs:List Value}{off:Nat}{u:Value}(h1:Xew d=false->vs[off]?=some u) :
  (part ty vs.toArray off).run P w=.ok (if Xew d then .agg ((vs.drop off).take i.size).toArray else u) w:=by
 simp only[part,Sem.run_bind,Xct hd,Result.andThen_ok]
 cases hag:Xew d with
 | true =>
  simp only[if_true,Sem.run_bind,Qs hi,Result.andThen_ok,Sem.run_pure]
  congr 2
  simp
 | false =>
  have:=h1 hag
  simp[this]
def Xg3(h:Xp w0 L Im0 st tm w Im base SO){t:TypeId}{ti:TI}(hT:TIs P t ti){x:Operand}{f:Nat}{a:AV}(he:Xcl ti f (view st x)=some a) :
  ∃v,PT st tm w Im base v a nos/\∀w':World,Frame w w' nos->∀o:Oper,o.op=.field t x f->(execOp (Xe tm) o).run P w'=.ok (.value v) w':=by
 have hx:=h.view x
 generalize hvx:Vm.view st x=vx at he hx
 unfold Xcl at he
 split at he
 ·rename_i n fl zero cs
  obtain⟨fs,hu,hfl,_⟩:=hT.struct
  cases hf:fl[f]? with
  | none=>rw[hf] at he; cases he
  | some y =>
   obtain⟨off,m,ag,z⟩:=y
   rw[hf] at he
   simp only at he
   obtain⟨fd,hfd,hok⟩:=UU hfl f _ hf
   obtain⟨h1,⟨i,hi,hm⟩,hne,d,hd,hag⟩:=Xdl hok
   have hfd':fs[f]?=some fd:=by rw[<-Array.getElem?_toList]; exact hfd
   split at he
   ·rename_i hfit
    injection he with he
    obtain⟨vs,Sf,e1,e2,e3,e4,e5⟩:=hx.agg'
    have hlt:off<vs.length:=by omega
    have hrun:=λw':World=>Xd5 (w:=w') hi hd (vs:=vs) (off:=off) (u:=vs[off]) (λ_=>List.getElem?_eq_getElem hlt)
    refine⟨if Xew d then .agg ((vs.drop off).take i.size).toArray else vs[off],?_,λw' _ op ho=>?_⟩
    rotate_left
    ·simp only[execOp,ho,e1,Instr.field,Sem.run_bind,Xk hu,Result.andThen_ok,hfd',asAgg,Sem.run_pure,h1,hrun]
    ·rw[hag,hm]
     cases ag with
     | true =>
      rw[<-he]
      simp only[if_true]
      refine .agg _ (λ_=>nos) (by simp; omega) (λj u b hu' hb=>?_) (λ_=>Sub.rfl' _) (λ_ _ _=>Xh _)
      rw[List.getElem?_take] at hu' hb
      split at hb
      ·rename_i hj
       rw[if_pos hj] at hu'
       rw[List.getElem?_drop] at hu' hb
       have hlf:=e3 _ _ _ hu' hb
       exact hlf.mono (by intro b' k' hk; exact(e4 _ b' k' hk))
      ·cases hb
     | false =>
      rw[<-he]
      simp only[Bool.false_eq_true,if_false]
      have hlt2:off<cs.length:=by omega
      have hd2:cs.getD off .u=cs[off]:=by simp[List.getD,hlt2]
      rw[hd2]
      exact .leaf ((e3 off _ _ (List.getElem?_eq_getElem hlt) (List.getElem?_eq_getElem hlt2)).mono (e4 off))
   ·cases he
 ·cases he
def Xbp:∀(ps qs:List (Nat×Nat×Nat)) {cs row:List AV},nav cs ps=some row->nav cs (ps++qs)=nav row qs
 | [],qs,cs,row,h=>by simp only[nav,Option.some.injEq] at h; subst h; rfl
 | (c,i,z) :: ps,qs,cs,row,h=>by
  simp only[List.cons_append,nav] at h ⊢
  cases hs:YC cs c i z with
  | none=>rw[hs] at h; cases h
  | some x=>obtain⟨t,r⟩:=x; rw[hs] at h; exact Xbp ps qs h
def Yy.toRep{Pt:Pl->Addr->Prop}{Rf:Pl->Nat->Nat->Nat->Value->Prop}(hp:∀pl ad,¬Pt pl ad)(hr:∀pl z lo n v,¬Rf pl z lo n v){v:Value}{a:AV}{S:CS}(h:Yy w Im Pt Rf v a S):Rep w Im v a S:=by
 induction h with
 | rep h=>exact h
 | p h=>exact absurd h (hp _ _)
 | rf h=>exact absurd h (hr _ _ _ _ _)
 | fn vs hl hin ih=>exact .fn vs hl ih
 | fs g off vs hn hc hA hrow hin ih=>exact .fs g off vs hn hc hA hrow ih
def Top.fs{Pt:Pl->Addr->Prop}{Rf:Pl->Nat->Nat->Nat->Value->Prop}{v:Value}{es:List AV}{S:CS}(h:Top w Im Pt Rf v (.fs es) S):∃(A:Option Addr) (n cap g off:Nat) (vs:Nat->Value),v=.slice A n cap/\es.length=n/\n<=cap/\(0<n->A=some ⟨g,off,none⟩) /\
  (∀(j:Nat) (a:AV),es[j]?=some a->Xt w g (off+j)=some (vs j)/\Im g (off+j))/\∀(j:Nat) (a:AV),es[j]?=some a->Yy w Im Pt Rf (vs j) a Vm.nos:=by
 cases h with
 | leaf h=>cases h with
  | rep h=>cases h with
   | fs g off vs hn hc hA hrow hin=>exact⟨_,_,_,g,off,vs,rfl,hn,hc,hA,hrow,λj a hj=>.rep (hin j a hj)⟩
  | fs g off vs hn hc hA hrow hin=>exact⟨_,_,_,g,off,vs,rfl,hn,hc,hA,hrow,hin⟩
def Xk9(S:CS):Sub (un S nos) S:=U3 (Sub.rfl' _) (Xo _)
def Xcx(h:Xp w0 L Im0 st tm w Im base SO){t:TypeId}{ti:TI}(hT:TIs P t ti){x ix:Operand}{a:AV}(he:Z5 st ti (view st x) (view st ix)=some a) :
  ∃v,PT st tm w Im base v a nos/\∀w':World,Frame w w' nos->∀o:Oper,o.op=.indexAddr t x ix->(execOp (Xe tm) o).run P w'=.ok (.value v) w':=by
 have hx:=h.view x
 have hix:=h.view ix
 generalize hvx:Vm.view st x=vx at he hx
 generalize hvi:Vm.view st ix=vi at he hix
 unfold Z5 at he
 split at he
 ·rename_i z b zero k n
  obtain⟨e,i,zv,hu,hi,hsz,hby,_,_,_,_,_⟩:=hT.slice
  have hiv:=hix.i
  have go:∀(A:Option Addr) (len cap g o j:Nat),Xe tm x=.slice A len cap->A=some ⟨g,o,none⟩->YY len n=some j->∀w':World,Frame w w' nos->∀op:Oper,op.op=.indexAddr t x ix->(execOp (Xe tm) op).run P w'=.ok (.value (.pointer (some ⟨g,o+j*z,none⟩))) w':=by
   intro A len cap g o j e1 e2 e3 w' _ op ho
   unfold YY at e3
   split at e3
   ·rename_i hr
    injection e3 with e3
    subst e2 e3
    simp only[execOp,ho,e1,hiv,Instr.indexAt,asIntOf,Sem.run_bind,Sem.run_pure,Result.andThen_ok,Xk hu,Sem.run_ite,if_pos hr,Qs hi,hsz,ZF]
   ·cases e3
  have idx_lt:∀{len j:Nat},YY len n=some j->j<len:=by
   intro len j e3
   unfold YY at e3
   split at e3
   ·injection e3 with e3; omega
   ·cases e3
  unfold indexAddr at he
  split at he
  ·rename_i z' es
   split at he
   ·rename_i hz
    subst hz
    cases hj:YY es.length n with
    | none=>rw[hj] at he; cases he
    | some j =>
     rw[hj] at he
     injection he with he
     subst he
     have hR:=hx.sl
     generalize hv:Xe tm x=v at hR
     cases hR with
     | sl g off vs Sf hn hc hL hA hz hrow hin hf hsub hd hself hnone =>
      rename_i A len cap
      have hjl:=idx_lt hj
      have hrw:es[j]?=some (es.getD j []):=by simp[List.getD,hjl]
      refine⟨_,.leaf (.rep (.pr (g:=g) (off:=off+j*z) (vs j) (λc b hb=>?_) (λc b hb=>?_))),go A len cap g off j hv (hA (by omega)) (by rw[<-hn]; exact hj)⟩
      ·obtain⟨_,_,h3⟩:=Vm.idx_lt hz hrw hb
       rw[Nat.add_assoc]
       exact⟨hrow j _ c b hrw hb,hf.imm (by decide) _ (by rw[<-hn]; exact h3)⟩
      ·have:=hin j _ c b hrw hb
       rw[hnone (by decide)] at this
       exact this
   ·cases he
  ·rename_i es
   split at he
   ·rename_i hz
    cases hj:YY es.length n with
    | none=>rw[hj] at he; cases he
    | some j =>
     rw[hj] at he
     injection he with he
     subst he
     obtain⟨A,len,cap,g,off,vs,hv,hn,hc,hA,hrow,hin⟩:=hx.fs
     have hjl:=idx_lt hj
     have hrw:es[j]?=some (es.getD j .u):=by simp[List.getD,hjl]
     refine⟨_,.leaf (.rep (.pr (g:=g) (off:=off+j*z) (λ_=>vs j) (λc b hb=>?_) (λc b hb=>?_))),go A len cap g off j hv (hA (by omega)) (by rw[<-hn]; exact hj)⟩
     all_goals
      cases c with
      | zero =>
       simp only[List.getElem?_cons_zero,Option.some.injEq] at hb
       subst hb
       first
        | (rw[hz,Nat.mul_one,Nat.add_zero]; exact hrow j _ hrw)
        | exact((hin j _ hrw).gone (Pt':=λ_ _=>False) (Rf':=λ_ _ _ _ _=>False)).toRep (λ_ _ h=>h) (λ_ _ _ _ _ h=>h)
      | succ c=>simp at hb
   ·cases he
  ·rename_i pl zr lo m
   cases hn:node st pl with
   | none=>rw[hn] at he; cases he
   | some cells =>
    rw[hn] at he
    simp only at he
    split at he
    ·rename_i t' z' es hc
     split at he
     ·rename_i hcond
      obtain⟨⟨hz1,hz2⟩,hlen⟩:=hcond
      subst hz1 hz2
      cases hj:YY m n with
      | none=>rw[hj] at he; cases he
      | some j =>
       rw[hj] at he
       simp only at he
       have hjl:=idx_lt hj
       obtain⟨A,N,cap,A',V,e1,e2,e3,e4,e5,hR,hV,l,f1,f2⟩:=h.lookRf hx.rf hn hc
       obtain⟨g,o,hA,hA'⟩:=e5 (by omega)
       have hrun:=go A' m (cap-lo) g (o+lo*zr) j e1 hA' hj
       have hadr:o+lo*zr+j*zr=o+(lo+j)*zr:=by rw[Nat.add_mul]; omega
       rw[hadr] at hrun
       have hrw:es[lo+j]?=some (es.getD (lo+j) []):=by simp[List.getD,show lo+j<es.length by omega]
       have other:t'≠.mut->a=.pr (Yz (es.getD (lo+j) []))->∃v,PT st tm w Im base v a nos/\∀w':World,Frame w w' nos->∀o:Oper,o.op=.indexAddr t x ix->(execOp (Xe tm) o).run P w'=.ok (.value v) w':=by
        intro htm ha
        subst ha hA
        refine⟨_,?_,hrun⟩
        cases hR with
        | sl g' off vs Sf hn' hc' hL hA0 hz hrow hin hf hsub hd hself hnone =>
         have hgo:=hA0 (by omega)
         injection hgo with hgo
         injection hgo with h1 h2
         subst h1 h2
         refine .leaf (.rep (.pr (vs (lo+j)) (λc b hb=>?_) (λc b hb=>?_)))
         all_goals
          rw[Qa] at hb
          obtain⟨b',hb',rfl⟩:=Option.map_eq_some_iff.1 hb
         ·obtain⟨_,_,h3⟩:=Vm.idx_lt hz hrw hb'
          rw[Nat.add_assoc]
          exact⟨hrow _ _ c b' hrw hb',hf.imm htm _ (by rw[<-hn']; exact h3)⟩
         ·have:=hin _ _ c b' hrw hb'
          rw[hnone htm] at this
          exact Rep.keep (w:=w) (w':=w) (S:=nos) this.strip (Xk9 _) (Sub.rfl' _) (XN.refl _ w) (XN.refl _ w)
       cases t' with
       | «mut» =>
        injection he with he
        subst he hA
        refine⟨.pointer (some ⟨g,o+(lo+j)*zr,none⟩),.leaf (.p ⟨⟨g,o+(lo+j)*zr,?_,by simp⟩,⟨es.getD (lo+j) [],?_⟩,λe=>by simp at e⟩),hrun⟩
        ·simp only
         rw[Uy,f1]
         simp only[Option.bind,follow]
         rw[Y8 f2]
        ·simp only
         rw[Xbp _ _ (by unfold node at hn; exact hn)]
         rw[ZY,hc]
         simp only[Option.bind,shp,if_true]
         rw[hrw]
         rfl
       | ro=>injection he with he; exact other (by decide) he.symm
       | app=>injection he with he; exact other (by decide) he.symm
     ·cases he
    ·cases he
  ·cases he
 ·cases he
end Go.Vm
set_option autoImplicit false
namespace Go.Vm
variable {w0 : World} {L Im0 : CS} {st : St} {tm : Array Value} {w : World} {Im : CS} {base : Nat -> Nat × Nat} {SO : Bool -> Nat -> CS} {P : Program}
def XbV(h:Xp w0 L Im0 st tm w Im base SO){x:Operand}{d n l y:Nat}(hb:Z4 d n (some (view st x))=some l)(hy:n<=y)(code:BoundsCode):(∀w,(Instr.sliceBound (Xe tm x) y code).run P w=.ok l w)/\l<=n:=by
 have hx:=h.view x
 generalize Vm.view st x=vx at hb hx
 unfold Z4 at hb
 cases vx with
 | i k i =>
  simp only at hb
  split at hb
  ·rename_i hr
   injection hb with hb
   subst hb
   refine⟨λw=>?_,by omega⟩
   have hr':0<=i/\i<=(y:Int):=⟨hr.1,by omega⟩
   simp only[Instr.sliceBound,hx.i,asIntOf,Sem.run_bind,Sem.run_pure,Result.andThen_ok,Sem.run_ite,if_pos hr']
  ·cases hb
 | _=>cases hb
def XaC(h:Xp w0 L Im0 st tm w Im base SO){lo hi:Option Operand}{isS:Bool}{len n cap l k:Nat}(hh:Z4 len n (hi.map (view st))=some k)(hl:Z4 0 k (lo.map (view st))=some l)(hn:n<=cap)(hlen:len<=n) :
  (∀w,(Instr.sliceBounds isS len cap (lo.map (Xe tm)) (hi.map (Xe tm)) none).run P w=.ok (l,k,cap) w)/\l<=k/\k<=n:=by
 cases hi with
 | none =>
  simp only[Option.map,Z4,Option.some.injEq] at hh
  subst hh
  cases lo with
  | none=>simp only[Option.map,Z4,Option.some.injEq] at hl; subst hl; exact⟨λw=>by simp[Instr.sliceBounds],Nat.zero_le _,hlen⟩
  | some x =>
   obtain⟨h1,h2⟩:=XbV (P:=P) h hl (Nat.le_refl _) .sliceB
   exact⟨λw=>by simp[Instr.sliceBounds,h1],h2,hlen⟩
 | some y =>
  obtain⟨h1,h2⟩:=XbV (P:=P) h hh hn (if isS then .sliceAcap else .sliceAlen)
  cases lo with
  | none =>
   simp only[Option.map,Z4,Option.some.injEq] at hl
   subst hl
   refine⟨λw=>?_,Nat.zero_le _,h2⟩
   cases isS<;>simp at h1<;>simp[Instr.sliceBounds,h1]
  | some x =>
   obtain⟨h3,h4⟩:=XbV (P:=P) h hl (Nat.le_refl _) .sliceB
   refine⟨λw=>?_,h4,h2⟩
   cases isS<;>simp at h1<;>simp[Instr.sliceBounds,h1,h3]
def Xg4(h:Xp w0 L Im0 st tm w Im base SO){t:TypeId}{ti:TI}(hT:TIs P t ti){x:Operand}{lo hi:Option Operand}{a:AV}(he:Us ti (view st x) (lo.map (view st)) (hi.map (view st))=some a) :
  ∃v,PT st tm w Im base v a nos/\∀w':World,Frame w w' nos->∀o:Oper,o.op=.slice t x lo hi none->(execOp (Xe tm) o).run P w'=.ok (.value v) w':=by
 have hx:=h.view x
 generalize hvx:Vm.view st x=vx at he hx
 have cut:∀(e:TypeId) (i:TypeInfo) (A:Option Addr) (len cap l k:Nat),P.underlying t=some (.slice e)->P.info? e=some i->Xe tm x=.slice A len cap->(∀w,(Instr.sliceBounds true len cap (lo.map (Xe tm)) (hi.map (Xe tm)) none).run P w=.ok (l,k,cap) w) ->
   ∀w':World,Frame w w' nos->∀o:Oper,o.op=.slice t x lo hi none->(execOp (Xe tm) o).run P w'=.ok (.value (.slice (if cap=l then A else A.map (·.add (l*i.size))) (k-l) (cap-l))) w':=by
  intro e i A len cap l k hu hi' hv hb w' _ o ho
  simp only[execOp,ho,Instr.sliceAt,Sem.run_bind,Xk hu,Result.andThen_ok,hv,Instr.slice,Option.map_none,hb,Qs hi',Sem.run_pure]
 have addr:∀(A:Option Addr) (g off l cap z:Nat),l<cap->A=some ⟨g,off,none⟩->(if cap=l then A else A.map (·.add (l*z)))=some ⟨g,off+l*z,none⟩:=by
  intro A g off l cap z h1 h2
  subst h2
  rw[if_neg (by omega)]
  simp[ZF]
 unfold Us at he
 split at he
 ·rename_i b
  have hu:=hT.str
  simp only[Zt] at he
  cases hh:Z4 b.size b.size (hi.map (Vm.view st)) with
  | none=>rw[hh] at he; cases he
  | some k =>
   rw[hh] at he
   simp only at he
   cases hl:Z4 0 k (lo.map (Vm.view st)) with
   | none=>rw[hl] at he; cases he
   | some l =>
    rw[hl] at he
    injection he with he
    subst he
    obtain⟨hb,h1,h2⟩:=XaC (P:=P) h (isS:=false) hh hl (Nat.le_refl _) (Nat.le_refl _)
    refine⟨.string (b.extract l k),.leaf (.rep .s),λw' _ o ho=>?_⟩
    simp only[execOp,ho,Instr.sliceAt,Sem.run_bind,Xk hu,Result.andThen_ok,hx.s,Instr.slice,Option.map_none,Option.isSome_none,Bool.false_eq_true,if_false,Sem.run_pure,hb]
 ·rename_i z' b zero t' z es
  split at he
  ·rename_i hz
   subst hz
   obtain⟨e,i,zv,hu,hi',hsz,_⟩:=hT.slice
   cases t' with
   | ro =>
    simp only[Zt] at he
    have hR:=hx.sl
    generalize hv:Xe tm x=v at hR
    cases hR with
    | sl g off vs Sf hn hc hL hA hz hrow hin hf hsub hd hself hnone =>
     rename_i A len cap
     cases hh:Z4 es.length es.length (hi.map (Vm.view st)) with
     | none=>rw[hh] at he; cases he
     | some k =>
      rw[hh] at he
      simp only at he
      cases hl:Z4 0 k (lo.map (Vm.view st)) with
      | none=>rw[hl] at he; cases he
      | some l =>
       rw[hl] at he
       injection he with he
       subst he
       have hR2:Rep w Im (.slice A len cap) (.sl .ro z' es) nos:=by rw[<-hv]; exact hx.sl
       obtain⟨hb,h1,h2⟩:=XaC (P:=P) h (isS:=true) hh hl (show es.length<=cap by omega) (Nat.le_refl _)
       rw[hn] at hb
       refine⟨_,.leaf (.rep (hR2.part (lo:=l) (n:=k-l) (by omega) (by omega) (A':=if cap=l then A else A.map (·.add (l*i.size))) (λhlt=>⟨g,off,hA (by omega),?_⟩) (λe=>by cases e))),cut e i A len cap l k hu hi' hv hb⟩
       rw[<-hsz]; exact addr A g off l cap i.size hlt (hA (by omega))
   | app=>simp only[Zt] at he; cases he
   | «mut»=>simp only[Zt] at he; cases he
  ·cases he
 ·rename_i z' b zero pl z o n
  split at he
  ·rename_i hz
   subst hz
   obtain⟨e,i,zv,hu,hi',hsz,_⟩:=hT.slice
   simp only[Zt] at he
   cases hh:Z4 n n (hi.map (Vm.view st)) with
   | none=>rw[hh] at he; cases he
   | some k =>
    rw[hh] at he
    simp only at he
    cases hl:Z4 0 k (lo.map (Vm.view st)) with
    | none=>rw[hl] at he; cases he
    | some l =>
     rw[hl] at he
     injection he with he
     subst he
     obtain⟨⟨l0,A,N,cap,A',f1,f2,f3,f4,f5,f6⟩,hok⟩:=hx.rf
     obtain⟨hb,h1,h2⟩:=XaC (P:=P) h (isS:=true) (cap:=cap-o) hh hl (by omega) (Nat.le_refl _)
     refine⟨.slice (if cap-o=l then A' else A'.map (·.add (l*i.size))) (k-l) (cap-o-l),.leaf (.rf ⟨⟨l0,A,N,cap,(if cap-o=l then A' else A'.map (·.add (l*i.size))),f1,f2,?_,by omega,f5,λhlt=>?_⟩,hok⟩ rfl),cut e i A' n (cap-o) l k hu hi' f3 hb⟩
     ·rw[show cap-o-l=cap-(o+l) by omega]
     ·obtain⟨g,off,e1,e2⟩:=f6 (by omega)
      refine⟨g,off,e1,?_⟩
      rw[addr A' g (off+o*z') l (cap-o) i.size (by omega) e2,hsz,Nat.add_mul]
      congr 2; omega
  ·cases he
 ·cases he
end Go.Vm
set_option autoImplicit false
namespace Go.Vm
variable {w0 : World} {L Im0 : CS} {st : St} {tm : Array Value} {w : World} {Im : CS} {base : Nat -> Nat × Nat} {SO : Bool -> Nat -> CS} {P : Program}
def Ul(h:Xp w0 L Im0 st tm w Im base SO){x:Operand}{es:List (List AV)}(he:XC st (view st x)=some es) :
  ∃(A:Option Addr) (cap:Nat),Xe tm x=.slice A es.length cap/\es.length<=cap/\(es≠[]->∃(g o z:Nat) (vs:Nat->Nat->Value) (Sf:Nat->Nat->CS),A=some ⟨g,o,none⟩/\(∀(i:Nat) (row:List AV),es[i]?=some row->row.length=z) /\
   (∀(i:Nat) (row:List AV) (j:Nat) (a:AV),es[i]?=some row->row[j]?=some a->Xt w g (o+(i*z+j))=some (vs i j)/\(Xai SO g (o+(i*z+j))\/Im g (o+(i*z+j)))) /\
   ∀(i:Nat) (row:List AV) (j:Nat) (a:AV),es[i]?=some row->row[j]?=some a->Rep w Im (vs i j) a (Sf i j)/\Sub (Sf i j) (Xai SO)):=by
 have hx:=h.view x
 generalize hvx:Vm.view st x=vx at he hx
 have rep:∀{A:Option Addr} {n cap z:Nat} {t:Tag} {es:List (List AV)} {S:CS},Rep w Im (.slice A n cap) (.sl t z es) S->Sub S (Xai SO)->Xe tm x=.slice A n cap->∃(A:Option Addr) (cap:Nat),Xe tm x=.slice A es.length cap/\es.length<=cap/\(es≠[]->∃(g o z:Nat) (vs:Nat->Nat->Value) (Sf:Nat->Nat->CS),A=some ⟨g,o,none⟩/\(∀(i:Nat) (row:List AV),es[i]?=some row->row.length=z) /\
   (∀(i:Nat) (row:List AV) (j:Nat) (a:AV),es[i]?=some row->row[j]?=some a->Xt w g (o+(i*z+j))=some (vs i j)/\(Xai SO g (o+(i*z+j))\/Im g (o+(i*z+j)))) /\
   ∀(i:Nat) (row:List AV) (j:Nat) (a:AV),es[i]?=some row->row[j]?=some a->Rep w Im (vs i j) a (Sf i j)/\Sub (Sf i j) (Xai SO)):=by
  intro A n cap z t es S hR hS hv
  cases hR with
  | sl g off vs Sf hn hc hL hA hz hrow hin hf hsub hd hself hnone =>
   refine⟨A,cap,by rw[hn]; exact hv,by omega,λhne=>⟨g,off,z,vs,Sf,hA (by have:=List.length_pos_iff.2 hne; omega),hz,λi row j a hi hj=>⟨hrow i row j a hi hj,?_⟩,λi row j a hi hj=>⟨hin i row j a hi hj,(hsub i j).trans hS⟩⟩⟩
   obtain⟨h1,h2,h3⟩:=Vm.idx_lt hz hi hj
   rw[hn] at h3
   by_cases ht:t=.mut
   ·exact .inl (hS _ _ (hf.own ht _ (Nat.lt_of_lt_of_le h3 (Nat.mul_le_mul_right _ hc))))
   ·exact .inr (hf.imm ht _ h3)
 cases vx with
 | nil =>
  injection he with he
  subst he
  exact⟨none,0,hx.nil,Nat.le_refl _,λh=>absurd rfl h⟩
 | sl t z es' =>
  injection he with he
  subst he
  have hR:=hx.sl
  have:∃A n cap,Xe tm x=.slice A n cap:=by
   generalize Xe tm x=v at hR
   cases hR; exact⟨_,_,_,rfl⟩
  obtain⟨A,n,cap,hv⟩:=this
  rw[hv] at hR
  exact rep hR (Xo _) hv
 | rf pl z lo n =>
  simp only[XC] at he
  cases hn:node st pl with
  | none=>rw[hn] at he; cases he
  | some cells =>
   rw[hn] at he
   simp only at he
   split at he
   ·rename_i t z' es' hc
    split at he
    ·rename_i hcond
     obtain⟨_,rfl⟩:=hcond
     injection he with he
     subst he
     obtain⟨A,N,cap,A',V,e1,e2,e3,e4,e5,hR,hV,_⟩:=h.lookRf hx.rf hn hc
     have hR2:Rep w Im (.slice A N cap) (.sl .ro z es') V\/Rep w Im (.slice A N cap) (.sl .mut z es') V:=by
      cases t with
      | ro=>exact .inl hR
      | «mut»=>exact .inr hR
      | app=>exact .inl ((hR.toRo (by decide)).keep (Sub.rfl' _) (Xo _) (XN.refl _ _) (XN.refl _ _))
     rcases hR2 with hR2 | hR2
     ·exact rep (hR2.part (lo:=lo) (n:=n) e2 e3 e5 (λe=>by cases e)) (λb k hb=>⟨_,_,hV b k hb⟩) e1
     ·exact rep (hR2.part (lo:=lo) (n:=n) e2 e3 e5 (λe=>by cases e)) (λb k hb=>⟨_,_,hV b k hb⟩) e1
    ·cases he
   ·cases he
 | _=>cases he
def Xla(h:Xp w0 L Im0 st tm w Im base SO){tx:TypeId}{ti:TI}(hT:TIs P tx ti){x:Operand}{n:Nat}(he:XkE st ti (view st x)=some n)(ts:List TypeId)(ty:TypeId) :
  ∀w,(Builtin.len_ (tx :: ts).toArray ty #[Xe tm x]).run P w=.ok (.int .i64 n) w:=by
 have hx:=h.view x
 unfold XkE at he
 split at he
 ·have hu:=hT.str
  generalize hvx:Vm.view st x=vx at he hx
  cases vx with
  | s b =>
   injection he with he
   subst he
   intro w
   simp[Builtin.len_,Xk hu,hx.s,goInt]
  | _=>cases he
 ·obtain⟨e,i,zv,hu,_⟩:=hT.slice
  have key:∀A m cap,Xe tm x=.slice A m cap->m=n->∀w,(Builtin.len_ (tx :: ts).toArray ty #[Xe tm x]).run P w=.ok (.int .i64 n) w:=by
   intro A m cap e1 e2 w
   subst e2
   simp[Builtin.len_,Xk hu,e1,goInt]
  by_cases hfs:∃es,Vm.view st x=.fs es
  ·obtain⟨es,hes⟩:=hfs
   rw[hes] at he hx
   injection he with he
   obtain⟨A,m,cap,g,off,vs,e1,e2,_⟩:=hx.fs
   exact key A m cap e1 (by omega)
  ·have he2:∃es,XC st (Vm.view st x)=some es/\es.length=n:=by
    unfold lenOf at he
    split at he
    ·rename_i es hes; exact absurd ⟨es,hes⟩ hfs
    ·cases hc:XC st (Vm.view st x) with
     | none=>rw[hc] at he; cases he
     | some es=>rw[hc] at he; injection he with he; exact⟨es,rfl,he⟩
   obtain⟨es,he3,he4⟩:=he2
   obtain⟨A,cap,e1,_⟩:=Ul h he3
   exact key A _ cap e1 he4
 ·cases he
def UV{Pt:Pl->Addr->Prop}{Rf:Pl->Nat->Nat->Nat->Value->Prop}{v:Value}{a:AV}{S:CS}(h:Top w Im Pt Rf v a S)(ha:ZC a=true):Yy w Im Pt Rf v a S:=by
 cases h with
 | u=>simp[ZC] at ha
 | no=>simp[ZC] at ha
 | leaf h=>exact h
 | agg=>simp[ZC] at ha
 | tup=>simp[ZC] at ha
def Xdm(h:Xp w0 L Im0 st tm w Im base SO){f:Nat}{first caps:Array Operand}(he:(first.isEmpty&&(caps.toList.map (view st)).all ZC)=true) :
  ∃v,PT st tm w Im base v (.fn f (caps.toList.map (view st))) nos/\∀w':World,Frame w w' nos->∀o:Oper,o.op=.makeFunc (.func f) first caps->(execOp (Xe tm) o).run P w'=.ok (.value v) w':=by
 simp only[Bool.and_eq_true] at he
 obtain⟨h1,h2⟩:=he
 refine⟨.func (.func f) #[] (caps.toList.map (Xe tm)).toArray,.leaf (.fn _ (by simp) (λj v a hv ha=>?_)),λw' _ o ho=>?_⟩
 ·simp only[List.getElem?_map] at hv ha
  cases hc:caps.toList[j]? with
  | none=>rw[hc] at hv; cases hv
  | some x =>
   rw[hc] at hv ha
   simp only[Option.map_some,Option.some.injEq] at hv ha
   subst hv ha
   exact UV (h.view x) (List.all_eq_true.1 h2 _ (List.mem_map.2 ⟨x,List.mem_of_getElem? hc,rfl⟩))
 ·have hf:first=#[]:=by simpa using h1
  subst hf
  simp[execOp,ho,Instr.makeFunc]
  exact Array.ext' (by simp)
def XiC(h:Xp w0 L Im0 st tm w Im base SO):∀(xs:List Operand) {k:IntKind} {n:Int} {a:AV} {f:Int->Int->Int} {g:Value->Value->Sem Value},(∀k x y w,(g (.int k x) (.int k y)).run P w=.ok (.int k (f x y)) w)->(∀k j x y w,(g (.int k x) (.int j y)).run P w=.ok (.int k (f x y)) w) ->
  Xdb f (.i k n :: xs.map (view st))=some a->∃v,Rep w Im v a nos/\∀w,((xs.map (Xe tm)).foldlM g (.int k n)).run P w=.ok v w:=by
 intro xs
 induction xs with
 | nil =>
  intro k n a f g h1 h2 he
  simp only[List.map_nil,Xdb,Option.some.injEq] at he
  subst he
  exact⟨_,.i,λw=>rfl⟩
 | cons x xs ih =>
  intro k n a f g h1 h2 he
  have hx:=h.view x
  simp only[List.map_cons] at he ⊢
  generalize hvx:Vm.view st x=vx at he hx
  cases vx with
  | i j m =>
   simp only[Xdb] at he
   obtain⟨v,r1,r2⟩:=ih h1 h2 he
   refine⟨v,r1,λw=>?_⟩
   simp only[List.foldlM_cons,Sem.run_bind,hx.i,h2,Result.andThen_ok,r2]
  | _=>simp[Xdb] at he
end Go.Vm
set_option autoImplicit false
namespace Go.Vm
variable {w0 : World} {L Im0 : CS} {st : St} {tm : Array Value} {w : World} {Im : CS} {base : Nat -> Nat × Nat} {SO : Bool -> Nat -> CS} {P : Program}
def X2(w:World)(o:Obj):Frame w (w.alloc o) nos:=by
 refine⟨rfl,rfl,rfl,by simp,λg hg=>.inl ?_⟩
 simp only[World.alloc]
 rw[Array.getElem?_push]
 rw[if_neg (by omega)]
def Zj(w:World)(c:Array Value)(ty:TypeId)(k:Nat):Xt (w.alloc (.cells c ty)) w.heap.size k=c[k]?:=World.cell?_alloc_new w c ty k
def Y2(w:World)(c:Array Value)(ty:TypeId)(k:Nat):YE (w.alloc (.cells c ty)) w.heap.size k=false:=World.frozen?_alloc_new w c ty k
def ZG{c i z:Nat}{ps:List (Nat×Nat×Nat)}:nav [] ((c,i,z) :: ps)=none:=by simp[nav,YC]
def Xp.newBox(h:Xp w0 L Im0 st tm w Im base SO){d:Nat}(hd:d<tm.size)(hs:Yp (st.env d)=false){us:List Value}{cs:List AV}(hl:us.length=cs.length)(nS:Nat->CS)
  (hleaf:∀(j:Nat) (v:Value) (a:AV),us[j]?=some v->cs[j]?=some a->PL st tm w Im base v a (nS j)) (hnd:∀i j,i≠j->XY (nS i) (nS j)) (hsp:∀j,Xw w0 L w Im SO (nS j)) (ty:TypeId) (hne:cs≠[]) :
  ∃(SO':Bool->Nat->CS),Xp w0 L Im0 (newBox st d cs) (tm.setIfInBounds d (.pointer (some ⟨w.heap.size,0,none⟩))) (w.alloc (.cells us.toArray ty)) Im (upd base d (w.heap.size,0)) SO':=by
 have hfr:=X2 w (.cells us.toArray ty)
 have h1:=h.world hfr
 have hsame:∀S:CS,(∀g k,S g k->g<w.heap.size)->XN S w (w.alloc (.cells us.toArray ty)):=λS hS=>hfr.same (λ_ _ _ h=>h.elim) hS
 have hc:∀g k v,Xt w g k=some v->Xt (w.alloc (.cells us.toArray ty)) g k=some v:=by
  intro g k v hv
  have hlt:g<w.heap.size:=World.block_lt_of_cell? w ⟨g,k,none⟩ hv
  rw[(hsame (λg' k'=>g'=g/\k'=k) (λg' k' e=>e.1▸hlt) g k ⟨rfl,rfl⟩).1]; exact hv
 let w':=w.alloc (.cells us.toArray ty)
 let tm':=tm.setIfInBounds d (.pointer (some ⟨w.heap.size,0,none⟩))
 let base':Nat->Nat×Nat:=upd base d (w.heap.size,0)
 let nb:CS:=λb k=>(b=w.heap.size/\k<us.length)\/∃j,nS j b k
 let SO':Bool->Nat->CS:=λe r=>if r=d then(if e then nos else nb) else SO e r
 have gen:∀(kp kr:Pl->Bool),(∀q ad,kp q=true->Pt st tm w' base q ad->¬(q.e=false/\q.r=d))->(∀q z lo n v,kr q=true->Rf st tm w' base q z lo n v->¬(q.e=false/\q.r=d)) ->
   Xp w0 L Im0 ⟨upd (st.filt kp kr).env d (.p ⟨false,d,[],0⟩),upd (st.filt kp kr).bx d (XR kp kr cs)⟩ tm' w' Im base' SO':=by
  intro kp kr hkp hkr
  let st':St:=⟨upd (st.filt kp kr).env d (.p ⟨false,d,[],0⟩),upd (st.filt kp kr).bx d (XR kp kr cs)⟩
  have hroot:∀e r,r≠d->Xa st' e r=XR kp kr (Xa st e r):=by
   intro e r hr
   have:Xa st' e r=Xa (st.filt kp kr) e r:=by
    cases e with
    | false=>simp only[Xa,st',Bool.false_eq_true,if_false]; rw[Yr _ _ hr]
    | true=>simp only[Xa,st',if_true]; rw[Yr _ _ hr]
   rw[this,Zm]
  have hrl:∀e r,r≠d->Yn base' e r=Yn base e r:=by
   intro e r hr
   cases e with
   | true=>rfl
   | false=>simp only[Yn,base',Bool.false_eq_true,if_false]; rw[Yr _ _ hr]
  have nd:∀q:Pl,¬(q.e=false/\q.r=d)->¬(q.e=true/\q.r=d)->q.r≠d:=by
   intro q h1 h2 hr
   cases he:q.e
   ·exact h1 ⟨he,hr⟩
   ·exact h2 ⟨he,hr⟩
  have hfol:∀(q:Pl),q.r≠d->follow tm' w' (Yn base' q.e q.r) q.path=follow tm w' (Yn base q.e q.r) q.path:=by
   intro q hr
   rw[hrl _ _ hr]
   exact Q6 (Qo (λx=>hr x.2)) _
  have hp:∀q ad,kp q=true->Pt st tm w' base q ad->Pt st' tm' w' base' q ad:=by
   intro q ad hk hq
   have hr:=nd q (hkp q ad hk hq) (hq.off hs)
   obtain⟨⟨g,o,k1,k2⟩,⟨row,k3⟩,k4⟩:=hq
   refine⟨⟨g,o,by rw[hfol q hr]; exact k1,k2⟩,?_,λe=>⟨(k4 e).1,?_⟩⟩
   ·rw[hroot _ _ hr,Q5]
    split
    ·exact⟨_,rfl⟩
    ·exact⟨row,k3⟩
   ·simp only[st']
    rw[Yr _ _ hr]
    exact(Y7 kp kr _).2 (k4 e).2
  have hr:∀q z lo n v,kr q=true->Rf st tm w' base q z lo n v->Rf st' tm' w' base' q z lo n v:=by
   intro q z lo n v hk hq
   have hr:=nd q (hkr q z lo n v hk hq) (hq.off hs)
   obtain⟨⟨l,A,N,cap,A',k1,k2,k3⟩,row,k4,k5⟩:=hq
   have hlne:l≠.slot d:=by
    cases hp:q.path with
    | nil=>rw[hp] at k1; simp only[follow,Option.some.injEq] at k1; rw[<-k1]; exact Qo (λx=>hr x.2)
    | cons x ps =>
     obtain⟨c,i,z⟩:=x
     rw[hp] at k1 k4
     obtain⟨l2,f1,_,f3,_⟩:=(h1.root q.e q.r (λe=>XbT (by rw[<-hp] at k4; exact k4) (by rw[hp]; simp) e)).look (λ_ _ _ _ _ h=>h.sl) (λ_ _ _ h=>.rep h) _ k4
     rw[k1] at f1
     injection f1 with f1
     subst f1
     obtain⟨g,o,e⟩:=f3 (by simp)
     rw[e]; intro x; cases x
   refine⟨⟨l,A,N,cap,A',by rw[hfol q hr]; exact k1,by rw[Xag hlne]; exact k2,k3⟩,?_⟩
   unfold YG
   rw[hroot _ _ hr,Q5]
   split
   ·rename_i hpath
    rw[hpath] at k4
    simp only[nav,Option.some.injEq] at k4
    subst k4
    exact⟨_,rfl,by rw[Qn]; exact k5⟩
   ·exact⟨row,k4,k5⟩
  have leaf:∀v a V,PL st tm w' Im base v a V->PL st' tm' w' Im base' v (filt kp kr a) V:=λv a V hl=>hl.filt kp kr hp hr
  have hsz:∀g k,(∃j,nS j g k)->g<w.heap.size:=λg k ⟨j,hj⟩=>(hsp j).ins g k hj
  refine⟨λt=>?_,λr=>?_,?_,?_,h1.inI,?_,h1.imm,h1.fromI,?_,h1.frame⟩
  ·by_cases ht:t=d
   ·subst ht
    simp only[st',tm',SO',Zf,if_true]
    rw[ZX _ _ _ hd]
    refine .leaf (.p ⟨⟨w.heap.size,0,?_,rfl⟩,⟨XR kp kr cs,?_⟩,λ_=>⟨rfl,?_⟩⟩)
    ·simp only[Yn,base',Zf,follow,Bool.false_eq_true,if_false]
    ·simp only[Xa,Bool.false_eq_true,if_false,Zf,nav]
    ·simp only[Zf]; exact(Y7 kp kr _).2 hne
   ·have e1:st'.env t=filt kp kr (st.env t):=by simp only[st']; rw[Yr _ _ ht]; rfl
    have e2:SO' true t=SO true t:=by simp only[SO',if_neg ht]
    rw[e1,e2]
    have:=(h1.env t).filt kp kr hp hr
    simp only[tm']
    rw[Y1 _ _ _ _ ht]
    exact this
  ·by_cases ht:r=d
   ·subst ht
    have e2:SO' false r=nb:=by simp[SO']
    rw[e2]
    simp only[st',base',Zf]
    refine⟨λj=>us.getD j undef,nS,λj a hj=>?_,λj a hj=>?_,λj b k hb=>.inr ⟨j,hb⟩,hnd,λg o e j hj=>?_⟩
    ·have hjl:j<us.length:=by have:=(List.getElem?_eq_some_iff.1 hj).1; rw[XT] at this; omega
     simp only[YW,w',Nat.zero_add,Zj]
     simp[List.getD,hjl]
    ·rw[Yq] at hj
     obtain⟨a',ha',rfl⟩:=Option.map_eq_some_iff.1 hj
     have hjl:j<us.length:=by have:=(List.getElem?_eq_some_iff.1 ha').1; omega
     refine leaf _ _ _ ((hleaf j _ a' ?_ ha').keep (Sub.rfl' _) (hsame _ h.inI) (λ_ _=>Pt.world hc) (λ_ _ _ _ _=>Rf.world hc) (Sub.rfl' _) (hsame _ (hsp j).ins))
     simp[List.getD,hjl]
    ·injection e with e1 e2
     subst e1 e2
     rw[XT] at hj
     refine⟨.inl ⟨rfl,by omega⟩,⟨Y2 _ _ _ _,λ_ q=>Y2 _ _ _ q⟩,λi hb=>?_⟩
     have:=(hsp i).ins _ _ hb
     exact Nat.lt_irrefl _ this
   ·have e1:st'.bx r=XR kp kr (st.bx r):=by simp only[st']; rw[Yr _ _ ht]; rfl
    have e2:SO' false r=SO false r:=by simp only[SO',if_neg ht]
    have e3:base' r=base r:=Yr _ _ ht
    rw[e1,e2,e3]
    obtain⟨vs2,Sf2,c1,c2,c3,c4,c5⟩:=h1.bx r
    refine⟨vs2,Sf2,λj a hj=>?_,λj a hj=>?_,c3,c4,λg oo e j hj=>by have hq:=c5 g oo e j (by simpa[XT] using hj); rwa [<-XT kp kr] at hq⟩
    all_goals
     rw[Yq] at hj
     obtain⟨a',ha',rfl⟩:=Option.map_eq_some_iff.1 hj
    ·exact c1 j a' ha'
    ·exact leaf _ _ _ (c2 j a' ha')
  ·have hnb:∀e r,XY nb (SO e r):=by
    intro e r b k hb hb'
    rcases hb with⟨rfl,_⟩ | ⟨j,hj⟩
    ·exact Nat.lt_irrefl _ (h.inS e r _ _ hb')
    ·exact(hsp j).dis e r b k hj hb'
   intro e r e' r' hne'
   simp only[SO']
   by_cases c1:r=d
   ·by_cases c2:r'=d
    ·rw[if_pos c1,if_pos c2]
     cases e<;>cases e'<;>simp
     ·exact absurd ⟨rfl,c1.trans c2.symm⟩ hne'
     ·exact XM _
     ·exact Xh _
     ·exact Xh _
    ·rw[if_pos c1,if_neg c2]
     cases e<;>simp
     ·exact hnb _ _
     ·exact Xh _
   ·rw[if_neg c1]
    by_cases c2:r'=d
    ·rw[if_pos c2]
     cases e'<;>simp
     ·exact(hnb _ _).symm
     ·exact XM _
    ·rw[if_neg c2]; exact h.dis e r e' r' hne'
  ·intro e r
   simp only[SO']
   split
   ·cases e<;>simp
    ·intro b k hb hb'
     rcases hb with⟨rfl,_⟩ | ⟨j,hj⟩
     ·exact Nat.lt_irrefl _ (h.inI _ _ hb')
     ·exact(hsp j).disI b k hj hb'
    ·exact Xh _
   ·exact h.disI e r
  ·intro e r g k hS
   simp only[SO'] at hS
   have hws:w'.heap.size=w.heap.size+1:=by simp[w']
   split at hS
   ·cases e<;>simp at hS
    ·rcases hS with⟨rfl,_⟩ | hj
     ·omega
     ·have:=hsz g k hj; omega
    ·exact hS.elim
   ·have:=h.inS e r g k hS; omega
  ·intro e r g k hS
   simp only[SO'] at hS
   split at hS
   ·cases e<;>simp at hS
    ·rcases hS with⟨rfl,_⟩ | ⟨j,hj⟩
     ·exact .inr h.frame.size
     ·exact(hsp j).from_ g k hj
    ·exact hS.elim
   ·exact h.fromS e r g k hS
 refine⟨SO',?_⟩
 unfold Vm.newBox
 split
 ·rename_i hemp
  have hemp':st.bx d=[]:=by simpa using hemp
  have:=gen all all (λq ad _ hq hx=>by
   obtain⟨_,⟨row,k3⟩,k4⟩:=hq
   by_cases hpath:q.path=[]
   ·rw[hx.2] at k4; exact(k4 hpath).2 hemp'
   ·obtain⟨⟨c,i,z⟩,ps,hps⟩:=List.exists_cons_of_ne_nil hpath
    rw[hps,hx.1,hx.2] at k3
    simp only[Xa,Bool.false_eq_true,if_false,hemp'] at k3
    rw[ZG] at k3; cases k3) (λq z lo n v _ hq hx=>by
   obtain⟨_,row,k3,k4⟩:=hq
   rw[hx.1,hx.2] at k3
   simp only[Xa,Bool.false_eq_true,if_false,hemp'] at k3
   cases hpath:q.path with
   | nil=>rw[hpath] at k3; simp only[nav,Option.some.injEq] at k3; subst k3; simp at k4
   | cons x ps=>obtain⟨c,i,z⟩:=x; rw[hpath,ZG] at k3; cases k3)
  rw[St.filt_id,filtL_id] at this
  exact this
 ·exact gen _ _ (λq ad hk _=>XZ.1 hk) (λq z lo n v hk _=>XZ.1 hk)
end Go.Vm
set_option autoImplicit false
namespace Go.Vm
variable {w0 : World} {L Im0 : CS} {st : St} {tm : Array Value} {w : World} {Im : CS} {base : Nat -> Nat × Nat} {SO : Bool -> Nat -> CS} {P : Program}
def blk(g:Nat):CS:=λb _=>b=g
def XbW{w':World}{g n cap z:Nat}{es:List (List AV)}(hn:es.length=n)(hc:n<=cap)(hL:n<=9223372036854775807)(cells:Nat->Value)(hcell:∀k,k<cap*z->Xt w' g k=some (cells k))(hfz:∀k,k<cap*z->fz w' g k z)
  (hz:∀(i:Nat) (row:List AV),es[i]?=some row->row.length=z) (Sf:Nat->Nat->CS) (hin:∀(i:Nat) (row:List AV) (j:Nat) (a:AV),es[i]?=some row->row[j]?=some a->Rep w' Im (cells (i*z+j)) a (Sf i j))
  (hd:∀i j i' j',¬(i=i'/\j=j')->XY (Sf i j) (Sf i' j')) (hself:∀i j k,¬Sf i j g k):Rep w' Im (.slice (some ⟨g,0,none⟩) n cap) (.sl .mut z es) (un (blk g) (λb k=>∃i j,Sf i j b k)):=by
 refine .sl g 0 (λi j=>cells (i*z+j)) Sf hn hc hL (λ_=>rfl) hz (λi row j a hi hj=>?_) hin ⟨λ_ k hk=>.inl rfl,(λe=>by cases e),λ_ k hk=>?_,λe=>absurd rfl e⟩ (λi j b k hb=>.inr ⟨i,j,hb⟩) hd (λ_ i j k _ hb=>?_) (λe=>absurd rfl e)
 ·obtain⟨h1,h2,h3⟩:=idx_lt hz hi hj
  rw[Nat.zero_add]
  exact hcell _ (Nat.lt_of_lt_of_le h3 (Nat.mul_le_mul_right _ (by omega)))
 ·rw[Nat.zero_add]; exact⟨⟨_,hcell k hk⟩,hfz k hk⟩
 ·rw[Nat.zero_add] at hb; exact hself i j k hb
def Xp.putNew(h:Xp w0 L Im0 st tm w Im base SO){d:Nat}(hd:d<tm.size){w':World}(hf:Frame w w' nos)(hsz:w.heap.size<w'.heap.size){v:Value}{a:AV}{V:CS}(hv:Rep w' Im v a (un (blk w.heap.size) V))(hV:Xw w0 L w Im SO V) :
  ∃SO',Xp w0 L Im0 (st.put d a) (tm.setIfInBounds d v) w' Im base SO':=by
 have h1:=h.world hf
 refine⟨_,h1.put hd (.leaf (.rep hv)) ?_ ?_ ?_ ?_⟩
 ·intro e r _ b k hb hb'
  rcases hb with hb | hb
  ·have:=h.inS e r b k hb'; rw[hb] at this; exact Nat.lt_irrefl _ this
  ·exact hV.dis e r b k hb hb'
 ·intro b k hb hb'
  rcases hb with hb | hb
  ·have:=h.inI b k hb'; rw[hb] at this; exact Nat.lt_irrefl _ this
  ·exact hV.disI b k hb hb'
 ·intro g k hb
  rcases hb with hb | hb
  ·rw[hb]; exact hsz
  ·exact Nat.lt_trans (hV.ins g k hb) hsz
 ·intro g k hb
  rcases hb with hb | hb
  ·rw[hb]; exact .inr h.frame.size
  ·exact hV.from_ g k hb
def XbX(z:Array Value)(n k:Nat)(hk:k<n):(madeCells z n)[k]?=some (z[k%z.size]!):=by
 simp[madeCells,hk]
def Xi6(h:Xp w0 L Im0 st tm w Im base SO){t:TypeId}{ti:TI}(hT:TIs P t ti){x y:Operand}{a:AV}(he:Xer ti (view st x) (view st y)=some a){d:Nat}(hd:d<tm.size) :
  ∃(v:Value) (w':World) (SO':Bool->Nat->CS),(∀o:Oper,o.op=.makeSlice t x y->(execOp (Xe tm) o).run P w=.ok (.value v) w')/\Frame w w' nos/\Xp w0 L Im0 (st.put d a) (tm.setIfInBounds d v) w' Im base SO':=by
 have hx:=h.view x
 have hy:=h.view y
 generalize hvx:Vm.view st x=vx at he hx
 generalize hvy:Vm.view st y=vy at he hy
 unfold Xer at he
 split at he
 ·rename_i z bytes zero k n j m
  split at he
  ·rename_i hcond
   obtain⟨rfl,h0,hb⟩:=hcond
   injection he with he
   subst he
   obtain⟨e,i,zv,hu,hi,hsz,hby,hb0,hz,hzo,hzl,_⟩:=hT.slice
   have hbytes:(i.bytes:Int)*n<=281474976710656:=by rw[hby,Int.mul_comm]; omega
   have hle:n<=9223372036854775807:=by
    have:(1:Int)*n<=bytes*n:=Int.mul_le_mul_of_nonneg_right (by omega) h0
    rw[Int.mul_comm] at hb
    omega
   have hrun:=run_make (P:=P) w t e i zv hu hi hz k j n n h0 (Int.le_refl _) hbytes hle
   obtain⟨g1,g2⟩:=ZK hzo
   have hzs:zv.cells.size=z:=by rw[<-hzl,<-g1]; simp
   let cells:Nat->Value:=λq=>zv.cells[q%zv.cells.size]!
   have hcell:∀q,q<n.toNat*z->Xt (w.alloc (.cells (madeCells zv.cells (n.toNat*i.size)) e)) w.heap.size q=some (cells q):=by
    intro q hq
    rw[Zj,XbX _ _ _ (by rw[hsz]; exact hq)]
   have hrep:=XbW (Im:=Im) (w':=w.alloc (.cells (madeCells zv.cells (n.toNat*i.size)) e)) (g:=w.heap.size) (n:=n.toNat) (cap:=n.toNat) (z:=z) (es:=List.replicate n.toNat zero) (by simp) (Nat.le_refl _) (by omega) cells hcell (λq _=>⟨Y2 _ _ _ _,λ_ _=>Y2 _ _ _ _⟩)
    (λi row hi=>by rw[List.getElem?_replicate] at hi; split at hi<;>simp at hi; rw[<-hi]; exact hzl) (λ_ _=>nos) (λr row c b hr hc=>by
     rw[List.getElem?_replicate] at hr
     split at hr
     ·injection hr with hr
      subst hr
      have hlt:c<z:=by rw[<-hzl]; exact(List.getElem?_eq_some_iff.1 hc).1
      have hmod:(r*z+c)%zv.cells.size=c:=by rw[hzs,Nat.mul_comm,Nat.mul_add_mod,Nat.mod_eq_of_lt hlt]
      have hltz:c<zv.cells.size:=by omega
      have:cells (r*z+c)=zv.cells[c]:=by
       simp only[cells,hmod]
       simp[hltz]
      rw[this]
      refine QS (g2 c _ b ?_ hc)
      simp[hltz]
     ·cases hr) (λ_ _ _ _ _=>Xh _) (λ_ _ _ h=>h)
   obtain⟨SO',r1⟩:=h.putNew (V:=λb k=>∃i j,nos b k) hd (X2 w (.cells (madeCells zv.cells (n.toNat*i.size)) e)) (by simp) hrep (Xw.nos.mono (λb k hb=>by obtain⟨_,_,hb⟩:=hb; exact hb))
   refine⟨_,_,SO',λo ho=>?_,X2 _ _,r1⟩
   simp only[execOp,ho,hx.i,hy.i,Sem.run_bind,hrun,Result.andThen_ok]
   rfl
  ·cases he
 ·cases he
end Go.Vm
set_option autoImplicit false
namespace Go.Vm
variable {w0 : World} {L Im0 : CS} {st : St} {tm : Array Value} {w : World} {Im : CS} {base : Nat -> Nat × Nat} {SO : Bool -> Nat -> CS} {P : Program}
def Top.cells{Pt:Pl->Addr->Prop}{Rf:Pl->Nat->Nat->Nat->Value->Prop}{v:Value}{a:AV}{S:CS}(h:Top w Im Pt Rf v a S)(ha:top a=true):∃(us:List Value) (nS:Nat->CS),v.cells=us.toArray/\us.length=(cellsOf a).length /\
  (∀(j:Nat) (u:Value) (b:AV),us[j]?=some u->(cellsOf a)[j]?=some b->Yy w Im Pt Rf u b (nS j))/\(∀j,Sub (nS j) S)/\∀i j,i≠j->XY (nS i) (nS j):=by
 cases h with
 | u=>simp[Vm.top] at ha
 | no=>simp[Vm.top] at ha
 | leaf h =>
  rw[h.noAgg]
  refine⟨[v],λj=>if j=0 then S else Vm.nos,Zq h.one,rfl,λj u b hu hb=>?_,λj=>?_,λi j hij=>?_⟩
  ·cases j with
   | zero=>simp only[List.getElem?_cons_zero,Option.some.injEq] at hu hb; subst hu hb; exact h
   | succ j=>simp at hb
  ·show Sub (if j=0 then S else Vm.nos) S
   split
   ·exact Sub.rfl' _
   ·exact Xo _
  ·by_cases hi:i=0
   ·have hj:j≠0:=λe=>hij (hi.trans e.symm)
    simp only[hj,if_false]; exact XM _
   ·simp only[hi,if_false]; exact Xh _
 | agg vs Sf hl hin hsub hd=>exact⟨vs,Sf,rfl,hl,hin,hsub,hd⟩
 | tup=>simp[Vm.top] at ha
def QT{d:Nat}{cs:List AV}{st':St}(h:YB st d cs=some st'):cs≠[]/\Yp (st.env d)=false/\st'=newBox st d cs:=by
 unfold YB at h
 split at h
 ·cases h
 ·split at h
  ·cases h
  ·rename_i hs; injection h with h; exact⟨by simp,by simpa using hs,h.symm⟩
def Xg5(h:Xp w0 L Im0 st tm w Im base SO){t:TypeId}{ti:TI}(hT:TIs P t ti){d:Nat}(hd:d<tm.size){st':St}(he:YB st d ti.zero=some st') :
  ∃(v:Value) (w':World) (SO':Bool->Nat->CS),(∀o:Oper,o.op=.alloc t->(execOp (Xe tm) o).run P w=.ok (.value v) w')/\Frame w w' nos/\Xp w0 L Im0 st' (tm.setIfInBounds d v) w' Im (upd base d (w.heap.size,0)) SO':=by
 obtain⟨hne,hs,rfl⟩:=QT he
 obtain⟨i,z,dd,h1,h2,h3,h4,h5,_,_⟩:=hT
 obtain⟨g1,g2⟩:=ZK h4
 obtain⟨SO',r⟩:=h.newBox hd hs (us:=z.cells.toList) (cs:=ti.zero) g1 (λ_=>nos) (λj v a hv ha=>.rep (QS (g2 j v a hv ha))) (λ_ _ _=>Xh _) (λ_=>Xw.nos) t hne
 rw[Array.toArray_toList] at r
 refine⟨_,_,SO',λo ho=>?_,X2 _ _,r⟩
 simp[execOp,ho,Instr.alloc,zeroValue,typeInfo,h1,h3,newVar,newRow]
def Xlb(h:Xp w0 L Im0 st tm w Im base SO){t:TypeId}{ti:TI}{x:Operand}{d:Nat}(hd:d<tm.size){y:AV×St}(ht:take st x=some y){cs:List AV}(hb:Xes ti (fix ti.z y.1)=some cs){st':St}(he:YB y.2 d cs=some st') :
  ∃(v:Value) (w':World) (SO':Bool->Nat->CS),(∀o:Oper,o.op=.box t x->(execOp (Xe tm) o).run P w=.ok (.value v) w')/\Frame w w' nos/\Xp w0 L Im0 st' (tm.setIfInBounds d v) w' Im (upd base d (w.heap.size,0)) SO':=by
 obtain⟨b,st1⟩:=y
 obtain⟨SO1,V,r1,r2,r3,r4,_⟩:=h.take ht
 obtain⟨hne,hs,rfl⟩:=QT he
 unfold Xes at hb
 split at hb
 ·rename_i hcond
  obtain⟨htop,hlen⟩:=hcond
  injection hb with hb
  subst hb
  obtain⟨us,nS,e1,e2,e3,e4,e5⟩:=(Zh (z:=ti.z) r3).cells htop
  obtain⟨SO',r⟩:=r1.newBox hd hs (us:=us) e2 nS e3 e5 (λj=>r4.mono (e4 j)) t hne
  refine⟨_,_,SO',λo ho=>?_,X2 _ _,r⟩
  simp[execOp,ho,Instr.box,newVar,newRow,e1]
 ·cases hb
def Xi7(h:Xp w0 L Im0 st tm w Im base SO){t:TypeId}{ti:TI}{x:Operand}{d:Nat}(hd:d<tm.size){cs:List AV}(hb:Xes ti (fix ti.z (view st x))=some cs){st':St}(he:YB st d cs=some st') :
  ∃(v:Value) (w':World) (SO':Bool->Nat->CS),(∀o:Oper,o.op=.box t x->(execOp (Xe tm) o).run P w=.ok (.value v) w')/\Frame w w' nos/\Xp w0 L Im0 st' (tm.setIfInBounds d v) w' Im (upd base d (w.heap.size,0)) SO':=by
 obtain⟨hne,hs,rfl⟩:=QT he
 unfold Xes at hb
 split at hb
 ·rename_i hcond
  obtain⟨htop,hlen⟩:=hcond
  injection hb with hb
  subst hb
  obtain⟨us,nS,e1,e2,e3,e4,e5⟩:=(Zh (z:=ti.z) (h.view x)).cells htop
  obtain⟨SO',r⟩:=h.newBox hd hs (us:=us) e2 nS e3 e5 (λj=>Xw.nos.mono (e4 j)) t hne
  refine⟨_,_,SO',λo ho=>?_,X2 _ _,r⟩
  simp[execOp,ho,Instr.box,newVar,newRow,e1]
 ·cases hb
def Xg6(h:Xp w0 L Im0 st tm w Im base SO){t:TypeId}{ti:TI}(hT:TIs P t ti){ad x:Operand}{y:AV×St}(ht:take st x=some y){st':St}(he:storeAt y.2 ti (view y.2 ad) y.1=some st') :
  ∃(w':World) (SO':Bool->Nat->CS),(∀o:Oper,o.op=.store t ad x->(execOp (Xe tm) o).run P w=.ok .skip w')/\Xp w0 L Im0 st' tm w' Im base SO':=by
 obtain⟨b,st1⟩:=y
 obtain⟨SO1,V,r1,r2,r3,r4,_⟩:=h.take ht
 have hv:=r1.view ad
 simp only at he
 generalize hva:Vm.view st1 ad=va at he hv
 cases va with
 | p pl =>
  simp only[storeAt] at he
  split at he
  ·rename_i htop
   obtain⟨a,e0,hp⟩:=hv.p
   have htop':top (fix ti.z b)=true:=by
    cases b<;>first | exact htop | (simp only[fix]; split<;>rfl)
   obtain⟨us,nS,e1,e2,e3,e4,e5⟩:=(Zh (z:=ti.z) r3).cells htop'
   have hlen:(cellsOf (fix ti.z b)).length=ti.size:=by
    unfold Vm.setCells at he
    cases hn:node st1 pl with
    | none=>rw[hn] at he; cases he
    | some cells =>
     rw[hn] at he
     simp only at he
     generalize hcond:(Xz st1 pl&&decide ((cellsOf (fix ti.z b)).length=ti.size)&&decide (pl.c+ti.size<=cells.length)&&(cellsOf (fix ti.z b)).all (if pl.path.isEmpty then QJ else XK))=bb at he
     cases bb with
     | false=>cases he
     | true =>
      simp only[Bool.and_eq_true,decide_eq_true_eq] at hcond
      exact hcond.1.1.2
   obtain⟨w',SO',k1,k2⟩:=r1.setCells he hp e2 nS e3 e5 ⟨λe r b k ⟨j,_,_,hb⟩=>r4.dis e r b k (e4 j b k hb),λb k ⟨j,_,_,hb⟩=>r4.disI b k (e4 j b k hb),λg k ⟨j,_,_,hb⟩=>r4.ins g k (e4 j g k hb),λg k ⟨j,_,_,hb⟩=>r4.from_ g k (e4 j g k hb)⟩
   obtain⟨i,z,dd,h1,h2,_⟩:=hT
   refine⟨w',SO',λo ho=>?_,k2⟩
   have hsz:¬(us.length≠i.size):=by rw[e2,hlen,h2]; simp
   simp only[execOp,ho,Instr.storeAt,e0,Instr.sureAddr,Sem.run_bind,Sem.run_pure,Result.andThen_ok,storeVar,Qs h1,e1,List.size_toArray,Sem.run_ite,if_neg hsz,k1 P]
  ·cases he
 | _=>cases he
end Go.Vm
