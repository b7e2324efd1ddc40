/- A part of a reflected evaluator of the program's code, and the proof that what it computes is what the machine does. -/
import Derived.Test.YtpoannkeaajngaaVb
import Derived.Laws.Tables
import Derived.Laws.AppendOwn
import Derived.Laws.Strings
set_option linter.unusedVariables false
set_option linter.unusedSimpArgs false
set_option autoImplicit false
set_option linter.defProp false
namespace Go.Vm
variable {w0 : World} {L Im0 : CS} {st : St} {tm : Array Value} {w : World} {Im : CS} {base : Nat -> Nat × Nat} {SO : Bool -> Nat -> CS} {P : Program}
def Xp.setTup(h:Xp w0 L Im0 st tm w Im base SO){t:Nat}{vs:List AV}{a':AV}{T:CS}(hlt:t<tm.size)(ht:st.env t=.tup vs)(hv:PT st tm w Im base (tm.getD t undef) a' T)(hs:Sub T (SO true t)) :
  Xp w0 L Im0 ⟨upd st.env t a',st.bx⟩ tm w Im base (own SO true t T):=by
 have hsl:Yp (st.env t)=false:=by rw[ht]; rfl
 have:=h.put hlt hv (λe r hne=>(h.dis true t e r (λx=>hne ⟨x.1.symm,x.2.symm⟩)).mono hs (Sub.rfl' _)) ((h.disI true t).mono hs (Sub.rfl' _)) (λg k x=>h.inS true t g k (hs g k x)) (λg k x=>h.fromS true t g k (hs g k x))
 rw[Y9] at this
 unfold St.put at this
 rw[hsl] at this
 exact this
def Top.tup'{Pt:Pl->Addr->Prop}{Rf:Pl->Nat->Nat->Nat->Value->Prop}{v:Value}{cs:List AV}{S:CS}(h:Top w Im Pt Rf v (.tup cs) S):∃(vs:List Value) (Sf:Nat->CS),v=.tuple vs.toArray/\vs.length=cs.length /\
  (∀(j:Nat) (v:Value) (a:AV),vs[j]?=some v->cs[j]?=some a->Top w Im Pt Rf v a (Sf j))/\(∀j,Sub (Sf j) S)/\∀i j,i≠j->XY (Sf i) (Sf j):=by
 cases h with
 | leaf h=>cases h with
  | rep h=>cases h
 | tup vs Sf h1 h2 h3 h4=>exact⟨vs,Sf,rfl,h1,h2,h3,h4⟩
def Xey(h:Xp w0 L Im0 st tm w Im base SO){x:Operand}{j:Nat}{y:AV×St}(he:Qk st x j=some y){d:Nat}(hd:d<tm.size) :
  ∃(v:Value) (SO':Bool->Nat->CS),(∀o:Oper,o.op=.extract x j->(execOp (Xe tm) o).run P w=.ok (.value v) w)/\Xp w0 L Im0 (y.2.put d y.1) (tm.setIfInBounds d v) w Im base SO':=by
 unfold Qk at he
 split at he
 ·rename_i t
  split at he
  ·rename_i vs ht
   cases hj:vs[j]? with
   | none=>rw[hj] at he; cases he
   | some a =>
    rw[hj] at he
    injection he with he
    subst he
    have h0:=h.env t
    rw[ht] at h0
    obtain⟨us,Sf,e1,e2,e3,e4,e5⟩:=h0.tup'
    have hjl:j<us.length:=by rw[e2]; exact(List.getElem?_eq_some_iff.1 hj).1
    have hlt:t<tm.size:=by
     by_cases hlt:t<tm.size
     ·exact hlt
     ·exfalso
      have hu:tm.getD t undef=undef:=by rw[Array.getD_eq_getD_getElem?,Array.getElem?_eq_none (Nat.le_of_not_lt hlt)]; rfl
      rw[hu] at e1
      injection e1 with e1
      have:=congrArg Array.size e1
      simp at this
      omega
    have hv2:PT st tm w Im base (tm.getD t undef) (.tup (vs.set j .u)) (λb k=>∃i,i≠j/\Sf i b k):=by
     rw[e1]
     refine .tup us (λi=>if i=j then nos else Sf i) (by simp[e2]) (λi u b hu hb=>?_) (λi=>?_) (λi k hik=>?_)
     ·rcases Yj hb with⟨rfl,rfl,_⟩ | ⟨hne,hb⟩
      ·exact .u
      ·simp only[if_neg hne]; exact e3 i u b hu hb
     ·by_cases hi:i=j
      ·simp only[hi,if_true]; exact Xo _
      ·simp only[hi,if_false]; exact λb k hb=>⟨i,hi,hb⟩
     ·by_cases hi:i=j
      ·simp only[hi,if_true]; exact Xh _
      ·by_cases hk:k=j
       ·simp only[hk,if_true]; exact XM _
       ·simp only[hi,hk,if_false]; exact e5 i k hik
    have r1:=h.setTup hlt ht hv2 (λb k ⟨i,_,hb⟩=>e4 i b k hb)
    have hpa:PT ⟨upd st.env t (.tup (vs.set j .u)),st.bx⟩ tm w Im base us[j] a (Sf j):=by
     have hsl:Yp (st.env t)=false:=by rw[ht]; rfl
     refine(e3 j _ a (List.getElem?_eq_getElem hjl) hj).keep (Sub.rfl' _) (XN.refl _ _) (λpl ad hp=>?_) (λpl z lo n u hp=>?_) (Sub.rfl' _) (XN.refl _ _)
     ·have:=Pt.set (d:=t) (v:=tm.getD t undef) (YF st t (.tup (vs.set j .u))) (hp.off hsl) hp
      rwa [Y9] at this
     ·have:=Rf.set (d:=t) (v:=tm.getD t undef) (YF st t (.tup (vs.set j .u))) (hp.off hsl) hp
      rwa [Y9] at this
    refine⟨us[j],_,λo ho=>?_,r1.put hd hpa ?_ ((h.disI true t).mono (e4 j) (Sub.rfl' _)) (λg k hb=>h.inS true t g k (e4 j g k hb)) (λg k hb=>h.fromS true t g k (e4 j g k hb))⟩
    ·have hev:Xe tm (.tmp t)=.tuple us.toArray:=e1
     simp[execOp,ho,Instr.extract,hev,hjl]
    ·intro e r hne b k hb hb'
     by_cases hr:e=true/\r=t
     ·obtain⟨rfl,rfl⟩:=hr
      rw[YQ] at hb'
      obtain⟨i,hi,hb'⟩:=hb'
      exact e5 i j hi b k hb' hb
     ·rw[Zp hr] at hb'
      exact h.dis true t e r (λx=>hr ⟨x.1.symm,x.2.symm⟩) b k (e4 j b k hb) hb'
  ·cases he
 ·cases he
def Xdn(h:Xp w0 L Im0 st tm w Im base SO){x:Operand}{y:AV×St}(he:Xdd st x=some y){d:Nat}(hd:d<tm.size) :
  ∃(v:Value) (SO':Bool->Nat->CS),(∀o:Oper,o.op=.move x->(execOp (Xe tm) o).run P w=.ok (.value v) w)/\Xp w0 L Im0 (y.2.put d y.1) (tm.setIfInBounds d v) w Im base SO':=by
 unfold Xdd at he
 split at he
 ·rename_i t
  split at he
  ·rename_i v0 vs ht
   injection he with he
   subst he
   have h0:=h.env t
   rw[ht] at h0
   by_cases hlt:t<tm.size
   ·have r1:=h.setTup (a':=.u) (T:=nos) hlt ht .u (Xo _)
    have hsl:Yp (st.env t)=false:=by rw[ht]; rfl
    have hpa:PT ⟨upd st.env t .u,st.bx⟩ tm w Im base (tm.getD t undef) (.tup (v0 :: vs)) (SO true t):=by
     refine h0.keep (Sub.rfl' _) (XN.refl _ _) (λpl ad hp=>?_) (λpl z lo n u hp=>?_) (Sub.rfl' _) (XN.refl _ _)
     ·have:=Pt.set (d:=t) (v:=tm.getD t undef) (YF st t .u) (hp.off hsl) hp
      rwa [Y9] at this
     ·have:=Rf.set (d:=t) (v:=tm.getD t undef) (YF st t .u) (hp.off hsl) hp
      rwa [Y9] at this
    refine⟨tm.getD t undef,_,λo ho=>?_,r1.put hd hpa ?_ (h.disI true t) (h.inS true t) (h.fromS true t)⟩
    ·have hev:Xe tm (.tmp t)=tm.getD t undef:=rfl
     simp only[execOp,ho,hev]
     rfl
    ·intro e r hne b k hb hb'
     by_cases hr:e=true/\r=t
     ·obtain⟨rfl,rfl⟩:=hr
      rw[YQ] at hb'
      exact hb'
     ·rw[Zp hr] at hb'
      exact h.dis true t e r (λx=>hr ⟨x.1.symm,x.2.symm⟩) b k hb hb'
   ·exfalso
    have hu:tm.getD t undef=undef:=by rw[Array.getD_eq_getD_getElem?,Array.getElem?_eq_none (Nat.le_of_not_lt hlt)]; rfl
    obtain⟨us,Sf,e1,e2,e3,e4,e5⟩:=h0.tup'
    rw[hu] at e1
    injection e1 with e1
    have:=congrArg Array.size e1
    simp[e2] at this
  ·cases he
 ·cases he
def Xg7(h:Xp w0 L Im0 st tm w Im base SO){t:TypeId}(hT:TIs P t .str){x ix:Operand}{a:AV}(he:Ug .str (view st x) (view st ix)=some a) :
  ∃v,PT st tm w Im base v a nos/\∀w':World,Frame w w' nos->∀o:Oper,o.op=.index t x ix->(execOp (Xe tm) o).run P w'=.ok (.value v) w':=by
 have hx:=h.view x
 have hi:=h.view ix
 generalize hvx:Vm.view st x=vx at he hx
 generalize hvi:Vm.view st ix=vi at he hi
 unfold Ug at he
 split at he
 ·rename_i b k n
  simp only at he
  cases hj:YY b.size n with
  | none=>rw[hj] at he; cases he
  | some j =>
   rw[hj] at he
   injection he with he
   subst he
   unfold YY at hj
   split at hj
   ·rename_i hr
    injection hj with hj
    subst hj
    refine⟨_,.leaf (.rep .i),λw' _ o ho=>?_⟩
    have hlt:n.toNat<b.data.size:=by have:b.size=b.data.size:=rfl; omega
    have hg:b[n.toNat]?=some (b.data[n.toNat]?.getD 0):=by
     have hlt':n.toNat<b.size:=hlt
     have e1:b[n.toNat]'hlt'=b.data[n.toNat]'hlt:=rfl
     rw[getElem?_pos b n.toNat hlt',e1,Array.getElem?_eq_getElem hlt]
     rfl
    simp only[execOp,ho,hx.s,hi.i,Instr.index,asIntOf,Sem.run_bind,Sem.run_pure,Result.andThen_ok,Xk hT.str,if_pos hr.1,hg]
   ·cases hj
 ·cases he
 ·cases he
def XfB(h:Xp w0 L Im0 st tm w Im base SO){t:TypeId}{m z:Nat}{ag:Bool}{zero:List AV}(hT:TIs P t (.array m z ag zero)){x ix:Operand}{a:AV}(he:Ug (.array m z ag zero) (view st x) (view st ix)=some a) :
  ∃v,PT st tm w Im base v a nos/\∀w':World,Frame w w' nos->∀o:Oper,o.op=.index t x ix->(execOp (Xe tm) o).run P w'=.ok (.value v) w':=by
 have hx:=h.view x
 have hi:=h.view ix
 generalize hvx:Vm.view st x=vx at he hx
 generalize hvi:Vm.view st ix=vi at he hi
 unfold Ug at he
 split at he
 ·cases he
 ·rename_i cs k n
  simp only at he
  obtain⟨e,i,d,hu,hie,hz,hd,hag⟩:=hT.array
  split at he
  ·rename_i hza
   obtain⟨rfl,rfl⟩:=hza
   unfold XiZ at he
   split at he
   ·rename_i hm
    cases hj:YY m n with
    | none=>rw[hj] at he; cases he
    | some j =>
     rw[hj] at he
     injection he with he
     unfold YY at hj
     split at hj
     ·rename_i hr
      injection hj with hj
      subst hj
      obtain⟨vs,Sf,e1,e2,e3,e4,e5⟩:=hx.agg'
      have hlt:n.toNat<vs.length:=by omega
      have hrun:=λw':World=>Xd5 (w:=w') hie hd (vs:=vs) (off:=n.toNat) (u:=vs[n.toNat]) (λ_=>List.getElem?_eq_getElem hlt)
      simp only[hag,Bool.false_eq_true,if_false] at hrun
      refine⟨vs[n.toNat],?_,λw' _ op ho=>?_⟩
      ·rw[<-he]
       have hlt2:n.toNat<cs.length:=by omega
       have hd2:cs.getD n.toNat .u=cs[n.toNat]:=by simp[List.getD,hlt2]
       rw[hd2]
       exact .leaf ((e3 n.toNat _ _ (List.getElem?_eq_getElem hlt) (List.getElem?_eq_getElem hlt2)).mono (e4 n.toNat))
      ·simp only[execOp,ho,e1,hi.i,Instr.index,asIntOf,Sem.run_bind,Sem.run_pure,Result.andThen_ok,Xk hu,if_pos hr,Qs hie,hz,Nat.mul_one,hrun]
     ·cases hj
   ·cases he
  ·cases he
 ·cases he
end Go.Vm
set_option autoImplicit false
namespace Go.Vm
variable {w0 : World} {L Im0 : CS} {st : St} {tm : Array Value} {w : World} {Im : CS} {base : Nat -> Nat × Nat} {SO : Bool -> Nat -> CS} {P : Program}
def TIs.under{t:TypeId}{ti:TI}(h:TIs P t ti):∃d,P.underlying t=some d:=by
 obtain⟨i,z,d,_,_,_,_,_,h1,h2⟩:=h
 exact⟨d,h1⟩
def XfC:∀{es:List (List AV)} {l:List UInt8},Xa4 es=some l->∃ns:List Int,es=ns.map (λn=>[AV.i .u8 n])/\l=ns.map λn=>UInt8.ofNat n.toNat:=by
 intro es
 induction es with
 | nil=>intro l h; simp only[Xa4,Option.some.injEq] at h; subst h; exact⟨[],rfl,rfl⟩
 | cons r es ih =>
  intro l h
  match r,h with
  | [.i .u8 n],h =>
   simp only[Xa4] at h
   cases h3:Xa4 es with
   | none=>rw[h3] at h; cases h
   | some l' =>
    rw[h3] at h
    injection h with h
    obtain⟨ns,e1,e2⟩:=ih h3
    subst e1 e2 h
    exact⟨n :: ns,rfl,rfl⟩
def Xi8(h:Xp w0 L Im0 st tm w Im base SO){ts td:TypeId}{src dst:TI}(hs:TIs P ts src)(hd:TIs P td dst){x:Operand}{a:AV}(he:Xda st src dst (view st x)=some a) :
  ∃v,PT st tm w Im base v a nos/\∀w':World,Frame w w' nos->∀o:Oper,o.op=.convert ts td x->(execOp (Xe tm) o).run P w'=.ok (.value v) w':=by
 have hx:=h.view x
 have hcon:=@Ul w0 L Im0 st tm w Im base SO h x
 generalize hvx:Vm.view st x=vx at he hx hcon
 have go:∀v,(∀w':World,Frame w w' nos->(convert ts td (Xe tm x)).run P w'=.ok v w')->∀w':World,Frame w w' nos->∀o:Oper,o.op=.convert ts td x->(execOp (Xe tm) o).run P w'=.ok (.value v) w':=by
  intro v hv w' hw o ho
  simp only[execOp,ho,Sem.run_bind,hv w' hw,Result.andThen_ok]
  rfl
 obtain⟨ds,hds⟩:=hs.under
 unfold Xda at he
 split at he
 ·rename_i k j n
  injection he with he
  subst he
  refine⟨_,.leaf (.rep .i),go _ (λw' hw=>?_)⟩
  simp only[convert,Sem.run_bind,Xk hds,Xk hd.int,Result.andThen_ok,hx.i]
  rfl
 ·rename_i b
  injection he with he
  subst he
  refine⟨_,.leaf (.rep .s),go _ (λw' hw=>?_)⟩
  simp only[convert,Sem.run_bind,Xk hds,Xk hd.str,Result.andThen_ok,hx.s]
  rfl
 ·rename_i hnos
  split at he
  ·rename_i m
   cases hc:XC st vx with
   | none=>rw[hc] at he; cases he
   | some es =>
    rw[hc] at he
    simp only at he
    cases hl:Xa4 es with
    | none=>rw[hl] at he; cases he
    | some l =>
     rw[hl] at he
     injection he with he
     subst he
     obtain⟨e,i,zv,hu,hi,hsz,_,_,_,_,_,hu8⟩:=hs.slice
     have hu8':=hu8 rfl
     obtain⟨ns,e1,e2⟩:=XfC hl
     obtain⟨A,cap,hv,hle,hne⟩:=hcon (by rw[hc])
     refine⟨.string ⟨l.toArray⟩,.leaf (.rep .s),go _ (λw' hw=>?_)⟩
     rw[hv,run_convert_bytes_string w' ts td e A es.length cap hu hu8' hd.str]
     have hpush:ns.foldl (λr n=>r.push (UInt8.ofNat n.toNat)) ByteArray.empty=⟨l.toArray⟩:=by
      rw[foldl_push_bytes,e2]
      simp
     by_cases hem:es=[]
     ·have hns:ns=[]:=by cases ns with
       | nil=>rfl
       | cons n r=>rw[hem] at e1; cases e1
      subst hns
      rw[hem]
      cases A with
      | none=>simp only[Conv.bytesToString,Sem.run_pure,<-hpush]; rfl
      | some ad =>
       rw[List.length_nil,run_bytesToString w' ad 0 cap [] (by simp[loadCells,loadCellsFrom]),hpush]
     ·obtain⟨g,o,z,us,Sf,hA,hz,hcell,hin⟩:=hne hem
      subst hA
      have hz1:z=1:=by
       cases es with
       | nil=>exact absurd rfl hem
       | cons r es =>
        cases ns with
        | nil=>cases e1
        | cons n ns =>
         injection e1 with e3 e4
         have:=hz 0 r rfl
         rw[e3] at this
         exact this.symm
      subst hz1
      have hlen:es.length=ns.length:=by rw[e1]; simp
      have hld:(loadCells ⟨g,o,none⟩ es.length).run P w'=.ok (ns.map (Value.int .u8)).toArray w':=by
       have:=run_loadCells_list (P:=P) w' ⟨g,o,none⟩ (ns.map (Value.int .u8)) (λj v hj=>by
        rw[List.getElem?_map] at hj
        obtain⟨n,hn,rfl⟩:=Option.map_eq_some_iff.1 hj
        have hrow:es[j]?=some [AV.i .u8 n]:=by rw[e1,List.getElem?_map,hn]; rfl
        have h1:=UT hw (hcell j _ 0 _ hrow rfl).1
        have h2:=(hin j _ 0 _ hrow rfl).1
        have h3:us j 0=.int .u8 n:=by
         generalize us j 0=q at h2
         cases h2; rfl
        rw[ZF]
        rw[h3] at h1
        simpa[Xt] using h1)
       rw[List.length_map] at this
       rw[hlen]; exact this
      rw[run_bytesToString w' _ _ cap ns hld,hpush]
  ·cases he
 ·cases he
end Go.Vm
set_option autoImplicit false
namespace Go.Vm
variable {w0 : World} {L Im0 : CS} {st : St} {tm : Array Value} {w : World} {Im : CS} {base : Nat -> Nat × Nat} {SO : Bool -> Nat -> CS} {P : Program}
def XbY(off:Nat):∀(vs:List Value) (i0:Nat) (cells:Array Value),off+i0+vs.length<=cells.size ->
  ((vs.zipIdx i0).foldl (λcs (x:Value×Nat)=>cs.setIfInBounds (off+x.2) x.1) cells).size=cells.size /\
   ∀k:Nat,((vs.zipIdx i0).foldl (λcs (x:Value×Nat)=>cs.setIfInBounds (off+x.2) x.1) cells)[k]?=if off+i0<=k/\k<off+i0+vs.length then vs[k-(off+i0)]? else cells[k]?
 | [],i0,cells,_=>by
  refine⟨rfl,λk=>?_⟩
  rw[if_neg (by simp)]; rfl
 | v :: vs,i0,cells,h=>by
  simp only[List.length_cons] at h
  obtain⟨h1,h2⟩:=XbY off vs (i0+1) (cells.setIfInBounds (off+i0) v) (by simp; omega)
  simp only[List.zipIdx_cons,List.foldl_cons]
  refine⟨by rw[h1]; simp,λk=>?_⟩
  rw[h2 k]
  by_cases hk:k=off+i0
  ·subst hk
   rw[if_neg (by omega),if_pos (by simp)]
   rw[Array.getElem?_setIfInBounds,if_pos rfl,if_pos (by omega)]
   simp
  ·by_cases hr:off+(i0+1)<=k/\k<off+(i0+1)+vs.length
   ·rw[if_pos hr,if_pos (by simp; omega)]
    rw[show k-(off+i0)=(k-(off+(i0+1)))+1 by omega,List.getElem?_cons_succ]
   ·rw[if_neg hr,if_neg (by simp; omega),Array.getElem?_setIfInBounds,if_neg (by omega)]
def XfD{place:Nat->Option (Nat×Nat)}{R:Value->AV->Prop}:∀(ms:List (Nat×Value)) (as:List (Nat×List AV)) (cells:Array Value) (zero:List AV),cells.size=zero.length ->
  (∀(k:Nat) (u:Value) (a:AV),cells[k]?=some u->zero[k]?=some a->R u a)->ms.length=as.length ->
  (∀(j i:Nat) (v:Value) (off:Nat) (avs:List AV),ms[j]?=some (i,v)->as[j]?=some (off,avs)->place i=some (off,v.cells.size)/\avs.length=v.cells.size/\off+v.cells.size<=cells.size/\∀(k:Nat) (u:Value) (a:AV),v.cells[k]?=some u->avs[k]?=some a->R u a) ->
  ∃cells':Array Value,Instr.fill place cells ms=some cells'/\cells'.size=(XaZ zero as).length/\(XaZ zero as).length=zero.length/\∀(k:Nat) (u:Value) (a:AV),cells'[k]?=some u->(XaZ zero as)[k]?=some a->R u a
 | [],[],cells,zero,hs,hR,_,_=>⟨cells,rfl,hs,rfl,hR⟩
 | (i,v) :: ms,(off,avs) :: as,cells,zero,hs,hR,hl,hp=>by
  obtain⟨p1,p2,p3,p4⟩:=hp 0 i v off avs rfl rfl
  obtain⟨f1,f2⟩:=XbY off v.cells.toList 0 cells (by simpa using p3)
  simp only[Nat.add_zero,Array.length_toList] at f1 f2
  let cells1:=(v.cells.toList.zipIdx 0).foldl (λcs (x:Value×Nat)=>cs.setIfInBounds (off+x.2) x.1) cells
  let UR:=zero.take off++avs++zero.drop (off+avs.length)
  have hz1:UR.length=zero.length:=by simp only[UR,List.length_append,List.length_take,List.length_drop]; omega
  obtain⟨cells',r1,r2,r3,r4⟩:=XfD ms as cells1 UR (by rw[hz1,<-hs]; exact f1) (λk u a hu ha=>by
    have hu':=hu
    rw[f2 k] at hu'
    have hlt:(zero.take off).length=off:=by rw[List.length_take]; omega
    by_cases hk:off<=k/\k<off+v.cells.size
    ·rw[if_pos hk] at hu'
     simp only[UR,List.append_assoc] at ha
     rw[List.getElem?_append_right (by omega),hlt,List.getElem?_append_left (by omega)] at ha
     exact p4 _ u a (by simpa using hu') ha
    ·rw[if_neg hk] at hu'
     simp only[UR,List.append_assoc] at ha
     by_cases h1:k<off
     ·rw[List.getElem?_append_left (by omega),List.getElem?_take,if_pos h1] at ha
      exact hR k u a hu' ha
     ·rw[List.getElem?_append_right (by omega),hlt,List.getElem?_append_right (by omega),List.getElem?_drop] at ha
      rw[show off+avs.length+(k-off-avs.length)=k by omega] at ha
      exact hR k u a hu' ha) (by simpa using hl) (λj i' v' off' avs' h1 h2=>by
    obtain⟨q1,q2,q3,q4⟩:=hp (j+1) i' v' off' avs' (by simpa using h1) (by simpa using h2)
    exact⟨q1,q2,by rw[show cells1.size=cells.size from f1]; exact q3,q4⟩)
  refine⟨cells',?_,r2,by rw[show XaZ zero ((off,avs) :: as)=XaZ UR as from rfl,r3,hz1],r4⟩
  unfold Instr.fill
  rw[p1]
  simp only
  rw[if_neg (by simp; omega)]
  rw[<-r1]
  congr 1
  simp only[cells1,<-Array.foldl_toList]
  congr 1
  simp
 | [],_ :: _,_,_,_,_,h,_=>by simp at h
 | _ :: _,[],_,_,_,_,h,_=>by simp at h
end Go.Vm
set_option autoImplicit false
namespace Go.Vm
variable {w0 : World} {L Im0 : CS} {st : St} {tm : Array Value} {w : World} {Im : CS} {base : Nat -> Nat × Nat} {SO : Bool -> Nat -> CS} {P : Program}
def Xcy:∀{fs:List Field} {fl:List (Nat×Nat×Bool×Nat)},XaA P fs fl=true->fs.mapM (λf=>(P.info? f.type).map λi=>(f.offset,i.size))=some (fl.map λx=>(x.1,x.2.1))
 | [],[],_=>rfl
 | f :: fs,x :: fl,h=>by
  simp only[XaA,Bool.and_eq_true] at h
  obtain⟨off,n,ag,z⟩:=x
  obtain⟨h1,⟨i,hi,hm⟩,_,_⟩:=Xdl h.1
  simp[List.mapM_cons,hi,Xcy h.2,h1,hm]
 | [],_ :: _,h=>by cases h
 | _ :: _,[],h=>by cases h
def UC{fl:List (Nat×Nat×Bool×Nat)}:∀{parts:List (Nat×Operand)} {l:List (Nat×List AV)},YP fl st parts=some l->parts.length=l.length /\
  ∀(j i:Nat) (x:Operand) (off:Nat) (avs:List AV),parts[j]?=some (i,x)->l[j]?=some (off,avs)->∃n ag z,fl[i]?=some (off,n,ag,z)/\avs=cellsOf (fix z (view st x))/\avs.length=n/\top (fix z (view st x))=true
 | [],l,h=>by
  simp only[YP,Option.some.injEq] at h
  subst h
  exact⟨rfl,λj i x off avs hj=>by simp at hj⟩
 | (i,x) :: r,l,h=>by
  simp only[YP] at h
  split at h
  ·rename_i off n ag z hf
   split at h
   ·rename_i htop
    split at h
    ·rename_i hn
     split at h
     ·rename_i l' hl'
      injection h with h
      subst h
      obtain⟨h1,h2⟩:=UC hl'
      refine⟨by simp[h1],λj i' x' off' avs hj hl=>?_⟩
      cases j with
      | zero =>
       simp only[List.getElem?_cons_zero,Option.some.injEq,Prod.mk.injEq] at hj hl
       obtain⟨rfl,rfl⟩:=hj
       obtain⟨rfl,rfl⟩:=hl
       exact⟨n,ag,z,hf,rfl,hn,htop⟩
      | succ j=>exact h2 j i' x' off' avs (by simpa using hj) (by simpa using hl)
     ·cases h
    ·cases h
   ·cases h
  ·cases h
def Xd6(h:Xp w0 L Im0 st tm w Im base SO){fl:List (Nat×Nat×Bool×Nat)}{zero:List AV}{zv:Value}(h4:QB zv.cells.toList zero=true){place:Nat->Option (Nat×Nat)}
  (hoff:∀(i off n:Nat) (ag:Bool) (z:Nat),fl[i]?=some (off,n,ag,z)->place i=some (off,n)/\off+n<=zero.length) {parts:Array (Nat×Operand)} {l:List (Nat×List AV)} (hl:YP fl st parts.toList=some l) :
  ∃cells',Instr.fill place zv.cells (parts.toList.map λx=>(x.1,Xe tm x.2))=some cells'/\PT st tm w Im base (.agg cells') (.agg (XaZ zero l)) nos:=by
 obtain⟨hpl,hget⟩:=UC hl
 obtain⟨g1,g2⟩:=ZK h4
 have hzs:zv.cells.size=zero.length:=by rw[<-Array.length_toList,g1]
 obtain⟨cells',r1,r2,r3,r4⟩:=XfD (place:=place) (R:=λu b=>PL st tm w Im base u b nos) (parts.toList.map λx=>(x.1,Xe tm x.2)) l zv.cells zero hzs
  (λk u b hk hb=>.rep (QS (g2 k u b (by rw[Array.getElem?_toList]; exact hk) hb))) (by simp[hpl]) (λj i' v off avs hj hla=>by
   rw[List.getElem?_map] at hj
   obtain⟨⟨i2,x⟩,hx,e⟩:=Option.map_eq_some_iff.1 hj
   injection e with e1 e2
   subst e1 e2
   obtain⟨m,ag,z,q1,q2,q3,q4⟩:=hget j _ x off avs hx hla
   obtain⟨us,nS,c1,c2,c3,c4,_⟩:=(Zh (z:=z) (h.view x)).cells q4
   have hsz:(Xe tm x).cells.size=m:=by rw[c1,List.size_toArray,c2,<-q2]; exact q3
   obtain⟨hp,hle⟩:=hoff _ _ _ _ _ q1
   refine⟨by rw[hsz]; exact hp,by rw[hsz]; exact q3,by rw[hsz,hzs]; exact hle,λk u b hk hb=>?_⟩
   rw[c1,List.getElem?_toArray] at hk
   rw[q2] at hb
   exact(c3 k u b hk hb).mono (c4 k))
 refine⟨cells',r1,?_⟩
 have:cells'=cells'.toList.toArray:=by simp
 rw[this]
 exact .agg cells'.toList (λ_=>nos) (by simpa using r2) (λj u b hu' hb=>r4 j u b (by rw[<-Array.getElem?_toList]; exact hu') hb) (λ_=>Sub.rfl' _) (λ_ _ _=>Xh _)
def XnD{t:TypeId}{parts:Array (Nat×Operand)}{cells':Array Value}(hb:P.built t (parts.map λx=>(x.1,Xe tm x.2)).toList=some cells')(w':World)(o:Oper)(ho:o.op=.build t parts) :
  (execOp (Xe tm) o).run P w'=.ok (.value (.agg cells')) w':=by
 simp only[execOp,ho]
 simp only[Sem.run_bind]
 erw [run_build (P:=P) w' t (parts.map λx=>(x.1,Xe tm x.2)) cells' hb]
 rfl
def Xdo{n z:Nat}{ag:Bool}{i:Nat}{y:Nat×Nat×Bool×Nat}(h:(Xat n z ag)[i]?=some y):i<n/\y=(i*z,z,ag,0):=by
 simp only[Xat,List.getElem?_map] at h
 obtain⟨j,hj,e⟩:=Option.map_eq_some_iff.1 h
 obtain⟨hlt,hj⟩:=List.getElem?_eq_some_iff.1 hj
 rw[List.length_range] at hlt
 rw[List.getElem_range] at hj
 subst hj
 exact⟨hlt,e.symm⟩
def Xg8(h:Xp w0 L Im0 st tm w Im base SO){t:TypeId}{n:Nat}{fl:List (Nat×Nat×Bool×Nat)}{zero:List AV}(hT:TIs P t (.struct n fl zero)){parts:Array (Nat×Operand)}{a:AV}(he:Xav (.struct n fl zero) st parts.toList=some a) :
  ∃v,PT st tm w Im base v a nos/\∀w':World,Frame w w' nos->∀o:Oper,o.op=.build t parts->(execOp (Xe tm) o).run P w'=.ok (.value v) w':=by
 simp only[Xav] at he
 cases hl:YP fl st parts.toList with
 | none=>rw[hl] at he; cases he
 | some l =>
  rw[hl] at he
  injection he with he
  subst he
  obtain⟨fs,hu,hfl,hoff⟩:=hT.struct
  obtain⟨i,zv,d,h1,h2,h3,h4,h5,h6,h7⟩:=hT
  have hpe:=Xcy hfl
  have h5':zero.length=n:=h5
  obtain⟨cells',r1,r2⟩:=Xd6 h (zero:=zero) h4 (place:=((fl.map λx=>(x.1,x.2.1)).toArray[·]?)) (λi off n ag z q1=>⟨by
   simp only[List.getElem?_toArray,List.getElem?_map,q1]; rfl,by rw[h5']; exact hoff _ (List.mem_of_getElem? q1)⟩) hl
  refine⟨_,r2,λw' _ o ho=>XnD ?_ w' o ho⟩
  unfold Program.built
  simp only[h1,hu,h3,hpe]
  rw[<-r1]
  simp
def XfE(h:Xp w0 L Im0 st tm w Im base SO){t:TypeId}{m z:Nat}{ag:Bool}{zero:List AV}(hT:TIs P t (.array m z ag zero)){parts:Array (Nat×Operand)}{a:AV}(he:Xav (.array m z ag zero) st parts.toList=some a) :
  ∃v,PT st tm w Im base v a nos/\∀w':World,Frame w w' nos->∀o:Oper,o.op=.build t parts->(execOp (Xe tm) o).run P w'=.ok (.value v) w':=by
 simp only[Xav] at he
 cases hl:YP (Xat m z ag) st parts.toList with
 | none=>rw[hl] at he; cases he
 | some l =>
  rw[hl] at he
  injection he with he
  subst he
  obtain⟨e,ie,d',hu,hie,hz,hd,hag⟩:=hT.array
  obtain⟨i,zv,d,h1,h2,h3,h4,h5,h6,h7⟩:=hT
  have h5':zero.length=m*z:=h5
  obtain⟨cells',r1,r2⟩:=Xd6 h (zero:=zero) h4 (place:=λi=>some (i*ie.size,ie.size)) (λi off n ag' z' q1=>by
   obtain⟨hlt,e⟩:=Xdo q1
   injection e with e1 e
   injection e with e2 e
   subst e1 e2
   refine⟨by rw[hz],?_⟩
   rw[h5',<-Nat.succ_mul]
   exact Nat.mul_le_mul_right _ hlt) hl
  refine⟨_,r2,λw' _ o ho=>XnD ?_ w' o ho⟩
  unfold Program.built
  simp only[h1,hu,h3,hie]
  rw[<-r1]
  simp
end Go.Vm
set_option autoImplicit false
namespace Go.Vm
variable {w0 : World} {L Im0 : CS} {st : St} {tm : Array Value} {w : World} {Im : CS} {base : Nat -> Nat × Nat} {SO : Bool -> Nat -> CS} {P : Program}
def Xp.growIm(h:Xp w0 L Im0 st tm w Im base SO){N:CS}(hN:Xw w0 L w Im SO N):Xp w0 L Im0 st tm w (un Im N) base SO:=by
 refine⟨λt=>(h.env t).keep (Xj _ _) (XN.refl _ _) (λ_ _ h=>h) (λ_ _ _ _ _ h=>h) (Sub.rfl' _) (XN.refl _ _),λr=>?_,h.dis,λe r b k hb hb'=>?_,λg k hb=>?_,h.inS,λb k hb=>.inl (h.imm b k hb),λg k hb=>?_,h.fromS,h.frame⟩
 ·exact(h.bx r).imp λv a T hl=>hl.keep (Xj _ _) (XN.refl _ _) (λ_ _ h=>h) (λ_ _ _ _ _ h=>h) (Sub.rfl' _) (XN.refl _ _)
 ·rcases hb' with hb' | hb'
  ·exact h.disI e r b k hb hb'
  ·exact hN.dis e r b k hb' hb
 ·rcases hb with hb | hb
  ·exact h.inI g k hb
  ·exact hN.ins g k hb
 ·rcases hb with hb | hb
  ·exact h.fromI g k hb
  ·exact .inr (hN.from_ g k hb)
def Rep.toApp{v:Value}{z:Nat}{es:List (List AV)}{V:CS}(h:Rep w Im v (.sl .mut z es) V):∃N,Sub N V/\Rep w (un Im N) v (.sl .app z (XH es)) (ZJ V N):=by
 cases h with
 | sl g off vs Sf hn hc hL hA hz hrow hin hf hsub hd hself hnone =>
  rename_i A n cap
  have hcz:n*z<=cap*z:=Nat.mul_le_mul_right _ hc
  refine⟨λb k=>(b=g/\off<=k/\k<off+n*z)\/∃i j,Sf i j b k,?_,?_⟩
  ·rintro b k (⟨rfl,h1,h2⟩ | ⟨i,j,hb⟩)
   ·have:=hf.own rfl (k-off) (by omega)
    rwa [Nat.add_sub_cancel' h1] at this
   ·exact hsub i j b k hb
  ·refine .sl g off vs (λ_ _=>nos) (by rw[XaB]; exact hn) hc hL hA ?_ ?_ ?_ ⟨(λe=>by cases e),λ_ k hk1 hk=>⟨hf.own rfl k hk,?_⟩,λ_ k hk=>hf.free (by decide) k hk,λ_ k hk=>.inr (.inl ⟨rfl,by omega,by omega⟩)⟩ (λ_ _=>Xo _) (λ_ _ _ _ _=>Xh _) (λe=>by cases e) (λ_ _ _=>rfl)
   ·intro i row hi
    rw[Zi] at hi
    obtain⟨row',hr',rfl⟩:=Option.map_eq_some_iff.1 hi
    rw[Xbl]; exact hz i row' hr'
   ·intro i row j a hi hj
    rw[Zi] at hi
    obtain⟨row',hr',rfl⟩:=Option.map_eq_some_iff.1 hi
    rw[Qa] at hj
    obtain⟨a',ha',rfl⟩:=Option.map_eq_some_iff.1 hj
    exact hrow i row' j a' hr' ha'
   ·intro i row j a hi hj
    rw[Zi] at hi
    obtain⟨row',hr',rfl⟩:=Option.map_eq_some_iff.1 hi
    rw[Qa] at hj
    obtain⟨a',ha',rfl⟩:=Option.map_eq_some_iff.1 hj
    exact Rep.keep (w:=w) (w':=w) (hin i row' j a' hr' ha').strip (U3 (Xj _ _) (λb k hb=>.inr (.inr ⟨i,j,hb⟩))) (Sub.rfl' _) (XN.refl _ w) (XN.refl _ w)
   ·rintro (⟨_,h1,h2⟩ | ⟨i,j,hb⟩)
    ·omega
    ·exact hself rfl i j k hk hb
def Rep.toApp0{g off n cap z:Nat}{A:Option Addr}{es:List (List AV)}{V:CS}(vs:Nat->Nat->Value)(hn:es.length=n)(hc:n<=cap)(hL:n<=9223372036854775807)(hA:0<cap->A=some ⟨g,off,none⟩)(hz:∀(i:Nat) (row:List AV),es[i]?=some row->row.length=z)
  (hrow:∀(i:Nat) (row:List AV) (j:Nat) (a:AV),es[i]?=some row->row[j]?=some a->Xt w g (off+(i*z+j))=some (vs i j)) (hin:∀(i:Nat) (row:List AV) (j:Nat) (a:AV),es[i]?=some row->row[j]?=some a->Rep w Im (vs i j) a nos)
  (hI:∀k,k<n*z->Im g (off+k)) (hV:∀k,n*z<=k->k<cap*z->V g (off+k)) (hf:∀k,k<cap*z->(∃v,Xt w g (off+k)=some v)/\fz w g (off+k) z):Rep w Im (.slice A n cap) (.sl .app z es) V :=
 .sl g off vs (λ_ _=>nos) hn hc hL hA hz hrow hin ⟨(λe=>by cases e),λ_ k h1 h2=>hV k h1 h2,λ_ k hk=>hf k hk,λ_ k hk=>hI k hk⟩ (λ_ _=>Xo _) (λ_ _ _ _ _=>Xh _) (λe=>by cases e) (λ_ _ _=>rfl)
end Go.Vm
set_option autoImplicit false
namespace Go.Vm
variable {w0 : World} {L Im0 : CS} {st : St} {tm : Array Value} {w : World} {Im : CS} {base : Nat -> Nat × Nat} {SO : Bool -> Nat -> CS} {P : Program}
def XfF(d:TypeDesc):Prop:=d=.string\/∃e,d=.slice e
def X9{size n:Nat}{A:Option Addr}{len cap:Nat}{cs:List Value}(hl:cs.length=n*size)(hc:∀b,A=some b->∀(j:Nat) (v:Value),cs[j]?=some v->w.cell? (b.add j)=some v)(h0:A=none->cs=[]) :
  (Builtin.firstCells size n (.slice A len cap)).run P w=.ok cs.toArray w:=by
 cases A with
 | none=>rw[h0 rfl]; simp[Builtin.firstCells]
 | some b=>exact run_firstCells_some w size n b len cap cs hl (hc b rfl)
def XbZ{t u ty e:TypeId}{i:TypeInfo}{du:TypeDesc}(ht:P.underlying t=some (.slice e))(hu:P.underlying u=some du)(hui:XfF du)(hi:P.info? e=some i){A:Option Addr}{n cap m:Nat}{x:Value}{news:List Value}
  (hlen:∀w,(Builtin.lenOf x).run P w=.ok m w) (hnews:(Builtin.firstCells i.size m x).run P w=.ok news.toArray w) (hroom:n+m<=cap) {w':World} (hst:∀a,A=some a->(storeCells (a.add (n*i.size)) news).run P w=.ok () w') (hno:A=none->w'=w) :
  (Builtin.append_ #[t,u] ty #[.slice A n cap,x]).run P w=.ok (.slice A (n+m) cap) w':=by
 cases A with
 | none =>
  rw[hno rfl]
  rcases hui with rfl | ⟨e',rfl⟩<;>simp[Builtin.append_,Xk ht,Xk hu,Go.sizeOf,typeInfo,hi,hlen,hroom,hnews]
 | some a =>
  have:=hst a rfl
  rcases hui with rfl | ⟨e',rfl⟩<;>simp[Builtin.append_,Xk ht,Xk hu,Go.sizeOf,typeInfo,hi,hlen,hroom,hnews,this]
def Xa6{t u ty e:TypeId}{i:TypeInfo}{zv:Value}{du:TypeDesc}(ht:P.underlying t=some (.slice e))(hu:P.underlying u=some du)(hui:XfF du)(hi:P.info? e=some i)(hz:i.zero=some zv){A:Option Addr}{n cap m:Nat}{x:Value}{olds news:List Value}
  (hlen:∀w,(Builtin.lenOf x).run P w=.ok m w) (holds:(Builtin.firstCells i.size n (.slice A n cap)).run P w.drew=.ok olds.toArray w.drew) (hnews:(Builtin.firstCells i.size m x).run P w.drew=.ok news.toArray w.drew) (hroom:cap<n+m)
  (h63:((n+m:Nat):Int)<=9223372036854775807) (hfit:Builtin.nextslicecap (n+m) cap*i.bytes<=281474976710656) :
  (Builtin.append_ #[t,u] ty #[.slice A n cap,x]).run P w =
   .ok (.slice (some ⟨w.heap.size,0,none⟩) (n+m) (grownCap w (n+m) cap e)) (w.drew.alloc (.cells (olds.toArray++news.toArray++Builtin.zeroCells zv.cells (grownCap w (n+m) cap e-(n+m))) e)):=by
 have hn:¬(n+m<=cap):=by omega
 have h63':¬(9223372036854775807<((n:Int)+(m:Int))):=by omega
 have h48':¬(281474976710656<Builtin.nextslicecap (n+m) cap*i.bytes):=by omega
 rcases hui with rfl | ⟨e',rfl⟩<;>simp[Builtin.append_,Xk ht,Xk hu,Go.sizeOf,typeInfo,zeroValue,hi,hz,hlen,hn,h63',h48',Question.forced,holds,hnews,newRow,grownCap]<;>(congr 2; apply Array.ext'; simp[List.append_assoc])
def Uh{z:Array Value}{n size:Nat}(hs:z.size=size)(h:n*size=0):Builtin.zeroCells z n=#[]:=by
 unfold Builtin.zeroCells
 rw[hs,h]; simp
def Xbq{n b:Nat}(hb:b≠0)(h:n*b<=140737488355328):(IntKind.i64).wrap (n:Int)=n:=by
 have h1:n*1<=n*b:=Nat.mul_le_mul_left _ (by omega)
 simp only[IntKind.wrap,IntKind.bits,IntKind.signed]
 simp
 omega
def Xa7{t u ty e:TypeId}{i:TypeInfo}{zv:Value}{k kk:IntKind}(ht:P.underlying t=some (.slice e))(hu:P.underlying u=some (.int k))(hi:P.info? e=some i)(hz:i.zero=some zv)(hzs:zv.cells.size=i.size)(hb:i.bytes≠0){A:Option Addr}{n cap m:Nat}
  (hbm:m*i.bytes<=140737488355328) (hroom:n+m<=cap) {w':World} (hst:∀a,A=some a->(storeCells (a.add (n*i.size)) (Builtin.zeroCells zv.cells m).toList).run P w=.ok () w') (hno:A=none->w'=w) :
  (Builtin.append_ #[t,u] ty #[.slice A n cap,.int kk m]).run P w=.ok (.slice A (n+m) cap) w':=by
 have hw:=Xbq hb hbm
 have h0:¬((m:Int)<0):=by omega
 have h1:¬((m:Int)*(i.bytes:Int)>281474976710656):=by
  have:((m*i.bytes:Nat):Int)<=((140737488355328:Nat):Int):=Int.ofNat_le.2 hbm
  rw[Int.natCast_mul] at this
  omega
 have hz0:m*i.size=0->Builtin.zeroCells zv.cells m=#[]:=λh=>Uh hzs h
 cases A with
 | none =>
  rw[hno rfl]
  by_cases hq:m*i.size=0
  ·simp[Builtin.append_,Xk ht,Xk hu,Go.sizeOf,typeInfo,hi,hroom,asInt,asIntOf,hw,h0,h1,hq]
  ·simp[Builtin.append_,Xk ht,Xk hu,Go.sizeOf,typeInfo,zeroValue,hi,hz,hroom,asInt,asIntOf,hw,h0,h1,hq]
 | some a =>
  have:=hst a rfl
  by_cases hq:m*i.size=0
  ·rw[hz0 hq] at this
   simp[Builtin.append_,Xk ht,Xk hu,Go.sizeOf,typeInfo,hi,hroom,asInt,asIntOf,hw,h0,h1,hq,this]
  ·simp[Builtin.append_,Xk ht,Xk hu,Go.sizeOf,typeInfo,zeroValue,hi,hz,hroom,asInt,asIntOf,hw,h0,h1,hq,this]
def XaD{t u ty e:TypeId}{i:TypeInfo}{zv:Value}{k kk:IntKind}(ht:P.underlying t=some (.slice e))(hu:P.underlying u=some (.int k))(hi:P.info? e=some i)(hz:i.zero=some zv)(hzs:zv.cells.size=i.size)(hb:i.bytes≠0){A:Option Addr}{n cap m:Nat}{olds:List Value}
  (hbm:m*i.bytes<=140737488355328) (holds:(Builtin.firstCells i.size n (.slice A n cap)).run P w.drew=.ok olds.toArray w.drew) (hroom:cap<n+m)
  (h63:((n+m:Nat):Int)<=9223372036854775807) (hfit:Builtin.nextslicecap (n+m) cap*i.bytes<=281474976710656) :
  (Builtin.append_ #[t,u] ty #[.slice A n cap,.int kk m]).run P w =
   .ok (.slice (some ⟨w.heap.size,0,none⟩) (n+m) (grownCap w (n+m) cap e)) (w.drew.alloc (.cells (olds.toArray++Builtin.zeroCells zv.cells m++Builtin.zeroCells zv.cells (grownCap w (n+m) cap e-(n+m))) e)):=by
 have hw:=Xbq hb hbm
 have h0:¬((m:Int)<0):=by omega
 have h1:¬((m:Int)*(i.bytes:Int)>281474976710656):=by
  have:((m*i.bytes:Nat):Int)<=((140737488355328:Nat):Int):=Int.ofNat_le.2 hbm
  rw[Int.natCast_mul] at this
  omega
 have hn:¬(n+m<=cap):=by omega
 have h63':¬(9223372036854775807<((n:Int)+(m:Int))):=by omega
 have h48':¬(281474976710656<Builtin.nextslicecap (n+m) cap*i.bytes):=by omega
 by_cases hq:m*i.size=0
 ·have hz0:=Uh (z:=zv.cells) hzs hq
  rw[hz0]
  simp[Builtin.append_,Xk ht,Xk hu,Go.sizeOf,typeInfo,zeroValue,hi,hz,hn,h63',h48',Question.forced,holds,newRow,grownCap,asInt,asIntOf,hw,h0,h1,hq]
 ·simp[Builtin.append_,Xk ht,Xk hu,Go.sizeOf,typeInfo,zeroValue,hi,hz,hn,h63',h48',Question.forced,holds,newRow,grownCap,asInt,asIntOf,hw,h0,h1,hq]<;>(congr 2; apply Array.ext'; simp[List.append_assoc])
structure Um (P:Program) (t u ty e:TypeId) (i:TypeInfo) (zv Y:Value) (w:World) (m:Nat) (news:List Value):Prop where
 room:∀{A:Option Addr} {n cap:Nat},n+m<=cap->∀{w':World},(∀a,A=some a->(storeCells (a.add (n*i.size)) news).run P w=.ok () w')->(A=none->w'=w) ->
  (Builtin.append_ #[t,u] ty #[.slice A n cap,Y]).run P w=.ok (.slice A (n+m) cap) w'
 new:∀{A:Option Addr} {n cap:Nat} {olds:List Value},(Builtin.firstCells i.size n (.slice A n cap)).run P w.drew=.ok olds.toArray w.drew->cap<n+m->((n+m:Nat):Int)<=9223372036854775807->Builtin.nextslicecap (n+m) cap*i.bytes<=281474976710656 ->
  (Builtin.append_ #[t,u] ty #[.slice A n cap,Y]).run P w =
   .ok (.slice (some ⟨w.heap.size,0,none⟩) (n+m) (grownCap w (n+m) cap e)) (w.drew.alloc (.cells (olds.toArray++news.toArray++Builtin.zeroCells zv.cells (grownCap w (n+m) cap e-(n+m))) e))
def Um.of{t u ty e:TypeId}{i:TypeInfo}{zv Y:Value}{du:TypeDesc}{m:Nat}{news:List Value}(ht:P.underlying t=some (.slice e))(hu:P.underlying u=some du)(hui:XfF du)(hi:P.info? e=some i)(hz:i.zero=some zv)
  (hlen:∀w,(Builtin.lenOf Y).run P w=.ok m w) (h1:(Builtin.firstCells i.size m Y).run P w=.ok news.toArray w) (h2:(Builtin.firstCells i.size m Y).run P w.drew=.ok news.toArray w.drew):Um P t u ty e i zv Y w m news :=
 ⟨λhr _ hst hno=>XbZ ht hu hui hi hlen h1 hr hst hno,λho hr h63 hf=>Xa6 ht hu hui hi hz hlen ho h2 hr h63 hf⟩
def Um.zeros{t u ty e:TypeId}{i:TypeInfo}{zv:Value}{k kk:IntKind}{m:Nat}(ht:P.underlying t=some (.slice e))(hu:P.underlying u=some (.int k))(hi:P.info? e=some i)(hz:i.zero=some zv)(hzs:zv.cells.size=i.size)(hb:i.bytes≠0)(hbm:m*i.bytes<=140737488355328) :
  Um P t u ty e i zv (.int kk m) w m (Builtin.zeroCells zv.cells m).toList :=
 ⟨λhr _ hst hno=>Xa7 ht hu hi hz hzs hb hbm hr hst hno,λho hr h63 hf=>by simpa using XaD ht hu hi hz hzs hb hbm ho hr h63 hf⟩
end Go.Vm
set_option autoImplicit false
namespace Go.Vm
variable {w : World} {Im : CS}
structure Zw (w:World) (Im:CS) (z:Nat) (ys:List (List AV)) (us:Nat->Nat->Value) (Sf2:Nat->Nat->CS) (V2:CS) (news:List Value):Prop where
 len:news.length=ys.length*z
 hz:∀(i:Nat) (row:List AV),ys[i]?=some row->row.length=z
 get:∀(i:Nat) (row:List AV) (j:Nat) (a:AV),ys[i]?=some row->row[j]?=some a->news[i*z+j]?=some (us i j)
 rep:∀(i:Nat) (row:List AV) (j:Nat) (a:AV),ys[i]?=some row->row[j]?=some a->Rep w Im (us i j) a (Sf2 i j)
 sub:∀i j,Sub (Sf2 i j) V2
 dis:∀i j i' j',¬(i=i'/\j=j')->XY (Sf2 i j) (Sf2 i' j')
 one:∀u∈news,u.oneCell'=true
def Ya{es ys:List (List AV)}{i:Nat}{row:List AV}(h:(es++ys)[i]?=some row):(i<es.length/\es[i]?=some row)\/(es.length<=i/\ys[i-es.length]?=some row):=by
 by_cases hi:i<es.length
 ·rw[List.getElem?_append_left hi] at h; exact .inl ⟨hi,h⟩
 ·rw[List.getElem?_append_right (by omega)] at h; exact .inr ⟨by omega,h⟩
def Rep.appendMut{A:Option Addr}{n cap z:Nat}{es ys:List (List AV)}{V1 V2:CS}{us:Nat->Nat->Value}{Sf2:Nat->Nat->CS}{news:List Value}(h:Rep w Im (.slice A n cap) (.sl .mut z es) V1)(hy:Zw w Im z ys us Sf2 V2 news)
  (hd:XY V1 V2) (hdI:XY V1 Im) (hroom:n+ys.length<=cap) (hbig:n+ys.length<=9223372036854775807):∃(w':World) (M:CS),(∀P a,A=some a->(storeCells (a.add (n*z)) news).run P w=.ok () w')/\(A=none->w'=w)/\Sub M V1/\Frame w w' M/\(∀S,XY S M->XN S w w') /\
   Rep w' Im (.slice A (n+ys.length) cap) (.sl .mut z (es++ys)) (un V1 V2):=by
 cases h with
 | sl g off vs Sf hn hc hL hA hz hrow hin hf hsub hd0 hself hnone =>
  have hcz:(n+ys.length)*z<=cap*z:=Nat.mul_le_mul_right _ hroom
  have hmul:(n+ys.length)*z=n*z+ys.length*z:=Nat.add_mul _ _ _
  have hnl:=hy.len
  by_cases hcap:cap=0
  ·have hys:ys=[]:=List.eq_nil_of_length_eq_zero (by omega)
   subst hys
   have hnews:news=[]:=List.eq_nil_of_length_eq_zero (by simpa using hnl)
   subst hnews
   refine⟨w,nos,λP a _=>rfl,λ_=>rfl,Xo _,Frame.refl _ _,λS _=>XN.refl _ _,?_⟩
   rw[List.append_nil]
   exact .sl g off vs Sf hn hc hL hA hz hrow hin ⟨λe k hk=>.inl (hf.own e k hk),(λe=>by cases e),hf.free,hf.imm⟩ (λi j=>(hsub i j).trans (Xj _ _)) hd0 hself hnone
  ·have hA':=hA (by omega)
   have hcells:∀j,j<news.length->(w.cell? ⟨g,off+n*z+j,none⟩).isSome=true/\w.frozen? ⟨g,off+n*z+j,none⟩=false/\V1 g (off+n*z+j):=by
    intro j hj
    obtain⟨⟨v,hv⟩,hfz⟩:=hf.free (by decide) (n*z+j) (by omega)
    have ho:=hf.own rfl (n*z+j) (by omega)
    rw[<-Nat.add_assoc] at hv hfz ho
    exact⟨by simp only[Xt] at hv; rw[hv]; rfl,hfz.1,ho⟩
   let w':=w.setCells g (off+n*z) news
   have hM:Sub (seg g (off+n*z) news.length) V1:=by
    rintro b k ⟨rfl,h1,h2⟩
    have:=(hcells (k-(off+n*z)) (by omega)).2.2
    rwa [Nat.add_sub_cancel' h1] at this
   have hsame:∀S:CS,XY S (seg g (off+n*z) news.length)->XN S w w':=λS hS=>ZE g (off+n*z) news w hS
   refine⟨w',seg g (off+n*z) news.length,λP a ha=>?_,λe=>(by rw[hA'] at e; cases e),hM,YR _ _ _ _,hsame,?_⟩
   ·rw[hA'] at ha
    injection ha with ha
    subst ha
    rw[ZF]
    have:=run_storeCells_cells (P:=P) g (off+n*z) news 0 w (λj hj=>by simpa using(hcells j hj).1) (λj hj=>by simpa using(hcells j hj).2.1) hy.one
    simpa using this
   ·have hIs:XN Im w w':=hsame _ (λb k hb hm=>hdI b k (hM b k hm) hb)
    have h2s:∀i j,XN (Sf2 i j) w w':=λi j=>hsame _ (λb k hb hm=>hd b k (hM b k hm) (hy.sub i j b k hb))
    have h1s:∀i j,XN (Sf i j) w w':=λi j=>hsame _ (λb k hb hm=>by
     obtain⟨rfl,h1,h2⟩:=hm
     have:=hself rfl i j (k-off) (by omega)
     rw[Nat.add_sub_cancel' (by omega)] at this
     exact this hb)
    refine .sl g off (λi j=>if i<n then vs i j else us (i-n) j) (λi j=>if i<n then Sf i j else Sf2 (i-n) j) (by rw[List.length_append,hn]) hroom hbig hA ?_ ?_ ?_ ⟨λe k hk=>.inl (hf.own e k hk),(λe=>by cases e),λe k hk=>?_,λe=>absurd rfl e⟩ ?_ ?_ ?_ (λe=>absurd rfl e)
    ·intro i row hi
     rcases Ya hi with⟨_,hi⟩ | ⟨_,hi⟩
     ·exact hz i row hi
     ·exact hy.hz _ row hi
    ·intro i row j a hi hj
     rcases Ya hi with⟨hlt,hi⟩ | ⟨hge,hi⟩
     ·rw[if_pos (by omega)]
      obtain⟨q1,q2,q3⟩:=idx_lt hz hi hj
      rw[hn] at q3
      have:=hsame (λb k=>b=g/\k=off+(i*z+j)) (by rintro b k ⟨rfl,rfl⟩ ⟨_,h1,h2⟩; omega) g _ ⟨rfl,rfl⟩
      rw[this.1]; exact hrow i row j a hi hj
     ·rw[if_neg (by omega)]
      rw[hn] at hi hge
      have hg:=hy.get _ row j a hi hj
      obtain⟨q1,q2,q3⟩:=idx_lt hy.hz hi hj
      have hlt:(i-n)*z+j<news.length:=(List.getElem?_eq_some_iff.1 hg).1
      have:=World.cell?_setCells_in g news (off+n*z) w (λq hq=>(hcells q hq).1) _ hlt
      have hsum:off+n*z+((i-n)*z+j)=off+(i*z+j):=by
       have:n*z+(i-n)*z=i*z:=by rw[<-Nat.add_mul]; congr 1; omega
       omega
      rw[hsum] at this
      have e2:news[(i-n)*z+j]=us (i-n) j:=by
       have:=List.getElem?_eq_some_iff.1 hg
       exact this.2
      rw[e2] at this
      exact this
    ·intro i row j a hi hj
     rcases Ya hi with⟨hlt,hi⟩ | ⟨hge,hi⟩
     ·rw[if_pos (by omega),if_pos (by omega)]
      exact(hin i row j a hi hj).keep (Sub.rfl' _) (Sub.rfl' _) hIs (h1s i j)
     ·rw[if_neg (by omega),if_neg (by omega)]
      rw[hn] at hi
      exact(hy.rep _ row j a hi hj).keep (Sub.rfl' _) (Sub.rfl' _) hIs (h2s _ j)
    ·obtain⟨⟨v,hv⟩,hfz⟩:=hf.free e k hk
     refine⟨?_,hfz.to λ_=>World.frozen?_setCells g news _ w _⟩
     by_cases hk2:n*z<=k/\k<n*z+news.length
     ·have:=World.cell?_setCells_in g news (off+n*z) w (λq hq=>(hcells q hq).1) (k-n*z) (by omega)
      rw[show off+n*z+(k-n*z)=off+k by omega] at this
      exact⟨_,this⟩
     ·have:=hsame (λb q=>b=g/\q=off+k) (by rintro b q ⟨rfl,rfl⟩ ⟨_,h1,h2⟩; omega) g _ ⟨rfl,rfl⟩
      exact⟨v,by rw[this.1]; exact hv⟩
    ·intro i j
     split
     ·exact(hsub i j).trans (Xj _ _)
     ·exact(hy.sub _ j).trans (Yt _ _)
    ·intro i j i' j' hne
     split<;>split
     ·exact hd0 i j i' j' hne
     ·exact hd.mono (hsub i j) (hy.sub _ j')
     ·exact(hd.mono (hsub i' j') (hy.sub _ j)).symm
     ·exact hy.dis _ _ _ _ (λe=>hne ⟨by omega,e.2⟩)
    ·intro e i j k hk
     split
     ·exact hself e i j k hk
     ·exact λhb=>hd _ _ (hf.own rfl k hk) (hy.sub _ j _ _ hb)
end Go.Vm
set_option autoImplicit false
namespace Go.Vm
variable {w : World} {Im : CS}
def Rep.appendApp{A:Option Addr}{n cap z:Nat}{es ys:List (List AV)}{V1 V2:CS}{us:Nat->Nat->Value}{Sf2:Nat->Nat->CS}{news:List Value}(h:Rep w Im (.slice A n cap) (.sl .app z es) V1)(hy:Zw w Im z ys us Sf2 V2 news)
  (hy0:∀i j,Sf2 i j=nos) (hdI:XY V1 Im) (hroom:n+ys.length<=cap) (hbig:n+ys.length<=9223372036854775807):∃(w':World) (M:CS),(∀P a,A=some a->(storeCells (a.add (n*z)) news).run P w=.ok () w')/\(A=none->w'=w)/\Sub M V1/\Frame w w' M/\(∀S,XY S M->XN S w w') /\
   Rep w' (un Im M) (.slice A (n+ys.length) cap) (.sl .app z (es++ys)) (ZJ V1 M):=by
 cases h with
 | sl g off vs Sf hn hc hL hA hz hrow hin hf hsub hd0 hself hnone =>
  have h0:=hnone (by decide)
  have hcz:(n+ys.length)*z<=cap*z:=Nat.mul_le_mul_right _ hroom
  have hmul:(n+ys.length)*z=n*z+ys.length*z:=Nat.add_mul _ _ _
  have hnl:=hy.len
  by_cases hcap:cap=0
  ·have hys:ys=[]:=List.eq_nil_of_length_eq_zero (by omega)
   subst hys
   have hnews:news=[]:=List.eq_nil_of_length_eq_zero (by simpa using hnl)
   subst hnews
   refine⟨w,nos,λP a _=>rfl,λ_=>rfl,Xo _,Frame.refl _ _,λS _=>XN.refl _ _,?_⟩
   rw[List.append_nil]
   refine Rep.keep (w:=w) (w':=w) (S:=V1) (.sl g off vs Sf hn hc hL hA hz hrow hin hf hsub hd0 hself hnone) (Xj _ _) (λb k hb=>⟨hb,λh=>h⟩) (XN.refl _ _) (XN.refl _ _)
  ·have hA':=hA (by omega)
   have hcells:∀j,j<news.length->(w.cell? ⟨g,off+n*z+j,none⟩).isSome=true/\w.frozen? ⟨g,off+n*z+j,none⟩=false/\V1 g (off+n*z+j):=by
    intro j hj
    obtain⟨⟨v,hv⟩,hfz⟩:=hf.free (by decide) (n*z+j) (by omega)
    have ho:=hf.app rfl (n*z+j) (by omega) (by omega)
    rw[<-Nat.add_assoc] at hv hfz ho
    exact⟨by simp only[Xt] at hv; rw[hv]; rfl,hfz.1,ho⟩
   let w':=w.setCells g (off+n*z) news
   have hM:Sub (seg g (off+n*z) news.length) V1:=by
    rintro b k ⟨rfl,h1,h2⟩
    have:=(hcells (k-(off+n*z)) (by omega)).2.2
    rwa [Nat.add_sub_cancel' h1] at this
   have hsame:∀S:CS,XY S (seg g (off+n*z) news.length)->XN S w w':=λS hS=>ZE g (off+n*z) news w hS
   refine⟨w',seg g (off+n*z) news.length,λP a ha=>?_,λe=>(by rw[hA'] at e; cases e),hM,YR _ _ _ _,hsame,?_⟩
   ·rw[hA'] at ha
    injection ha with ha
    subst ha
    rw[ZF]
    have:=run_storeCells_cells (P:=P) g (off+n*z) news 0 w (λj hj=>by simpa using(hcells j hj).1) (λj hj=>by simpa using(hcells j hj).2.1) hy.one
    simpa using this
   ·have hIs:XN Im w w':=hsame _ (λb k hb hm=>hdI b k (hM b k hm) hb)
    refine Rep.toApp0 (g:=g) (off:=off) (λi j=>if i<n then vs i j else us (i-n) j) (by rw[List.length_append,hn]) hroom hbig hA ?_ ?_ ?_ ?_ ?_ ?_
    ·intro i row hi
     rcases Ya hi with⟨_,hi⟩ | ⟨_,hi⟩
     ·exact hz i row hi
     ·exact hy.hz _ row hi
    ·intro i row j a hi hj
     rcases Ya hi with⟨hlt,hi⟩ | ⟨hge,hi⟩
     ·rw[if_pos (by omega)]
      obtain⟨q1,q2,q3⟩:=idx_lt hz hi hj
      rw[hn] at q3
      have:=hsame (λb k=>b=g/\k=off+(i*z+j)) (by rintro b k ⟨rfl,rfl⟩ ⟨_,h1,h2⟩; omega) g _ ⟨rfl,rfl⟩
      rw[this.1]; exact hrow i row j a hi hj
     ·rw[if_neg (by omega)]
      rw[hn] at hi hge
      have hg:=hy.get _ row j a hi hj
      have hlt:(i-n)*z+j<news.length:=(List.getElem?_eq_some_iff.1 hg).1
      have:=World.cell?_setCells_in g news (off+n*z) w (λq hq=>(hcells q hq).1) _ hlt
      have hsum:off+n*z+((i-n)*z+j)=off+(i*z+j):=by
       have:n*z+(i-n)*z=i*z:=by rw[<-Nat.add_mul]; congr 1; omega
       omega
      rw[hsum] at this
      have e2:news[(i-n)*z+j]=us (i-n) j:=(List.getElem?_eq_some_iff.1 hg).2
      rw[e2] at this
      exact this
    ·intro i row j a hi hj
     rcases Ya hi with⟨hlt,hi⟩ | ⟨hge,hi⟩
     ·rw[if_pos (by omega)]
      have:=hin i row j a hi hj
      rw[h0] at this
      exact this.keep (Xj _ _) (Sub.rfl' _) hIs (λ_ _ h=>h.elim)
     ·rw[if_neg (by omega)]
      rw[hn] at hi
      have:=hy.rep _ row j a hi hj
      rw[hy0] at this
      exact this.keep (Xj _ _) (Sub.rfl' _) hIs (λ_ _ h=>h.elim)
    ·intro k hk
     by_cases hk2:k<n*z
     ·exact .inl (hf.imm (by decide) k hk2)
     ·exact .inr ⟨rfl,by omega,by omega⟩
    ·intro k h1 h2
     exact⟨hf.app rfl k (by omega) h2,λ⟨_,_,h3⟩=>by omega⟩
    ·intro k hk
     obtain⟨⟨v,hv⟩,hfz⟩:=hf.free (by decide) k hk
     refine⟨?_,hfz.to λ_=>World.frozen?_setCells g news _ w _⟩
     by_cases hk2:n*z<=k/\k<n*z+news.length
     ·have:=World.cell?_setCells_in g news (off+n*z) w (λq hq=>(hcells q hq).1) (k-n*z) (by omega)
      rw[show off+n*z+(k-n*z)=off+k by omega] at this
      exact⟨_,this⟩
     ·have:=hsame (λb q=>b=g/\q=off+k) (by rintro b q ⟨rfl,rfl⟩ ⟨_,h1,h2⟩; omega) g _ ⟨rfl,rfl⟩
      exact⟨v,by rw[this.1]; exact hv⟩
end Go.Vm
set_option autoImplicit false
namespace Go.Vm
variable {w : World} {Im : CS} {P : Program}
def UW(w:World):Frame w w.drew nos:=⟨rfl,rfl,rfl,Nat.le_refl _,λ_ _=>.inl rfl⟩
def XgJ(n z:Nat)(vs:Nat->Nat->Value):List Value:=(List.range (n*z)).map λk=>vs (k / z) (k%z)
def Qt(n z:Nat)(vs:Nat->Nat->Value):(XgJ n z vs).length=n*z:=by simp[XgJ]
def Xaj{n z i j:Nat}(vs:Nat->Nat->Value)(hi:i<n)(hj:j<z):(XgJ n z vs)[i*z+j]?=some (vs i j):=by
 have hlt:i*z+j<n*z:=by
  have:(i+1)*z<=n*z:=Nat.mul_le_mul_right _ hi
  rw[Nat.add_mul] at this
  omega
 have h1:(i*z+j) / z=i:=by rw[Nat.mul_comm,Nat.mul_add_div (by omega)]; simp[Nat.div_eq_of_lt hj]
 have h2:(i*z+j)%z=j:=by rw[Nat.mul_comm,Nat.mul_add_mod,Nat.mod_eq_of_lt hj]
 simp[XgJ,hlt,h1,h2]
def Rep.olds{A:Option Addr}{n cap z:Nat}{t:Tag}{es:List (List AV)}{V:CS}(h:Rep w Im (.slice A n cap) (.sl t z es) V):∃(olds:List Value) (vs:Nat->Nat->Value) (Sf:Nat->Nat->CS),olds.length=n*z/\es.length=n/\n<=cap /\
  (∀(i:Nat) (row:List AV),es[i]?=some row->row.length=z)/\(∀i j,i<n->j<z->olds[i*z+j]?=some (vs i j))/\(∀b,A=some b->∀(j:Nat) (v:Value),olds[j]?=some v->w.cell? (b.add j)=some v)/\(A=none->olds=[]) /\
  (∀(i:Nat) (row:List AV) (j:Nat) (a:AV),es[i]?=some row->row[j]?=some a->Rep w Im (vs i j) a (Sf i j))/\(∀i j,Sub (Sf i j) V)/\(∀i j i' j',¬(i=i'/\j=j')->XY (Sf i j) (Sf i' j'))/\(t≠.mut->∀i j,Sf i j=nos):=by
 cases h with
 | sl g off vs Sf hn hc hL hA hz hrow hin hf hsub hd0 hself hnone =>
  refine⟨XgJ n z vs,vs,Sf,Qt _ _ _,hn,hc,hz,λi j hi hj=>Xaj vs hi hj,λb hb j v hj=>?_,λhb=>?_,hin,hsub,hd0,hnone⟩
  ·have hjl:j<n*z:=by have:=(List.getElem?_eq_some_iff.1 hj).1; rwa [Qt] at this
   have hz0:0<z:=by cases z with
    | zero=>simp at hjl
    | succ z=>omega
   have hn0:0<n:=by cases n with
    | zero=>simp at hjl
    | succ n=>omega
   rw[hA (by omega)] at hb
   injection hb with hb
   subst hb
   have hi:j / z<n:=(Nat.div_lt_iff_lt_mul hz0).2 hjl
   have hm:j%z<z:=Nat.mod_lt _ hz0
   have he:j / z*z+j%z=j:=by rw[Nat.mul_comm]; exact Nat.div_add_mod j z
   have hrw:es[j / z]?=some es[j / z]:=List.getElem?_eq_getElem (by omega)
   have hl:=hz _ _ hrw
   have hc':(es[j / z])[j%z]?=some (es[j / z])[j%z]:=List.getElem?_eq_getElem (by omega)
   have:=hrow _ _ _ _ hrw hc'
   rw[he] at this
   have hg:=Xaj (n:=n) vs hi hm
   rw[he,hj] at hg
   injection hg with hg
   rw[ZF,hg]
   exact this
  ·have h0:cap=0:=by
    cases cap with
    | zero=>rfl
    | succ c=>rw[hA (by omega)] at hb; cases hb
   have:n=0:=by omega
   apply List.eq_nil_of_length_eq_zero
   rw[Qt,this,Nat.zero_mul]
end Go.Vm
set_option autoImplicit false
namespace Go.Vm
variable {w : World} {Im : CS}
def Rep.grownMut{n m cap z:Nat}{e:TypeId}{es ys:List (List AV)}{V1 V2:CS}{vs us:Nat->Nat->Value}{Sf Sf2:Nat->Nat->CS}{olds news rest:List Value}(ho:olds.length=n*z)(hn:es.length=n)(hz:∀(i:Nat) (row:List AV),es[i]?=some row->row.length=z)
  (hg:∀i j,i<n->j<z->olds[i*z+j]?=some (vs i j)) (hin:∀(i:Nat) (row:List AV) (j:Nat) (a:AV),es[i]?=some row->row[j]?=some a->Rep w Im (vs i j) a (Sf i j)) (hsub:∀i j,Sub (Sf i j) V1) (hd0:∀i j i' j',¬(i=i'/\j=j')->XY (Sf i j) (Sf i' j'))
  (hy:Zw w Im z ys us Sf2 V2 news) (hm:ys.length=m) (hd:XY V1 V2) (hV1:∀b k,V1 b k->b<w.heap.size) (hV2:∀b k,V2 b k->b<w.heap.size) (hI:∀b k,Im b k->b<w.heap.size) (hc:n+m<=cap) (hL:n+m<=9223372036854775807) (hr:rest.length=(cap-(n+m))*z) :
  Rep (w.drew.alloc (.cells (olds++news++rest).toArray e)) Im (.slice (some ⟨w.heap.size,0,none⟩) (n+m) cap) (.sl .mut z (es++ys)) (un (blk w.heap.size) (un V1 V2)):=by
 have hnl:=hy.len
 have hfr:Frame w (w.drew.alloc (.cells (olds++news++rest).toArray e)) nos:=(UW w).trans (X2 w.drew _)
 generalize hw:w.drew.alloc (.cells (olds++news++rest).toArray e)=w' at *
 have hold:∀S:CS,(∀b k,S b k->b<w.heap.size)->XN S w w':=λS hS=>hfr.same (λ_ _ _ h=>h.elim) hS
 have hsz:(olds++news++rest).length=cap*z:=by
  rw[List.length_append,List.length_append,ho,hnl,hm,hr,<-Nat.add_mul,<-Nat.add_mul]; congr 1; omega
 have hcell:∀k,k<cap*z->Xt w' w.heap.size k=some ((olds++news++rest).getD k undef):=by
  intro k hk
  have:=Zj w.drew (olds++news++rest).toArray e k
  rw[hw] at this
  rw[show w.heap.size=w.drew.heap.size from rfl,this,List.getElem?_toArray,List.getD_eq_getElem?_getD,List.getElem?_eq_getElem (by omega)]
  rfl
 have hfz:∀k,YE w' w.heap.size k=false:=by
  intro k
  have:=Y2 w.drew (olds++news++rest).toArray e k
  rw[hw] at this
  exact this
 refine(XbW (Im:=Im) (w':=w') (g:=w.heap.size) (n:=n+m) (cap:=cap) (z:=z) (es:=es++ys) (by rw[List.length_append,hn,hm]) hc hL (λk=>(olds++news++rest).getD k undef) hcell (λk _=>⟨hfz k,λ_ q=>hfz q⟩) ?_
  (λi j=>if i<n then Sf i j else Sf2 (i-n) j) ?_ ?_ ?_).keep (Sub.rfl' _) ?_ (XN.refl _ _) (XN.refl _ _)
 ·intro i row hi
  rcases Ya hi with⟨_,hi⟩ | ⟨_,hi⟩
  ·exact hz i row hi
  ·exact hy.hz _ row hi
 ·intro i row j a hi hj
  show Rep w' Im ((olds++news++rest).getD (i*z+j) undef) a (if i<n then Sf i j else Sf2 (i-n) j)
  rcases Ya hi with⟨hlt,hi⟩ | ⟨hge,hi⟩
  ·rw[if_pos (by omega)]
   obtain⟨q1,q2,q3⟩:=idx_lt hz hi hj
   have:=hg i j (by omega) q2
   have e1:(olds++news++rest).getD (i*z+j) undef=vs i j:=by
    rw[List.getD_eq_getElem?_getD,List.append_assoc,List.getElem?_append_left (by rw[ho,<-hn]; exact q3),this]; rfl
   rw[e1]
   exact(hin i row j a hi hj).keep (Sub.rfl' _) (Sub.rfl' _) (hold _ hI) (hold _ (λb k hb=>hV1 b k (hsub i j b k hb)))
  ·rw[if_neg (by omega)]
   rw[hn] at hi hge
   have:=hy.get _ row j a hi hj
   have hsum:i*z+j=n*z+((i-n)*z+j):=by
    have:n*z+(i-n)*z=i*z:=by rw[<-Nat.add_mul]; congr 1; omega
    omega
   have hlt:=(List.getElem?_eq_some_iff.1 this).1
   have e1:(olds++news++rest).getD (i*z+j) undef=us (i-n) j:=by
    rw[hsum,List.getD_eq_getElem?_getD,List.append_assoc,List.getElem?_append_right (by omega),ho,Nat.add_sub_cancel_left,List.getElem?_append_left hlt,this]; rfl
   rw[e1]
   exact(hy.rep _ row j a hi hj).keep (Sub.rfl' _) (Sub.rfl' _) (hold _ hI) (hold _ (λb k hb=>hV2 b k (hy.sub _ j b k hb)))
 ·intro i j i' j' hne
  show XY (if i<n then Sf i j else Sf2 (i-n) j) (if i'<n then Sf i' j' else Sf2 (i'-n) j')
  split<;>split
  ·exact hd0 i j i' j' hne
  ·exact hd.mono (hsub i j) (hy.sub _ j')
  ·exact(hd.mono (hsub i' j') (hy.sub _ j)).symm
  ·exact hy.dis _ _ _ _ (λe=>hne ⟨by omega,e.2⟩)
 ·intro i j k hb
  split at hb
  ·exact Nat.lt_irrefl _ (hV1 _ _ (hsub i j _ _ hb))
  ·exact Nat.lt_irrefl _ (hV2 _ _ (hy.sub _ j _ _ hb))
 ·refine U3 (Xj _ _) ?_
  rintro b k ⟨i,j,hb⟩
  split at hb
  ·exact .inr (.inl (hsub i j b k hb))
  ·exact .inr (.inr (hy.sub _ j b k hb))
end Go.Vm
set_option autoImplicit false
namespace Go.Vm
variable {w : World} {Im : CS}
def Rep.grownApp{n m cap z:Nat}{e:TypeId}{es ys:List (List AV)}{vs us:Nat->Nat->Value}{Sf2:Nat->Nat->CS}{V2:CS}{olds news rest:List Value}(ho:olds.length=n*z)(hn:es.length=n)(hz:∀(i:Nat) (row:List AV),es[i]?=some row->row.length=z)
  (hg:∀i j,i<n->j<z->olds[i*z+j]?=some (vs i j)) (hin:∀(i:Nat) (row:List AV) (j:Nat) (a:AV),es[i]?=some row->row[j]?=some a->Rep w Im (vs i j) a nos)
  (hy:Zw w Im z ys us Sf2 V2 news) (hy0:∀i j,Sf2 i j=nos) (hm:ys.length=m) (hI:∀b k,Im b k->b<w.heap.size) (hc:n+m<=cap) (hL:n+m<=9223372036854775807) (hr:rest.length=(cap-(n+m))*z) :
  Rep (w.drew.alloc (.cells (olds++news++rest).toArray e)) (un Im (seg w.heap.size 0 ((n+m)*z))) (.slice (some ⟨w.heap.size,0,none⟩) (n+m) cap) (.sl .app z (es++ys)) (ZJ (blk w.heap.size) (seg w.heap.size 0 ((n+m)*z))):=by
 have hnl:=hy.len
 have hfr:Frame w (w.drew.alloc (.cells (olds++news++rest).toArray e)) nos:=(UW w).trans (X2 w.drew _)
 generalize hw:w.drew.alloc (.cells (olds++news++rest).toArray e)=w' at *
 have hold:∀S:CS,(∀b k,S b k->b<w.heap.size)->XN S w w':=λS hS=>hfr.same (λ_ _ _ h=>h.elim) hS
 have hsz:(olds++news++rest).length=cap*z:=by
  rw[List.length_append,List.length_append,ho,hnl,hm,hr,<-Nat.add_mul,<-Nat.add_mul]; congr 1; omega
 have hcell:∀k,k<cap*z->Xt w' w.heap.size k=some ((olds++news++rest).getD k undef):=by
  intro k hk
  have:=Zj w.drew (olds++news++rest).toArray e k
  rw[hw] at this
  rw[show w.heap.size=w.drew.heap.size from rfl,this,List.getElem?_toArray,List.getD_eq_getElem?_getD,List.getElem?_eq_getElem (by omega)]
  rfl
 have hfz:∀k,YE w' w.heap.size k=false:=by
  intro k
  have:=Y2 w.drew (olds++news++rest).toArray e k
  rw[hw] at this
  exact this
 have hmc:(n+m)*z<=cap*z:=Nat.mul_le_mul_right _ hc
 refine Rep.toApp0 (g:=w.heap.size) (off:=0) (λi j=>(olds++news++rest).getD (i*z+j) undef) (by rw[List.length_append,hn,hm]) hc hL (λ_=>rfl) ?_ ?_ ?_ ?_ ?_ ?_
 ·intro i row hi
  rcases Ya hi with⟨_,hi⟩ | ⟨_,hi⟩
  ·exact hz i row hi
  ·exact hy.hz _ row hi
 ·intro i row j a hi hj
  have hzz:∀(i:Nat) (row:List AV),(es++ys)[i]?=some row->row.length=z:=by
   intro i row hi
   rcases Ya hi with⟨_,hi⟩ | ⟨_,hi⟩
   ·exact hz i row hi
   ·exact hy.hz _ row hi
  obtain⟨_,_,q3⟩:=idx_lt hzz hi hj
  rw[List.length_append,hn,hm] at q3
  rw[Nat.zero_add]
  exact hcell _ (by omega)
 ·intro i row j a hi hj
  show Rep w' _ ((olds++news++rest).getD (i*z+j) undef) a nos
  rcases Ya hi with⟨hlt,hi⟩ | ⟨hge,hi⟩
  ·obtain⟨q1,q2,q3⟩:=idx_lt hz hi hj
   have:=hg i j (by omega) q2
   have e1:(olds++news++rest).getD (i*z+j) undef=vs i j:=by
    rw[List.getD_eq_getElem?_getD,List.append_assoc,List.getElem?_append_left (by rw[ho,<-hn]; exact q3),this]; rfl
   rw[e1]
   exact(hin i row j a hi hj).keep (Xj _ _) (Sub.rfl' _) (hold _ hI) (λ_ _ h=>h.elim)
  ·rw[hn] at hi hge
   have:=hy.get _ row j a hi hj
   have hsum:i*z+j=n*z+((i-n)*z+j):=by
    have:n*z+(i-n)*z=i*z:=by rw[<-Nat.add_mul]; congr 1; omega
    omega
   have hlt:=(List.getElem?_eq_some_iff.1 this).1
   have e1:(olds++news++rest).getD (i*z+j) undef=us (i-n) j:=by
    rw[hsum,List.getD_eq_getElem?_getD,List.append_assoc,List.getElem?_append_right (by omega),ho,Nat.add_sub_cancel_left,List.getElem?_append_left hlt,this]; rfl
   rw[e1]
   have:=hy.rep _ row j a hi hj
   rw[hy0] at this
   exact this.keep (Xj _ _) (Sub.rfl' _) (hold _ hI) (λ_ _ h=>h.elim)
 ·intro k hk
  exact .inr ⟨rfl,Nat.zero_le _,by omega⟩
 ·intro k h1 h2
  exact⟨rfl,λ⟨_,_,h3⟩=>by omega⟩
 ·intro k hk
  rw[Nat.zero_add]
  exact⟨⟨_,hcell k hk⟩,hfz k,λ_ q=>hfz q⟩
end Go.Vm
set_option autoImplicit false
namespace Go.Vm
variable {w0 : World} {L Im0 : CS} {st : St} {tm : Array Value} {w : World} {Im : CS} {base : Nat -> Nat × Nat} {SO : Bool -> Nat -> CS} {P : Program}
def Xp.worldS{w':World}{M:CS}(h:Xp w0 L Im0 st tm w Im base SO)(hf:Frame w w' M)(hd:∀e r,XY (SO e r) M)(hdI:XY Im M)(hM:∀g i,M g i->L g i\/w0.heap.size<=g):Xp w0 L Im0 st tm w' Im base SO:=by
 have hsI:XN Im w w':=hf.same hdI h.inI
 have hsS:∀e r,XN (SO e r) w w':=λe r=>hf.same (hd e r) (h.inS e r)
 have hp:∀pl ad,Pt st tm w base pl ad->Pt st tm w' base pl ad:=by
  rintro pl ad ⟨⟨g,oo,h1,h2⟩,⟨row2,hn⟩,h4⟩
  obtain⟨l2,f1,f2,_⟩:=h.stay hn hsI (hsS pl.e pl.r) (λe1 e2=>by have:=(h4 e1).1; rw[e2] at this; cases this)
  rw[h1] at f1
  injection f1 with f1
  subst f1
  exact⟨⟨g,oo,f2,h2⟩,⟨row2,hn⟩,h4⟩
 have hr:∀pl z lo n v,Rf st tm w base pl z lo n v->Rf st tm w' base pl z lo n v:=by
  rintro pl z lo n v ⟨⟨l,A,N,cap,A',h1,h2,h3⟩,row2,hn,hs⟩
  have hlt:pl.c<row2.length:=by
   cases hc:row2[pl.c]? with
   | none=>rw[hc] at hs; cases hs
   | some a=>exact(List.getElem?_eq_some_iff.1 hc).1
  obtain⟨l2,f1,f2,f3⟩:=h.stay hn hsI (hsS pl.e pl.r) (λe1 e2=>by
   rw[e1,e2] at hn
   simp only[Vm.nav,Xa,if_true,Option.some.injEq] at hn
   subst hn
   exact Xah hs)
  rw[h1] at f1
  injection f1 with f1
  subst f1
  exact⟨⟨l,A,N,cap,A',f2,by rw[f3 _ hlt]; exact h2,h3⟩,row2,hn,hs⟩
 refine⟨λt=>(h.env t).keep (Sub.rfl' _) hsI hp hr (Sub.rfl' _) (hsS true t),λr=>?_,h.dis,h.disI,λg k hI=>Nat.lt_of_lt_of_le (h.inI g k hI) hf.size,
  λe r g k hS=>Nat.lt_of_lt_of_le (h.inS e r g k hS) hf.size,h.imm,h.fromI,h.fromS,h.frame.step hf hM⟩
 obtain⟨vs,Sf,h1,h2,h3,h4,h5⟩:=h.bx r
 have hss:=hsS false r
 refine⟨vs,Sf,λj a hj=>?_,λj a hj=>(h2 j a hj).keep (Sub.rfl' _) hsI hp hr (Sub.rfl' _) (hss.mono (h3 j)),h3,h4,λg o e j hj=>?_⟩
 ·rw[Yu hss λg o e=>(h5 g o e j (List.getElem?_eq_some_iff.1 hj).1).1]
  exact h1 j a hj
 ·obtain⟨k1,k2,k3⟩:=h5 g o e j hj
  exact⟨k1,k2.to (hss _ _ k1).2,k3⟩
end Go.Vm
set_option autoImplicit false
namespace Go.Vm
variable {w0 : World} {L Im0 : CS} {st : St} {tm : Array Value} {w : World} {Im : CS} {base : Nat -> Nat × Nat} {SO : Bool -> Nat -> CS} {P : Program}
def Xw.world{V:CS}{w':World}(h:Xw w0 L w Im SO V)(hs:w.heap.size<=w'.heap.size):Xw w0 L w' Im SO V:=⟨h.dis,h.disI,λg k hb=>Nat.lt_of_lt_of_le (h.ins g k hb) hs,h.from_⟩
def Xw.un{V V':CS}(h:Xw w0 L w Im SO V)(h':Xw w0 L w Im SO V'):Xw w0 L w Im SO (un V V') :=
 ⟨λe r b k hb hs=>hb.elim (λx=>h.dis e r b k x hs) (λx=>h'.dis e r b k x hs),λb k hb hs=>hb.elim (λx=>h.disI b k x hs) (λx=>h'.disI b k x hs),λg k hb=>hb.elim (h.ins g k) (h'.ins g k),λg k hb=>hb.elim (h.from_ g k) (h'.from_ g k)⟩
def Xp.newBlk(h:Xp w0 L Im0 st tm w Im base SO){w':World}(hs:w.heap.size<w'.heap.size):Xw w0 L w' Im SO (blk w.heap.size) :=
 ⟨λe r b k hb hb'=>by have:=h.inS e r b k hb'; rw[hb] at this; exact Nat.lt_irrefl _ this,λb k hb hb'=>by have:=h.inI b k hb'; rw[hb] at this; exact Nat.lt_irrefl _ this,
  λg k hb=>by rw[hb]; exact hs,λg k hb=>by rw[hb]; exact .inr h.frame.size⟩
def Xw.part{V M:CS}(h:Xw w0 L w Im SO V):Xw w0 L w (Vm.un Im M) SO (ZJ V M) :=
 ⟨λe r b k hb hs=>h.dis e r b k hb.1 hs,λb k hb hs=>hs.elim (h.disI b k hb.1) hb.2,λg k hb=>h.ins g k hb.1,λg k hb=>h.from_ g k hb.1⟩
def UX(w:World)(b:Obj):Frame w (w.drew.alloc b) nos:=(UW w).trans (X2 w.drew _)
def Qu(z:Array Value)(n:Nat):(Builtin.zeroCells z n).toList.length=n*z.size:=by simp[Builtin.zeroCells]
def Xcz(h:Xp w0 L Im0 st tm w Im base SO){tx ty ry:TypeId}{z bytes:Nat}{zero:List AV}(hT:TIs P tx (.slice z bytes zero)){X Y:Value}{t:Tag}{es ys:List (List AV)}{V1 V2:CS}
  (ht:t≠.ro) (hx:Rep w Im X (.sl t z es) V1) (hs1:Xw w0 L w Im SO V1) {m:Nat} {news:List Value} (hR:∀(e:TypeId) (i:TypeInfo) (zv:Value),P.underlying tx=some (.slice e)->P.info? e=some i->i.size=z->i.bytes=bytes->bytes≠0->i.zero=some zv->zv.cells.size=z->Um P tx ty ry e i zv Y w m news)
  {us:Nat->Nat->Value} {Sf2:Nat->Nat->CS} (hy:Zw w Im z ys us Sf2 V2 news) (hm:ys.length=m) (hs2:Xw w0 L w Im SO V2) (hd:XY V1 V2) (h0:t=.app->∀i j,Sf2 i j=nos) (hfit:(es.length+ys.length)*bytes<=140737488355328) :
  ∃(v:Value) (w':World) (Im' V':CS),(Builtin.append_ #[tx,ty] ry #[X,Y]).run P w=.ok v w'/\Xp w0 L Im0 st tm w' Im' base SO/\Rep w' Im' v (.sl t z (es++ys)) V'/\Xw w0 L w' Im' SO V':=by
 obtain⟨e,i,zv,hue,hi,hsz,hby,hb0,hz,hzo,hzl,_⟩:=hT.slice
 obtain⟨g1,_⟩:=ZK hzo
 have hzs:zv.cells.size=z:=by rw[<-hzl,<-g1]; simp
 have hr0:=hR e i zv hue hi hsz hby hb0 hz hzs
 obtain⟨A,n,cap,rfl⟩:∃A n cap,X=.slice A n cap:=by cases hx; exact⟨_,_,_,rfl⟩
 obtain⟨olds,vs,Sf,o1,o2,o3,o4,o5,o6,o7,o8,o9,o10,o11⟩:=hx.olds
 have hbig:n+ys.length<=9223372036854775807:=by
  have h1:(es.length+ys.length)<=(es.length+ys.length)*bytes:=Nat.le_mul_of_pos_right _ (by omega)
  omega
 by_cases hroom:n+m<=cap
 ·have hroom':n+ys.length<=cap:=by omega
  cases t with
  | ro=>exact absurd rfl ht
  | «mut» =>
   obtain⟨w',M,r1,r2,r3,r4,r5,r6⟩:=Rep.appendMut hx hy hd hs1.disI hroom' hbig
   rw[hm] at r6
   refine⟨_,w',Im,_,hr0.room hroom (λa ha=>by rw[hsz]; exact r1 P a ha) r2,?_,r6,(hs1.un hs2).world r4.size⟩
   exact h.worldS r4 (λe r b k hb hb'=>hs1.dis e r b k (r3 b k hb') hb) (λb k hb hb'=>hs1.disI b k (r3 b k hb') hb) (λg k hb=>hs1.from_ g k (r3 g k hb))
  | app =>
   obtain⟨w',M,r1,r2,r3,r4,r5,r6⟩:=Rep.appendApp hx hy (h0 rfl) hs1.disI hroom' hbig
   rw[hm] at r6
   refine⟨_,w',_,_,hr0.room hroom (λa ha=>by rw[hsz]; exact r1 P a ha) r2,?_,r6,(hs1.world r4.size).part⟩
   exact(h.worldS r4 (λe r b k hb hb'=>hs1.dis e r b k (r3 b k hb') hb) (λb k hb hb'=>hs1.disI b k (r3 b k hb') hb) (λg k hb=>hs1.from_ g k (r3 g k hb))).growIm ((hs1.mono r3).world r4.size)
 ·have h1:(n+m)*bytes<=140737488355328:=by rw[<-o2,<-hm]; exact hfit
  have h63:((n+m:Nat):Int)<=9223372036854775807:=by
   have:n+m<=(n+m)*bytes:=Nat.le_mul_of_pos_right _ (by omega)
   omega
  have hrun:=hr0.new (n:=n) (cap:=cap) (A:=A) (olds:=olds)
   (X9 (w:=w.drew) (by rw[hsz]; exact o1) (λb hb j v hj=>o6 b hb j v hj) o7) (by omega) h63 (by rw[hby]; exact growslice_fits (by omega) h1)
  have hge:=grownCap_ge w (n+m) cap e
  generalize grownCap w (n+m) cap e=cap' at hrun hge
  have hcells:(olds.toArray++news.toArray++Builtin.zeroCells zv.cells (cap'-(n+m)))=(olds++news++(Builtin.zeroCells zv.cells (cap'-(n+m))).toList).toArray:=by
   apply Array.ext'; simp
  rw[hcells] at hrun
  have hr:(Builtin.zeroCells zv.cells (cap'-(n+m))).toList.length=(cap'-(n+m))*z:=by rw[Qu,hzs]
  generalize (Builtin.zeroCells zv.cells (cap'-(n+m))).toList=rest at hrun hr
  have hsz':w.heap.size<(w.drew.alloc (.cells (olds++news++rest).toArray e)).heap.size:=by rw[show(w.drew.alloc (.cells (olds++news++rest).toArray e)).heap.size=w.drew.heap.size+1 by simp]; exact Nat.lt_succ_self _
  cases t with
  | ro=>exact absurd rfl ht
  | «mut» =>
   have hrep:=Rep.grownMut (w:=w) (Im:=Im) (e:=e) o1 o2 o4 o5 o8 o9 o10 hy hm hd hs1.ins hs2.ins h.inI hge (by omega) hr
   exact⟨_,_,Im,_,hrun,h.world (UX w _),hrep,(h.newBlk hsz').un ((hs1.un hs2).world (Nat.le_of_lt hsz'))⟩
  | app =>
   have hrep:=Rep.grownApp (w:=w) (Im:=Im) (e:=e) o1 o2 o4 o5 (λi row j a hi hj=>by have:=o8 i row j a hi hj; rw[o11 (by decide)] at this; exact this) hy (h0 rfl) hm h.inI hge (by omega) hr
   have hsp:=(h.newBlk hsz').mono (V':=seg w.heap.size 0 ((n+m)*z)) (λb k hb=>hb.1)
   exact⟨_,_,_,_,hrun,(h.world (UX w _)).growIm hsp,hrep,(h.newBlk hsz').part⟩
def Xb0(h:Xp w0 L Im0 st tm w Im base SO){tx ty ry:TypeId}{z bytes:Nat}{zero:List AV}(hT:TIs P tx (.slice z bytes zero)){du:TypeDesc}(hu:P.underlying ty=some du)(hui:XfF du){X Y:Value}{t:Tag}{es ys:List (List AV)}{V1 V2:CS}
  (ht:t≠.ro) (hx:Rep w Im X (.sl t z es) V1) (hs1:Xw w0 L w Im SO V1) {m:Nat} {news:List Value} (hlen:∀w,(Builtin.lenOf Y).run P w=.ok m w) (hfc:(Builtin.firstCells z m Y).run P w=.ok news.toArray w) (hfd:(Builtin.firstCells z m Y).run P w.drew=.ok news.toArray w.drew)
  {us:Nat->Nat->Value} {Sf2:Nat->Nat->CS} (hy:Zw w Im z ys us Sf2 V2 news) (hm:ys.length=m) (hs2:Xw w0 L w Im SO V2) (hd:XY V1 V2) (h0:t=.app->∀i j,Sf2 i j=nos) (hfit:(es.length+ys.length)*bytes<=140737488355328) :
  ∃(v:Value) (w':World) (Im' V':CS),(Builtin.append_ #[tx,ty] ry #[X,Y]).run P w=.ok v w'/\Xp w0 L Im0 st tm w' Im' base SO/\Rep w' Im' v (.sl t z (es++ys)) V'/\Xw w0 L w' Im' SO V' :=
 Xcz h hT ht hx hs1 (λe i zv h1 h2 h3 h4 h5 h6 h7=>Um.of h1 hu hui h2 h6 hlen (by rw[h3]; exact hfc) (by rw[h3]; exact hfd)) hy hm hs2 hd h0 hfit
end Go.Vm
set_option autoImplicit false
namespace Go.Vm
variable {w0 : World} {L Im0 : CS} {st : St} {tm : Array Value} {w : World} {Im : CS} {base : Nat -> Nat × Nat} {SO : Bool -> Nat -> CS} {P : Program}
def Zw.of{n z:Nat}{es:List (List AV)}{vs:Nat->Nat->Value}{Sf:Nat->Nat->CS}{V:CS}{news:List Value}(hl:news.length=n*z)(hn:es.length=n)(hz:∀(i:Nat) (row:List AV),es[i]?=some row->row.length=z)
  (hg:∀i j,i<n->j<z->news[i*z+j]?=some (vs i j)) (hin:∀(i:Nat) (row:List AV) (j:Nat) (a:AV),es[i]?=some row->row[j]?=some a->Rep w Im (vs i j) a (Sf i j))
  (hsub:∀i j,Sub (Sf i j) V) (hd:∀i j i' j',¬(i=i'/\j=j')->XY (Sf i j) (Sf i' j')):Zw w Im z es vs Sf V news:=by
 refine⟨by rw[hl,hn],hz,λi row j a hi hj=>?_,hin,hsub,hd,λu hu=>?_⟩
 ·obtain⟨h1,h2,_⟩:=idx_lt hz hi hj
  exact hg i j (by omega) h2
 ·obtain⟨k,hk⟩:=List.mem_iff_getElem?.1 hu
  have hjl:k<n*z:=by have:=(List.getElem?_eq_some_iff.1 hk).1; rwa [hl] at this
  have hz0:0<z:=by cases z with
   | zero=>simp at hjl
   | succ z=>omega
  have hi:k / z<n:=(Nat.div_lt_iff_lt_mul hz0).2 hjl
  have hm:k%z<z:=Nat.mod_lt _ hz0
  have he:k / z*z+k%z=k:=by rw[Nat.mul_comm]; exact Nat.div_add_mod k z
  have hki:k / z<es.length:=by omega
  have hrw:es[k / z]?=some es[k / z]:=List.getElem?_eq_getElem hki
  have hzl:=hz _ _ hrw
  have hc':(es[k / z])[k%z]?=some ((es[k / z])[k%z]'(by omega)):=List.getElem?_eq_getElem (by omega)
  have:=hg _ _ hi hm
  rw[he,hk] at this
  injection this with this
  rw[this]
  exact(hin _ _ _ _ hrw hc').one
def Xi9(b:ByteArray):(b.toList).length=b.size:=by
 rw[Go.ByteArray.toList_eq,Array.length_toList]; rfl
def XfG(b:ByteArray):((b.extract 0 b.size).data.map λx=>Value.int .u8 x.toNat)=(b.toList.map λc=>Value.int .u8 c.toNat).toArray:=by
 rw[Go.ByteArray.toList_eq]
 have:(b.extract 0 b.size).data=b.data:=by
  have:=ByteArray.data_extract (a:=b) (b:=0) (e:=b.size)
  rw[this]
  apply Array.ext'
  rw[Array.toList_extract,show b.size=b.data.toList.length from(Array.length_toList).symm]
  exact List.take_length
 rw[this]
 apply Array.ext'
 rw[Array.toList_map]
def XfH{a:AV}(h:plain a=true):XgI a=false:=by
 cases a with
 | sl t z es=>cases t<;>first | rfl | simp[plain] at h
 | _=>rfl
def XcA(h:Xp w0 L Im0 st tm w Im base SO){x:Operand}{z:Nat}{es:List (List AV)}(he:XI st z (view st x)=some es):XC st (view st x)=some es/\∀(i:Nat) (row:List AV),es[i]?=some row->row.length=z:=by
 have hx:=h.view x
 generalize hvx:Vm.view st x=vx at he hx
 cases vx with
 | nil=>injection he with he; subst he; exact⟨rfl,λi row hi=>by simp at hi⟩
 | sl t y es' =>
  simp only[XI] at he
  split at he
  ·rename_i hy
   subst hy
   refine⟨he,?_⟩
   injection he with he
   subst he
   have hR:=hx.sl
   generalize Xe tm x=v at hR
   cases hR with
   | sl g off vs Sf hn hc hL hA hz=>exact hz
  ·cases he
 | rf pl y lo n =>
  simp only[XI] at he
  split at he
  ·rename_i hy
   subst hy
   refine⟨he,?_⟩
   simp only[XC] at he
   cases hn:node st pl with
   | none=>rw[hn] at he; cases he
   | some cells =>
    rw[hn] at he
    simp only at he
    split at he
    ·rename_i t z' es' hc
     split at he
     ·rename_i hcond
      obtain⟨_,rfl⟩:=hcond
      injection he with he
      subst he
      obtain⟨A,N,cap,A',V,e1,e2,e3,e4,e5,hR,hV,_⟩:=h.lookRf hx.rf hn hc
      intro i row hi
      have:row∈es':=List.mem_of_mem_drop (List.mem_of_mem_take (List.mem_of_getElem? hi))
      obtain⟨k,hk⟩:=List.mem_iff_getElem?.1 this
      cases hR with
      | sl g off vs Sf hn hc hL hA hz=>exact hz k row hk
     ·cases he
    ·cases he
  ·cases he
 | _=>cases he
def Q8{bytes z:Nat}{t:Tag}{es ys:List (List AV)}{v:AV}(h:Y6 bytes t z es ys=some v):t≠.ro/\(es.length+ys.length)*bytes<=140737488355328/\v=.sl t z (es++ys):=by
 unfold Y6 at h
 split at h
 ·cases h
 ·rename_i hne
  split at h
  ·rename_i hb; injection h with h; exact⟨λe=>hne e,hb,h.symm⟩
  ·cases h
def U8(b:ByteArray)(i:Nat)(row:List AV)(h:(bytesRow b)[i]?=some row):∃c,b.toList[i]?=some c/\row=[.i .u8 c.toNat]:=by
 unfold bytesRow at h
 rw[List.getElem?_map] at h
 obtain⟨c,hc,rfl⟩:=Option.map_eq_some_iff.1 h
 exact⟨c,hc,rfl⟩
def XfI(h:Xp w0 L Im0 st tm w Im base SO){tx ty ry:TypeId}{ti tj:TI}(hT:TIs P tx ti)(hU:TIs P ty tj)(hni:Xbf tj=true){x y:Operand}{p:AV×St}(he:UO ti st x y=some p){d:Nat}(hd:d<tm.size) :
  ∃(v:Value) (w':World) (Im':CS) (SO':Bool->Nat->CS),(Builtin.append_ #[tx,ty] ry #[Xe tm x,Xe tm y]).run P w=.ok v w'/\Xp w0 L Im0 (p.2.put d p.1) (tm.setIfInBounds d v) w' Im' base SO':=by
 obtain⟨du,hu,hui⟩:∃du,P.underlying ty=some du/\XfF du:=by
  cases tj with
  | slice z b zero=>obtain⟨e,i,v,h1,_⟩:=hU.slice; exact⟨_,h1,.inr ⟨e,rfl⟩⟩
  | str=>exact⟨_,hU.str,.inl rfl⟩
  | _=>cases hni
 unfold UO at he
 split at he
 ·rename_i z bytes zero
  unfold XbP at he
  cases htk:take st x with
  | none=>rw[htk] at he; cases he
  | some q =>
   obtain⟨xv,st1⟩:=q
   rw[htk] at he
   simp only at he
   obtain⟨SO1,V1,r1,r2,r3,r4,_⟩:=h.take htk
   have hx:=Zh (z:=z) r3
   generalize hfx:fix z xv=fx at he hx
   cases fx with
   | sl t z' es =>
    simp only at he
    split at he
    ·rename_i hzz
     subst hzz
     have hX:Rep w Im (Xe tm x) (.sl t z es) V1:=hx.sl
     have fin:∀(v:Value) (w':World) (Im' V':CS) (st2:St) (SO2:Bool->Nat->CS) (a:AV),(Builtin.append_ #[tx,ty] ry #[Xe tm x,Xe tm y]).run P w=.ok v w'->Xp w0 L Im0 st2 tm w' Im' base SO2->Rep w' Im' v a V'->Xw w0 L w' Im' SO2 V'->p=(a,st2) ->
       ∃(v:Value) (w':World) (Im':CS) (SO':Bool->Nat->CS),(Builtin.append_ #[tx,ty] ry #[Xe tm x,Xe tm y]).run P w=.ok v w'/\Xp w0 L Im0 (p.2.put d p.1) (tm.setIfInBounds d v) w' Im' base SO':=by
      intro v w' Im' V' st2 SO2 a q1 q2 q3 q4 q5
      subst q5
      exact⟨v,w',Im',_,q1,q2.put hd (.leaf (.rep q3)) (λe r _=>q4.dis e r) q4.disI q4.ins q4.from_⟩
     have hy:=r1.view y
     have hcz:=@XcA w0 L Im0 st1 tm w Im base SO1 r1 y z
     have hco:=@Ul w0 L Im0 st1 tm w Im base SO1 r1 y
     generalize hvy:Vm.view st1 y=vy at he hy hcz hco
     have hrest:(∃b,vy=.s b/\Ut bytes st1 t z es b=some p)\/(Q3 bytes st1 t z es y (XI st1 z vy)=some p):=by
      cases vy<;>first | exact .inl ⟨_,rfl,he⟩ | exact .inr he
     rcases hrest with⟨b,hb,he1⟩ | he2
     ·subst hb
      unfold Ut at he1
      split at he1
      ·rename_i hz1
       subst hz1
       cases ha:Y6 bytes t 1 es (bytesRow b) with
       | none=>rw[ha] at he1; cases he1
       | some a =>
        rw[ha] at he1
        injection he1 with he1
        obtain⟨a1,a2,a3⟩:=Q8 ha
        have hlen:(bytesRow b).length=b.size:=by
         simp only[bytesRow,List.length_map]
         exact Xi9 b
        have hfc:∀w:World,(Builtin.firstCells 1 b.size (.string b)).run P w=.ok (b.toList.map λc=>Value.int .u8 c.toNat).toArray w:=by
         intro w
         simp only[Builtin.firstCells,Sem.run_pure]
         rw[XfG b]
        obtain⟨v,w',Im',V',q1,q2,q3,q4⟩:=Xb0 (P:=P) r1 hT hu hui (ry:=ry) (X:=Xe tm x) (Y:=.string b) (ys:=bytesRow b) (V2:=nos) (m:=b.size) (news:=b.toList.map λc=>Value.int .u8 c.toNat) a1 hX r4
         (λw=>by simp[Builtin.lenOf]) (hfc w) (hfc w.drew) (us:=λi _=>.int .u8 (b.toList.getD i 0).toNat) (Sf2:=λ_ _=>nos)
         (Zw.of (n:=b.size) (by rw[List.length_map,<-hlen]; simp[bytesRow]) hlen (λi row hi=>by obtain⟨c,_,rfl⟩:=U8 b i row hi; rfl)
          (λi j hi hj=>by
           have:j=0:=by omega
           subst this
           have hlt:i<b.toList.length:=by rw[<-hlen] at hi; simpa[bytesRow] using hi
           simp[hlt])
          (λi row j a hi hj=>by
           obtain⟨c,hc,rfl⟩:=U8 b i row hi
           cases j with
           | zero =>
            simp only[List.getElem?_cons_zero,Option.some.injEq] at hj
            subst hj
            have:b.toList.getD i 0=c:=by rw[List.getD_eq_getElem?_getD,hc]; rfl
            rw[this]
            exact .i
           | succ j=>simp at hj) (λ_ _=>Xo _) (λ_ _ _ _ _=>Xh _)) hlen Xw.nos (XM _) (λ_ _ _=>rfl) a2
        have hs:Xe tm y=.string b:=hy.s
        rw[<-hs] at q1
        exact fin v w' Im' V' st1 SO1 _ q1 q2 q3 q4 (by rw[<-he1,a3])
      ·cases he1
     ·cases hc:XI st1 z vy with
      | none=>rw[hc] at he2; cases he2
      | some ys =>
       rw[hc] at he2
       simp only[Q3] at he2
       obtain⟨hc1,hzr⟩:=hcz hc
       obtain⟨A,cap,hY,hcap,hne⟩:=hco hc1
       by_cases hpl:(ys.all (·.all plain))=true
       ·rw[if_pos hpl] at he2
        cases ha:Y6 bytes t z es ys with
        | none=>rw[ha] at he2; cases he2
        | some a =>
         rw[ha] at he2
         injection he2 with he2
         obtain⟨a1,a2,a3⟩:=Q8 ha
         obtain⟨us,hus,hrep⟩:∃us:Nat->Nat->Value,(∀b,A=some b->∀(j:Nat) (v:Value),(XgJ ys.length z us)[j]?=some v->w.cell? (b.add j)=some v)/\(∀(i:Nat) (row:List AV) (j:Nat) (a:AV),ys[i]?=some row->row[j]?=some a->Rep w Im (us i j) a nos):=by
          by_cases hem:ys=[]
          ·subst hem
           exact⟨λ_ _=>undef,λb _ j v hj=>by simp[XgJ] at hj,λi row j a hi=>by simp at hi⟩
          ·obtain⟨g,o,z2,us,Sf,hA,hz2,hcell,hin⟩:=hne hem
           have hz2':z2=z:=by
            cases ys with
            | nil=>exact absurd rfl hem
            | cons r ys=>rw[<-hz2 0 r rfl,hzr 0 r rfl]
           subst hz2'
           refine⟨us,λb hb j v hj=>?_,λi row j a hi hj=>(hin i row j a hi hj).1.free (XfH ?_)⟩
           ·rw[hA] at hb
            injection hb with hb
            subst hb
            have hjl:j<ys.length*z2:=by have:=(List.getElem?_eq_some_iff.1 hj).1; rwa [Qt] at this
            have hz0:0<z2:=by cases z2 with
             | zero=>simp at hjl
             | succ z=>omega
            have hi:j / z2<ys.length:=(Nat.div_lt_iff_lt_mul hz0).2 hjl
            have hm:j%z2<z2:=Nat.mod_lt _ hz0
            have hee:j / z2*z2+j%z2=j:=by rw[Nat.mul_comm]; exact Nat.div_add_mod j z2
            have hrw:ys[j / z2]?=some ys[j / z2]:=List.getElem?_eq_getElem hi
            have hzl:=hzr _ _ hrw
            have hc':(ys[j / z2])[j%z2]?=some ((ys[j / z2])[j%z2]'(by omega)):=List.getElem?_eq_getElem (by omega)
            have:=(hcell _ _ _ _ hrw hc').1
            rw[hee] at this
            have hg:=Xaj (n:=ys.length) us hi hm
            rw[hee,hj] at hg
            injection hg with hg
            rw[ZF,hg]
            exact this
           ·have h1:=List.all_eq_true.1 hpl row (List.mem_of_getElem? hi)
            exact List.all_eq_true.1 h1 a (List.mem_of_getElem? hj)
         have h0:A=none->XgJ ys.length z us=[]:=by
          intro hA
          by_cases hem:ys=[]
          ·subst hem; simp[XgJ]
          ·obtain⟨g,o,z2,us,Sf,hA',_⟩:=hne hem
           rw[hA] at hA'; cases hA'
         obtain⟨v,w',Im',V',q1,q2,q3,q4⟩:=Xb0 (P:=P) r1 hT hu hui (ry:=ry) (X:=Xe tm x) (Y:=.slice A ys.length cap) (ys:=ys) (V2:=nos) (m:=ys.length) (news:=XgJ ys.length z us) a1 hX r4
          (λw=>by simp[Builtin.lenOf]) (X9 (Qt _ _ _) hus h0) (X9 (w:=w.drew) (Qt _ _ _) hus h0) (us:=us) (Sf2:=λ_ _=>nos)
          (Zw.of (Qt _ _ _) rfl hzr (λi j hi hj=>Xaj us hi hj) hrep (λ_ _=>Xo _) (λ_ _ _ _ _=>Xh _)) rfl Xw.nos (XM _) (λ_ _ _=>rfl) a2
         rw[<-hY] at q1
         exact fin v w' Im' V' st1 SO1 _ q1 q2 q3 q4 (by rw[<-he2,a3])
       ·rw[if_neg hpl] at he2
        unfold Xap at he2
        split at he2
        ·rename_i z'' zs st2 htk2
         split at he2
         ·rename_i hz2
          subst hz2
          cases ha:Y6 bytes .mut z es zs with
          | none=>rw[ha] at he2; cases he2
          | some a =>
           rw[ha] at he2
           injection he2 with he2
           obtain⟨a1,a2,a3⟩:=Q8 ha
           obtain⟨SO2,V2,s1,s2,s3,s4,s5⟩:=r1.take htk2
           have hYr:Rep w Im (Xe tm y) (.sl .mut z zs) V2:=s3.sl
           rw[hY] at hYr
           obtain⟨olds,vs,Sf,o1,o2,o3,o4,o5,o6,o7,o8,o9,o10,_⟩:=hYr.olds
           obtain⟨v,w',Im',V',q1,q2,q3,q4⟩:=Xb0 (P:=P) s1 hT hu hui (ry:=ry) (X:=Xe tm x) (Y:=.slice A ys.length cap) (ys:=zs) (V2:=V2) (m:=ys.length) (news:=olds) a1 hX (r4.of s2)
            (λw=>by simp[Builtin.lenOf]) (X9 o1 o6 o7) (X9 (w:=w.drew) o1 o6 o7) (us:=vs) (Sf2:=Sf)
            (Zw.of o1 o2 o4 o5 o8 o9 o10) o2 s4 (λb k hb hb'=>by obtain⟨e,r,hr⟩:=s5 b k hb'; exact r4.dis e r b k hb hr) (λe=>by cases e) a2
           rw[<-hY] at q1
           exact fin v w' Im' V' st2 SO2 _ q1 q2 q3 q4 (by rw[<-he2,a3])
         ·cases he2
        ·cases he2
    ·cases he
   | _=>cases he
 ·cases he
def Xez(h:Xp w0 L Im0 st tm w Im base SO){tx ty ry:TypeId}{ti tj:TI}(hT:TIs P tx ti)(hU:TIs P ty tj){x y:Operand}{p:AV×St}(he:Q4 ti tj st x (view st y)=some p){d:Nat}(hd:d<tm.size) :
  ∃(v:Value) (w':World) (Im':CS) (SO':Bool->Nat->CS),(Builtin.append_ #[tx,ty] ry #[Xe tm x,Xe tm y]).run P w=.ok v w'/\Xp w0 L Im0 (p.2.put d p.1) (tm.setIfInBounds d v) w' Im' base SO':=by
 have hy:=h.view y
 generalize hvy:Vm.view st y=vy at he hy
 unfold Q4 at he
 split at he
 ·rename_i z bytes zero k k2 n
  unfold Xdc at he
  split at he
  ·rename_i t z' es st1 hz1
   split at he
   ·rename_i hc
    obtain⟨rfl,h0,hbm⟩:=hc
    cases ha:Y6 bytes t z es (List.replicate n.toNat zero) with
    | none=>rw[ha] at he; cases he
    | some a =>
     rw[ha] at he
     injection he with he
     obtain⟨a1,a2,a3⟩:=Q8 ha
     obtain⟨xv,htk,hfx⟩:∃xv,take st x=some (xv,st1)/\fix z xv=.sl t z es:=by
      unfold Xmi at hz1
      cases htk:take st x with
      | none=>rw[htk] at hz1; cases hz1
      | some q=>rw[htk] at hz1; injection hz1 with hz1; injection hz1 with e1 e2; exact⟨q.1,by rw[<-e2],e1⟩
     obtain⟨SO1,V1,r1,r2,r3,r4,_⟩:=h.take htk
     have hx:=Zh (z:=z) r3
     rw[hfx] at hx
     have hX:Rep w Im (Xe tm x) (.sl t z es) V1:=hx.sl
     obtain⟨e,i,zv,hu,hi,hsz,hby,hb0,hz,hzo,hzl,_⟩:=hT.slice
     obtain⟨g1,g2⟩:=ZK hzo
     have hzs:zv.cells.size=z:=by rw[<-hzl,<-g1]; simp
     have hlen:(List.replicate n.toNat zero).length=n.toNat:=by simp
     have hn:((n.toNat:Nat):Int)=n:=by omega
     have hY:Xe tm y=.int k2 (n.toNat:Nat):=by rw[hn]; exact hy.i
     have hbn:n.toNat*bytes<=140737488355328:=by
      have:=a2
      rw[hlen,Nat.add_mul] at this
      omega
     have hzlen:(Builtin.zeroCells zv.cells n.toNat).toList.length=n.toNat*z:=by rw[Qu,hzs]
     have hget:∀q,q<n.toNat*z->(Builtin.zeroCells zv.cells n.toNat).toList[q]?=some (zv.cells[q%z]!):=by
      intro q hq
      simp[Builtin.zeroCells,hzs,hq]
     have hrow:∀(i:Nat) (row:List AV),(List.replicate n.toNat zero)[i]?=some row->i<n.toNat/\row=zero:=by
      intro i row hi
      rw[List.getElem?_replicate] at hi
      split at hi
      ·rename_i hil
       injection hi with hi
       exact⟨hil,hi.symm⟩
      ·cases hi
     have hpos:∀(i j:Nat) (a:AV),i<n.toNat->zero[j]?=some a->i*z+j<n.toNat*z/\j<z:=by
      intro i j a hi hj
      have hjl:j<z:=by rw[<-hzl]; exact(List.getElem?_eq_some_iff.1 hj).1
      have:(i+1)*z<=n.toNat*z:=Nat.mul_le_mul_right _ (by omega)
      rw[Nat.add_mul] at this
      exact⟨by omega,hjl⟩
     have hN:Zw w Im z (List.replicate n.toNat zero) (λi j=>zv.cells[(i*z+j)%z]!) (λ_ _=>nos) nos (Builtin.zeroCells zv.cells n.toNat).toList:=by
      refine⟨by rw[hzlen,hlen],λi row hi=>by rw[(hrow i row hi).2]; exact hzl,λi row j a hi hj=>?_,λi row j a hi hj=>?_,λ_ _=>Xo _,λ_ _ _ _ _=>Xh _,λu hu=>?_⟩
      ·obtain⟨h1,rfl⟩:=hrow i row hi
       exact hget _ (hpos i j a h1 hj).1
      ·obtain⟨h1,rfl⟩:=hrow i row hi
       have hjl:=(hpos i j a h1 hj).2
       have hmod:(i*z+j)%z=j:=by rw[Nat.mul_comm,Nat.mul_add_mod,Nat.mod_eq_of_lt hjl]
       have hltz:j<zv.cells.size:=by omega
       have:(zv.cells[(i*z+j)%z]!)=zv.cells[j]:=by rw[hmod]; simp[hltz]
       show Rep w Im zv.cells[(i*z+j)%z]! a nos
       rw[this]
       exact QS (g2 j _ a (by simp[hltz]) hj)
      ·obtain⟨q,hq⟩:=List.getElem?_of_mem hu
       have hql:q<n.toNat*z:=by rw[<-hzlen]; exact(List.getElem?_eq_some_iff.1 hq).1
       rw[hget q hql] at hq
       injection hq with hq
       have hz0:0<z:=Nat.pos_of_ne_zero (λh=>by rw[h] at hql; simp at hql)
       have hm:q%z<z:=Nat.mod_lt _ hz0
       have hltz:q%z<zv.cells.size:=by omega
       have e1:(zv.cells[q%z]!)=zv.cells[q%z]:=by simp[hltz]
       rw[<-hq,e1]
       have hj:zero[q%z]?=some (zero[q%z]'(by omega)):=List.getElem?_eq_getElem (by omega)
       exact(QS (w:=w) (Im:=Im) (g2 (q%z) _ _ (by simp[hltz]) hj)).one
     obtain⟨v,w',Im',V',q1,q2,q3,q4⟩:=Xcz (P:=P) r1 hT (ry:=ry) (ty:=ty) (X:=Xe tm x) (Y:=.int k2 (n.toNat:Nat)) (ys:=List.replicate n.toNat zero) (V2:=nos) (m:=n.toNat) (news:=(Builtin.zeroCells zv.cells n.toNat).toList) a1 hX r4
      (λe' i' zv' h1 h2 h3 h4 h5 h6 h7=>by
       rw[hu] at h1; injection h1 with h1; injection h1 with h1; subst h1
       rw[hi] at h2; injection h2 with h2; subst h2
       rw[hz] at h6; injection h6 with h6; subst h6
       exact Um.zeros hu hU.int hi hz (by rw[hzs,hsz]) (by rw[hby]; exact hb0) (by rw[hby]; exact hbn))
      hN hlen Xw.nos (XM _) (λ_ _ _=>rfl) a2
     subst he
     rw[<-hY] at q1
     rw[<-a3] at q3
     exact⟨v,w',Im',_,q1,q2.put hd (.leaf (.rep q3)) (λe r _=>q4.dis e r) q4.disI q4.ins q4.from_⟩
   ·cases he
  ·cases he
 ·cases he
end Go.Vm
set_option autoImplicit false
namespace Go.Vm
variable {w0 : World} {L Im0 : CS} {st : St} {tm : Array Value} {w : World} {Im : CS} {base : Nat -> Nat × Nat} {SO : Bool -> Nat -> CS} {P : Program}
def Xb1{z:Nat}:∀(ms:List (Nat×Value)) (i0:Nat) (cells:Array Value),(∀(j i:Nat) (v:Value),ms[j]?=some (i,v)->i=i0+j/\v.cells.size=z)->(i0+ms.length)*z<=cells.size ->
  ∃cells':Array Value,Instr.fill (λi=>some (i*z,z)) cells ms=some cells'/\cells'.size=cells.size/\(∀k:Nat,k<i0*z->cells'[k]?=cells[k]?)/\∀(j i:Nat) (v:Value) (c:Nat),ms[j]?=some (i,v)->c<z->cells'[(i0+j)*z+c]?=v.cells[c]?
 | [],i0,cells,_,_=>⟨cells,rfl,rfl,λ_ _=>rfl,λj i v c hj=>by simp at hj⟩
 | (i,v) :: ms,i0,cells,h,hs=>by
  obtain⟨h1,h2⟩:=h 0 i v rfl
  rw[Nat.add_zero] at h1
  subst h1
  simp only[List.length_cons] at hs
  have hm:(i+(ms.length+1))*z=i*z+z+ms.length*z:=by rw[Nat.add_mul,Nat.add_mul]; omega
  obtain⟨f1,f2⟩:=XbY (i*z) v.cells.toList 0 cells (by rw[Array.length_toList]; omega)
  simp only[Nat.add_zero,Array.length_toList] at f1 f2
  let cells1:=(v.cells.toList.zipIdx 0).foldl (λcs (x:Value×Nat)=>cs.setIfInBounds (i*z+x.2) x.1) cells
  obtain⟨cells',r1,r2,r3,r4⟩:=Xb1 ms (i+1) cells1 (λj i' v' hj=>by
   obtain⟨q1,q2⟩:=h (j+1) i' v' (by simpa using hj)
   exact⟨by omega,q2⟩) (by
    have:(i+1+ms.length)*z=i*z+z+ms.length*z:=by rw[Nat.add_mul,Nat.add_mul]; omega
    rw[this,show cells1.size=cells.size from f1]; omega)
  have hi1:(i+1)*z=i*z+z:=by rw[Nat.add_mul]; omega
  refine⟨cells',?_,by rw[r2]; exact f1,λk hk=>?_,λj i' v' c hj hc=>?_⟩
  ·unfold Instr.fill
   simp only
   rw[if_neg (by simp; omega),<-r1]
   congr 1
   simp only[cells1,<-Array.foldl_toList]
   congr 1
   simp
  ·rw[r3 k (by omega)]
   rw[show cells1[k]?=_ from f2 k,if_neg (by omega)]
  ·cases j with
   | zero =>
    simp only[List.getElem?_cons_zero,Option.some.injEq,Prod.mk.injEq] at hj
    obtain⟨rfl,rfl⟩:=hj
    rw[Nat.add_zero,r3 _ (by omega)]
    rw[show cells1[i*z+c]?=_ from f2 _,if_pos (by omega)]
    rw[Nat.add_sub_cancel_left,Array.getElem?_toList]
   | succ j =>
    have:=r4 j i' v' c (by simpa using hj) hc
    rw[show i+(j+1)=i+1+j by omega]
    exact this
def Xp.parts{z:Nat}:∀(parts:List (Nat×Operand)) {st:St} {SO:Bool->Nat->CS} {i0:Nat} {l:List (List AV)} {st':St},Xp w0 L Im0 st tm w Im base SO->Y0 z st i0 parts=some (l,st') ->
  ∃(SO':Bool->Nat->CS) (us:Nat->Nat->Value) (Sf:Nat->Nat->CS),Xp w0 L Im0 st' tm w Im base SO'/\(∀e r,Sub (SO' e r) (SO e r))/\l.length=parts.length /\
   (∀(j i:Nat) (x:Operand),parts[j]?=some (i,x)->i=i0+j/\(Xe tm x).cells.size=z/\∀c,c<z->(Xe tm x).cells[c]?=some (us j c))/\(∀(j:Nat) (row:List AV),l[j]?=some row->row.length=z) /\
   (∀(j:Nat) (row:List AV) (c:Nat) (a:AV),l[j]?=some row->row[c]?=some a->Rep w Im (us j c) a (Sf j c))/\(∀j c,Xw w0 L w Im SO' (Sf j c))/\(∀j c,Sub (Sf j c) (Xai SO))/\(∀j c j' c',¬(j=j'/\c=c')->XY (Sf j c) (Sf j' c'))
 | [],st,SO,i0,l,st',h,he=>by
  simp only[Y0,Option.some.injEq,Prod.mk.injEq] at he
  obtain⟨rfl,rfl⟩:=he
  exact⟨SO,λ_ _=>undef,λ_ _=>nos,h,λ_ _=>Sub.rfl' _,rfl,λj i x hj=>by simp at hj,λj row hj=>by simp at hj,λj row c a hj=>by simp at hj,λ_ _=>Xw.nos,λ_ _=>Xo _,λ_ _ _ _ _=>Xh _⟩
 | (j0,x) :: r,st,SO,i0,l,st',h,he=>by
  simp only[Y0] at he
  split at he
  ·rename_i hij
   subst hij
   cases ht:Vm.take st x with
   | none=>rw[ht] at he; cases he
   | some q =>
    obtain⟨v,st1⟩:=q
    rw[ht] at he
    simp only at he
    split at he
    ·rename_i hcond
     obtain⟨hc1,hlen⟩:=hcond
     rw[Bool.and_eq_true] at hc1
     obtain⟨htop,hall⟩:=hc1
     cases hr:Y0 z st1 (i0+1) r with
     | none=>rw[hr] at he; cases he
     | some q =>
      obtain⟨l',st2⟩:=q
      rw[hr] at he
      simp only[Option.some.injEq,Prod.mk.injEq] at he
      obtain⟨rfl,rfl⟩:=he
      obtain⟨SO1,V,r1,r2,r3,r4,r5⟩:=h.take ht
      obtain⟨us1,nS,e1,e2,e3,e4,e5⟩:=r3.cells htop
      obtain⟨SO2,us2,Sf2,s1,s2,s3,s4,s5,s6,s7,s8,s9⟩:=Xp.parts r r1 hr
      refine⟨SO2,λj c=>match j with | 0=>us1.getD c undef | j+1=>us2 j c,λj c=>match j with | 0=>nS c | j+1=>Sf2 j c,s1,λe q=>(s2 e q).trans (r2 e q),by simp[s3],?_,?_,?_,?_,?_,?_⟩
      ·intro j i y hj
       cases j with
       | zero =>
        simp only[List.getElem?_cons_zero,Option.some.injEq,Prod.mk.injEq] at hj
        obtain⟨rfl,rfl⟩:=hj
        refine⟨rfl,by rw[e1,List.size_toArray,e2,hlen],λc hc=>?_⟩
        rw[e1,List.getElem?_toArray]
        have:c<us1.length:=by omega
        simp[List.getD,this]
       | succ j =>
        obtain⟨q1,q2,q3⟩:=s4 j i y (by simpa using hj)
        exact⟨by omega,q2,q3⟩
      ·intro j row hj
       cases j with
       | zero=>simp only[List.getElem?_cons_zero,Option.some.injEq] at hj; subst hj; exact hlen
       | succ j=>exact s5 j row (by simpa using hj)
      ·intro j row c a hj hc
       cases j with
       | zero =>
        simp only[List.getElem?_cons_zero,Option.some.injEq] at hj
        subst hj
        have hlt:c<us1.length:=by rw[e2]; exact(List.getElem?_eq_some_iff.1 hc).1
        have:=e3 c (us1.getD c undef) a (by simp[List.getD,hlt]) hc
        exact this.row (List.all_eq_true.1 hall a (List.mem_of_getElem? hc))
       | succ j=>exact s6 j row c a (by simpa using hj) hc
      ·intro j c
       cases j with
       | zero=>exact(r4.mono (e4 c)).of s2
       | succ j=>exact s7 j c
      ·intro j c
       cases j with
       | zero=>exact(e4 c).trans r5
       | succ j=>exact(s8 j c).trans (ZR r2)
      ·intro j c j' c' hne
       cases j with
       | zero =>
        cases j' with
        | zero=>exact e5 c c' (λe=>hne ⟨rfl,e⟩)
        | succ j'=>exact λb k hb hb'=>by obtain⟨e,q,hq⟩:=s8 j' c' b k hb'; exact r4.dis e q b k (e4 c b k hb) hq
       | succ j =>
        cases j' with
        | zero=>exact λb k hb hb'=>by obtain⟨e,q,hq⟩:=s8 j c b k hb; exact r4.dis e q b k (e4 c' b k hb') hq
        | succ j'=>exact s9 j c j' c' (λe=>hne ⟨by omega,e.2⟩)
    ·cases he
  ·cases he
def XfJ{len:Nat}:∀(parts:List (Nat×Operand)) {i0:Nat} {l:List AV},fsV len st i0 parts=some l->i0+parts.length=len/\(parts.length=l.length/\True) /\
  ∀(j i:Nat) (x:Operand),parts[j]?=some (i,x)->i=i0+j/\Xbg (Vm.view st x)=true/\l[j]?=some (Vm.view st x)
 | [],i0,l,h=>by
  simp only[fsV] at h
  split at h
  ·rename_i hi; injection h with h; subst h; exact⟨hi,⟨rfl,trivial⟩,λj i x hj=>by simp at hj⟩
  ·cases h
 | (j0,x) :: r,i0,l,h=>by
  simp only[fsV] at h
  split at h
  ·rename_i hi
   subst hi
   split at h
   ·rename_i hf
    cases hr:fsV len st (i0+1) r with
    | none=>rw[hr] at h; cases h
    | some l' =>
     rw[hr] at h
     injection h with h
     subst h
     obtain⟨h1,h2,h3⟩:=XfJ r hr
     refine⟨by simp; omega,⟨by simp[h2.1],trivial⟩,λj i y hj=>?_⟩
     cases j with
     | zero =>
      simp only[List.getElem?_cons_zero,Option.some.injEq,Prod.mk.injEq] at hj
      obtain⟨rfl,rfl⟩:=hj
      exact⟨rfl,hf,rfl⟩
     | succ j =>
      obtain⟨q1,q2,q3⟩:=h3 j i y (by simpa using hj)
      exact⟨by omega,q2,by simpa using q3⟩
   ·cases h
  ·cases h
def Xb2(h:Xp w0 L Im0 st tm w Im base SO){t:TypeId}{ti:TI}(hT:TIs P t ti){len:Nat}{parts:Array (Nat×Operand)}{p:AV×St}(he:Zg ti st len parts.toList=some p){d:Nat}(hd:d<tm.size) :
  ∃(v:Value) (w':World) (Im':CS) (SO':Bool->Nat->CS),(∀o:Oper,o.op=.buildSlice t len parts->(execOp (Xe tm) o).run P w=.ok (.value v) w')/\Frame w w' nos/\Xp w0 L Im0 (p.2.put d p.1) (tm.setIfInBounds d v) w' Im' base SO':=by
 unfold Zg at he
 split at he
 ·rename_i z bytes zero
  obtain⟨e,i,zv,hu,hi,hsz,_,_,hz,hzo,hzl,_⟩:=hT.slice
  have run:∀(cells:Array Value),len*z<=16777216->Instr.fill (λi=>some (i*z,z)) ((Array.range (len*z)).map ((if len*z=0 then #[] else zv.cells)[·%(if len*z=0 then #[] else zv.cells).size]!)) (parts.toList.map λx=>(x.1,Xe tm x.2))=some cells ->
    ∀o:Oper,o.op=.buildSlice t len parts->(execOp (Xe tm) o).run P w=.ok (.value (.slice (some ⟨w.heap.size,0,none⟩) len len)) (w.alloc (.cells cells e)):=by
   intro cells hle hf o ho
   have hle':¬(2^24<len*i.size):=by rw[hsz]; omega
   by_cases h0:len*i.size=0
   ·have h0':len*z=0:=by rw[<-hsz]; exact h0
    rw[if_pos h0'] at hf
    have hf':Instr.fill (λi=>some (i*z,z)) (Array.map (λ_=>(default:Value)) (Array.range 0)) (parts.toList.map λx=>(x.1,Xe tm x.2))=some cells:=by
     rw[h0'] at hf
     simpa using hf
    simp[execOp,ho,Instr.buildSlice,Xk hu,Go.sizeOf,typeInfo,hi,hsz,h0',newRow,hf']
   ·have h0':¬len*z=0:=by rw[<-hsz]; exact h0
    rw[if_neg h0'] at hf
    have hle2:¬(16777216<len*z):=by omega
    simp[execOp,ho,Instr.buildSlice,Xk hu,Go.sizeOf,typeInfo,zeroValue,hi,hz,hle2,hsz,h0',newRow,hf]
  have fsz:((Array.range (len*z)).map ((if len*z=0 then #[] else zv.cells)[·%(if len*z=0 then #[] else zv.cells).size]!)).size=len*z:=by simp
  generalize ((Array.range (len*z)).map ((if len*z=0 then #[] else zv.cells)[·%(if len*z=0 then #[] else zv.cells).size]!))=cells0 at run fsz
  split at he
  ·-- functions
   have hz1:z=1:=hzl.symm
   subst hz1
   cases hl:fsV len st 0 parts.toList with
   | none=>rw[hl] at he; cases he
   | some l =>
    rw[hl] at he
    simp only at he
    split at he
    ·rename_i hle
     injection he with he
     subst he
     obtain⟨k1,k2,k3⟩:=XfJ parts.toList hl
     obtain⟨cells',f1,f2,_,f4⟩:=Xb1 (z:=1) (parts.toList.map λx=>(x.1,Xe tm x.2)) 0 cells0 (λj i v hj=>by
      rw[List.getElem?_map] at hj
      obtain⟨⟨i2,x⟩,hx,ee⟩:=Option.map_eq_some_iff.1 hj
      injection ee with e1 e2
      subst e1 e2
      obtain⟨q1,q2,q3⟩:=k3 j i2 x hx
      refine⟨q1,?_⟩
      have:=(UV (h.view x) (by cases hv:Vm.view st x<;>rw[hv] at q2<;>first | rfl | cases q2)).one
      rw[Zq this]; rfl) (by rw[fsz,List.length_map]; omega)
     have hrun:=run cells' (by omega) f1
     have hfr:=X2 w (.cells cells' e)
     have h2:=(h.world hfr).growIm ((h.newBlk (w':=w.alloc (.cells cells' e)) (by simp)))
     have hleaf:∀(j:Nat) (a:AV),l[j]?=some a->∃x,parts.toList[j]?=some (j,x)/\a=Vm.view st x/\Xbg a=true:=by
      intro j a hj
      have hlt:j<parts.toList.length:=by rw[k2.1]; exact(List.getElem?_eq_some_iff.1 hj).1
      rcases hp:parts.toList[j] with⟨i2,x⟩
      have hp':parts.toList[j]?=some (i2,x):=by rw[List.getElem?_eq_getElem hlt,hp]
      obtain⟨q1,q2,q3⟩:=k3 j i2 x hp'
      rw[q3] at hj
      injection hj with hj
      refine⟨x,by rw[hp',q1,Nat.zero_add],hj.symm,by rw[<-hj]; exact q2⟩
     refine⟨_,_,_,_,hrun,hfr,h2.putN hd (a:=.fs l) (.leaf (.fs w.heap.size 0 (λj=>cells'.getD j undef) (by rw[<-k2.1]; omega) (Nat.le_refl _) (λ_=>rfl) (λj a hj=>?_) (λj a hj=>?_)))⟩
     ·obtain⟨x,q1,_,_⟩:=hleaf j a hj
      have hlt:j<cells'.size:=by
       have:j<parts.toList.length:=(List.getElem?_eq_some_iff.1 q1).1
       rw[f2,fsz]; omega
      refine⟨?_,.inr rfl⟩
      rw[Zj,Nat.zero_add]
      simp[hlt]
     ·obtain⟨x,q1,q2,q3⟩:=hleaf j a hj
      have hl2:=UV (h2.view x) (by rw[<-q2]; cases a<;>first | rfl | cases q3)
      have:=f4 j j (Xe tm x) 0 (by rw[List.getElem?_map,q1]; rfl) (by omega)
      rw[Zq hl2.one] at this
      have e3:cells'[j]?=some (Xe tm x):=by simpa using this
      have e4:cells'.getD j undef=Xe tm x:=by rw[Array.getD_eq_getD_getElem?,e3]; rfl
      show Yy _ _ _ _ (cells'.getD j undef) a nos
      rw[e4,q2]
      exact hl2
    ·cases he
  ·cases hl:Y0 z st 0 parts.toList with
   | none=>rw[hl] at he; cases he
   | some q =>
    obtain⟨l,st'⟩:=q
    rw[hl] at he
    simp only at he
    split at he
    ·rename_i hcond
     obtain⟨hll,hle0⟩:=hcond
     have hle:len*z<=16777216:=by rw[Nat.mul_add] at hle0; omega
     have hle1:len<=16777216:=by rw[Nat.mul_add] at hle0; omega
     injection he with he
     subst he
     obtain⟨SO',us,Sf,s1,s2,s3,s4,s5,s6,s7,s8,s9⟩:=Xp.parts parts.toList h hl
     obtain⟨cells',f1,f2,_,f4⟩:=Xb1 (z:=z) (parts.toList.map λx=>(x.1,Xe tm x.2)) 0 cells0 (λj i v hj=>by
      rw[List.getElem?_map] at hj
      obtain⟨⟨i2,x⟩,hx,ee⟩:=Option.map_eq_some_iff.1 hj
      injection ee with e1 e2
      subst e1 e2
      obtain⟨q1,q2,_⟩:=s4 j i2 x hx
      exact⟨q1,q2⟩) (by rw[fsz,List.length_map,<-s3,hll,Nat.zero_add]; exact Nat.le_refl _)
     have hrun:=run cells' hle f1
     have hfr:=X2 w (.cells cells' e)
     have hold:∀S:CS,(∀b k,S b k->b<w.heap.size)->XN S w (w.alloc (.cells cells' e)):=λS hS=>hfr.same (λ_ _ _ h=>h.elim) hS
     have hrep:=XbW (Im:=Im) (w':=w.alloc (.cells cells' e)) (g:=w.heap.size) (n:=len) (cap:=len) (z:=z) (es:=l) hll (Nat.le_refl _) (by omega) (λk=>cells'.getD k undef)
      (λk hk=>by
       have hlt:k<cells'.size:=by rw[f2,fsz]; exact hk
       rw[Zj]; simp[hlt]) (λq _=>⟨Y2 _ _ _ _,λ_ _=>Y2 _ _ _ _⟩) s5 Sf (λj row c a hj hc=>by
        obtain⟨h1,h2,_⟩:=idx_lt s5 hj hc
        have hlt:j<parts.toList.length:=by omega
        rcases hp:parts.toList[j] with⟨i2,x⟩
        have hp':parts.toList[j]?=some (i2,x):=by rw[List.getElem?_eq_getElem hlt,hp]
        obtain⟨q1,q2,q3⟩:=s4 j i2 x hp'
        have:=f4 j i2 (Xe tm x) c (by rw[List.getElem?_map,hp']; rfl) h2
        rw[q3 c h2,Nat.zero_add] at this
        have e4:cells'.getD (j*z+c) undef=us j c:=by rw[Array.getD_eq_getD_getElem?,this]; rfl
        show Rep _ _ (cells'.getD (j*z+c) undef) a _
        rw[e4]
        exact(s6 j row c a hj hc).keep (Sub.rfl' _) (Sub.rfl' _) (hold _ h.inI) (hold _ (s7 j c).ins)) s9 (λj c k hb=>Nat.lt_irrefl _ ((s7 j c).ins _ _ hb))
     obtain⟨SO2,r⟩:=s1.putNew hd hfr (by simp) hrep ⟨λe r b k ⟨j,c,hb⟩=>(s7 j c).dis e r b k hb,λb k ⟨j,c,hb⟩=>(s7 j c).disI b k hb,λg k ⟨j,c,hb⟩=>(s7 j c).ins g k hb,λg k ⟨j,c,hb⟩=>(s7 j c).from_ g k hb⟩
     exact⟨_,_,_,_,hrun,hfr,r⟩
    ·cases he
 ·cases he
def XeA{Pt:Pl->Addr->Prop}{Rf:Pl->Nat->Nat->Nat->Value->Prop}{v:Value}{a:AV}{S:CS}(h:Yy w Im Pt Rf v a S)(ha:YA a=true):Rep w Im v a S:=by
 cases h with
 | rep h=>exact h
 | p=>cases ha
 | rf=>cases ha
 | fn=>cases ha
 | fs=>cases ha
def Xbr{Pt:Pl->Addr->Prop}{Rf:Pl->Nat->Nat->Nat->Value->Prop}{v:Value}{a:AV}{S:CS}(h:Yy w Im Pt Rf v a S)(ha:Qi a=true):Rep w Im v a S:=by
 cases h with
 | rep h=>exact h
 | p=>cases ha
 | rf=>cases ha
 | fn vs hl hin=>exact .fn vs hl (λj v a hv hj=>XeA (hin j v a hv hj) (List.all_eq_true.1 ha a (List.mem_of_getElem? hj)))
 | fs=>cases ha
def Xja(h:Xp w0 L Im0 st tm w Im base SO){t:TypeId}{ti:TI}{x:Operand}{d:Nat}(hd:d<tm.size){cs:List AV}(hb:Xes ti (fix ti.z (view st x))=some cs){st':St}(he:QL st d cs=some st') :
  ∃(v:Value) (w':World) (Im':CS) (SO':Bool->Nat->CS),(∀o:Oper,o.op=.box t x->(execOp (Xe tm) o).run P w=.ok (.value v) w')/\Frame w w' nos/\Xp w0 L Im0 st' (tm.setIfInBounds d v) w' Im' base SO':=by
 unfold QL at he
 split at he
 ·rename_i hall
  injection he with he
  subst he
  unfold Xes at hb
  split at hb
  ·rename_i hcond
   obtain⟨htop,hlen⟩:=hcond
   injection hb with hb
   subst hb
   obtain⟨us,nS,e1,e2,e3,e4,e5⟩:=(Zh (z:=ti.z) (h.view x)).cells htop
   have hfr:=X2 w (.cells us.toArray t)
   have hsz:w.heap.size<(w.alloc (.cells us.toArray t)).heap.size:=by simp
   have h1:=(h.world hfr).growIm (h.newBlk hsz)
   have hold:∀S:CS,(∀b k,S b k->b<w.heap.size)->XN S w (w.alloc (.cells us.toArray t)):=λS hS=>hfr.same (λ_ _ _ h=>h.elim) hS
   refine⟨_,_,_,_,λo ho=>?_,hfr,h1.putN hd (.leaf (.rep (.pr (g:=w.heap.size) (off:=0) (λj=>us.getD j undef) (λj a hj=>⟨?_,.inr rfl⟩) (λj a hj=>?_))))⟩
   ·simp[execOp,ho,Instr.box,newVar,newRow,e1]
   ·have hlt:j<us.length:=by rw[e2]; exact(List.getElem?_eq_some_iff.1 hj).1
    rw[Zj,Nat.zero_add,List.getElem?_toArray,List.getD_eq_getElem?_getD,List.getElem?_eq_getElem hlt]
    rfl
   ·have hlt:j<us.length:=by rw[e2]; exact(List.getElem?_eq_some_iff.1 hj).1
    have hv:us[j]?=some (us.getD j undef):=by rw[List.getD_eq_getElem?_getD,List.getElem?_eq_getElem hlt]; rfl
    have:=Xbr (e3 j _ a hv hj) (List.all_eq_true.1 hall a (List.mem_of_getElem? hj))
    exact this.keep (Xj _ _) (e4 j) (hold _ h.inI) (hold _ (λb k hb=>((e4 j) b k hb).elim))
  ·cases hb
 ·cases he
end Go.Vm
