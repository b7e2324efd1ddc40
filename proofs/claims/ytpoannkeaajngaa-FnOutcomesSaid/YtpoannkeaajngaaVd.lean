/- A part of a reflected evaluator of the program's code, and the proof that what it computes is what the machine does. -/
import Derived.Test.YtpoannkeaajngaaVc
import Derived.Laws.IdiomStrings
set_option linter.unusedVariables false
set_option linter.unusedSimpArgs false
set_option autoImplicit false
set_option linter.defProp false
namespace Go.Vm
variable {w0 : World} {L Im0 : CS} {st : St} {tm : Array Value} {w : World} {P : Program} {np : Nat -> Bool} {vals : Nat -> Value} {b0 : Nat -> Nat × Nat}
def ZL(np:Nat->Bool)(vals:Nat->Value)(b0:Nat->Nat×Nat)(w0:World)(L Im0:CS)(st:St)(tm:Array Value)(w:World):Prop :=
 ∃(Im:CS) (base:Nat->Nat×Nat) (SO:Bool->Nat->CS),Xp w0 L Im0 st tm w Im base SO/\∀j,np j=true->tm.getD j undef=vals j/\base j=b0 j
def UY(np:Nat->Bool)(n:Nat)(o:Oper):Prop:=∀d,o.dst=some d->np d=false/\d<n
def XgK(tm:Array Value)(d:Option Nat)(v:Value):Array Value:=match d with
 | some d=>tm.setIfInBounds d v
 | none=>tm
def Xmn(P:Program)(np:Nat->Bool)(vals:Nat->Value)(b0:Nat->Nat×Nat)(w0:World)(L Im0:CS)(tm:Array Value)(w:World)(gr:Bool)(o:Oper)(st':St):Prop :=
 ∃(nx:Next) (v:Value) (w':World),(execOp (Xe tm) o).run P w=.ok nx w'/\(nx=.value v\/(nx=.skip/\o.dst=none))/\(gr=true->Frame w w' nos)/\ZL np vals b0 w0 L Im0 st' (XgK tm o.dst v) w'
section
variable {Im : CS} {base : Nat -> Nat × Nat} {SO : Bool -> Nat -> CS}
def ZS{d:Nat}{v:Value}{base':Nat->Nat×Nat}(hi:∀j,np j=true->tm.getD j undef=vals j/\base j=b0 j)(hd:np d=false)(hb:∀r,r≠d->base' r=base r):∀j,np j=true->(tm.setIfInBounds d v).getD j undef=vals j/\base' j=b0 j:=by
 intro j hj
 have hne:j≠d:=by intro e; subst e; rw[hd] at hj; cases hj
 rw[Y1 _ _ _ _ hne,hb j hne]
 exact hi j hj
def XfK{d:Option Nat}{x:Option AV}{st':St}(he:Xch st d x=some st'):∃a e,x=some a/\d=some e/\st'=st.put e a:=by
 cases x with
 | none=>cases he
 | some a =>
  cases d with
  | none=>cases he
  | some d=>injection he with he; exact⟨a,d,rfl,rfl,he.symm⟩
def Za{o:Oper}{st':St}{d:Nat}{v:Value}{w':World}{Im':CS}{base':Nat->Nat×Nat}{SO':Bool->Nat->CS}(hi:∀j,np j=true->tm.getD j undef=vals j/\base j=b0 j)(hd:UY np tm.size o)(hdd:o.dst=some d)(hb:∀r,r≠d->base' r=base r)
  (hr:(execOp (Xe tm) o).run P w=.ok (.value v) w') {gr:Bool} (hg:gr=true->Frame w w' nos) (h:Xp w0 L Im0 st' (tm.setIfInBounds d v) w' Im' base' SO'):Xmn P np vals b0 w0 L Im0 tm w gr o st':=by
 refine⟨_,v,w',hr,.inl rfl,hg,?_⟩
 rw[hdd]
 exact⟨_,_,_,h,ZS hi (hd d hdd).1 hb⟩
def Xx{α β:Type}{x:Option α}{f:α->Option β}{b:β}(h:Ye x f=some b):∃a,x=some a/\f a=some b:=by
 cases x with
 | none=>cases h
 | some a=>exact⟨a,rfl,h⟩
def XfL{cx:Cx}(hC:Xcs P cx)(h:Xp w0 L Im0 st tm w Im base SO){o:Oper}(hp:Xcn o.op=true)(hm:mvT cx o=false){st':St}(he:Xg cx st o=some st') :
  ∃(a:AV) (v:Value),st'=st.put? o.dst a/\PT st tm w Im base v a nos/\∀w':World,Frame w w' nos->(execOp (Xe tm) o).run P w'=.ok (.value v) w':=by
 obtain⟨dst,op,type,pos,aft,guard⟩:=o
 have sd:∀{x:Option AV},Xch st dst x=some st'->(∀a,x=some a->∃v,PT st tm w Im base v a nos/\∀w':World,Frame w w' nos->∀o':Oper,o'.op=op->(execOp (Xe tm) o').run P w'=.ok (.value v) w') ->
   ∃(a:AV) (v:Value),st'=st.put? dst a/\PT st tm w Im base v a nos/\∀w':World,Frame w w' nos->(execOp (Xe tm) ⟨dst,op,type,pos,aft,guard⟩).run P w'=.ok (.value v) w':=by
  intro x hs hx
  obtain⟨a,e,e1,e2,e3⟩:=XfK hs
  obtain⟨v,h1,h2⟩:=hx a e1
  exact⟨a,v,by rw[e2]; exact e3,h1,λw' hw=>h2 w' hw _ rfl⟩
 cases op with
 | move x =>
  have hm:alD cx dst=false:=hm
  simp only[Xg,hm,Bool.false_eq_true,if_false,Option.some.injEq] at he
  exact⟨_,_,he.symm,Zh (h.view x),λw' _=>rfl⟩
 | pick c x y =>
  simp only[Xg] at he
  have key:∀t,Vm.view st c=.b t->st'=st.put? dst (Vm.view st (if t then x else y))->∃(a:AV) (v:Value),st'=st.put? dst a/\PT st tm w Im base v a nos/\∀w':World,Frame w w' nos->(execOp (Xe tm) ⟨dst,.pick c x y,type,pos,aft,guard⟩).run P w'=.ok (.value v) w' :=
   λt hc hs=>⟨_,_,hs,h.view _,λw' _=>Xi2 (P:=P) h (x:=x) (y:=y) hc w' _ rfl⟩
  split at he
  ·rename_i hc; injection he with he; exact key true hc he.symm
  ·rename_i hc; injection he with he; exact key false hc he.symm
  ·cases he
 | load t x =>
  simp only[Xg] at he
  obtain⟨ti,hT,he⟩:=Xx he
  exact sd he (λa ha=>XfA h (hC _ _ hT) ha)
 | nilCheck x =>
  simp only[Xg] at he
  exact sd he (λa ha=>⟨_,Xdj h ha⟩)
 | fieldAddr t x f =>
  simp only[Xg] at he
  obtain⟨ti,hT,he⟩:=Xx he
  exact sd he (λa ha=>let ⟨v,h1,h2⟩:=U7 h (hC _ _ hT) ha; ⟨v,h1,λw' _=>h2 w'⟩)
 | field t x f =>
  simp only[Xg] at he
  obtain⟨ti,hT,he⟩:=Xx he
  exact sd he (λa ha=>Xg3 h (hC _ _ hT) ha)
 | indexAddr t x ix =>
  simp only[Xg] at he
  obtain⟨ti,hT,he⟩:=Xx he
  exact sd he (λa ha=>Xcx h (hC _ _ hT) ha)
 | index t x ix =>
  simp only[Xg] at he
  obtain⟨ti,hT,he⟩:=Xx he
  exact sd he (λa ha=>by
   cases ti with
   | str=>exact Xg7 h (hC _ _ hT) ha
   | array m z ag zero=>exact XfB h (hC _ _ hT) ha
   | _=>exfalso; unfold Ug at ha; split at ha<;>cases ha)
 | binOp op xt x y yt =>
  simp only[Xg] at he
  exact sd he (λa ha=>Xi5 h (λt ht=>hC _ _ ht) (λks hk=>hC.eqs _ ks hk) ha)
 | unOp op xt x =>
  simp only[Xg] at he
  exact sd he (λa ha=>Xmm h ha)
 | convert s t x =>
  simp only[Xg] at he
  obtain⟨ts,hS,he⟩:=Xx he
  obtain⟨ti,hT,he⟩:=Xx he
  have hns:Xeq st ts ti (Vm.view st x)=Xda st ts ti (Vm.view st x):=by
   have hm:Xi0 (cx.T t)=false:=hm
   rw[hT] at hm
   cases ti with
   | slice _ _ _=>cases hm
   | _=>rfl
  rw[hns] at he
  exact sd he (λa ha=>Xi8 h (hC _ _ hS) (hC _ _ hT) ha)
 | slice xt x lo hi' mx =>
  cases mx with
  | none =>
   simp only[Xg] at he
   obtain⟨ti,hT,he⟩:=Xx he
   exact sd he (λa ha=>Xg4 h (hC _ _ hT) ha)
  | some _=>cases he
 | makeFunc fn first caps =>
  cases fn with
  | func f =>
   simp only[Xg] at he
   split at he
   ·rename_i hc
    injection he with he
    obtain⟨v,r1,r2⟩:=Xdm (P:=P) h (f:=f) hc
    exact⟨_,v,he.symm,r1,λw' hw=>r2 w' hw _ rfl⟩
   ·cases he
  | _=>cases he
 | build t parts =>
  simp only[Xg] at he
  obtain⟨ti,hT,he⟩:=Xx he
  exact sd he (λa ha=>by
   cases ti with
   | struct n fl zero=>exact Xg8 h (hC _ _ hT) ha
   | array m z ag zero=>exact XfE h (hC _ _ hT) ha
   | _=>cases ha)
 | call c =>
  obtain⟨callee,args,ats⟩:=c
  simp only[Xg] at he
  cases callee with
  | value f=>cases hp
  | invoke _ _=>cases hp
  | builtin b =>
   cases b with
   | len =>
    simp only[Yo] at he
    split at he
    ·rename_i x tx ts h1 h2
     obtain⟨ti,hT,he⟩:=Xx he
     obtain⟨n,hn,he⟩:=Xx he
     refine sd he (λa ha=>?_)
     injection ha with ha
     subst ha
     refine⟨.int .i64 n,.leaf (.rep .i),λw' _ o' ho'=>?_⟩
     have:=Xla h (hC _ _ hT) hn ts o'.type w'
     have e1:args=#[x]:=by rw[<-Array.toArray_toList (xs:=args),h1]
     have e2:ats=(tx :: ts).toArray:=by rw[<-Array.toArray_toList (xs:=ats),h2]
     subst e1 e2
     simp[execOp,ho',resolve,invoke,builtin,this]
    ·cases he
   | min =>
    simp only[Yo] at he
    refine sd he (λa ha=>?_)
    generalize hl:args.toList=l at ha
    match l,hl with
    | [],_=>simp[Xdb] at ha
    | x :: xs,hl =>
     have hx:=h.view x
     simp only[List.map_cons] at ha
     generalize hvx:Vm.view st x=vx at ha hx
     cases vx with
     | i k n =>
      obtain⟨v,r1,r2⟩:=XiC (P:=P) h xs (g:=Builtin.min2) (λk x y w=>by simp[Builtin.min2]) (λk j x y w=>by simp[Builtin.min2]) ha
      refine⟨v,.leaf (.rep r1),λw' _ o' ho'=>?_⟩
      have e1:args=(x :: xs).toArray:=by rw[<-Array.toArray_toList (xs:=args),hl]
      subst e1
      have e3:((x :: xs).toArray.map (Xe tm)).toList=Value.int k n :: xs.map (Xe tm):=by simp[hx.i]
      simp only[execOp,ho',resolve,invoke,builtin,Builtin.min_,Sem.run_bind,Sem.run_pure,Result.andThen_ok,e3,r2]
     | _=>cases xs<;>simp[Xdb] at ha
   | max =>
    simp only[Yo] at he
    refine sd he (λa ha=>?_)
    generalize hl:args.toList=l at ha
    match l,hl with
    | [],_=>simp[Xdb] at ha
    | x :: xs,hl =>
     have hx:=h.view x
     simp only[List.map_cons] at ha
     generalize hvx:Vm.view st x=vx at ha hx
     cases vx with
     | i k n =>
      obtain⟨v,r1,r2⟩:=XiC (P:=P) h xs (g:=Builtin.max2) (λk x y w=>by simp[Builtin.max2]) (λk j x y w=>by simp[Builtin.max2]) ha
      refine⟨v,.leaf (.rep r1),λw' _ o' ho'=>?_⟩
      have e1:args=(x :: xs).toArray:=by rw[<-Array.toArray_toList (xs:=args),hl]
      subst e1
      have e3:((x :: xs).toArray.map (Xe tm)).toList=Value.int k n :: xs.map (Xe tm):=by simp[hx.i]
      simp only[execOp,ho',resolve,invoke,builtin,Builtin.max_,Sem.run_bind,Sem.run_pure,Result.andThen_ok,e3,r2]
     | _=>cases xs<;>simp[Xdb] at ha
   | _=>cases hp
 | _=>cases hp
def Xg9(h:Xp w0 L Im0 st tm w Im base SO){ts td:TypeId}{src:TI}{z n:Nat}{zero:List AV}(hs:TIs P ts src)(hd:TIs P td (.slice z n zero)){x:Operand}{a:AV}(he:Xcm src z zero (Vm.view st x)=some a){d:Nat}(hdd:d<tm.size) :
  ∃(v:Value) (w':World) (SO':Bool->Nat->CS),(∀o:Oper,o.op=.convert ts td x->(execOp (Xe tm) o).run P w=.ok (.value v) w')/\Frame w w' nos/\Xp w0 L Im0 (st.put d a) (tm.setIfInBounds d v) w' Im base SO':=by
 have hx:=h.view x
 generalize hvx:Vm.view st x=vx at he hx
 unfold Xcm at he
 split at he
 ·rename_i b
  split at he
  ·rename_i hcond
   obtain⟨rfl,hu,hle⟩:=hcond
   injection he with he
   subst he
   obtain⟨e,i,zv,hus,hi,hsz,_,_,_,_,_,hu8⟩:=hd.slice
   have hu8':=hu8 hu
   have hrun:=run_bytes_of_string (P:=P) w ts td e b hs.str hus hu8'
   have hge:b.size<=grownCap w b.size 0 e:=grownCap_ge w b.size 0 e
   generalize grownCap w b.size 0 e=cap at hrun hge
   have hfr:Frame w (w.drew.alloc (.cells (_root_.Go.bytesRow b cap) e ((_root_.Go.bytesRow b cap).size,(_root_.Go.bytesRow b cap).size+1))) nos:=UX w _
   have hsize:(_root_.Go.bytesRow b cap).size=cap:=by
    have:b.size=b.data.size:=rfl
    simp only[_root_.Go.bytesRow,Array.size_append,Array.size_map,Array.size_replicate]
    omega
   have hcell:∀q,q<cap*1->Xt (w.drew.alloc (.cells (_root_.Go.bytesRow b cap) e ((_root_.Go.bytesRow b cap).size,(_root_.Go.bytesRow b cap).size+1))) w.heap.size q=some ((_root_.Go.bytesRow b cap).getD q undef):=by
    intro q hq
    have:=World.cell?_alloc_mark w.drew (_root_.Go.bytesRow b cap) e ((_root_.Go.bytesRow b cap).size,(_root_.Go.bytesRow b cap).size+1) q
    refine Eq.trans this ?_
    rw[Array.getD_eq_getD_getElem?,Array.getElem?_eq_getElem (by omega)]
    rfl
   have hfz:∀q,q<cap*1->YE (w.drew.alloc (.cells (_root_.Go.bytesRow b cap) e ((_root_.Go.bytesRow b cap).size,(_root_.Go.bytesRow b cap).size+1))) w.heap.size q=false:=by
    intro q hq
    have hob:(w.drew.alloc (.cells (_root_.Go.bytesRow b cap) e ((_root_.Go.bytesRow b cap).size,(_root_.Go.bytesRow b cap).size+1))).heap[w.heap.size]?=some (.cells (_root_.Go.bytesRow b cap) e ((_root_.Go.bytesRow b cap).size,(_root_.Go.bytesRow b cap).size+1)):=by
     show(w.heap.push _)[w.heap.size]?=_
     simp
    simp only[YE,World.frozen?,hob]
    have:¬(_root_.Go.bytesRow b cap).size<=q:=by omega
    simp[this]
   have hrep:=XbW (Im:=Im) (es:=b.data.toList.map Xau) (n:=b.size) (cap:=cap) (z:=1) (by simp) hge hle (λq=>(_root_.Go.bytesRow b cap).getD q undef) hcell (λq hq=>⟨hfz q hq,λe=>absurd rfl e⟩)
    (λr row hr=>by
     rw[List.getElem?_map] at hr
     obtain⟨c,_,rfl⟩:=Option.map_eq_some_iff.1 hr
     rfl) (λ_ _=>nos) (λr row j c hr hc=>by
     rw[List.getElem?_map] at hr
     obtain⟨c0,h0,rfl⟩:=Option.map_eq_some_iff.1 hr
     obtain⟨hlt,h0⟩:=List.getElem?_eq_some_iff.1 h0
     rcases j with _ | j
     ·simp only[Xau,List.getElem?_cons_zero,Option.some.injEq] at hc
      subst hc
      have hlt':r<b.data.size:=by simpa using hlt
      have hv:(_root_.Go.bytesRow b cap).getD (r*1+0) undef=.int .u8 c0.toNat:=by
       rw[Nat.mul_one,Nat.add_zero,Array.getD_eq_getD_getElem?]
       simp only[_root_.Go.bytesRow]
       rw[Array.getElem?_append_left (by simpa using hlt'),Array.getElem?_map,Array.getElem?_eq_getElem hlt']
       simp only[Option.map_some,Option.getD_some]
       rw[<-h0]
       simp
      show Rep _ Im ((_root_.Go.bytesRow b cap).getD (r*1+0) undef) (.i .u8 c0.toNat) nos
      rw[hv]
      exact .i
     ·simp[Xau] at hc) (λ_ _ _ _ _=>Xh _) (λ_ _ _ h=>h)
   obtain⟨SO',r1⟩:=h.putNew (V:=λb k=>∃i j:Nat,nos b k) hdd hfr (by show w.heap.size<(w.heap.push _).size; simp) hrep (Xw.nos.mono (λb k hb=>by obtain⟨_,_,hb⟩:=hb; exact hb))
   refine⟨_,_,SO',λo ho=>?_,hfr,r1⟩
   simp only[execOp,ho,hx.s,Sem.run_bind,hrun,Result.andThen_ok]
   rfl
  ·cases he
 ·cases he
def Xdp:Op->Bool
 | .move _=>true
 | .fieldAddr _ _ _=>true
 | _=>false
def Xjb{cx:Cx}(hC:Xcs P cx)(h:Xp w0 L Im0 st tm w Im base SO){o:Oper}(hp:Xdp o.op=true)(hm:mvT cx o=false){st':St}(he:Xg cx st o=some st') :
  ∃(a:AV) (v:Value),st'=st.put? o.dst a/\PT st tm w Im base v a nos/\∀w':World,(execOp (Xe tm) o).run P w'=.ok (.value v) w':=by
 obtain⟨dst,op,type,pos,aft,guard⟩:=o
 cases op with
 | move x =>
  have hm:alD cx dst=false:=hm
  simp only[Xg,hm,Bool.false_eq_true,if_false,Option.some.injEq] at he
  exact⟨_,_,he.symm,Zh (h.view x),λw'=>rfl⟩
 | fieldAddr t x f =>
  simp only[Xg] at he
  obtain⟨ti,hT,he⟩:=Xx he
  obtain⟨a,e,e1,e2,e3⟩:=XfK he
  obtain⟨v,h1,h2⟩:=U7 h (hC _ _ hT) e1
  exact⟨a,v,by rw[e2]; exact e3,h1,λw'=>h2 w' _ rfl⟩
 | _=>cases hp
end
def Xha{cx:Cx}{Im:CS}{base:Nat->Nat×Nat}{SO:Bool->Nat->CS}(hi:∀j,np j=true->tm.getD j undef=vals j/\base j=b0 j){o:Oper}(hd:UY np tm.size o)(hC:Xcs P cx)(hm:mvT cx o=true)(h:Xp w0 L Im0 st tm w Im base SO){gr:Bool}{st':St}(he:Xg cx st o=some st'):Xmn P np vals b0 w0 L Im0 tm w gr o st':=by
 obtain⟨dst,op,type,pos,aft,guard⟩:=o
 cases op with
 | move x =>
  have hm:alD cx dst=true:=hm
  simp only[Xg,hm,if_true] at he
  cases hx:Xdd st x with
  | none=>rw[hx] at he; cases he
  | some y =>
   rw[hx] at he
   cases dst with
   | none=>cases he
   | some d =>
    injection he with he
    subst he
    obtain⟨v,SO',r1,r2⟩:=Xdn (P:=P) h hx (hd d rfl).2
    exact Za hi hd rfl (λ_ _=>rfl) (r1 _ rfl) (λ_=>Frame.refl _ _) r2
 | convert s t x =>
  have hm:Xi0 (cx.T t)=true:=hm
  simp only[Xg] at he
  obtain⟨ts,hS,he⟩:=Xx he
  obtain⟨ti,hT,he⟩:=Xx he
  rw[hT] at hm
  cases ti with
  | slice z n zero =>
   obtain⟨a,e,e1,e2,e3⟩:=XfK he
   subst e2 e3
   obtain⟨v,w',SO',r1,r2,r3⟩:=Xg9 (P:=P) h (hC _ _ hS) (hC _ _ hT) e1 (hd e rfl).2
   exact Za hi hd rfl (λ_ _=>rfl) (r1 _ rfl) (λ_=>r2) r3
  | _=>cases hm
 | _=>cases hm
def Xd7:Op->Bool
 | .call c=>match c.callee with
  | .value _=>true
  | .builtin .clear=>true
  | _=>false
 | _=>false
def Xmo{cx:Cx}(hC:Xcs P cx)(h:ZL np vals b0 w0 L Im0 st tm w){o:Oper}(hd:UY np tm.size o)(hnc:Xd7 o.op=false){st':St}(he:Xg cx st o=some st'):Xmn P np vals b0 w0 L Im0 tm w (Z7 cx st o.op) o st':=by
 obtain⟨Im,base,SO,h,hi⟩:=h
 by_cases hm:mvT cx o=true
 ·exact Xha hi hd hC hm h he
 have hm:mvT cx o=false:=by simpa using hm
 by_cases hp:Xcn o.op=true
 ·obtain⟨a,v,e1,e2,e3⟩:=XfL hC h hp hm he
  subst e1
  refine⟨_,v,w,e3 w (Frame.refl _ _),.inl rfl,λ_=>Frame.refl _ _,?_⟩
  cases hdd:o.dst with
  | none=>exact⟨Im,base,SO,h,hi⟩
  | some d =>
   obtain⟨d1,d2⟩:=hd d hdd
   exact⟨_,_,_,h.putN d2 e2,ZS hi d1 (λ_ _=>rfl)⟩
 obtain⟨dst,op,type,pos,aft,guard⟩:=o
 cases op with
 | assign x =>
  simp only[Xg] at he
  obtain⟨d,hdd,he2⟩:=Xx he
  subst hdd
  obtain⟨d1,d2⟩:=hd d rfl
  split at he2
  ·injection he2 with he2
   subst he2
   exact⟨.value (Xe tm x),Xe tm x,w,rfl,.inl rfl,λ_=>Frame.refl _ _,Im,base,_,h.putN d2 (Zh (h.view x)),ZS hi d1 (λ_ _=>rfl)⟩
  ·obtain⟨y,hy,he3⟩:=Xx he2
   injection he3 with he3
   subst he3
   obtain⟨b,st1⟩:=y
   obtain⟨SO1,V,r1,r2,r3,r4,_⟩:=h.take hy
   exact⟨.value (Xe tm x),Xe tm x,w,rfl,.inl rfl,λ_=>Frame.refl _ _,Im,base,_,r1.put d2 (Zh r3) (λe r _=>r4.dis e r) r4.disI r4.ins r4.from_,ZS hi d1 (λ_ _=>rfl)⟩
 | alloc t =>
  simp only[Xg] at he
  obtain⟨ti,hT,he⟩:=Xx he
  obtain⟨d,hdd,he⟩:=Xx he
  obtain⟨v,w',SO',r1,r2⟩:=Xg5 h (hC _ _ hT) (hd d hdd).2 he
  exact Za hi hd hdd (λr hr=>Yr _ _ hr) (r1 _ rfl) (λ_=>r2.1) r2.2
 | box t x =>
  simp only[Xg] at he
  obtain⟨ti,hT,he⟩:=Xx he
  obtain⟨d,hdd,he⟩:=Xx he
  split at he
  ·obtain⟨cs,hcs,he⟩:=Xx he
   obtain⟨v,w',Im',SO',r1,r2,r3⟩:=Xja (P:=P) (t:=t) h (hd d hdd).2 hcs he
   exact Za hi hd hdd (λ_ _=>rfl) (r1 _ rfl) (λ_=>r2) r3
  split at he
  ·obtain⟨cs,hcs,he⟩:=Xx he
   obtain⟨v,w',SO',r1,r2⟩:=Xi7 (P:=P) (t:=t) h (hd d hdd).2 hcs he
   exact Za hi hd hdd (λr hr=>Yr _ _ hr) (r1 _ rfl) (λ_=>r2.1) r2.2
  ·obtain⟨y,hy,he⟩:=Xx he
   obtain⟨cs,hcs,he⟩:=Xx he
   obtain⟨v,w',SO',r1,r2⟩:=Xlb (P:=P) (t:=t) h (hd d hdd).2 hy hcs he
   exact Za hi hd hdd (λr hr=>Yr _ _ hr) (r1 _ rfl) (λ_=>r2.1) r2.2
 | store t x y =>
  simp only[Xg] at he
  split at he
  ·cases he
  ·rename_i hn
   obtain⟨ti,hT,he⟩:=Xx he
   obtain⟨q,hq,he⟩:=Xx he
   obtain⟨w',SO',r1,r2⟩:=Xg6 h (hC _ _ hT) hq he
   have hdn:dst=none:=by cases dst with
    | none=>rfl
    | some d=>exact absurd rfl hn
   subst hdn
   exact⟨.skip,undef,w',r1 _ rfl,.inr ⟨rfl,rfl⟩,λhg=>(by cases hg),Im,base,SO',r2,hi⟩
 | extract x j =>
  simp only[Xg] at he
  cases hx:Qk st x j with
  | none=>rw[hx] at he; cases he
  | some y =>
   rw[hx] at he
   cases dst with
   | none=>cases he
   | some d =>
    injection he with he
    subst he
    obtain⟨v,SO',r1,r2⟩:=Xey (P:=P) h hx (hd d rfl).2
    exact Za hi hd rfl (λ_ _=>rfl) (r1 _ rfl) (λ_=>Frame.refl _ _) r2
 | buildSlice t len parts =>
  simp only[Xg] at he
  obtain⟨ti,hT,he⟩:=Xx he
  cases hx:Zg ti st len parts.toList with
  | none=>rw[hx] at he; cases he
  | some y =>
   rw[hx] at he
   cases dst with
   | none=>cases he
   | some d =>
    injection he with he
    subst he
    obtain⟨v,w',Im',SO',r1,r2⟩:=Xb2 h (hC _ _ hT) hx (hd d rfl).2
    exact Za hi hd rfl (λ_ _=>rfl) (r1 _ rfl) (λ_=>r2.1) r2.2
 | makeSlice t l c =>
  simp only[Xg] at he
  obtain⟨ti,hT,he⟩:=Xx he
  cases hx:Xer ti (Vm.view st l) (Vm.view st c) with
  | none=>rw[hx] at he; cases he
  | some a =>
   rw[hx] at he
   cases dst with
   | none=>cases he
   | some d =>
    injection he with he
    subst he
    obtain⟨v,w',SO',r1,r2⟩:=Xi6 h (hC _ _ hT) hx (hd d rfl).2
    exact Za hi hd rfl (λ_ _=>rfl) (r1 _ rfl) (λ_=>r2.1) r2.2
 | call c =>
  obtain⟨callee,args,ats⟩:=c
  simp only[Xg] at he
  cases callee with
  | value f=>cases hnc
  | invoke _ _=>cases he
  | builtin b =>
   cases b with
   | append =>
    simp only[Yo] at he
    split at he
    ·rename_i x y tx ty h1 h2
     obtain⟨ti,hT,he⟩:=Xx he
     obtain⟨tj,hU,he⟩:=Xx he
     split at he
     ·rename_i hni
      cases hx:UO ti st x y with
      | none=>rw[hx] at he; cases he
      | some p =>
       rw[hx] at he
       cases dst with
       | none=>cases he
       | some d =>
        injection he with he
        subst he
        obtain⟨v,w',Im',SO',r1,r2⟩:=XfI (ry:=type) h (hC _ _ hT) (hC _ _ hU) hni hx (hd d rfl).2
        refine Za hi hd rfl (λ_ _=>rfl) ?_ (λhg=>(by cases hg)) r2
        have e1:args=#[x,y]:=by rw[<-Array.toArray_toList (xs:=args),h1]
        have e2:ats=#[tx,ty]:=by rw[<-Array.toArray_toList (xs:=ats),h2]
        subst e1 e2
        simp[execOp,resolve,invoke,builtin,r1]
     ·cases hx:Q4 ti tj st x (view st y) with
      | none=>rw[hx] at he; cases he
      | some p =>
       rw[hx] at he
       cases dst with
       | none=>cases he
       | some d =>
        injection he with he
        subst he
        obtain⟨v,w',Im',SO',r1,r2⟩:=Xez (ry:=type) h (hC _ _ hT) (hC _ _ hU) hx (hd d rfl).2
        refine Za hi hd rfl (λ_ _=>rfl) ?_ (λhg=>(by cases hg)) r2
        have e1:args=#[x,y]:=by rw[<-Array.toArray_toList (xs:=args),h1]
        have e2:ats=#[tx,ty]:=by rw[<-Array.toArray_toList (xs:=ats),h2]
        subst e1 e2
        simp[execOp,resolve,invoke,builtin,r1]
    ·cases he
   | len=>exact absurd rfl hp
   | min=>exact absurd rfl hp
   | max=>exact absurd rfl hp
   | clear=>cases hnc
   | _=>cases he
 | move _=>exact absurd rfl hp
 | pick _ _ _=>exact absurd rfl hp
 | load _ _=>exact absurd rfl hp
 | nilCheck _=>exact absurd rfl hp
 | fieldAddr _ _ _=>exact absurd rfl hp
 | field _ _ _=>exact absurd rfl hp
 | indexAddr _ _ _=>exact absurd rfl hp
 | index _ _ _=>exact absurd rfl hp
 | binOp _ _ _ _ _=>exact absurd rfl hp
 | unOp _ _ _=>exact absurd rfl hp
 | convert _ _ _=>exact absurd rfl hp
 | slice _ _ _ _ _=>exact absurd rfl hp
 | makeFunc _ _ _=>exact absurd rfl hp
 | build _ _=>exact absurd rfl hp
 | _=>cases he
end Go.Vm
set_option autoImplicit false
namespace Go.Vm
variable {w0 : World} {L Im0 : CS} {st : St} {tm : Array Value} {w : World} {Im : CS} {base : Nat -> Nat × Nat} {SO : Bool -> Nat -> CS} {P : Program}
def noP:Pl->Addr->Prop:=λ_ _=>False
def noR:Pl->Nat->Nat->Nat->Value->Prop:=λ_ _ _ _ _=>False
abbrev Cl(w:World)(Im:CS):Value->AV->CS->Prop:=Top w Im noP noR
def Qb{own:Bool}{av:Option (Bool×Nat)}{d:Nat}:∀{l l':List AV},Xs own av st d l=some l'->l'.length=l.length/\∀(j:Nat) (a a':AV),l[j]?=some a->l'[j]?=some a'->Xm own av st d a=some a'
 | [],l',h=>by
  simp only[Xs,Option.some.injEq] at h
  subst h
  exact⟨rfl,λj a a' hj=>by simp at hj⟩
 | x :: l,l',h=>by
  simp only[Xs] at h
  cases hx:Xm own av st d x with
  | none=>rw[hx] at h; cases h
  | some x' =>
   rw[hx] at h
   simp only at h
   cases hl:Xs own av st d l with
   | none=>rw[hl] at h; cases h
   | some l1 =>
    rw[hl] at h
    injection h with h
    subst h
    obtain⟨h1,h2⟩:=Qb hl
    refine⟨by simp[h1],λj a a' hj hj'=>?_⟩
    cases j with
    | zero =>
     simp only[List.getElem?_cons_zero,Option.some.injEq] at hj hj'
     subst hj hj'
     exact hx
    | succ j=>exact h2 j a a' (by simpa using hj) (by simpa using hj')
def Xd8(h:Xp w0 L Im0 st tm w Im base SO){own:Bool}{av:Option (Bool×Nat)}{X:CS}(hX:own=true->∀q:Pl,ZO av q=true->Sub (SO q.e q.r) X) :
  ∀(d:Nat) {a:AV} {v:Value} {a':AV} {V:CS},Xm own av st d a=some a'->PL st tm w Im base v a V->Sub V X->Rep w (un Im X) v a' nos:=by
 have mono:∀{v:Value} {a:AV} {V:CS},Sub V X->Rep w (un Im V) v a nos->Rep w (un Im X) v a nos:=λhs hr =>
  hr.keep (U3 (Xj _ _) (hs.trans (Yt _ _))) (Sub.rfl' _) (XN.refl _ _) (XN.refl _ _)
 have grow:∀{v:Value} {a:AV} {V:CS},Rep w Im v a V->XgI a=false->Rep w (un Im X) v a nos:=λhr ho =>
  Rep.keep (w:=w) (w':=w) (hr.free (T:=nos) ho) (Xj _ _) (Sub.rfl' _) (XN.refl _ _) (XN.refl _ _)
 have rf:∀{pl:Pl} {z lo n:Nat} {v:Value} {a':AV},(if ZO av pl=true then(match node st pl with
   | some cells=>match cells[pl.c]? with
    | some (.sl t z' es)=>if(lo+n<=es.length/\z=z')/\(own=true\/t≠.mut) then some (.sl .ro z (XH ((es.drop lo).take n))) else none
    | _=>none
   | none=>none) else none)=some a'->Rf st tm w base pl z lo n v->Rep w (un Im X) v a' nos:=by
  intro pl z lo n v a' he hrf
  split at he
  ·rename_i hav
   cases hn:node st pl with
   | none=>rw[hn] at he; cases he
   | some cells =>
    rw[hn] at he
    simp only at he
    split at he
    ·rename_i t z' es hc
     split at he
     ·rename_i hcond
      obtain⟨⟨hle,rfl⟩,hot⟩:=hcond
      injection he with he
      subst he
      obtain⟨A,N,cap,A',V,e1,e2,e3,e4,e5,hR,hV,_⟩:=h.lookRf hrf hn hc
      subst e1
      by_cases ht:t=.mut
      ·subst ht
       have hown:own=true:=hot.resolve_right (λhne=>hne rfl)
       exact mono (hV.trans (hX hown pl hav)) (hR.part (lo:=lo) (n:=n) e2 e3 e5 (λe=>by cases e)).strip
      ·have:=((hR.toRo ht).part (lo:=lo) (n:=n) e2 e3 e5 (λe=>by cases e)).strip
       exact mono (Xo _) this
     ·cases he
    ·cases he
  ·cases he
 have leaf:∀{a:AV} {v:Value} {V:CS},PL st tm w Im base v a V->(match a with | .p _=>False | .rf _ _ _ _=>False | .fn _ _=>False | .fs _=>False | _=>True)->Rep w Im v a V:=by
  intro a v V hl ha
  cases hl with
  | rep h=>exact h
  | p h=>exact ha.elim
  | rf h _=>exact ha.elim
  | fn=>exact ha.elim
  | fs=>exact ha.elim
 intro d
 induction d with
 | zero =>
  intro a v a' V he hl hV
  cases a with
  | sl t z es =>
   simp only[Xm,Option.some.injEq] at he
   subst he
   exact mono hV hl.sl.strip
  | rf pl z lo n =>
   simp only[Xm] at he
   cases hl with
   | rep h=>cases h
   | rf hrf _=>exact rf he hrf
  | _=>simp only[Xm,Option.some.injEq,reduceCtorEq] at he<;>(subst he; exact grow (leaf hl trivial) rfl)
 | succ d ih =>
  intro a v a' V he hl hV
  cases a with
  | sl t z es =>
   simp only[Xm,Option.some.injEq] at he
   subst he
   exact mono hV hl.sl.strip
  | rf pl z lo n =>
   simp only[Xm] at he
   cases hl with
   | rep h=>cases h
   | rf hrf _=>exact rf he hrf
  | p pl =>
   simp only[Xm] at he
   split at he
   ·rename_i hcond
    simp only[Bool.and_eq_true] at hcond
    obtain⟨⟨hown,hav⟩,hw⟩:=hcond
    cases hn:node st pl with
    | none=>rw[hn] at he; cases he
    | some cells =>
     rw[hn] at he
     simp only at he
     cases hr:Xs own av st d (cells.drop pl.c) with
     | none=>rw[hr] at he; cases he
     | some cs =>
      rw[hr] at he
      injection he with he
      subst he
      cases hl with
      | rep h=>cases h
      | p hpt =>
       obtain⟨l',T,vs,Sf,o⟩:=h.open hn hw (λe=>QR hpt.2 e)
       obtain⟨⟨g,oo,f1,f2⟩,hroot⟩:=hpt
       have hl':l'=.mem g oo:=by
        have:=o.at_
        rw[f1] at this
        injection this with this
        exact this.symm
       subst f2
       obtain⟨k1,k2⟩:=Qb hr
       have hTX:Sub T X:=o.sub.trans (hX hown pl hav)
       refine .pr (λj=>vs (pl.c+j)) (λj b hj=>?_) (λj b hj=>?_)
       all_goals
        have hjl:j<cs.length:=(List.getElem?_eq_some_iff.1 hj).1
        rw[k1,List.length_drop] at hjl
        have hlt:pl.c+j<cells.length:=by omega
        have hc:cells[pl.c+j]?=some cells[pl.c+j]:=List.getElem?_eq_getElem hlt
       ·have hg:=o.nd.get _ _ hc
        rw[hl'] at hg
        refine⟨by rw[Nat.add_assoc]; exact hg,.inr (hTX _ _ ?_)⟩
        have:=(o.nd.mem g oo hl' (pl.c+j) hlt).1
        rwa [<-Nat.add_assoc] at this
       ·have hb:=k2 j _ b (by rw[List.getElem?_drop]; exact hc) hj
        have hsh:=o.nd.sh _ _ hc
        refine ih hb (V:=Sf (pl.c+j)) ?_ ((o.nd.sub _).trans hTX)
        split at hsh
        ·exact hsh
        ·exact .rep hsh
   ·cases he
  | fn f cs =>
   simp only[Xm] at he
   cases hr:Xs own av st d cs with
   | none=>rw[hr] at he; cases he
   | some cs' =>
    rw[hr] at he
    injection he with he
    subst he
    obtain⟨k1,k2⟩:=Qb hr
    obtain⟨vs,hv,hlen,hin⟩:∃vs:List Value,v=.func (.func f) #[] vs.toArray/\vs.length=cs.length/\∀(j:Nat) (u:Value) (b:AV),vs[j]?=some u->cs[j]?=some b->PL st tm w Im base u b nos:=by
     cases hl with
     | rep h=>cases h with
      | fn vs hl hin=>exact⟨vs,rfl,hl,λj u b h1 h2=>.rep (hin j u b h1 h2)⟩
     | fn vs hl hin=>exact⟨vs,rfl,hl,hin⟩
    subst hv
    refine .fn vs (by omega) (λj u b h1 h2=>?_)
    have hjl:j<cs.length:=by rw[<-k1]; exact(List.getElem?_eq_some_iff.1 h2).1
    have hc:cs[j]?=some cs[j]:=List.getElem?_eq_getElem hjl
    exact ih (k2 j _ b hc h2) (hin j u _ h1 hc) (Xo _)
  | fs cs =>
   simp only[Xm] at he
   cases hr:Xs own av st d cs with
   | none=>rw[hr] at he; cases he
   | some cs' =>
    rw[hr] at he
    injection he with he
    subst he
    obtain⟨k1,k2⟩:=Qb hr
    obtain⟨A,n,cap,g,off,vs,hv,hn,hc,hA,hrow,hin⟩:∃(A:Option Addr) (n cap g off:Nat) (vs:Nat->Value),v=.slice A n cap/\cs.length=n/\n<=cap/\(0<n->A=some ⟨g,off,none⟩)/\(∀(j:Nat) (a:AV),cs[j]?=some a->Xt w g (off+j)=some (vs j)/\Im g (off+j)) /\
      ∀(j:Nat) (b:AV),cs[j]?=some b->PL st tm w Im base (vs j) b nos:=by
     cases hl with
     | rep h=>cases h with
      | fs g off vs h1 h2 h3 h4 h5=>exact⟨_,_,_,g,off,vs,rfl,h1,h2,h3,h4,λj b hb=>.rep (h5 j b hb)⟩
     | fs g off vs h1 h2 h3 h4 h5=>exact⟨_,_,_,g,off,vs,rfl,h1,h2,h3,h4,h5⟩
    subst hv
    refine .fs g off vs (by omega) hc hA (λj b hj=>?_) (λj b hj=>?_)
    all_goals
     have hjl:j<cs.length:=by rw[<-k1]; exact(List.getElem?_eq_some_iff.1 hj).1
     have hcj:cs[j]?=some cs[j]:=List.getElem?_eq_getElem hjl
    ·exact⟨(hrow j _ hcj).1,.inl (hrow j _ hcj).2⟩
    ·exact ih (k2 j _ b hcj hj) (hin j _ hcj) (Xo _)
  | _=>simp only[Xm,Option.some.injEq,reduceCtorEq] at he<;>(subst he; exact grow (leaf hl trivial) rfl)
def Xb3(h:Xp w0 L Im0 st tm w Im base SO){own:Bool}{av:Option (Bool×Nat)}{X:CS}(hX:own=true->∀q:Pl,ZO av q=true->Sub (SO q.e q.r) X){a:AV}{v:Value}{a':AV}(he:Zv own av st a=some a')(hv:PT st tm w Im base v a nos):Cl w (un Im X) v a' nos:=by
 cases hv with
 | u=>simp only[Zv,Xm,Option.some.injEq] at he; subst he; exact .u
 | no=>simp only[Zv,Xm,reduceCtorEq] at he
 | leaf hl =>
  have:Zv own av st a=Xm own av st 8 a:=by
   cases a<;>first | rfl | (exfalso; have:=hl.noAgg; cases hl; rename_i h; cases h)
  rw[this] at he
  exact .leaf (.rep (Xd8 h hX 8 he hl (Xo _)))
 | agg vs Sf hl hin hsub hd =>
  simp only[Zv] at he
  rename_i cs
  cases hr:Xs own av st 8 cs with
  | none=>rw[hr] at he; cases he
  | some cs' =>
   rw[hr] at he
   injection he with he
   subst he
   obtain⟨k1,k2⟩:=Qb hr
   refine .agg vs (λ_=>nos) (by omega) (λj u b hu hb=>?_) (λ_=>Sub.rfl' _) (λ_ _ _=>Xh _)
   have hjl:j<cs.length:=by rw[<-k1]; exact(List.getElem?_eq_some_iff.1 hb).1
   have hcj:cs[j]?=some cs[j]:=List.getElem?_eq_getElem hjl
   exact .rep (Xd8 h hX 8 (k2 j _ b hcj hb) (hin j u _ hu hcj) ((hsub j).trans (Xo _)))
 | tup=>simp only[Zv,Xm,reduceCtorEq] at he
end Go.Vm
set_option autoImplicit false
namespace Go.Vm
variable {w0 : World} {L Im0 : CS} {st : St} {tm : Array Value} {w : World} {Im : CS} {base : Nat -> Nat × Nat} {SO : Bool -> Nat -> CS} {P : Program}
def XgL(tm:Array Value)(w:World)(base:Nat->Nat×Nat)(y:Pl×Bool)(u:Value):Prop :=
 ∃(A A':Option Addr) (n cap:Nat),u=.slice A' n cap/\(0<cap->A=A')/\(if y.2=true then tm.getD y.1.r undef=.slice A n cap/\y.1.r<tm.size else ∃l,follow tm w (Yn base y.1.e y.1.r) y.1.path=some l/\YW tm w l y.1.c=some (.slice A n cap))
def Rep.reA{A A':Option Addr}{n cap z:Nat}{t:Tag}{es:List (List AV)}{V:CS}(h:Rep w Im (.slice A' n cap) (.sl t z es) V)(hA:0<cap->A=A'):Rep w Im (.slice A n cap) (.sl t z es) V:=by
 cases h with
 | sl g off vs Sf hn hc hL hA' hz hrow hin hf hsub hd hself hnone=>exact .sl g off vs Sf hn hc hL (λh0=>by rw[hA h0]; exact hA' h0) hz hrow hin hf hsub hd hself hnone
def Xhb{a:AV}{c:Nat}{t:Tag}{z:Nat}{es:List (List AV)}(hc:(cellsOf a)[c]?=some (.sl t z es))(h3:Ze a=true):a=.sl t z es/\c=0:=by
 have h1:cellsOf a=[a]:=by cases a<;>first | rfl | cases h3
 rw[h1] at hc
 cases c with
 | zero=>simp only[List.getElem?_cons_zero,Option.some.injEq] at hc; exact⟨hc,rfl⟩
 | succ c=>simp at hc
def Xp.outLeaf(h:Xp w0 L Im0 st tm w Im base SO){a:AV}{u:Value}(hl:PL st tm w Im base u a nos){y:AV×Option (Pl×Bool)}{st':St}(he:outLeaf st a=some (y,st')) :
  ∃(SO':Bool->Nat->CS) (V:CS),Xp w0 L Im0 st' tm w Im base SO'/\(∀e r,Sub (SO' e r) (SO e r))/\Rep w Im u y.1 V/\Xw w0 L w Im SO' V/\Sub V (Xai SO)/\∀q,y.2=some q->XgL tm w base q u:=by
 have other:(if XK a=true then some ((a,(none:Option (Pl×Bool))),st) else none)=some (y,st') ->
   ∃(SO':Bool->Nat->CS) (V:CS),Xp w0 L Im0 st' tm w Im base SO'/\(∀e r,Sub (SO' e r) (SO e r))/\Rep w Im u y.1 V/\Xw w0 L w Im SO' V/\Sub V (Xai SO)/\∀q,y.2=some q->XgL tm w base q u:=by
  intro he
  split at he
  ·rename_i hr
   simp only[Option.some.injEq,Prod.mk.injEq] at he
   obtain⟨rfl,rfl⟩:=he
   exact⟨SO,nos,h,λ_ _=>Sub.rfl' _,hl.row hr,Xw.nos,Xo _,λq hq=>by cases hq⟩
  ·cases he
 cases a with
 | rf pl z' lo n =>
  have hrf:Rf st tm w base pl z' lo n u:=by
   cases hl with
   | rep h=>cases h
   | rf h _=>exact h
  simp only[Vm.outLeaf] at he
  cases hn:node st pl with
  | none=>rw[hn] at he; cases he
  | some cells =>
   rw[hn] at he
   simp only at he
   split at he
   ·rename_i z es hc
    split at he
    ·rename_i hcond
     obtain⟨⟨rfl,rfl⟩,rfl⟩:=hcond
     split at he
     ·rename_i hw
      simp only[Option.some.injEq,Prod.mk.injEq] at he
      obtain⟨rfl,rfl⟩:=he
      have htk:Vm.takeRf st pl z' 0 es.length=some (.sl .mut z' es,(Xi st pl (cells.set pl.c .u)).cut pl 1):=by
       simp[Vm.takeRf,hn,hc,hw]
      obtain⟨SO',V,r1,r2,r3,r4,⟨e,r,r5⟩,_⟩:=h.takeRf hrf htk
      obtain⟨A,N,cap,A',V',e1,e2,e3,e4,e5,hR,hV,l,f1,f2⟩:=h.lookRf hrf hn hc
      refine⟨SO',V,r1,r2,r3,r4,λb k hb=>⟨e,r,r5 b k hb⟩,λq hq=>?_⟩
      injection hq with hq
      subst hq
      refine⟨A,A',es.length,cap,by rw[e1]; rfl,λh0=>?_,?_⟩
      ·obtain⟨g,o,q1,q2⟩:=e5 h0
       rw[q1,q2]; simp
      ·by_cases hwh:UN st pl=true
       ·rw[if_pos hwh]
        simp only[UN,Bool.and_eq_true] at hwh
        obtain⟨⟨h1,h2⟩,h3⟩:=hwh
        have hp:pl.path=[]:=by simpa using h2
        rw[hp] at f1
        simp only[follow,Option.some.injEq,Yn,h1,if_true] at f1
        subst f1
        have hcc:(cellsOf (st.env pl.r))[pl.c]?=some (.sl .mut z' es):=by
         simp only[node,hp,nav,Xa,h1,if_true,Option.some.injEq] at hn
         rw[hn]; exact hc
        obtain⟨w1,w2⟩:=Xhb hcc h3
        have hlt:=h.lt_of_sl (x:=pl.r) (by rw[w1]; rfl)
        refine⟨?_,hlt⟩
        have htop:=h.env pl.r
        rw[w1] at htop
        have:=Zq htop.sl.one
        simp only[YW,this,w2] at f2
        simp at f2
        rw[<-e4] at f2; simpa using f2
       ·rw[if_neg hwh]
        exact⟨l,f1,by rw[f2,e4]⟩
     ·cases he
    ·cases he
   ·cases he
 | _=>exact other he
def Xp.fill(h:Xp w0 L Im0 st tm w Im base SO){a:AV}{q:Option (Pl×Bool)}{st':St}(he:XB st a q=some st'){u:Value}{V:CS}(hv:Rep w Im u a V)(hsp:Xw w0 L w Im SO V)(hq:∀y,q=some y->XgL tm w base y u) :
  ∃SO':Bool->Nat->CS,Xp w0 L Im0 st' tm w Im base SO'/\∀e r,Sub (SO' e r) (un (SO e r) V):=by
 cases q with
 | none =>
  injection he with he
  subst he
  exact⟨SO,h,λe r=>Xj _ _⟩
 | some y =>
  obtain⟨pl,f⟩:=y
  cases a with
  | sl t z es =>
   obtain⟨A,A',n,cap,e1,e2,e3⟩:=hq _ rfl
   subst e1
   have hv':=hv.reA e2
   cases f with
   | true =>
    simp only[XB] at he
    rw[if_pos rfl] at e3
    split at he
    ·rename_i henv
     injection he with he
     subst he
     have hp:=h.put (d:=pl.r) (v:=tm.getD pl.r undef) (a:=.sl t z es) (T:=V) e3.2 (by rw[e3.1]; exact .leaf (.rep hv')) (λe r _=>hsp.dis e r) hsp.disI hsp.ins hsp.from_
     rw[Y9] at hp
     refine⟨_,hp,λe r=>?_⟩
     by_cases hr:e=true/\r=pl.r
     ·obtain⟨rfl,rfl⟩:=hr; rw[YQ]; exact Yt _ _
     ·rw[Zp hr]; exact Xj _ _
    ·cases he
   | false =>
    simp only[XB] at he
    rw[if_neg (by simp)] at e3
    obtain⟨l,f1,f2⟩:=e3
    cases hn:node st pl with
    | none=>rw[hn] at he; cases he
    | some cells =>
     rw[hn] at he
     simp only at he
     split at he
     ·rename_i hc
      split at he
      ·rename_i hcond
       injection he with he
       subst he
       simp only[Bool.and_eq_true,Bool.or_eq_true,Bool.not_eq_true'] at hcond
       obtain⟨hw,htop0⟩:=hcond
       have htop:pl.e=true->top (st.env pl.r)=true:=λe=>htop0.resolve_left (by rw[e]; simp)
       obtain⟨l',T,vs,Sf,o⟩:=h.open hn hw htop
       have hl':l'=l:=by have:=o.at_; rw[f1] at this; injection this with this; exact this.symm
       subst hl'
       have hlt:pl.c<cells.length:=(List.getElem?_eq_some_iff.1 hc).1
       have hnew:∀j,¬(pl.c<=j/\j<pl.c+1)->(cells.set pl.c (.sl t z es))[j]?=cells[j]?:=λj hj=>List.getElem?_set_ne (by omega)
       have k:Chg st w Im SO pl cells l' Sf w nos pl.c 1 (cells.set pl.c (.sl t z es)):=by
        refine⟨by simp,λj hj=>by rw[hnew j hj],λe=>h.na (htop e),λy hy=>?_,Xo _,XN.refl _ _⟩
        rcases List.mem_or_eq_of_mem_set hy with hy | rfl
        ·exact o.na y hy
        ·rfl
       have hk:QF st pl pl.c 1 all all:=QF.plain o.nav (λj h1 h2=>by
        have:j=pl.c:=by omega
        subst this; rw[hc]; rfl) all all
       obtain⟨SO',r1,r2,_⟩:=o.putCells h k hk htop (c2:=pl.c) (m2:=1) hnew (λj h1 h2=>⟨h1,h2⟩) (λ_=>.slice A n cap) (λj=>if j=pl.c then V else nos) (λj a h1 h2 hj=>by
         have hjc:j=pl.c:=by omega
         subst hjc; exact f2) (λj a h1 h2 hj=>by
         have hjc:j=pl.c:=by omega
         subst hjc
         rw[List.getElem?_set_self hlt] at hj
         injection hj with hj
         subst hj
         simp only[if_true]
         split
         ·rw[filt_id]; exact .rep hv'
         ·exact hv') (λi j hij=>by
         by_cases hi:i=pl.c
         ·have hj:j≠pl.c:=λe=>hij (hi.trans e.symm)
          simp only[hj,if_false]; exact XM _
         ·simp only[hi,if_false]; exact Xh _) (hsp.mono (λb i ⟨j,h1,h2,hb⟩=>by
         have hjc:j=pl.c:=by omega
         subst hjc
         simpa using hb)) (λg oo j e h1 h2 h3=>(o.nd.mem g oo e j h3).2.1) (Nat.le_refl _) h.frame
       rw[St.filt_id] at r1
       refine⟨SO',r1,λe r b i hb=>?_⟩
       rcases r2 e r b i hb with hb | ⟨j,h1,h2,hb⟩
       ·exact .inl hb
       ·have hjc:j=pl.c:=by omega
        subst hjc
        exact .inr (by simpa using hb)
      ·cases he
     ·cases he
  | _=>injection he with he; subst he; exact⟨SO,h,λe r=>Xj _ _⟩
end Go.Vm
set_option autoImplicit false
namespace Go.Vm
variable {w0 : World} {L Im0 : CS} {st : St} {tm : Array Value} {w : World} {Im : CS} {base : Nat -> Nat × Nat} {SO : Bool -> Nat -> CS} {P : Program}
def XcB{x:Operand}:∀(n j:Nat) {st:St} {SO:Bool->Nat->CS} {ys:List AV×List (Option (Pl×Bool))} {st':St},Xp w0 L Im0 st tm w Im base SO->Zx x n j st=some (ys,st') ->
  ∃(SO':Bool->Nat->CS) (Vf:Nat->CS),Xp w0 L Im0 st' tm w Im base SO'/\(∀e r,Sub (SO' e r) (SO e r))/\ys.1.length=n/\ys.2.length=n /\
   (∀(i:Nat) (a:AV),ys.1[i]?=some a->∃u,(Xe tm x).cells[j+i]?=some u/\Rep w Im u a (Vf i)/\∀q,ys.2[i]?=some (some q)->XgL tm w base q u)/\(∀i,Xw w0 L w Im SO' (Vf i))/\(∀i,Sub (Vf i) (Xai SO))/\∀i k,i≠k->XY (Vf i) (Vf k)
 | 0,j,st,SO,ys,st',h,he=>by
  simp only[Zx,Option.some.injEq,Prod.mk.injEq] at he
  obtain⟨rfl,rfl⟩:=he
  exact⟨SO,λ_=>nos,h,λ_ _=>Sub.rfl' _,rfl,rfl,λi a hi=>by simp at hi,λ_=>Xw.nos,λ_=>Xo _,λ_ _ _=>Xh _⟩
 | n+1,j,st,SO,ys,st',h,he=>by
  simp only[Zx] at he
  have hx:=h.view x
  generalize hvx:Vm.view st x=vx at he hx
  cases vx with
  | agg cs =>
   simp only at he
   cases hc:cs[j]? with
   | none=>rw[hc] at he; cases he
   | some a =>
    rw[hc] at he
    simp only at he
    cases ho:outLeaf st a with
    | none=>rw[ho] at he; cases he
    | some p =>
     obtain⟨y,st1⟩:=p
     rw[ho] at he
     simp only at he
     cases hr:Zx x n (j+1) st1 with
     | none=>rw[hr] at he; cases he
     | some p =>
      obtain⟨ys',st2⟩:=p
      rw[hr] at he
      simp only[Option.some.injEq,Prod.mk.injEq] at he
      obtain⟨rfl,rfl⟩:=he
      obtain⟨u,hu,hl⟩:∃u,(Xe tm x).cells[j]?=some u/\PL st tm w Im base u a nos:=by
       generalize Xe tm x=v at hx
       cases hx with
       | leaf h=>cases h; rename_i h; cases h
       | agg vs Sf hl hin hsub hd =>
        have hlt:j<vs.length:=by rw[hl]; exact(List.getElem?_eq_some_iff.1 hc).1
        refine⟨vs[j],by simp[Value.cells,hlt],(hin j _ a (List.getElem?_eq_getElem hlt) hc).mono (hsub j)⟩
      obtain⟨SO1,V,r1,r2,r3,r4,r5,r6⟩:=h.outLeaf hl ho
      obtain⟨SO2,Vf,s1,s2,s3,s4,s5,s6,s7,s8⟩:=XcB n (j+1) r1 hr
      refine⟨SO2,λi=>match i with | 0=>V | i+1=>Vf i,s1,λe r=>(s2 e r).trans (r2 e r),by simp[s3],by simp[s4],λi b hb=>?_,λi=>?_,λi=>?_,λi k hik=>?_⟩
      ·cases i with
       | zero =>
        simp only[List.getElem?_cons_zero,Option.some.injEq] at hb
        subst hb
        exact⟨u,hu,r3,λq hq=>r6 q (by simpa using hq)⟩
       | succ i =>
        obtain⟨u',q1,q2,q3⟩:=s5 i b (by simpa using hb)
        exact⟨u',by rw[show j+(i+1)=j+1+i by omega]; exact q1,q2,λq hq=>q3 q (by simpa using hq)⟩
      ·cases i with
       | zero=>exact r4.of s2
       | succ i=>exact s6 i
      ·cases i with
       | zero=>exact r5
       | succ i=>exact(s7 i).trans (ZR r2)
      ·cases i with
       | zero =>
        cases k with
        | zero=>exact absurd rfl hik
        | succ k=>exact λb q hb hb'=>by obtain⟨e,r,hr⟩:=s7 k b q hb'; exact r4.dis e r b q hb hr
       | succ i =>
        cases k with
        | zero=>exact λb q hb hb'=>by obtain⟨e,r,hr⟩:=s7 i b q hb; exact r4.dis e r b q hb' hr
        | succ k=>exact s8 i k (λe=>hik (by omega))
  | _=>cases he
structure Xhc (tm:Array Value) (w:World) (Im:CS) (base:Nat->Nat×Nat) (x:Operand) (y:AV×List (Option (Pl×Bool))) (V:CS):Prop where
 cl:Cl w Im (Xe tm x) y.1 V
 head:∀(c:Nat) (q:Pl×Bool),y.2[c]?=some (some q)->∃u,(Xe tm x).cells[c]?=some u/\XgL tm w base q u
def Xp.outArg(h:Xp w0 L Im0 st tm w Im base SO){z:Nat}{x:Operand}{y:AV×List (Option (Pl×Bool))}{st':St}(he:outArg z st x=some (y,st')) :
  ∃(SO':Bool->Nat->CS) (V:CS),Xp w0 L Im0 st' tm w Im base SO'/\(∀e r,Sub (SO' e r) (SO e r))/\Xhc tm w Im base x y V/\Xw w0 L w Im SO' V/\Sub V (Xai SO):=by
 unfold Vm.outArg at he
 have hx:=h.view x
 generalize hvx:Vm.view st x=vx at he hx
 have one:(match Vm.outLeaf st (fix z vx) with
  | some (y,st')=>some ((y.1,[y.2]),st')
  | none=>none)=some (y,st')->(∀cs,vx≠.agg cs) ->
   ∃(SO':Bool->Nat->CS) (V:CS),Xp w0 L Im0 st' tm w Im base SO'/\(∀e r,Sub (SO' e r) (SO e r))/\Xhc tm w Im base x y V/\Xw w0 L w Im SO' V/\Sub V (Xai SO):=by
  intro he hna
  cases ho:Vm.outLeaf st (fix z vx) with
  | none=>rw[ho] at he; cases he
  | some p =>
   obtain⟨y1,st1⟩:=p
   rw[ho] at he
   simp only[Option.some.injEq,Prod.mk.injEq] at he
   obtain⟨rfl,rfl⟩:=he
   have hf:=Zh (z:=z) hx
   by_cases hu:vx=.u
   ·subst hu
    have:Vm.outLeaf st (fix z .u)=some ((.u,none),st):=rfl
    rw[this] at ho
    simp only[Option.some.injEq,Prod.mk.injEq] at ho
    obtain⟨rfl,rfl⟩:=ho
    exact⟨SO,nos,h,λ_ _=>Sub.rfl' _,⟨.u,λc q hq=>by cases c<;>simp at hq⟩,Xw.nos,Xo _⟩
   ·have hl:PL st tm w Im base (Xe tm x) (fix z vx) nos:=by
     generalize Xe tm x=v at hx hf
     cases hx with
     | u=>exact absurd rfl hu
     | no=>simp[Vm.outLeaf,fix,XK,QJ] at ho
     | leaf hl =>
      generalize hfx:fix z vx=fx at hf ho
      cases hf with
      | u=>exfalso; cases vx<;>first | exact hu rfl | (simp only[fix,reduceCtorEq] at hfx; done) | (simp only[fix] at hfx; split at hfx<;>cases hfx)
      | no=>exfalso; simp[Vm.outLeaf,XK,QJ] at ho
      | leaf hl=>exact hl
      | agg=>exfalso; simp[Vm.outLeaf,XK,QJ] at ho
      | tup=>exfalso; simp[Vm.outLeaf,XK,QJ] at ho
     | agg=>exact absurd rfl (hna _)
     | tup=>simp[Vm.outLeaf,fix,XK,QJ] at ho
    obtain⟨SO1,V,r1,r2,r3,r4,r5,r6⟩:=h.outLeaf hl ho
    refine⟨SO1,V,r1,r2,⟨.leaf (.rep r3),λc q hq=>?_⟩,r4,r5⟩
    cases c with
    | zero =>
     refine⟨Xe tm x,?_,r6 q (by simpa using hq)⟩
     rw[Zq hl.one]; rfl
    | succ c=>simp at hq
 cases vx with
 | agg cs =>
  simp only at he
  cases ho:Zx x cs.length 0 st with
  | none=>rw[ho] at he; cases he
  | some p =>
   obtain⟨ys,st1⟩:=p
   rw[ho] at he
   simp only[Option.some.injEq,Prod.mk.injEq] at he
   obtain⟨rfl,rfl⟩:=he
   obtain⟨SO',Vf,s1,s2,s3,s4,s5,s6,s7,s8⟩:=XcB cs.length 0 h ho
   refine⟨SO',λb k=>∃i,Vf i b k,s1,s2,⟨?_,λc q hq=>?_⟩,⟨λe r b k ⟨i,hb⟩=>(s6 i).dis e r b k hb,λb k ⟨i,hb⟩=>(s6 i).disI b k hb,λg k ⟨i,hb⟩=>(s6 i).ins g k hb,λg k ⟨i,hb⟩=>(s6 i).from_ g k hb⟩,λb k ⟨i,hb⟩=>s7 i b k hb⟩
   ·revert s5
    generalize Xe tm x=v at hx
    intro s5
    cases hx with
    | leaf h=>cases h; rename_i h; cases h
    | agg vs Sf hl hin hsub hd =>
     refine .agg vs Vf (by show vs.length=ys.1.length; omega) (λi u a hu ha=>?_) (λi b k hb=>⟨i,hb⟩) s8
     obtain⟨u',q1,q2,_⟩:=s5 i a ha
     simp only[Value.cells,List.getElem?_toArray,Nat.zero_add] at q1
     rw[hu] at q1
     injection q1 with q1
     subst q1
     exact .rep q2
   ·have hlt:c<ys.1.length:=by
     have:c<ys.2.length:=(List.getElem?_eq_some_iff.1 hq).1
     omega
    obtain⟨u,q1,_,q3⟩:=s5 c ys.1[c] (List.getElem?_eq_getElem hlt)
    exact⟨u,by rw[Nat.zero_add] at q1; exact q1,q3 q hq⟩
 | _=>exact one he (λcs e=>by cases e)
def Xbs{cx:Cx}:∀(ms:List Md) {ts:List TypeId} {xs:List Operand} {st:St} {SO:Bool->Nat->CS} {ys:List (AV×List (Option (Pl×Bool)))} {st':St},Xp w0 L Im0 st tm w Im base SO->XO cx st ms ts xs=some (ys,st') ->
  ∃(SO':Bool->Nat->CS) (Vf:Nat->CS),Xp w0 L Im0 st' tm w Im base SO'/\(∀e r,Sub (SO' e r) (SO e r)) /\
   (∀(j:Nat) (m:Md) (x:Operand) (y:AV×List (Option (Pl×Bool))),ms[j]?=some m->xs[j]?=some x->ys[j]?=some y->if m.isMv=true then Xhc tm w Im base x y (Vf j) else y=(.u,[])) /\
   (∀(j:Nat) (y:AV×List (Option (Pl×Bool))),ys[j]?=some y->∃m x,ms[j]?=some m/\xs[j]?=some x) /\
   (∀j,Xw w0 L w Im SO' (Vf j))/\(∀j,Sub (Vf j) (Xai SO))/\∀i k,i≠k->XY (Vf i) (Vf k)
 | [],ts,xs,st,SO,ys,st',h,he=>by
  simp only[XO,Option.some.injEq,Prod.mk.injEq] at he
  obtain⟨rfl,rfl⟩:=he
  exact⟨SO,λ_=>nos,h,λ_ _=>Sub.rfl' _,λj m x y hm=>by simp at hm,λj y hy=>by simp at hy,λ_=>Xw.nos,λ_=>Xo _,λ_ _ _=>Xh _⟩
 | m :: ms,[],xs,st,SO,ys,st',h,he=>by
  simp only[XO,Option.some.injEq,Prod.mk.injEq] at he
  obtain⟨rfl,rfl⟩:=he
  exact⟨SO,λ_=>nos,h,λ_ _=>Sub.rfl' _,λj m x y _ _ hy=>by simp at hy,λj y hy=>by simp at hy,λ_=>Xw.nos,λ_=>Xo _,λ_ _ _=>Xh _⟩
 | m :: ms,t :: ts,[],st,SO,ys,st',h,he=>by
  simp only[XO,Option.some.injEq,Prod.mk.injEq] at he
  obtain⟨rfl,rfl⟩:=he
  exact⟨SO,λ_=>nos,h,λ_ _=>Sub.rfl' _,λj m x y _ _ hy=>by simp at hy,λj y hy=>by simp at hy,λ_=>Xw.nos,λ_=>Xo _,λ_ _ _=>Xh _⟩
 | m :: ms,t :: ts,x :: xs,st,SO,ys,st',h,he=>by
  simp only[XO] at he
  obtain⟨y,st1,ys',SO1,V,r1,r2,r3,r4,r5,hr,rfl⟩:∃y st1 ys' SO1 V,Xp w0 L Im0 st1 tm w Im base SO1/\(∀e r,Sub (SO1 e r) (SO e r))/\(if m.isMv=true then Xhc tm w Im base x y V else y=(.u,[]))/\Xw w0 L w Im SO1 V/\Sub V (Xai SO) /\
    XO cx st1 ms ts xs=some (ys',st')/\ys=y :: ys':=by
   split at he
   ·rename_i hm
    cases ho:Vm.outArg (zOf cx t) st x with
    | none=>rw[ho] at he; cases he
    | some p =>
     obtain⟨y,st1⟩:=p
     rw[ho] at he
     simp only at he
     cases hr:XO cx st1 ms ts xs with
     | none=>rw[hr] at he; cases he
     | some p =>
      obtain⟨ys',st2⟩:=p
      rw[hr] at he
      simp only[Option.some.injEq,Prod.mk.injEq] at he
      obtain⟨rfl,rfl⟩:=he
      obtain⟨SO1,V,r1,r2,r3,r4,r5⟩:=h.outArg ho
      exact⟨y,st1,ys',SO1,V,r1,r2,by rw[if_pos hm]; exact r3,r4,r5,hr,rfl⟩
   ·rename_i hm
    cases hr:XO cx st ms ts xs with
    | none=>rw[hr] at he; cases he
    | some p =>
     obtain⟨ys',st2⟩:=p
     rw[hr] at he
     simp only[Option.some.injEq,Prod.mk.injEq] at he
     obtain⟨rfl,rfl⟩:=he
     exact⟨_,st,ys',SO,nos,h,λ_ _=>Sub.rfl' _,by rw[if_neg hm],Xw.nos,Xo _,hr,rfl⟩
  obtain⟨SO2,Vf,s1,s2,s3,s4,s5,s6,s7⟩:=Xbs ms r1 hr
  refine⟨SO2,λi=>match i with | 0=>V | i+1=>Vf i,s1,λe r=>(s2 e r).trans (r2 e r),λj m' x' y' hm hx hy=>?_,λj y' hy=>?_,λi=>?_,λi=>?_,λi k hik=>?_⟩
  ·cases j with
   | zero =>
    simp only[List.getElem?_cons_zero,Option.some.injEq] at hm hx hy
    subst hm hx hy
    exact r3
   | succ j=>exact s3 j m' x' y' (by simpa using hm) (by simpa using hx) (by simpa using hy)
  ·cases j with
   | zero=>exact⟨m,x,rfl,rfl⟩
   | succ j=>obtain⟨m',x',q1,q2⟩:=s4 j y' (by simpa using hy); exact⟨m',x',by simpa using q1,by simpa using q2⟩
  ·cases i with
   | zero=>exact r4.of s2
   | succ i=>exact s5 i
  ·cases i with
   | zero=>exact r5
   | succ i=>exact(s6 i).trans (ZR r2)
  ·cases i with
   | zero =>
    cases k with
    | zero=>exact absurd rfl hik
    | succ k=>exact λb q hb hb'=>by obtain⟨e,r,hr⟩:=s6 k b q hb'; exact r4.dis e r b q hb hr
   | succ i =>
    cases k with
    | zero=>exact λb q hb hb'=>by obtain⟨e,r,hr⟩:=s6 i b q hb; exact r4.dis e r b q hb' hr
    | succ k=>exact s7 i k (λe=>hik (by omega))
end Go.Vm
set_option autoImplicit false
namespace Go.Vm
variable {w0 : World} {L Im0 : CS} {st : St} {tm : Array Value} {w : World} {Im : CS} {base : Nat -> Nat × Nat} {SO : Bool -> Nat -> CS} {P : Program}
def Ans(P:Program)(f:FuncId)(args:Array Value)(w:World)(R:Value->World->Prop):Prop :=
 (∃v w',(callFunc f args).run P w=.ok (.value v) w'/\R v w')\/((callFunc f args).run P w=.ok (.enter f args) w/\Calls P f args w fun
  | .returned v,w'=>R v w'
  | _,_=>False)
def Ans.mono{f:FuncId}{args:Array Value}{R R':Value->World->Prop}(h:Ans P f args w R)(hr:∀v w',R v w'->R' v w'):Ans P f args w R':=by
 rcases h with⟨v,w',h1,h2⟩ | ⟨h1,h2⟩
 ·exact .inl ⟨v,w',h1,hr _ _ h2⟩
 ·refine .inr ⟨h1,λcs=>?_⟩
  obtain⟨e,w',fr,k1,k2⟩:=h2 cs
  refine⟨e,w',fr,?_,k2⟩
  cases e with
  | returned v=>exact hr _ _ k1
  | panicked=>exact k1
  | outgrown=>exact k1
def XfM(w:World)(Im:CS):Md->Value->AV->CS->Prop
 | .ro _,v,a,_=>Cl w Im v a nos
 | .mv,v,a,S=>Cl w Im v a S
 | .rw n,v,a,S=>∃g o cs,v=.pointer (some ⟨g,o,none⟩)/\a=.agg cs/\cs.length=n/\cs.all XK=true/\Up (Yy w Im noP noR) #[] w (.mem g o) cs S
def Xjc(w:World)(Im:CS):Md->Value->AV->CS->Prop
 | .ro _,_,_,_=>True
 | .mv,v,a,S=>Cl w Im v a S/\XL a=true
 | .rw n,v,a,S=>∃g o cs,v=.pointer (some ⟨g,o,none⟩)/\a=.agg cs/\cs.length=n/\cs.all XK=true/\Up (Yy w Im noP noR) #[] w (.mem g o) cs S
def YS(Sf:Nat->CS):CS:=λg k=>∃j,Sf j g k
def Xb4(w:World)(Im:CS)(v:Value)(r:AV)(S:CS):Prop:=match UK r with
 | some cs=>∃g o,v=.pointer (some ⟨g,o,none⟩)/\cs≠[]/\Up (Yy w Im noP noR) #[] w (.mem g o) cs S
 | none=>match Z6 r with
  | some q=>∃(us:List Value) (g o:Nat) (Sf:Nat->CS) (S2:CS),v=.tuple (us++[Value.pointer (some ⟨g,o,none⟩)]).toArray/\us.length=q.2.length/\(∀(j:Nat) (u:Value) (a:AV),us[j]?=some u->q.2[j]?=some a->Cl w Im u a (Sf j))/\(∀i k,i≠k->XY (Sf i) (Sf k))/\(∀j,Sub (Sf j) S) /\
    q.1≠[]/\Up (Yy w Im noP noR) #[] w (.mem g o) q.1 S2/\Sub S2 S/\∀j,XY (Sf j) S2
  | none=>Cl w Im v r S
def XiD{r:AV}{q:List AV×List AV}(h:Z6 r=some q):r=.tup [.tup [.agg q.1],.tup q.2]:=by
 unfold Z6 at h
 split at h
 ·injection h with h; subst h; rfl
 ·cases h
def XiE{r:AV}{cs:List AV}(h:UK r=some cs):r=.tup [.agg cs]:=by
 unfold UK at h
 split at h
 ·injection h with h; subst h; rfl
 ·cases h
structure Xmp (w w':World) (Im Lent:CS) (md:List Md) (vs:List Value) (r:AV) (os:List AV) (v:Value) (Im' S:CS) (Of:Nat->CS):Prop where
 frame:Frame w w' Lent
 sub:Sub Im Im'
 fromI:∀g k,Im' g k->Im g k\/Lent g k\/w.heap.size<=g
 inI:∀g k,Im' g k->g<w'.heap.size
 res:Xb4 w' Im' v r S
 out:∀(j:Nat) (m:Md) (u:Value) (o:AV),md[j]?=some m->vs[j]?=some u->os[j]?=some o->Xjc w' Im' m u o (Of j)
 disO:∀i j,i≠j->XY (Of i) (Of j)
 disS:∀j,XY S (Of j)
 disSI:XY S Im'
 disOI:∀j,XY (Of j) Im'
 inS:∀g k,S g k->g<w'.heap.size
 inO:∀j g k,Of j g k->g<w'.heap.size
 fromS:∀g k,S g k->Lent g k\/w.heap.size<=g
 fromO:∀j g k,Of j g k->Lent g k\/w.heap.size<=g
class HasTb (P:Program) where
 tb:CS->World->Prop
 mono:∀{Im Im' L:CS} {w w':World},tb Im w->Sub Im Im'->Frame w w' L->XY Im L->tb Im' w'
def Tb(P:Program)[h:HasTb P]:CS->World->Prop:=h.tb
def Tb.mono[h:HasTb P]{Im Im' L:CS}{w w':World}(k:Tb P Im w)(h1:Sub Im Im')(h2:Frame w w' L)(h3:XY Im L):Tb P Im' w':=h.mono k h1 h2 h3
def QG(P:Program)[HasTb P](f:FuncId)(fs:FS):Prop :=
 ∀(w:World) (Im:CS) (vs:List Value) (as:List AV) (Sf:Nat->CS) (r:AV) (os:List AV),fs.F as=some (r,os)->vs.length=fs.md.length->as.length=fs.md.length ->
  (∀(j:Nat) (m:Md) (v:Value) (a:AV),fs.md[j]?=some m->vs[j]?=some v->as[j]?=some a->XfM w Im m v a (Sf j)) ->
  (∀i j,i≠j->XY (Sf i) (Sf j))->(∀j,XY (Sf j) Im)->(∀j g k,Sf j g k->g<w.heap.size)->(∀g k,Im g k->g<w.heap.size)->Tb P Im w ->
  Ans P f vs.toArray w λv w'=>∃(Im' S:CS) (Of:Nat->CS),Xmp w w' Im (YS Sf) fs.md vs r os v Im' S Of/\(fs.wk=false->XW r=false/\∀o∈os,XW o=false)
def Qc{l:List AV}(h:X4 l=false){j:Nat}{a:AV}(hj:l[j]?=some a):XW a=false:=by
 induction l generalizing j with
 | nil=>simp at hj
 | cons x r ih =>
  simp only[X4,Bool.or_eq_false_iff] at h
  cases j with
  | zero=>simp only[List.getElem?_cons_zero,Option.some.injEq] at hj; subst hj; exact h.1
  | succ j=>exact ih h.2 (by simpa using hj)
def Xdq{l:List (List AV)}(h:X8 l=false){j:Nat}{a:List AV}(hj:l[j]?=some a):X4 a=false:=by
 induction l generalizing j with
 | nil=>simp at hj
 | cons x r ih =>
  simp only[X8,Bool.or_eq_false_iff] at h
  cases j with
  | zero=>simp only[List.getElem?_cons_zero,Option.some.injEq] at hj; subst hj; exact h.1
  | succ j=>exact ih h.2 (by simpa using hj)
mutual
def lenOk:AV->Prop
 | .sl _ _ es=>es.length<=9223372036854775807/\XaE es
 | .agg cs=>U9 cs
 | _=>True
def U9:List AV->Prop
 | []=>True
 | a :: l=>lenOk a/\U9 l
def XaE:List (List AV)->Prop
 | []=>True
 | a :: l=>U9 a/\XaE l
end
def QU:∀{l:List AV},(∀(j:Nat) (a:AV),l[j]?=some a->lenOk a)->U9 l
 | [],_=>by simp[U9]
 | a :: l,h=>by
  simp only[U9]
  exact⟨h 0 a rfl,QU λj b hj=>h (j+1) b (by simpa using hj)⟩
def Xbt:∀{l:List (List AV)},(∀(i:Nat) (row:List AV),l[i]?=some row->U9 row)->XaE l
 | [],_=>by simp[XaE]
 | a :: l,h=>by
  simp only[XaE]
  exact⟨h 0 a rfl,Xbt λj b hj=>h (j+1) b (by simpa using hj)⟩
def Rep.lenOk{v:Value}{a:AV}{S:CS}(h:Rep w Im v a S):Vm.lenOk a:=by
 induction h with
 | sl g off vs Sf hn hc hL hA hz hrow hin hf hsub hd hself hnone ih =>
  simp only[Vm.lenOk]
  exact⟨by omega,Xbt λi row hi=>QU λj a hj=>ih i row j a hi hj⟩
 | _=>simp[Vm.lenOk]
def UZ{v:Value}{a:AV}{S:CS}(h:Yy w Im noP noR v a S):Vm.lenOk a:=by
 cases h with
 | rep h=>exact h.lenOk
 | _=>simp[Vm.lenOk]
def Cl.lenOk{v:Value}{a:AV}{S:CS}(h:Cl w Im v a S):Vm.lenOk a:=by
 cases h with
 | leaf h=>exact UZ h
 | agg vs Sf hl hin hsub hd =>
  simp only[Vm.lenOk]
  refine QU λj a hj=>?_
  have hlt:j<vs.length:=by have:=(List.getElem?_eq_some_iff.1 hj).1; omega
  exact UZ (hin j _ a (List.getElem?_eq_getElem hlt) hj)
 | _=>simp[Vm.lenOk]
def Xdr{m:Md}{v:Value}{a:AV}{S:CS}(h:XfM w Im m v a S):Vm.lenOk a:=by
 cases m with
 | ro n=>exact Cl.lenOk h
 | mv=>exact Cl.lenOk h
 | rw n =>
  obtain⟨g,o,cs,_,rfl,_,_,hN⟩:=h
  simp only[Vm.lenOk]
  obtain⟨vs,Sf,_,h2,_⟩:=hN
  refine QU λj a hj=>?_
  exact UZ (h2 j a hj)
def Rep.noRo{Im':CS}{v:Value}{a:AV}{S:CS}(h:Rep w Im v a S)(hr:XW a=false):Rep w Im' v a S:=by
 induction h with
 | u h=>exact .u h
 | ub=>exact .ub
 | b=>exact .b
 | i=>exact .i
 | s=>exact .s
 | nil=>exact .nil
 | pn=>exact .pn
 | @sl A n cap t z es S g off vs Sf hn hc hL hA hz hrow hin hf hsub hd hself hnone ih =>
  cases t with
  | «mut» =>
   simp only[XW] at hr
   exact .sl g off vs Sf hn hc hL hA hz hrow (λi row j a hi hj=>ih i row j a hi hj (Qc (Xdq hr hi) hj)) ⟨hf.own,hf.app,hf.free,λe=>absurd rfl e⟩ hsub hd hself hnone
  | _=>cases hr
 | pr=>cases hr
 | fn=>cases hr
 | fs=>cases hr
def XaF{Im':CS}{v:Value}{a:AV}{S:CS}(h:Yy w Im noP noR v a S)(hr:XW a=false):Yy w Im' noP noR v a S:=by
 cases h with
 | rep h=>exact .rep (h.noRo hr)
 | p h=>exact h.elim
 | rf h _=>exact h.elim
 | fn=>cases hr
 | fs=>cases hr
def Xds{Im':CS}{v:Value}{a:AV}{S:CS}(h:Cl w Im v a S)(hr:XW a=false):Cl w Im' v a S:=by
 induction h with
 | u=>exact .u
 | no=>exact .no
 | leaf h=>exact .leaf (XaF h hr)
 | agg vs Sf hl hin hsub hd =>
  simp only[XW] at hr
  exact .agg vs Sf hl (λj v a hv ha=>XaF (hin j v a hv ha) (Qc hr ha)) hsub hd
 | tup vs Sf hl hin hsub hd ih =>
  simp only[XW] at hr
  exact .tup vs Sf hl (λj v a hv ha=>ih j v a hv ha (Qc hr ha)) hsub hd
def XaG{Im':CS}{l:Loc}{cs:List AV}{S:CS}(h:Up (Yy w Im noP noR) #[] w l cs S)(hr:X4 cs=false):Up (Yy w Im' noP noR) #[] w l cs S:=by
 obtain⟨vs,Sf,h1,h2,h3⟩:=h
 exact⟨vs,Sf,h1,λj a hj=>XaF (h2 j a hj) (Qc hr hj),h3⟩
def XfN(Im:CS):un Im nos=Im:=by
 funext b k
 exact propext ⟨λh=>h.elim id (λh=>h.elim),.inl⟩
def Xhd{Im':CS}{v:Value}{r:AV}{S:CS}(h:Xb4 w Im v r S)(hr:XW r=false):Xb4 w Im' v r S:=by
 unfold Xb4 at h ⊢
 cases hn:UK r with
 | none =>
  rw[hn] at h
  simp only at h ⊢
  cases hq:Z6 r with
  | none=>rw[hq] at h; exact Xds h hr
  | some q =>
   rw[hq] at h
   obtain⟨us,g,o,Sf,S2,h1,h2,h3,h4,h5,h6,h7,h8⟩:=h
   have:=XiD hq
   subst this
   simp only[XW,X4,Bool.or_false,Bool.or_eq_false_iff] at hr
   exact⟨us,g,o,Sf,S2,h1,h2,λj u a hu ha=>Xds (h3 j u a hu ha) (Qc hr.2 ha),h4,h5,h6,XaG h7 hr.1,h8⟩
 | some cs =>
  rw[hn] at h
  obtain⟨g,o,h1,h2,h3⟩:=h
  have:=XiE hn
  subst this
  exact⟨g,o,h1,h2,XaG h3 (by simpa[XW,X4] using hr)⟩
def QG.use[HasTb P]{f:FuncId}{fs:FS}(hS:QG P f fs){X:CS}(hX:fs.wk=true->X=nos){vs:List Value}{as:List AV}{Sf:Nat->CS}{r:AV}{os:List AV}(hF:fs.F as=some (r,os))(h1:vs.length=fs.md.length)(h2:as.length=fs.md.length)
  (ha:∀(j:Nat) (m:Md) (v:Value) (a:AV),fs.md[j]?=some m->vs[j]?=some v->as[j]?=some a->XfM w (un Im X) m v a (Sf j))
  (hd:∀i j,i≠j->XY (Sf i) (Sf j)) (hI:∀j,XY (Sf j) Im) (hXd:∀j,XY (Sf j) X) (hs:∀j g k,Sf j g k->g<w.heap.size) (hi:∀g k,Im g k->g<w.heap.size) (hx:∀g k,X g k->g<w.heap.size) (hT:Tb P Im w) :
  Ans P f vs.toArray w λv w'=>∃(Im' S:CS) (Of:Nat->CS),Xmp w w' Im (YS Sf) fs.md vs r os v Im' S Of:=by
 have:=hS w (un Im X) vs as Sf r os hF h1 h2 ha hd (λj b k hb hb'=>hb'.elim (hI j b k hb) (hXd j b k hb)) hs (λg k hb=>hb.elim (hi g k) (hx g k)) (hT.mono (λ_ _ hb=>.inl hb) (Frame.refl w nos) (XM _))
 refine this.mono λv w' ⟨Im',S,Of,b,hn⟩=>?_
 by_cases hwk:fs.wk=true
 ·have hX0:=hX hwk
  subst hX0
  rw[XfN] at b
  exact⟨Im',S,Of,b⟩
 ·have hwk':fs.wk=false:=by simpa using hwk
  obtain⟨n1,n2⟩:=hn hwk'
  have hII:Sub Im Im':=λg k hb=>b.sub g k (.inl hb)
  refine⟨Im,S,Of,b.frame,Sub.rfl' _,λg k hb=>.inl hb,λg k hb=>Nat.lt_of_lt_of_le (hi g k hb) b.frame.size,Xhd b.res n1,λj m u o hm hu ho=>?_,b.disO,b.disS,b.disSI.mono (Sub.rfl' _) hII,λj=>(b.disOI j).mono (Sub.rfl' _) hII,b.inS,b.inO,b.fromS,b.fromO⟩
  have hk:=b.out j m u o hm hu ho
  have hr:=n2 o (List.mem_of_getElem? ho)
  cases m with
  | ro=>trivial
  | mv=>exact⟨Xds hk.1 hr,hk.2⟩
  | rw n =>
   obtain⟨g,oo,cs,k1,k2,k3,k4,k5⟩:=hk
   subst k2
   exact⟨g,oo,cs,k1,rfl,k3,k4,XaG k5 (by simpa[XW] using hr)⟩
end Go.Vm
set_option autoImplicit false
namespace Go.Vm
variable {w0 : World} {L Im0 : CS} {st : St} {tm : Array Value} {w : World} {Im : CS} {base : Nat -> Nat × Nat} {SO : Bool -> Nat -> CS} {P : Program} {cx : Cx}
def UD:∀(ts:List TypeId) (xs:List Operand) (as:List AV),(Xcg cx ts xs as).length=as.length
 | [],_,as=>by simp[Xcg]
 | _ :: _,[],as=>by simp[Xcg]
 | _ :: _,_ :: _,[]=>by simp[Xcg]
 | t :: ts,x :: xs,a :: as=>by simp[Xcg,UD ts xs as]
def Xd9:∀(ts:List TypeId) (xs:List Operand) (as:List AV) (j:Nat) (b:AV),(Xcg cx ts xs as)[j]?=some b->∃a,as[j]?=some a/\(b=a\/∃z,b=fix z a)
 | [],_,as,j,b,h=>⟨b,by simpa[Xcg] using h,.inl rfl⟩
 | _ :: _,[],as,j,b,h=>⟨b,by simpa[Xcg] using h,.inl rfl⟩
 | _ :: _,_ :: _,[],j,b,h=>by simp[Xcg] at h
 | t :: ts,x :: xs,a :: as,0,b,h=>by
  simp only[Xcg,List.getElem?_cons_zero,Option.some.injEq] at h
  refine⟨a,rfl,?_⟩
  cases x with
  | const v=>exact .inl h.symm
  | _=>exact .inr ⟨_,h.symm⟩
 | t :: ts,x :: xs,a :: as,j+1,b,h=>by
  simp only[Xcg,List.getElem?_cons_succ] at h
  exact Xd9 ts xs as j b h
def Xb5(h:Xp w0 L Im0 st tm w Im base SO){f:Operand}{ts:List TypeId}{xs:List Operand}{g:Nat}{as:List AV}(he:Qj cx st f ts xs=some (g,as)) :
  ∃caps:List Value,Xe tm f=.func (.func g) #[] caps.toArray/\as.length=(xs.map (Xe tm)++caps).length/\∀(j:Nat) (v:Value) (a:AV),(xs.map (Xe tm)++caps)[j]?=some v->as[j]?=some a->PT st tm w Im base v a nos:=by
 unfold Qj at he
 have hf:=h.view f
 generalize hvf:Vm.view st f=vf at he hf
 cases vf with
 | fn g' cs =>
  simp only[fnV,Option.some.injEq,Prod.mk.injEq] at he
  obtain⟨rfl,rfl⟩:=he
  obtain⟨vs,hv,hlen,hin⟩:∃vs:List Value,Xe tm f=.func (.func g') #[] vs.toArray/\vs.length=cs.length/\∀(j:Nat) (u:Value) (b:AV),vs[j]?=some u->cs[j]?=some b->PL st tm w Im base u b nos:=by
   generalize Xe tm f=v at hf
   cases hf with
   | leaf hl =>
    cases hl with
    | rep h=>cases h with
     | fn vs hl hin=>exact⟨vs,rfl,hl,λj u b h1 h2=>.rep (hin j u b h1 h2)⟩
    | fn vs hl hin=>exact⟨vs,rfl,hl,hin⟩
  refine⟨vs,hv,by simp[UD,hlen],λj v a hv' ha=>?_⟩
  by_cases hj:j<xs.length
  ·rw[List.getElem?_append_left (by simpa using hj)] at hv'
   rw[List.getElem?_append_left (by rw[UD]; simpa using hj)] at ha
   rw[List.getElem?_map] at hv'
   obtain⟨x,hx,rfl⟩:=Option.map_eq_some_iff.1 hv'
   obtain⟨a0,h1,h2⟩:=Xd9 _ _ _ _ _ ha
   rw[List.getElem?_map,hx] at h1
   injection h1 with h1
   subst h1
   rcases h2 with rfl | ⟨z,rfl⟩
   ·exact h.view x
   ·exact Zh (h.view x)
  ·rw[List.getElem?_append_right (by simp; omega)] at hv'
   rw[List.getElem?_append_right (by rw[UD]; simp; omega)] at ha
   rw[UD] at ha
   simp only[List.length_map] at hv' ha
   exact .leaf (hin _ v a hv' ha)
 | _=>cases he
def Q9{own:Bool}{av:Option (Bool×Nat)}:∀{ms:List Md} {as:List AV} {ys:List (AV×List (Option (Pl×Bool)))} {bs:List AV},Ym own av st ms as ys=some bs->ms.length=as.length/\bs.length=ms.length /\
  ∀(j:Nat) (m:Md) (a b:AV),ms[j]?=some m->as[j]?=some a->bs[j]?=some b->QK own av st m a (ys.getD j (.u,[]))=some b
 | [],[],ys,bs,h=>by
  simp only[Ym,Option.some.injEq] at h
  subst h
  exact⟨rfl,rfl,λj m a b hm=>by simp at hm⟩
 | m :: ms,a :: as,ys,bs,h=>by
  simp only[Ym] at h
  cases h1:QK own av st m a (ys.headD (.u,[])) with
  | none=>rw[h1] at h; cases h
  | some b =>
   rw[h1] at h
   simp only at h
   cases h2:Ym own av st ms as ys.tail with
   | none=>rw[h2] at h; cases h
   | some l =>
    rw[h2] at h
    injection h with h
    subst h
    obtain⟨k1,k2,k3⟩:=Q9 h2
    refine⟨by simp[k1],by simp[k2],λj m' a' b' hm ha hb=>?_⟩
    cases j with
    | zero =>
     simp only[List.getElem?_cons_zero,Option.some.injEq] at hm ha hb
     subst hm ha hb
     rw[<-h1]
     cases ys<;>rfl
    | succ j =>
     have:=k3 j m' a' b' (by simpa using hm) (by simpa using ha) (by simpa using hb)
     rw[<-this]
     cases ys<;>simp
 | [],_ :: _,ys,bs,h=>by simp[Ym] at h
 | _ :: _,[],ys,bs,h=>by simp[Ym] at h
def XaH:∀{k:Nat} {ms:List Md},Xa1 k ms=none->∀(j:Nat) (m:Md),ms[j]?=some m->m.isRw=false
 | k,[],h,j,m,hj=>by simp at hj
 | k,m0 :: ms,h,j,m,hj=>by
  cases m0 with
  | rw n=>simp[Xa1] at h
  | ro n =>
   simp only[Xa1] at h
   cases j with
   | zero=>simp only[List.getElem?_cons_zero,Option.some.injEq] at hj; subst hj; rfl
   | succ j=>exact XaH h j m (by simpa using hj)
  | mv =>
   simp only[Xa1] at h
   cases j with
   | zero=>simp only[List.getElem?_cons_zero,Option.some.injEq] at hj; subst hj; rfl
   | succ j=>exact XaH h j m (by simpa using hj)
def Xdt{a:AV}{q:Option (Pl×Bool)}{st':St}(h:XB st a q=some st')(ha:Zo a=false):st'=st:=by
 cases q with
 | none=>injection h with h; exact h.symm
 | some y =>
  obtain⟨pl,f⟩:=y
  cases a with
  | sl=>cases ha
  | _=>injection h with h; exact h.symm
def UE:∀(as:List AV) {ps:List (Option (Pl×Bool))} {us:Nat->Option Value} {Vg:Nat->CS} {st:St} {SO:Bool->Nat->CS} {st':St},Xp w0 L Im0 st tm w Im base SO->XV st as ps=some st' ->
  (∀(c:Nat) (a:AV),as[c]?=some a->Zo a=true->∃u,us c=some u/\Rep w Im u a (Vg c))->(∀c,Xw w0 L w Im SO (Vg c))->(∀i k,i≠k->XY (Vg i) (Vg k))->(∀(c:Nat) (q:Pl×Bool),ps[c]?=some (some q)->∃u,us c=some u/\XgL tm w base q u) ->
  ∃SO':Bool->Nat->CS,Xp w0 L Im0 st' tm w Im base SO'/\∀e r,Sub (SO' e r) (un (SO e r) (YS Vg))
 | [],[],us,Vg,st,SO,st',h,he,_,_,_,_=>by
  injection he with he
  subst he
  exact⟨SO,h,λe r=>Xj _ _⟩
 | a :: as,p :: ps,us,Vg,st,SO,st',h,he,h1,h2,h3,h4=>by
  simp only[XV] at he
  cases hf:XB st a p with
  | none=>rw[hf] at he; cases he
  | some st1 =>
   rw[hf] at he
   simp only at he
   obtain⟨SO1,r1,r2⟩:∃SO1:Bool->Nat->CS,Xp w0 L Im0 st1 tm w Im base SO1/\∀e r,Sub (SO1 e r) (un (SO e r) (Vg 0)):=by
    by_cases hs:Zo a=true
    ·obtain⟨u,hu,hr⟩:=h1 0 a rfl hs
     refine h.fill hf hr (h2 0) (λy hy=>?_)
     obtain⟨u',hu',hh⟩:=h4 0 y (by simp[hy])
     rw[hu] at hu'
     injection hu' with hu'
     subst hu'
     exact hh
    ·have:=Xdt hf (by simpa using hs)
     subst this
     exact⟨SO,h,λe r=>Xj _ _⟩
   obtain⟨SO2,s1,s2⟩:=UE as (us:=λc=>us (c+1)) (Vg:=λc=>Vg (c+1)) r1 he (λc b hc hs=>h1 (c+1) b (by simpa using hc) hs)
    (λc=>⟨λe r b k hb hb'=>(r2 e r b k hb').elim (λx=>(h2 (c+1)).dis e r b k hb x) (λx=>h3 (c+1) 0 (by omega) b k hb x),(h2 (c+1)).disI,(h2 (c+1)).ins,(h2 (c+1)).from_⟩)
    (λi k hik=>h3 _ _ (by omega)) (λc q hq=>h4 (c+1) q (by simpa using hq))
   refine⟨SO2,s1,λe r b k hb=>?_⟩
   rcases s2 e r b k hb with hb | ⟨c,hb⟩
   ·exact(r2 e r b k hb).imp id (λx=>⟨0,x⟩)
   ·exact .inr ⟨c+1,hb⟩
 | [],_ :: _,us,Vg,st,SO,st',h,he,_,_,_,_=>by simp[XV] at he
 | _ :: _,[],us,Vg,st,SO,st',h,he,_,_,_,_=>by simp[XV] at he
def Xhe{v:Value}{o:AV}{S:CS}(h:Cl w Im v o S)(hok:XL o=true):∃nS:Nat->CS,(∀j,Sub (nS j) S)/\(∀i j,i≠j->XY (nS i) (nS j))/\∀(c:Nat) (a:AV),(cellsOf o)[c]?=some a->Zo a=true->∃u,v.cells[c]?=some u/\Rep w Im u a (nS c):=by
 by_cases htop:top o=true
 ·obtain⟨us,nS,e1,e2,e3,e4,e5⟩:=h.cells htop
  refine⟨nS,e4,e5,λc a hc hs=>?_⟩
  have hlt:c<us.length:=by rw[e2]; exact(List.getElem?_eq_some_iff.1 hc).1
  refine⟨us[c],by rw[e1]; simp[hlt],?_⟩
  have:=e3 c us[c] a (List.getElem?_eq_getElem hlt) hc
  exact this.row (by cases a<;>first | rfl | cases hs)
 ·refine⟨λ_=>nos,λ_=>Xo _,λ_ _ _=>Xh _,λc a hc hs=>?_⟩
  exfalso
  cases o with
  | u=>cases c<;>simp[cellsOf] at hc; subst hc; cases hs
  | no=>simp[XL,XK,QJ] at hok
  | tup=>simp[XL,XK,QJ] at hok
  | _=>exact htop rfl
def Xbu:∀(os:List AV) {ys:List (AV×List (Option (Pl×Bool)))} {vs:Nat->Option Value} {Of:Nat->CS} {st:St} {SO:Bool->Nat->CS} {st':St},Xp w0 L Im0 st tm w Im base SO->XS st os ys=some st' ->
  (∀(j:Nat) (o:AV) (y:AV×List (Option (Pl×Bool))),os[j]?=some o->ys[j]?=some y->y.2≠[]->∃v,vs j=some v/\Cl w Im v o (Of j)/\XL o=true/\∀(c:Nat) (q:Pl×Bool),y.2[c]?=some (some q)->∃u,v.cells[c]?=some u/\XgL tm w base q u) ->
  (∀j,Xw w0 L w Im SO (Of j))->(∀i k,i≠k->XY (Of i) (Of k)) ->
  ∃SO':Bool->Nat->CS,Xp w0 L Im0 st' tm w Im base SO'/\∀e r,Sub (SO' e r) (un (SO e r) (YS Of))
 | [],ys,vs,Of,st,SO,st',h,he,_,_,_=>by
  simp only[XS,Option.some.injEq] at he
  subst he
  exact⟨SO,h,λe r=>Xj _ _⟩
 | o :: os,[],vs,Of,st,SO,st',h,he,_,_,_=>by
  simp only[XS,Option.some.injEq] at he
  subst he
  exact⟨SO,h,λe r=>Xj _ _⟩
 | o :: os,y :: ys,vs,Of,st,SO,st',h,he,h1,h2,h3=>by
  obtain⟨st1,SO1,r1,r2,he'⟩:∃st1 SO1,Xp w0 L Im0 st1 tm w Im base SO1/\(∀e r,Sub (SO1 e r) (un (SO e r) (Of 0)))/\XS st1 os ys=some st':=by
   by_cases hy:y.2=[]
   ·simp only[XS,hy] at he
    exact⟨st,SO,h,λe r=>Xj _ _,he⟩
   ·have he2:(match Xfq o with
      | true=>XS st os ys
      | false=>(match XV st (cellsOf o) y.2 with
       | some st'=>XS st' os ys
       | none=>none))=some st':=by
     cases hy2:y.2 with
     | nil=>exact absurd hy2 hy
     | cons p ps=>simp only[XS,hy2] at he; exact he
    cases hgo:Xfq o with
    | true=>rw[hgo] at he2; exact⟨st,SO,h,λe r=>Xj _ _,he2⟩
    | false =>
    rw[hgo] at he2
    simp only at he2
    cases hf:XV st (cellsOf o) y.2 with
    | none=>rw[hf] at he2; cases he2
    | some st1 =>
     rw[hf] at he2
     obtain⟨v,hv,hcl,hok,hh⟩:=h1 0 o y rfl rfl hy
     obtain⟨nS,c1,c2,c3⟩:=Xhe hcl hok
     obtain⟨SO1,r1,r2⟩:=UE (cellsOf o) (us:=λc=>v.cells[c]?) (Vg:=nS) h hf c3 (λc=>(h2 0).mono (c1 c)) c2 hh
     exact⟨st1,SO1,r1,λe r b k hb=>(r2 e r b k hb).imp id (λ⟨c,x⟩=>c1 c b k x),he2⟩
  obtain⟨SO2,s1,s2⟩:=Xbu os (vs:=λj=>vs (j+1)) (Of:=λj=>Of (j+1)) r1 he' (λj o' y' ho hy hne=>h1 (j+1) o' y' (by simpa using ho) (by simpa using hy) hne)
   (λj=>⟨λe r b k hb hb'=>(r2 e r b k hb').elim (λx=>(h2 (j+1)).dis e r b k hb x) (λx=>h3 (j+1) 0 (by omega) b k hb x),(h2 (j+1)).disI,(h2 (j+1)).ins,(h2 (j+1)).from_⟩) (λi k hik=>h3 _ _ (by omega))
  refine⟨SO2,s1,λe r b k hb=>?_⟩
  rcases s2 e r b k hb with hb | ⟨c,hb⟩
  ·exact(r2 e r b k hb).imp id (λx=>⟨0,x⟩)
  ·exact .inr ⟨c+1,hb⟩
end Go.Vm
set_option autoImplicit false
namespace Go.Vm
variable {w0 : World} {L Im0 : CS} {st : St} {tm : Array Value} {w : World} {Im : CS} {base : Nat -> Nat × Nat} {SO : Bool -> Nat -> CS} {P : Program} {cx : Cx}
def Ua(P:Program)(w0:World)(L Im0:CS)(tm:Array Value)(w:World)(base:Nat->Nat×Nat)(g:Nat)(md:List Md)(args:List Value)(r:AV)(st':St):Prop :=
 Ans P g args.toArray w λv w'=>(md.all YZ=true->Frame w w' nos)/\∃(Im':CS) (SO':Bool->Nat->CS) (S:CS),Xp w0 L Im0 st' tm w' Im' base SO'/\Xb4 w' Im' v r S/\Xw w0 L w' Im' SO' S
def Xjd{A B:CS}(h:Sub A B):un A (ZJ B A)=B:=by
 funext b k
 refine propext ⟨λhb=>hb.elim (h b k) (λx=>x.1),λhb=>?_⟩
 by_cases ha:A b k
 ·exact .inl ha
 ·exact .inr ⟨hb,ha⟩
def XgL.world{w':World}{y:Pl×Bool}{u:Value}(h:Xp w0 L Im0 st tm w Im base SO)(hk:Xfp st (some y)=true)(hI:XN Im w w')(hS:∀e r,XN (SO e r) w w')(hh:XgL tm w base y u):XgL tm w' base y u:=by
 obtain⟨A,A',n,cap,e1,e2,e3⟩:=hh
 refine⟨A,A',n,cap,e1,e2,?_⟩
 obtain⟨pl,f⟩:=y
 cases f with
 | true=>rw[if_pos rfl] at e3 ⊢; exact e3
 | false =>
  rw[if_neg (by simp)] at e3 ⊢
  obtain⟨l,f1,f2⟩:=e3
  simp only[Xfp,Bool.and_eq_true,Bool.or_eq_true,Bool.not_eq_true'] at hk
  obtain⟨htop,hn⟩:=hk
  cases hnode:node st pl with
  | none=>rw[hnode] at hn; cases hn
  | some cells =>
   rw[hnode] at hn
   simp only[decide_eq_true_eq] at hn
   obtain⟨l2,k1,k2,k3⟩:=h.stay (w':=w') hnode hI (hS pl.e pl.r) (λ_ e=>htop.resolve_left (by rw[e]; simp))
   rw[f1] at k1
   injection k1 with k1
   subst k1
   exact⟨l,k2,by rw[k3 _ hn]; exact f2⟩
def Xhf[HasTb P](h:Xp w0 L Im0 st tm w Im base SO)(hTb:∀w Im,Frame w0 w L->Sub Im0 Im->Tb P Im w){g:Nat}{fs:FS}(hS:QG P g fs)(hrw:Xa1 0 fs.md=none){f:Operand}{ts:List TypeId}{xs:List Operand}{r:AV}{st':St}(he:Xaq cx st g fs f ts xs=some (r,st')) :
  ∃caps:List Value,Xe tm f=.func (.func g) #[] caps.toArray/\Ua P w0 L Im0 tm w base g fs.md (xs.map (Xe tm)++caps) r st':=by
 unfold Xaq at he
 cases ho:XO cx st fs.md ts xs with
 | none=>rw[ho] at he; cases he
 | some p =>
  obtain⟨ys,st2⟩:=p
  rw[ho] at he
  simp only at he
  obtain⟨SO2,Vf,o1,o2,o3,o4,o5,o6,o7⟩:=Xbs fs.md h ho
  cases hv:Qj cx st2 f ts xs with
  | none=>rw[hv] at he; cases he
  | some p =>
   obtain⟨g',as⟩:=p
   rw[hv] at he
   simp only at he
   split at he
   ·rename_i hcond
    obtain⟨rfl,hok⟩:=hcond
    obtain⟨caps,v1,v2,v3⟩:=Xb5 o1 hv
    refine⟨caps,v1,?_⟩
    unfold Xfs at he
    cases hin:Ym (!fs.wk) none st2 fs.md as ys with
    | none=>rw[hin] at he; cases he
    | some bs =>
     rw[hin] at he
     simp only at he
     cases hF:fs.F bs with
     | none=>rw[hF] at he; cases he
     | some p =>
      obtain⟨r',os⟩:=p
      rw[hF] at he
      simp only at he
      cases hfl:XS st2 os ys with
      | none=>rw[hfl] at he; cases he
      | some st4 =>
       rw[hfl] at he
       simp only[Option.some.injEq,Prod.mk.injEq] at he
       obtain⟨rfl,rfl⟩:=he
       obtain⟨i1,i2,i3⟩:=Q9 hin
       let X:CS:=λb k=>fs.wk=false/\Xai SO2 b k
       let Sf:Nat->CS:=λj b k=>(fs.md[j]?).any Md.isMv=true/\Vf j b k
       have hSf:∀j,Sub (Sf j) (Vf j):=λj b k hb=>hb.2
       have hspL:Xw w0 L w Im SO2 (YS Sf):=⟨λe r b k ⟨j,hb⟩=>(o5 j).dis e r b k (hSf j b k hb),λb k ⟨j,hb⟩=>(o5 j).disI b k (hSf j b k hb),λq k ⟨j,hb⟩=>(o5 j).ins q k (hSf j q k hb),λq k ⟨j,hb⟩=>(o5 j).from_ q k (hSf j q k hb)⟩
       have hX:fs.wk=true->X=nos:=λhwk=>by
        funext b k
        exact propext ⟨λhb=>(by have:=hb.1; rw[hwk] at this; cases this),λhb=>hb.elim⟩
       have key:=hS.use (w:=w) (Im:=Im) (X:=X) hX (vs:=xs.map (Xe tm)++caps) (as:=bs) (Sf:=Sf) hF (by rw[<-v2,i1]) i2 (λj m v a hm hv' ha=>by
        have hlt:j<as.length:=by rw[<-i1]; exact(List.getElem?_eq_some_iff.1 hm).1
        have hask:as[j]?=some as[j]:=List.getElem?_eq_getElem hlt
        have hpt:=v3 j v _ hv' hask
        have hb:=i3 j m _ a hm hask ha
        cases m with
        | ro n =>
         simp only[QK] at hb
         exact Xb3 o1 (X:=X) (λhown q _ b k hb=>⟨by simpa using hown,_,_,hb⟩) hb hpt
        | rw n=>have:=XaH hrw j _ hm; cases this
        | mv =>
         simp only[QK,Option.some.injEq] at hb
         subst hb
         show Cl w (un Im X) v _ (Sf j)
         cases hy:ys[j]? with
         | none=>rw[List.getD_eq_getElem?_getD,hy]; exact .u
         | some y =>
          rw[List.getD_eq_getElem?_getD,hy]
          obtain⟨m',x,q1,q2⟩:=o4 j y hy
          have hout:=o3 j _ x y hm q2 hy
          rw[if_pos (show Md.isMv .mv=true from rfl)] at hout
          have hxv:v=Xe tm x:=by
           have hjx:j<xs.length:=(List.getElem?_eq_some_iff.1 q2).1
           rw[List.getElem?_append_left (by simpa using hjx),List.getElem?_map,q2] at hv'
           injection hv' with hv'
           exact hv'.symm
          subst hxv
          exact hout.cl.keep (Xj _ _) (XN.refl _ _) (λ_ _ h=>h) (λ_ _ _ _ _ h=>h) (λb k hb=>⟨by rw[hm]; rfl,hb⟩) (XN.refl _ _))
        (λi k hik=>(o7 i k hik).mono (hSf i) (hSf k)) (λj=>(o5 j).disI.mono (hSf j) (Sub.rfl' _)) (λj b k hb hb'=>by obtain⟨_,e,q,hq⟩:=hb'; exact(o5 j).dis e q b k (hSf j b k hb) hq) (λj q k hb=>(o5 j).ins q k (hSf j q k hb)) o1.inI (λq k hb=>by obtain⟨_,e,q',hq⟩:=hb; exact o1.inS e q' q k hq) (hTb _ _ o1.frame o1.imm)
       refine key.mono λv w' ⟨Im',S,Of,b⟩=>?_
       have hno:fs.md.all YZ=true->Sub (YS Sf) nos:=by
        intro hro q k ⟨j,hb⟩
        have hmv:=hb.1
        cases hm:fs.md[j]? with
        | none=>rw[hm] at hmv; cases hmv
        | some m =>
         rw[hm] at hmv
         have:=List.all_eq_true.1 hro m (List.mem_of_getElem? hm)
         cases m<;>first | (simp[Md.isMv] at hmv; done) | (simp[YZ] at this; done)
       have hSO:∀e q,XY (SO2 e q) (YS Sf):=λe q=>(hspL.dis e q).symm
       have r1:=o1.worldS b.frame hSO hspL.disI.symm hspL.from_
       have newd:∀T:CS,(∀q k,T q k->YS Sf q k\/w.heap.size<=q)->∀e q,XY T (SO2 e q):=λT hT e q b' k hb hb'=>(hT b' k hb).elim (λx=>hspL.dis e q b' k x hb') (λx=>by have:=o1.inS e q b' k hb'; omega)
       have newf:∀T:CS,(∀q k,T q k->YS Sf q k\/w.heap.size<=q)->∀q k,T q k->L q k\/w0.heap.size<=q:=λT hT q k hb=>(hT q k hb).elim (hspL.from_ q k) (λx=>.inr (Nat.le_trans o1.frame.size x))
       have hN:Xw w0 L w' Im SO2 (ZJ Im' Im):=by
        have hfr:∀q k,ZJ Im' Im q k->YS Sf q k\/w.heap.size<=q:=λq k hb=>(b.fromI q k hb.1).resolve_left hb.2
        exact⟨newd _ hfr,λb' k hb hb'=>hb.2 hb',λq k hb=>b.inI q k hb.1,newf _ hfr⟩
       have r2:=r1.growIm hN
       rw[Xjd b.sub] at r2
       have hOf:∀j,Xw w0 L w' Im' SO2 (Of j):=λj=>⟨newd _ (b.fromO j),b.disOI j,b.inO j,newf _ (b.fromO j)⟩
       have hSame:∀e q,XN (SO2 e q) w w':=λe q=>b.frame.same (hSO e q) (o1.inS e q)
       have hSameI:XN Im w w':=b.frame.same hspL.disI.symm o1.inI
       obtain⟨SO4,s1,s2⟩:=Xbu os (vs:=λj=>(xs.map (Xe tm)++caps)[j]?) (Of:=Of) r2 hfl (λj o y hoj hy hne=>by
        obtain⟨m,x,q1,q2⟩:=o4 j y hy
        have hout:=o3 j m x y q1 q2 hy
        have hjx:j<xs.length:=(List.getElem?_eq_some_iff.1 q2).1
        have hvj:(xs.map (Xe tm)++caps)[j]?=some (Xe tm x):=by rw[List.getElem?_append_left (by simpa using hjx),List.getElem?_map,q2]; rfl
        cases m with
        | ro n=>rw[if_neg (by simp[Md.isMv])] at hout; rw[hout] at hne; exact absurd rfl hne
        | rw n=>rw[if_neg (by simp[Md.isMv])] at hout; rw[hout] at hne; exact absurd rfl hne
        | mv =>
         rw[if_pos (show Md.isMv .mv=true from rfl)] at hout
         have hk:=b.out j _ _ o q1 hvj hoj
         refine⟨_,hvj,hk.1,hk.2,λc q hq=>?_⟩
         obtain⟨u,hu,hh⟩:=hout.head c q hq
         have h1:=List.all_eq_true.1 hok y (List.mem_of_getElem? hy)
         have h2:=List.all_eq_true.1 h1 _ (List.mem_of_getElem? hq)
         exact⟨u,hu,hh.world o1 h2 hSameI hSame⟩) hOf b.disO
       refine⟨λhro=>b.frame.mono (hno hro),Im',SO4,S,s1,b.res,⟨λe q b' k hb hb'=>?_,b.disSI,b.inS,newf _ b.fromS⟩⟩
       rcases s2 e q b' k hb' with hx | ⟨j,hx⟩
       ·exact newd _ b.fromS e q b' k hb hx
       ·exact b.disS j b' k hb hx
   ·cases he
end Go.Vm
set_option autoImplicit false
namespace Go.Vm
variable {w0 : World} {L Im0 : CS} {st : St} {tm : Array Value} {w : World} {Im : CS} {base : Nat -> Nat × Nat} {SO : Bool -> Nat -> CS} {P : Program} {cx : Cx}
def Xb6:∀{i:Nat} {md:List Md} {k n:Nat},Xa1 i md=some (k,n)->∃j,k=i+j/\md[j]?=some (.rw n)
 | i,[],k,n,h=>by simp[Xa1] at h
 | i,m :: ms,k,n,h=>by
  cases m with
  | rw n' =>
   simp only[Xa1,Option.some.injEq,Prod.mk.injEq] at h
   obtain⟨rfl,rfl⟩:=h
   exact⟨0,rfl,rfl⟩
  | ro n' =>
   simp only[Xa1] at h
   obtain⟨j,h1,h2⟩:=Xb6 h
   exact⟨j+1,by omega,by simpa using h2⟩
  | mv =>
   simp only[Xa1] at h
   obtain⟨j,h1,h2⟩:=Xb6 h
   exact⟨j+1,by omega,by simpa using h2⟩
def XcC:∀{k:Nat} {md:List Md},Xa2 k md=true->∀(j:Nat) (m:Md),md[j]?=some m->j≠k->YZ m=true
 | 0,[],h,j,m,hj,hk=>by simp at hj
 | 0,m0 :: ms,h,j,m,hj,hk=>by
  cases j with
  | zero=>exact absurd rfl hk
  | succ j=>exact List.all_eq_true.1 h m (List.mem_of_getElem? (by simpa using hj))
 | k+1,[],h,j,m,hj,hk=>by simp at hj
 | k+1,m0 :: ms,h,j,m,hj,hk=>by
  cases m0 with
  | ro n =>
   simp only[Xa2] at h
   cases j with
   | zero=>simp only[List.getElem?_cons_zero,Option.some.injEq] at hj; subst hj; rfl
   | succ j=>exact XcC h j m (by simpa using hj) (by omega)
  | rw n=>simp[Xa2] at h
  | mv=>simp[Xa2] at h
def Xje{cells cs:List AV}{c n:Nat}(hl:cs.length=n)(hc:c+n<=cells.length):(cells.take c++cs++cells.drop (c+n)).length=cells.length/\(∀j,¬(c<=j/\j<c+n)->(cells.take c++cs++cells.drop (c+n))[j]?=cells[j]?) /\
  ∀j,c<=j->j<c+n->(cells.take c++cs++cells.drop (c+n))[j]?=cs[j-c]?:=by
 have htk:(cells.take c).length=c:=by rw[List.length_take]; omega
 refine⟨by simp only[List.length_append,List.length_take,List.length_drop]; omega,λj hj=>?_,λj h1 h2=>?_⟩
 ·by_cases h1:j<c
  ·rw[List.append_assoc,List.getElem?_append_left (by omega),List.getElem?_take,if_pos h1]
  ·rw[List.append_assoc,List.getElem?_append_right (by omega),htk,List.getElem?_append_right (by omega),List.getElem?_drop]
   congr 1; omega
 ·rw[List.append_assoc,List.getElem?_append_right (by omega),htk,List.getElem?_append_left (by omega)]
def Xhg(kp kr:Pl->Bool){a:AV}(h:XK a=true):filt kp kr a=a:=by cases a<;>first | rfl | (simp[XK,QJ] at h)
structure Xmq (w w':World) (Im Lent:CS) (n:Nat) (u:Value) (o r:AV) (v:Value) (Im' S Ok:CS):Prop where
 frame:Frame w w' Lent
 sub:Sub Im Im'
 fromI:∀g k,Im' g k->Im g k\/Lent g k\/w.heap.size<=g
 inI:∀g k,Im' g k->g<w'.heap.size
 res:Xb4 w' Im' v r S
 out:Xjc w' Im' (.rw n) u o Ok
 disS:XY S Ok
 disSI:XY S Im'
 disOI:XY Ok Im'
 inS:∀g k,S g k->g<w'.heap.size
 inO:∀g k,Ok g k->g<w'.heap.size
 fromS:∀g k,S g k->Lent g k\/w.heap.size<=g
 fromO:∀g k,Ok g k->Lent g k\/w.heap.size<=g
def XcD(h:Xp w0 L Im0 st tm w Im base SO){pl:Pl}{cells:List AV}{n:Nat}{g0 oo:Nat}{T:CS}{vsn:Nat->Value}{Sfn:Nat->CS}(o:Ys st tm w Im base SO pl cells (.mem g0 oo) T vsn Sfn)(htop:pl.e=true->top (st.env pl.r)=true)(hcn:pl.c+n<=cells.length)
  {md:List Md} {k:Nat} (hmk:md[k]?=some (.rw n)) {g:Nat} {args:List Value} {r:AV} {cs:List AV} (hA:Ans P g args.toArray w λv w'=>∃(Im' S Ok:CS),Xmq w w' Im (chg (.mem g0 oo) pl.c n cells.length Sfn) n (.pointer (some ⟨g0,oo+pl.c,none⟩)) (.agg cs) r v Im' S Ok) :
  Ua P w0 L Im0 tm w base g md args r ((Xi st pl (cells.take pl.c++cs++cells.drop (pl.c+n))).cut pl n):=by
 let lent:CS:=chg (.mem g0 oo) pl.c n cells.length Sfn
 have hlentT:Sub lent T:=o.chgT pl.c n
 have hlentS:Sub lent (SO pl.e pl.r):=hlentT.trans o.sub
 refine hA.mono λv w' ⟨Im',S,Ok,b⟩=>?_
 obtain⟨g1,o1,cs1,e1,e2,e3,e4,vs1,Sf1,q1,q2,q3,q4,q5⟩:=b.out
 injection e1 with e1
 injection e1 with e1
 injection e1 with e5 e6
 subst e5 e6
 injection e2 with e2
 subst e2
 obtain⟨n1,n2,n3⟩:=Xje e3 hcn
 have hmemc:∀x∈cells.take pl.c++cs++cells.drop (pl.c+n),cellsOf x=[x]:=by
  intro x hx
  simp only[List.mem_append] at hx
  rcases hx with(hx | hx) | hx
  ·exact o.na x (List.mem_of_mem_take hx)
  ·exact Xdi (Xbk (List.all_eq_true.1 e4 x hx))
  ·exact o.na x (List.mem_of_mem_drop hx)
 have kc:Chg st w Im SO pl cells (.mem g0 oo) Sfn w' lent pl.c n (cells.take pl.c++cs++cells.drop (pl.c+n)) :=
  ⟨n1,λj hj=>by rw[n2 j hj],λe=>h.na (htop e),hmemc,Sub.rfl' _,b.frame.same (λb' i hb hb'=>hb.2 hb') (λq i hb=>hb.1.elim (λ⟨e,r,hs⟩=>h.inS e r q i hs) (h.inI q i))⟩
 have newd:∀(T':CS),(∀q i,T' q i->lent q i\/w.heap.size<=q)->∀e q,¬(e=pl.e/\q=pl.r)->XY T' (SO e q):=λT' hT e q hne b' i hb hb'=>(hT b' i hb).elim (λx=>h.dis e q pl.e pl.r hne b' i hb' (hlentS b' i x)) (λx=>by have:=h.inS e q b' i hb'; omega)
 have newf:∀(T':CS),(∀q i,T' q i->lent q i\/w.heap.size<=q)->∀q i,T' q i->L q i\/w0.heap.size<=q:=λT' hT q i hb=>(hT q i hb).elim (λx=>h.fromS _ _ q i (hlentS q i x)) (λx=>.inr (Nat.le_trans h.frame.size x))
 have hImS:∀T':CS,Sub T' (SO pl.e pl.r)->XY T' lent->XY T' Im':=λT' hs hd b' i hb hb'=>by
  rcases b.fromI b' i hb' with x | x | x
  ·exact h.disI _ _ b' i (hs b' i hb) x
  ·exact hd b' i hb x
  ·have:=h.inS _ _ b' i (hs b' i hb); omega
 have hhead:∀j,j<n->Ok g0 (oo+pl.c+j):=λj hj=>(q5 g0 (oo+pl.c) rfl j (by omega)).1
 have hlentD:∀b' i,lent b' i->(∃j,j<n/\b'=g0/\i=oo+pl.c+j)\/U4 pl.c n Sfn b' i:=by
  intro b' i hb
  rcases hb with⟨g2,o2,j,e,rfl,rfl,z1,z2,z3⟩ | ⟨j,z1,z2,z3⟩
  ·injection e with e7 e8
   subst e7 e8
   exact .inl ⟨j-pl.c,by omega,rfl,by omega⟩
  ·exact .inr ⟨j,z1,z2,z3⟩
 let nS:Nat->CS:=λj=>if pl.c<=j/\j<pl.c+n then Sf1 (j-pl.c) else nos
 have hnS:∀j,Sub (nS j) (Ok):=by
  intro j
  show Sub (if pl.c<=j/\j<pl.c+n then Sf1 (j-pl.c) else nos) (Ok)
  split
  ·exact q3 _
  ·exact Xo _
 have hbig:Sub (U4 pl.c n nS) (Ok):=λb' i ⟨j,_,_,hb⟩=>hnS j b' i hb
 have hbigh:∀j,j<n->¬U4 pl.c n nS g0 (oo+pl.c+j):=by
  rintro j hj ⟨i,z1,z2,hb⟩
  have hb':(if pl.c<=i/\i<pl.c+n then Sf1 (i-pl.c) else nos) g0 (oo+pl.c+j):=hb
  rw[if_pos ⟨z1,z2⟩] at hb'
  exact(q5 g0 (oo+pl.c) rfl j (by omega)).2.2 _ hb'
 obtain⟨SO',s1,s2,s3⟩:=o.putCellsG h kc (kp:=keepP pl.e pl.r pl.path pl.c n) (kr:=keepR pl.e pl.r pl.path pl.c n)
  (λq ad hq hpt=>o.keepP h kc (λrow2 e1 e2 e3=>(QF.cut st pl pl.c n).p q row2 hq e1 e2 e3) hpt) (λq z lo n' v hq hpt=>o.keepR h kc (λrow2 e1 e2 e3 e4=>(QF.cut st pl pl.c n).r q row2 hq e1 e2 e3 e4) hpt)
  htop (c2:=pl.c) (m2:=n) n2 (λj z1 z2=>⟨z1,z2⟩) (Im':=Im') b.sub
  (λe q hne b' i hb hb'=>by
   rcases b.fromI b' i hb' with x | x | x
   ·exact h.disI e q b' i hb x
   ·exact h.dis e q pl.e pl.r hne b' i hb (hlentS b' i x)
   ·have:=h.inS e q b' i hb; omega)
  (hImS _ (XbR _ _) (λb' i hb hb'=>hb.2 (hlentT b' i hb')))
  (λb' i hb hb'=>by
   by_cases hl:lent b' i
   ·rcases hlentD b' i hl with⟨j,hj,rfl,rfl⟩ | x
    ·exact b.disOI _ _ (hhead j hj) hb'
    ·exact hb.2 x
   ·rcases b.fromI b' i hb' with x | x | x
    ·exact h.disI _ _ b' i (o.sub b' i hb.1) x
    ·exact hl x
    ·have:=h.inS _ _ b' i (o.sub b' i hb.1); omega)
  b.inI (λq i hb=>(b.fromI q i hb).elim (h.fromI q i) (λx=>.inr (x.elim (λy=>h.fromS _ _ q i (hlentS q i y)) (λy=>.inr (Nat.le_trans h.frame.size y)))))
  (λj=>vs1 (j-pl.c)) nS
  (λj a z1 z2 hj=>by
   rw[n3 j z1 z2] at hj
   have:=q1 _ _ hj
   simp only[YW] at this ⊢
   rw[show oo+pl.c+(j-pl.c)=oo+j by omega] at this
   exact this)
  (λj a z1 z2 hj=>by
   rw[n3 j z1 z2] at hj
   have hl:=q2 _ _ hj
   have hr:=List.all_eq_true.1 e4 a (List.mem_of_getElem? hj)
   have hrep:Rep w' Im' (vs1 (j-pl.c)) a (nS j):=by
    show Rep w' Im' (vs1 (j-pl.c)) a (if pl.c<=j/\j<pl.c+n then Sf1 (j-pl.c) else nos)
    rw[if_pos ⟨z1,z2⟩]
    exact hl.row hr
   split
   ·rw[Xhg _ _ hr]; exact .rep hrep
   ·exact hrep)
  (λi j hij=>by
   show XY (if pl.c<=i/\i<pl.c+n then Sf1 (i-pl.c) else nos) (if pl.c<=j/\j<pl.c+n then Sf1 (j-pl.c) else nos)
   split
   ·split
    ·exact q4 _ _ (by omega)
    ·exact XM _
   ·exact Xh _)
  (λe q hne=>(newd _ (b.fromO) e q hne).mono hbig (Sub.rfl' _))
  (λb' i hb hb'=>(b.fromO b' i (hbig b' i hb)).elim (λx=>hb'.2 (hlentT b' i x)) (λx=>by have:=h.inS _ _ b' i hb'.1; omega))
  (λb' i hb hb'=>(b.fromO b' i (hbig b' i hb)).elim (λx=>by
   rcases hlentD b' i x with⟨j,hj,rfl,rfl⟩ | y
   ·exact hbigh j hj hb
   ·exact hb'.2 y) (λx=>by have:=h.inS _ _ b' i (o.sub b' i hb'.1); omega))
  ((b.disOI).mono hbig (Sub.rfl' _)) (λq i hb=>b.inO q i (hbig q i hb)) (λq i hb=>newf _ (b.fromO) q i (hbig q i hb))
  (λg2 o2 j e z1 z2 z3=>by
   injection e with e7 e8
   subst e7 e8
   have hm:=o.nd.mem g0 oo rfl j z3
   exact hm.2.1.to (b.frame.froz (h.inS _ _ _ _ (o.sub _ _ hm.1))))
  b.frame.size (h.frame.step b.frame (λq i hb=>h.fromS _ _ q i (hlentS q i hb)))
 refine⟨λhro=>?_,Im',SO',S,s1,b.res,⟨λe q b' i hb hb'=>?_,b.disSI,b.inS,newf _ b.fromS⟩⟩
 ·have:=List.all_eq_true.1 hro _ (List.mem_of_getElem? hmk); cases this
 ·by_cases hbg:U4 pl.c n nS b' i
  ·exact b.disS b' i hb (hbig b' i hbg)
  ·rcases s2 e q b' i hb' with hso | hx
   ·rcases b.fromS b' i hb with x | x
    ·rcases hlentD b' i x with⟨j,hj,rfl,rfl⟩ | ⟨j,z1,z2,z3⟩
     ·exact b.disS _ _ hb (hhead j hj)
     ·exact s3 e q j z1 z2 b' i ⟨z3,hbg⟩ hb'
    ·have:=h.inS e q b' i hso; omega
   ·exact hbg hx
def XeB{w w':World}{A C:CS}(h:Frame w w' (un A C))(hk:∀g k,C g k->¬A g k->Xt w' g k=Xt w g k):Frame w w' A:=by
 refine⟨h.os,h.tape,h.output,h.size,λg hg=>?_⟩
 rcases h.block g hg with h1 | ⟨c,c',e,fr,h1,h2,h3,h4⟩
 ·exact .inl h1
 ·refine .inr ⟨c,c',e,fr,h1,h2,h3,λk hn=>?_⟩
  by_cases hC:C g k
  ·have:=hk g k hC hn
   simpa[Xt,World.cell?,h1,h2] using this
  ·exact h4 k (λx=>x.elim hn hC)
def XcE:∀{ds es:List AV},sameI ds es=true->ds.length=es.length/\∀(j:Nat) (a b:AV),ds[j]?=some a->es[j]?=some b->a=b/\∃k n,b=.i k n
 | [],[],_=>⟨rfl,λj a b h=>by simp at h⟩
 | .i k a :: r,.i k' b :: r',h=>by
  simp only[sameI,Bool.and_eq_true,decide_eq_true_eq] at h
  obtain⟨⟨rfl,rfl⟩,h2⟩:=h
  obtain⟨h3,h4⟩:=XcE h2
  refine⟨by simp[h3],λj x y hx hy=>?_⟩
  cases j with
  | zero =>
   simp only[List.getElem?_cons_zero,Option.some.injEq] at hx hy
   subst hx hy
   exact⟨rfl,_,_,rfl⟩
  | succ j=>exact h4 j x y (by simpa using hx) (by simpa using hy)
def Xea{w:World}{Im:CS}{Pt:Pl->Addr->Prop}{Rf:Pl->Nat->Nat->Nat->Value->Prop}{v:Value}{a:AV}{S:CS}(h:Yy w Im Pt Rf v a S):∀{k:IntKind} {n:Int},a=.i k n->v=.int k n:=by
 intro k n e
 cases h with
 | rep hr=>subst e; cases hr; rfl
 | _=>cases e
def Xhh[HasTb P](h:Xp w0 L Im0 st tm w Im base SO)(hTb:∀w Im,Frame w0 w L->Sub Im0 Im->Tb P Im w){g:Nat}{fs:FS}(hS:QG P g fs){as:List AV}{vs:List Value}(v2:as.length=vs.length)(v3:∀(j:Nat) (v:Value) (a:AV),vs[j]?=some v->as[j]?=some a->PT st tm w Im base v a nos){r:AV}{st':St}(he:Xfr st fs as=some (r,st')) :
  Ua P w0 L Im0 tm w base g fs.md vs r st':=by
 unfold Xfr at he
 split at he
 ·rename_i n n2 ms hmd
  split at he
  ·rename_i pl q rest
   split at he
   ·rename_i hcond
    simp only[Bool.and_eq_true,Bool.not_eq_true',List.isEmpty_iff,Bool.or_eq_true,beq_eq_false_iff_ne] at hcond
    obtain⟨⟨hwk,hms⟩,⟨hqe,hqp⟩,hne⟩:=hcond
    unfold Xck at he
    cases hin:Ym false (some (pl.e,pl.r)) st fs.md (.p pl :: .p q :: rest) [] with
    | none=>rw[hin] at he; cases he
    | some bs =>
    rw[hin] at he
    simp only at he
    cases hF:fs.F bs with
    | none=>rw[hF] at he; cases he
    | some p0 =>
    obtain⟨r',os⟩:=p0
    rw[hF] at he
    simp only at he
    split at he
    ·rename_i cs ds os'
     cases hn:node st pl with
     | none=>rw[hn] at he; cases he
     | some cells =>
     rw[hn] at he
     simp only at he
     cases hnq:node st q with
     | none=>rw[hnq] at he; cases he
     | some dells =>
     rw[hnq] at he
     simp only at he
     split at he
     ·rename_i hsame
      simp only[Option.some.injEq,Prod.mk.injEq] at he
      obtain⟨rfl,rfl⟩:=he
      obtain⟨i1,i2,i3⟩:=Q9 hin
      have hm0:fs.md[0]?=some (.rw n):=by rw[hmd]; rfl
      have hm1:fs.md[1]?=some (.rw n2):=by rw[hmd]; rfl
      have hvk:vs[0]?=some (vs[0]'(by rw[<-v2]; simp)):=List.getElem?_eq_getElem _
      have hvk1:vs[1]?=some (vs[1]'(by rw[<-v2]; simp)):=List.getElem?_eq_getElem _
      have hbl:bs.length=rest.length+2:=by rw[i2,i1]; rfl
      have hbk:bs[0]?=some (bs[0]'(by omega)):=List.getElem?_eq_getElem _
      have hbk1:bs[1]?=some (bs[1]'(by omega)):=List.getElem?_eq_getElem _
      obtain⟨ad,hadv,hpt⟩:=(v3 0 _ _ hvk rfl).p
      obtain⟨aq,haqv,hqt⟩:=(v3 1 _ _ hvk1 rfl).p
      rw[hadv] at hvk
      rw[haqv] at hvk1
      have hb2:=i3 0 _ _ _ hm0 rfl hbk
      have hb3:=i3 1 _ _ _ hm1 rfl hbk1
      simp only[QK,hn] at hb2
      simp only[QK,hnq] at hb3
      split at hb2
      ·rename_i hcnd
       split at hb3
       ·rename_i hcnq
        simp only[Bool.and_eq_true,decide_eq_true_eq] at hcnd hcnq
        obtain⟨⟨hw,hcn⟩,hall⟩:=hcnd
        obtain⟨⟨_,hcq⟩,hallq⟩:=hcnq
        injection hb2 with hb2
        injection hb3 with hb3
        have htop:pl.e=true->top (st.env pl.r)=true:=λe=>QR hpt.2 e
        obtain⟨l',T,vsn,Sfn,o⟩:=h.open hn hw htop
        obtain⟨⟨g0,oo,f1,f2⟩,hroot⟩:=hpt
        have hl':l'=.mem g0 oo:=by
         have:=o.at_
         rw[f1] at this
         injection this with this
         exact this.symm
        subst hl' f2
        obtain⟨⟨g1,o1,e1,e2⟩,_⟩:=hqt
        have hdl:dells=st.bx q.r:=by
         simp only[node,hqp,hqe,nav,Xa,Bool.false_eq_true,if_false,Option.some.injEq] at hnq
         exact hnq.symm
        have hgo:base q.r=(g1,o1):=by
         simp only[hqp,hqe,follow,Yn,Bool.false_eq_true,if_false,Option.some.injEq,Loc.mem.injEq] at e1
         exact Prod.ext e1.1 e1.2
        subst e2
        have hbq:=h.bx q.r
        rw[hgo,<-hdl] at hbq
        obtain⟨us,nS,u1,u2,u3,u4,u5⟩:=hbq
        have hne':¬((false:Bool)=pl.e/\q.r=pl.r):=λx=>hne.elim (λy=>by rw[<-x.1] at y; cases y) (λy=>y x.2.symm)
        obtain⟨s1,s2⟩:=XcE hsame
        have hdlen:((dells.drop q.c).take n2).length=n2:=by rw[List.length_take,List.length_drop]; omega
        have hD:∀j,j<n2->∃k m,((dells.drop q.c).take n2)[j]?=some (.i k m)/\ds[j]?=some (.i k m)/\Xt w g1 (o1+q.c+j)=some (.int k m):=by
         intro j hj
         have hx:((dells.drop q.c).take n2)[j]?=some (((dells.drop q.c).take n2)[j]'(by omega)):=List.getElem?_eq_getElem _
         have hy:ds[j]?=some (ds[j]'(by rw[s1]; omega)):=List.getElem?_eq_getElem _
         obtain⟨h1,k,m,h2⟩:=s2 j _ _ hy hx
         rw[h2] at h1 hx
         rw[h1] at hy
         refine⟨k,m,hx,hy,?_⟩
         rw[List.getElem?_take,if_pos hj,List.getElem?_drop] at hx
         have hc:=u1 _ _ hx
         have hl:=u2 _ _ hx
         simp only[YW] at hc
         rw[Nat.add_assoc,hc,Xea hl rfl]
        let C2:CS:=λb i=>b=g1/\∃j,j<n2/\i=o1+q.c+j
        have hC2:Sub C2 (SO false q.r):=by
         rintro b i ⟨rfl,j,hj,rfl⟩
         have:=(u5 b o1 rfl (q.c+j) (by omega)).1
         rwa [<-Nat.add_assoc] at this
        let lent:CS:=chg (.mem g0 oo) pl.c n cells.length Sfn
        let Sf:Nat->CS:=λj=>if j=0 then lent else if j=1 then C2 else nos
        have hlentT:Sub lent T:=o.chgT pl.c n
        have hlentS:Sub lent (SO pl.e pl.r):=hlentT.trans o.sub
        have hlC:XY lent C2:=λb i x y=>h.dis false q.r pl.e pl.r hne' b i (hC2 b i y) (hlentS b i x)
        have hlof:YS Sf=un lent C2:=by
         funext b i
         refine propext ⟨λ⟨j,hb⟩=>?_,λhb=>hb.elim (λx=>⟨0,x⟩) (λx=>⟨1,x⟩)⟩
         have hb:(if j=0 then lent else if j=1 then C2 else nos) b i:=hb
         split at hb
         ·exact .inl hb
         ·split at hb
          ·exact .inr hb
          ·exact hb.elim
        have hSO:∀j,∃e q',Sub (Sf j) (SO e q'):=by
         intro j
         show ∃e q',Sub (if j=0 then lent else if j=1 then C2 else nos) (SO e q')
         split
         ·exact⟨_,_,hlentS⟩
         ·split
          ·exact⟨_,_,hC2⟩
          ·exact⟨false,0,Xo _⟩
        have hget:∀(j:Nat) (a:AV),((cells.drop pl.c).take n)[j]?=some a->j<n/\cells[pl.c+j]?=some a:=by
         intro j a hj
         rw[List.getElem?_take] at hj
         split at hj
         ·rename_i hlt; rw[List.getElem?_drop] at hj; exact⟨hlt,hj⟩
         ·cases hj
        have hrowk:∀(j:Nat) (a:AV),((cells.drop pl.c).take n)[j]?=some a->Rep w Im (vsn (pl.c+j)) a (Sfn (pl.c+j)):=by
         intro j a hj
         have:=o.nd.sh _ _ (hget j a hj).2
         have hr:=List.all_eq_true.1 hall a (List.mem_of_getElem? hj)
         split at this
         ·exact this.row hr
         ·exact this
        have hlen:((cells.drop pl.c).take n).length=n:=by rw[List.length_take,List.length_drop]; omega
        have key:=hS.use (w:=w) (Im:=Im) (X:=nos) (λ_=>rfl) (vs:=vs) (as:=bs) (Sf:=Sf) hF (by rw[<-v2,i1]) i2 (λj0 m v a hm hv' ha=>by
          match j0,hm,hv',ha with
          | 0,hm,hv',ha =>
           rw[hm0] at hm
           injection hm with hm
           subst hm
           rw[hvk] at hv'
           injection hv' with hv'
           rw[hbk] at ha
           injection ha with ha
           rw[<-hb2] at ha
           subst hv' ha
           refine⟨g0,oo+pl.c,_,rfl,rfl,hlen,hall,λj=>vsn (pl.c+j),λj=>if j<n then Sfn (pl.c+j) else nos,λj a hj=>?_,λj a hj=>?_,λj b i hb=>?_,λi j hij=>?_,λg1 o1 e j hj=>?_⟩
           ·have:=o.nd.get _ _ (hget j a hj).2
            simp only[YW] at this ⊢
            rw[Nat.add_assoc]; exact this
           ·show Yy _ _ _ _ _ _ (if j<n then Sfn (pl.c+j) else nos)
            rw[if_pos (hget j a hj).1]
            exact .rep ((hrowk j a hj).keep (Xj _ _) (Sub.rfl' _) (XN.refl _ _) (XN.refl _ _))
           ·show lent b i
            have hb:(if j<n then Sfn (pl.c+j) else nos) b i:=hb
            split at hb
            ·rename_i hlt; exact .inr ⟨pl.c+j,by omega,by omega,hb⟩
            ·exact hb.elim
           ·show XY (if i<n then Sfn (pl.c+i) else nos) (if j<n then Sfn (pl.c+j) else nos)
            split
            ·split
             ·exact o.nd.dis _ _ (by omega)
             ·exact XM _
            ·exact Xh _
           ·injection e with e1 e2
            subst e1 e2
            rw[hlen] at hj
            obtain⟨z1,z2,z3⟩:=o.nd.mem g0 oo rfl (pl.c+j) (by omega)
            rw[<-Nat.add_assoc] at z1 z2 z3
            refine⟨?_,⟨z2.1,λhn1=>z2.2 (λhL=>hn1 (by rw[hlen]; omega))⟩,λi=>?_⟩
            ·show lent g0 (oo+pl.c+j)
             exact .inl ⟨g0,oo,pl.c+j,rfl,rfl,by omega,by omega,by omega,by omega⟩
            ·show ¬(if i<n then Sfn (pl.c+i) else nos) g0 (oo+pl.c+j)
             split
             ·exact z3 _
             ·exact λhb=>hb
          | 1,hm,hv',ha =>
           rw[hm1] at hm
           injection hm with hm
           subst hm
           rw[hvk1] at hv'
           injection hv' with hv'
           rw[hbk1] at ha
           injection ha with ha
           rw[<-hb3] at ha
           subst hv' ha
           refine⟨g1,o1+q.c,_,rfl,rfl,hdlen,hallq,λj=>(Xt w g1 (o1+q.c+j)).getD undef,λ_=>nos,λj a hj=>?_,λj a hj=>?_,λ_=>Xo _,λ_ _ _=>Xh _,λg2 o2 e j hj=>?_⟩
           ·have hlt:j<n2:=by rw[<-hdlen]; exact(List.getElem?_eq_some_iff.1 hj).1
            obtain⟨k,m,_,_,hc⟩:=hD j hlt
            simp only[YW]
            rw[hc]; rfl
           ·have hlt:j<n2:=by rw[<-hdlen]; exact(List.getElem?_eq_some_iff.1 hj).1
            obtain⟨k,m,hx,_,hc⟩:=hD j hlt
            rw[hj] at hx
            injection hx with hx
            subst hx
            show Yy _ _ _ _ ((Xt w g1 (o1+q.c+j)).getD undef) _ _
            rw[hc]
            exact .rep .i
           ·injection e with e1 e2
            subst e1 e2
            rw[hdlen] at hj
            obtain⟨z1,z2,z3⟩:=u5 g1 o1 rfl (q.c+j) (by omega)
            rw[<-Nat.add_assoc] at z2
            exact⟨⟨rfl,j,hj,rfl⟩,⟨z2.1,λhn1=>z2.2 (λhL=>hn1 (by rw[hdlen]; omega))⟩,λ_ hb=>hb⟩
          | j0+2,hm,hv',ha =>
           have hro:YZ m=true:=by
            rw[hmd] at hm
            exact List.all_eq_true.1 hms m (List.mem_of_getElem? (by simpa using hm))
           have hlt:j0+2<(AV.p pl :: .p q :: rest).length:=by rw[<-i1]; exact(List.getElem?_eq_some_iff.1 hm).1
           have hask:(AV.p pl :: .p q :: rest)[j0+2]?=some ((AV.p pl :: .p q :: rest)[j0+2]):=List.getElem?_eq_getElem hlt
           have hptj:=v3 (j0+2) v _ hv' hask
           have hb:=i3 (j0+2) m _ a hm hask ha
           cases m with
           | ro n' =>
            simp only[QK] at hb
            exact Xb3 h (own:=false) (av:=some (pl.e,pl.r)) (X:=nos) (λhown=>by cases hown) hb hptj
           | rw n'=>cases hro
           | mv=>cases hro)
          (λi j hij=>by
           show XY (if i=0 then lent else if i=1 then C2 else nos) (if j=0 then lent else if j=1 then C2 else nos)
           by_cases i0:i=0
           ·rw[if_pos i0,if_neg (by omega)]
            split
            ·exact hlC
            ·exact XM _
           ·rw[if_neg i0]
            by_cases i1:i=1
            ·rw[if_pos i1]
             by_cases j0:j=0
             ·rw[if_pos j0]; exact hlC.symm
             ·rw[if_neg j0,if_neg (by omega)]; exact XM _
            ·rw[if_neg i1]; exact Xh _)
          (λj=>by obtain⟨e,q',hs⟩:=hSO j; exact(h.disI e q').mono hs (Sub.rfl' _)) (λj=>XM _)
          (λj b i hb=>by obtain⟨e,q',hs⟩:=hSO j; exact h.inS e q' b i (hs b i hb)) h.inI (λ_ _ hb=>hb.elim) (hTb _ _ h.frame h.imm)
        refine XcD h o htop hcn hm0 (key.mono λv w' ⟨Im',S,Of,b⟩=>?_)
        rw[hlof] at b
        have ho0:(AV.agg cs :: .agg ds :: os')[0]?=some (.agg cs):=rfl
        have ho1:(AV.agg cs :: .agg ds :: os')[1]?=some (.agg ds):=rfl
        obtain⟨g2,o2,cs2,k1,k2,k3,k4,vs2,Sf2,y1,y2,y3,y4,y5⟩:=b.out 1 _ _ _ hm1 hvk1 ho1
        injection k1 with k1
        injection k1 with k1
        injection k1 with k5 k6
        subst k5 k6
        injection k2 with k2
        subst k2
        have hO1:Sub C2 (Of 1):=by
         rintro b' i ⟨rfl,j,hj,rfl⟩
         exact(y5 b' (o1+q.c) rfl j (by omega)).1
        have hfr:Frame w w' lent:=by
         refine XeB b.frame λg' k' hc _=>?_
         obtain⟨rfl,j,hj,rfl⟩:=hc
         obtain⟨k,m,_,hds,hcell⟩:=hD j hj
         have z1:=y1 j _ hds
         have z2:=y2 j _ hds
         simp only[YW] at z1
         rw[z1,hcell,Xea z2 rfl]
        exact⟨Im',S,Of 0,hfr,b.sub,λg' k' hb=>(b.fromI g' k' hb).imp_right (λx=>x.imp (λy=>y.elim id (λy=>absurd hb (b.disOI 1 g' k' (hO1 g' k' y)))) id),b.inI,b.res,b.out 0 _ _ _ hm0 hvk ho0,b.disS 0,b.disSI,b.disOI 0,b.inS,b.inO 0,
         λg' k' hb=>(b.fromS g' k' hb).imp (λy=>y.elim id (λy=>absurd (hO1 g' k' y) (b.disS 1 g' k' hb))) id,λg' k' hb=>(b.fromO 0 g' k' hb).imp (λy=>y.elim id (λy=>absurd (hO1 g' k' y) (b.disO 0 1 (by decide) g' k' hb))) id⟩
       ·cases hb3
      ·cases hb2
     ·cases he
    ·cases he
   ·cases he
  ·cases he
 ·cases he
def Xhi[HasTb P](h:Xp w0 L Im0 st tm w Im base SO)(hTb:∀w Im,Frame w0 w L->Sub Im0 Im->Tb P Im w){g:Nat}{fs:FS}(hS:QG P g fs){k n:Nat}(hrw:Xa1 0 fs.md=some (k,n)){f:Operand}{ts:List TypeId}{xs:List Operand}{r:AV}{st':St}(he:Xa3 cx st g fs k n f ts xs=some (r,st')) :
  ∃caps:List Value,Xe tm f=.func (.func g) #[] caps.toArray/\Ua P w0 L Im0 tm w base g fs.md (xs.map (Xe tm)++caps) r st':=by
 unfold Xa3 at he
 cases hv:Qj cx st f ts xs with
 | none=>rw[hv] at he; cases he
 | some p =>
  obtain⟨g',as⟩:=p
  rw[hv] at he
  simp only at he
  split at he
  ·rename_i hcond
   obtain⟨rfl,hoth⟩:=hcond
   obtain⟨caps,v1,v2,v3⟩:=Xb5 h hv
   refine⟨caps,v1,?_⟩
   split at he
   ·rename_i pl hak
    unfold Xbe at he
    cases hin:Ym (!fs.wk) (some (pl.e,pl.r)) st fs.md as [] with
    | none=>rw[hin] at he; cases he
    | some bs =>
     rw[hin] at he
     simp only at he
     cases hF:fs.F bs with
     | none=>rw[hF] at he; cases he
     | some p =>
      obtain⟨r',os⟩:=p
      rw[hF] at he
      simp only at he
      split at he
      ·rename_i cs hok
       cases hn:node st pl with
       | none=>rw[hn] at he; cases he
       | some cells =>
        rw[hn] at he
        simp only[Option.some.injEq,Prod.mk.injEq] at he
        obtain⟨rfl,rfl⟩:=he
        obtain⟨i1,i2,i3⟩:=Q9 hin
        obtain⟨k',hk',hmk⟩:=Xb6 hrw
        have hkk:k=k':=by omega
        subst hkk
        have hlk:k<as.length:=(List.getElem?_eq_some_iff.1 hak).1
        have hvk:(xs.map (Xe tm)++caps)[k]?=some ((xs.map (Xe tm)++caps)[k]'(by omega)):=List.getElem?_eq_getElem (by omega)
        have hptk:=v3 k _ _ hvk hak
        obtain⟨ad,hadv,hpt⟩:=hptk.p
        rw[hadv] at hvk
        have hbk:bs[k]?=some (bs[k]'(by omega)):=List.getElem?_eq_getElem (by omega)
        have hbk2:=i3 k _ _ _ hmk hak hbk
        simp only[QK,hn] at hbk2
        split at hbk2
        ·rename_i hcnd
         simp only[Bool.and_eq_true,decide_eq_true_eq] at hcnd
         obtain⟨⟨hw,hcn⟩,hall⟩:=hcnd
         injection hbk2 with hbk2
         have htop:pl.e=true->top (st.env pl.r)=true:=λe=>QR hpt.2 e
         obtain⟨l',T,vsn,Sfn,o⟩:=h.open hn hw htop
         obtain⟨⟨g0,oo,f1,f2⟩,hroot⟩:=hpt
         have hl':l'=.mem g0 oo:=by
          have:=o.at_
          rw[f1] at this
          injection this with this
          exact this.symm
         subst hl' f2
         let lent:CS:=chg (.mem g0 oo) pl.c n cells.length Sfn
         let Sf:Nat->CS:=λj=>if j=k then lent else nos
         let X:CS:=λb i=>fs.wk=false/\∃e q,¬(e=pl.e/\q=pl.r)/\SO e q b i
         have hlentT:Sub lent T:=o.chgT pl.c n
         have hlentS:Sub lent (SO pl.e pl.r):=hlentT.trans o.sub
         have hSf:∀j,Sub (Sf j) lent:=by
          intro j
          show Sub (if j=k then lent else nos) lent
          split
          ·exact Sub.rfl' _
          ·exact Xo _
         have hlof:YS Sf=lent:=by
          funext b i
          refine propext ⟨λ⟨j,hb⟩=>hSf j b i hb,λhb=>⟨k,?_⟩⟩
          show(if k=k then lent else nos) b i
          rw[if_pos rfl]; exact hb
         have hX:fs.wk=true->X=nos:=λhwk=>by
          funext b i
          exact propext ⟨λhb=>(by have:=hb.1; rw[hwk] at this; cases this),λhb=>hb.elim⟩
         have hget:∀(j:Nat) (a:AV),((cells.drop pl.c).take n)[j]?=some a->j<n/\cells[pl.c+j]?=some a:=by
          intro j a hj
          rw[List.getElem?_take] at hj
          split at hj
          ·rename_i hlt; rw[List.getElem?_drop] at hj; exact⟨hlt,hj⟩
          ·cases hj
         have hrowk:∀(j:Nat) (a:AV),((cells.drop pl.c).take n)[j]?=some a->Rep w Im (vsn (pl.c+j)) a (Sfn (pl.c+j)):=by
          intro j a hj
          have:=o.nd.sh _ _ (hget j a hj).2
          have hr:=List.all_eq_true.1 hall a (List.mem_of_getElem? hj)
          split at this
          ·exact this.row hr
          ·exact this
         have hlen:((cells.drop pl.c).take n).length=n:=by rw[List.length_take,List.length_drop]; omega
         have key:=hS.use (w:=w) (Im:=Im) (X:=X) hX (vs:=xs.map (Xe tm)++caps) (as:=bs) (Sf:=Sf) hF (by rw[<-v2,i1]) i2 (λj0 m v a hm hv' ha=>by
          by_cases hjk:j0=k
          ·rw[hjk] at hm hv' ha
           show XfM w (un Im X) m v a (Sf j0)
           rw[hjk]
           rw[hmk] at hm
           injection hm with hm
           subst hm
           rw[hvk] at hv'
           injection hv' with hv'
           rw[hbk] at ha
           injection ha with ha
           rw[<-hbk2] at ha
           subst hv' ha
           refine⟨g0,oo+pl.c,_,rfl,rfl,hlen,hall,λj=>vsn (pl.c+j),λj=>if j<n then Sfn (pl.c+j) else nos,λj a hj=>?_,λj a hj=>?_,λj b i hb=>?_,λi j hij=>?_,λg1 o1 e j hj=>?_⟩
           ·have:=o.nd.get _ _ (hget j a hj).2
            simp only[YW] at this ⊢
            rw[Nat.add_assoc]; exact this
           ·show Yy _ _ _ _ _ _ (if j<n then Sfn (pl.c+j) else nos)
            rw[if_pos (hget j a hj).1]
            exact .rep ((hrowk j a hj).keep (Xj _ _) (Sub.rfl' _) (XN.refl _ _) (XN.refl _ _))
           ·show Sf k b i
            show(if k=k then lent else nos) b i
            rw[if_pos rfl]
            have hb:(if j<n then Sfn (pl.c+j) else nos) b i:=hb
            split at hb
            ·rename_i hlt; exact .inr ⟨pl.c+j,by omega,by omega,hb⟩
            ·exact hb.elim
           ·show XY (if i<n then Sfn (pl.c+i) else nos) (if j<n then Sfn (pl.c+j) else nos)
            split
            ·split
             ·exact o.nd.dis _ _ (by omega)
             ·exact XM _
            ·exact Xh _
           ·injection e with e1 e2
            subst e1 e2
            rw[hlen] at hj
            obtain⟨z1,z2,z3⟩:=o.nd.mem g0 oo rfl (pl.c+j) (by omega)
            rw[<-Nat.add_assoc] at z1 z2 z3
            refine⟨?_,⟨z2.1,λhn1=>z2.2 (λhL=>hn1 (by rw[hlen]; omega))⟩,λi=>?_⟩
            ·show(if k=k then lent else nos) g0 (oo+pl.c+j)
             rw[if_pos rfl]
             exact .inl ⟨g0,oo,pl.c+j,rfl,rfl,by omega,by omega,by omega,by omega⟩
            ·show ¬(if i<n then Sfn (pl.c+i) else nos) g0 (oo+pl.c+j)
             split
             ·exact z3 _
             ·exact λhb=>hb
          ·have hro:=XcC hoth j0 m hm hjk
           have hlt:j0<as.length:=by rw[<-i1]; exact(List.getElem?_eq_some_iff.1 hm).1
           have hask:as[j0]?=some as[j0]:=List.getElem?_eq_getElem hlt
           have hptj:=v3 j0 v _ hv' hask
           have hb:=i3 j0 m _ a hm hask ha
           cases m with
           | ro n' =>
            simp only[QK] at hb
            exact Xb3 h (own:=!fs.wk) (av:=some (pl.e,pl.r)) (X:=X) (λhown q hq b i hb=>⟨by simpa using hown,q.e,q.r,XZ.1 (show Xu pl.e pl.r q=true from hq),hb⟩) hb hptj
           | rw n'=>cases hro
           | mv=>cases hro)
          (λi j hij=>by
           by_cases hik:i=k
           ·have hjk:j≠k:=λe=>hij (hik.trans e.symm)
            simp only[Sf,hjk,if_false]; exact XM _
           ·simp only[Sf,hik,if_false]; exact Xh _)
          (λj=>((h.disI pl.e pl.r).mono hlentS (Sub.rfl' _)).mono (hSf j) (Sub.rfl' _))
          (λj b i hb hb'=>by obtain⟨_,e,q,hne,hq⟩:=hb'; exact h.dis e q pl.e pl.r hne b i hq (hlentS b i (hSf j b i hb)))
          (λj q i hb=>h.inS _ _ q i (hlentS q i (hSf j q i hb))) h.inI (λq i hb=>by obtain⟨_,e,q',_,hq⟩:=hb; exact h.inS e q' q i hq) (hTb _ _ h.frame h.imm)
         refine XcD h o htop hcn hmk (key.mono λv w' ⟨Im',S,Of,b⟩=>?_)
         rw[hlof] at b
         exact⟨Im',S,Of k,b.frame,b.sub,b.fromI,b.inI,b.res,b.out k _ _ _ hmk hvk hok,b.disS k,b.disSI,b.disOI k,b.inS,b.inO k,b.fromS,b.fromO k⟩
        ·cases hbk2
      ·cases he
   ·cases he
  ·split at he
   ·rename_i hgg
    subst hgg
    obtain⟨caps,v1,v2,v3⟩:=Xb5 h hv
    exact⟨caps,v1,Xhh h hTb hS v2 v3 he⟩
   ·cases he
end Go.Vm
set_option autoImplicit false
namespace Go.Vm
variable {w0 : World} {L Im0 : CS} {st : St} {tm : Array Value} {w : World} {Im : CS} {base : Nat -> Nat × Nat} {SO : Bool -> Nat -> CS} {P : Program} {cx : Cx}
def Xeb:∀(ps qs:List (Nat×Nat×Nat)) {cs a b:List AV},YV ps qs=true->nav cs ps=some a->nav cs qs=some b->a=b
 | [],[],cs,a,b,_,h1,h2=>by simp only[nav,Option.some.injEq] at h1 h2; rw[<-h1,h2]
 | (c,i,z) :: ps,(c',i',z') :: qs,cs,a,b,hs,h1,h2=>by
  simp only[YV,Bool.and_eq_true,beq_iff_eq] at hs
  obtain⟨⟨rfl,rfl⟩,hs⟩:=hs
  obtain⟨t,es,row,e1,e2,e3⟩:=Yd h1
  obtain⟨t',es',row',g1,g2,g3⟩:=Yd h2
  rw[e1] at g1
  injection g1 with g1
  injection g1 with k1 k2 k3
  subst k3
  rw[e2] at g2
  injection g2 with g2
  subst g2
  exact Xeb ps qs hs e3 g3
 | [],_ :: _,cs,a,b,hs,_,_=>by simp[YV] at hs
 | _ :: _,[],cs,a,b,hs,_,_=>by simp[YV] at hs
def Xp.weakLeaf(h:Xp w0 L Im0 st tm w Im base SO){a:AV}{u:Value}(hl:PL st tm w Im base u a nos){st':St}(he:weakLeaf st a=some st'):∃(Im1:CS) (SO1:Bool->Nat->CS),Xp w0 L Im0 st' tm w Im1 base SO1:=by
 have same:some st=some st'->∃(Im1:CS) (SO1:Bool->Nat->CS),Xp w0 L Im0 st' tm w Im1 base SO1:=λe=>by injection e with e; subst e; exact⟨Im,SO,h⟩
 cases a with
 | rf pl z' lo n =>
  have hrf:Rf st tm w base pl z' lo n u:=by
   cases hl with
   | rep h=>cases h
   | rf h _=>exact h
  simp only[Vm.weakLeaf] at he
  cases hn:node st pl with
  | none=>rw[hn] at he; exact same he
  | some cells =>
   rw[hn] at he
   simp only at he
   split at he
   ·rename_i z es hc
    split at he
    ·split at he
     ·rename_i hw
      injection he with he
      subst he
      have htop:pl.e=true->top (st.env pl.r)=true:=λe=>UQ hrf.2 e
      obtain⟨l',T,vs,Sf,o⟩:=h.open hn hw htop
      have hlt:pl.c<cells.length:=(List.getElem?_eq_some_iff.1 hc).1
      have hR:Rep w Im (vs pl.c) (.sl .mut z es) (Sf pl.c):=by
       have:=o.nd.sh pl.c _ hc
       split at this
       ·exact this.sl
       ·exact this
      obtain⟨N,hN,hR'⟩:=hR.toApp
      have hnew:∀j,¬(pl.c<=j/\j<pl.c+1)->(cells.set pl.c (.sl .app z (XH es)))[j]?=cells[j]?:=λj hj=>List.getElem?_set_ne (by omega)
      have k:Chg st w Im SO pl cells l' Sf w nos pl.c 1 (cells.set pl.c (.sl .app z (XH es))):=by
       refine⟨by simp,λj hj=>by rw[hnew j hj],λe=>h.na (htop e),λy hy=>?_,Xo _,XN.refl _ _⟩
       rcases List.mem_or_eq_of_mem_set hy with hy | rfl
       ·exact o.na y hy
       ·rfl
      have hNT:Sub N T:=hN.trans (o.nd.sub _)
      have hNS:Sub N (SO pl.e pl.r):=hNT.trans o.sub
      let nS:Nat->CS:=λj=>if j=pl.c then ZJ (Sf pl.c) N else nos
      have hnS:∀b i,U4 pl.c 1 nS b i->Sf pl.c b i/\¬N b i:=by
       rintro b i ⟨j,h1,h2,hb⟩
       have hjc:j=pl.c:=by omega
       subst hjc
       have hb:(if pl.c=pl.c then ZJ (Sf pl.c) N else nos) b i:=hb
       rw[if_pos rfl] at hb
       exact hb
      obtain⟨SO',r1,_,_⟩:=o.putCellsG h k (kp:=keepP pl.e pl.r pl.path pl.c 1) (kr:=keepP pl.e pl.r pl.path pl.c 1)
       (λq ad hq hpt=>o.keepP h k (λrow2 e1 e2 e3=>(QF.cut st pl pl.c 1).p q row2 hq e1 e2 e3) hpt)
       (λq y lo' n' v hq hrf=>by
        refine⟨hrf.1,?_⟩
        obtain⟨row2,hn2,hs2⟩:=hrf.2
        have hk:q.e=pl.e->q.r=pl.r->Xq pl.path pl.c 1 q.path=false:=λe1 e2=>by simpa[keepP,e1,e2] using hq
        obtain⟨row2',g1,g2⟩:=o.navs k hn2 hk
        refine⟨row2',g1,?_⟩
        by_cases hr:q.e=pl.e/\q.r=pl.r
        ·by_cases hth:Xq pl.path pl.c 1 (q.path++[(q.c,0,0)])=false
         ·rw[g2 q.c (λ_ _=>hth)]; exact hs2
         ·rw[QP,hk hr.1 hr.2,Bool.false_or] at hth
          simp only[Bool.not_eq_false,Bool.and_eq_true,decide_eq_true_eq] at hth
          obtain⟨⟨s1,s2⟩,s3⟩:=hth
          have hqc:q.c=pl.c:=by omega
          rw[hr.1,hr.2,Zr (st:=st) o.nav k.len k.na0 k.na] at g1
          have hself:=ZQ pl.path (new:=cells.set pl.c (.sl .app z (XH es))) o.nav
          have:=Xeb _ _ s1 hself g1
          rw[<-this,hqc,List.getElem?_set_self hlt]
          rfl
        ·rw[g2 q.c (λe1 e2=>absurd ⟨e1,e2⟩ hr)]; exact hs2)
       htop (c2:=pl.c) (m2:=1) hnew (λj h1 h2=>⟨h1,h2⟩) (Im':=un Im N) (Xj _ _)
       (λe r hne b i hb hb'=>hb'.elim (h.disI e r b i hb) (λx=>h.dis e r _ _ hne b i hb (hNS b i x)))
       (λb i hb hb'=>hb'.elim (h.disI _ _ b i hb.1) (λx=>hb.2 (hNT b i x)))
       (λb i hb hb'=>hb'.elim (h.disI _ _ b i (o.sub b i hb.1)) (λx=>hb.2 ⟨pl.c,Nat.le_refl _,by omega,hN b i x⟩))
       (λg i hb=>hb.elim (h.inI g i) (λx=>h.inS _ _ g i (hNS g i x))) (λg i hb=>hb.elim (h.fromI g i) (λx=>.inr (h.fromS _ _ g i (hNS g i x))))
       vs nS (λj a h1 h2 hj=>by
        have hjc:j=pl.c:=by omega
        subst hjc; exact o.nd.get _ _ hc)
       (λj a h1 h2 hj=>by
        have hjc:j=pl.c:=by omega
        subst hjc
        rw[List.getElem?_set_self hlt] at hj
        injection hj with hj
        subst hj
        have hrep:Rep w (un Im N) (vs pl.c) (.sl .app z (XH es)) (nS pl.c):=by
         show Rep w (un Im N) (vs pl.c) (.sl .app z (XH es)) (if pl.c=pl.c then ZJ (Sf pl.c) N else nos)
         rw[if_pos rfl]; exact hR'
        split
        ·exact .rep hrep
        ·exact hrep)
       (λi j hij=>by
        by_cases hi:i=pl.c
        ·have hj:j≠pl.c:=λe=>hij (hi.trans e.symm)
         simp only[nS,hj,if_false]; exact XM _
        ·simp only[nS,hi,if_false]; exact Xh _)
       (λe r hne b i hb hb'=>h.dis e r _ _ hne b i hb' (o.sub b i (o.nd.sub _ b i (hnS b i hb).1)))
       (λb i hb hb'=>hb'.2 (o.nd.sub _ b i (hnS b i hb).1))
       (λb i hb hb'=>hb'.2 ⟨pl.c,Nat.le_refl _,by omega,(hnS b i hb).1⟩)
       (λb i hb hb'=>hb'.elim (h.disI _ _ b i (o.sub b i (o.nd.sub _ b i (hnS b i hb).1))) (hnS b i hb).2)
       (λg i hb=>h.inS _ _ g i (o.sub g i (o.nd.sub _ g i (hnS g i hb).1))) (λg i hb=>h.fromS _ _ g i (o.sub g i (o.nd.sub _ g i (hnS g i hb).1)))
       (λg oo j e h1 h2 h3=>(o.nd.mem g oo e j h3).2.1) (Nat.le_refl _) h.frame
      exact⟨_,SO',r1⟩
     ·cases he
    ·cases he
   ·exact same he
 | p=>cases he
 | fn=>cases he
 | fs=>cases he
 | tup=>cases he
 | agg=>cases he
 | _=>exact same he
def Xbv{x:Operand}:∀(n j:Nat) {st:St} {Im:CS} {SO:Bool->Nat->CS} {st':St},Xp w0 L Im0 st tm w Im base SO->Zu x n j st=some st'->∃(Im1:CS) (SO1:Bool->Nat->CS),Xp w0 L Im0 st' tm w Im1 base SO1
 | 0,j,st,Im,SO,st',h,he=>by
  simp only[Zu,Option.some.injEq] at he
  subst he
  exact⟨Im,SO,h⟩
 | n+1,j,st,Im,SO,st',h,he=>by
  simp only[Zu] at he
  have hx:=h.view x
  generalize hvx:Vm.view st x=vx at he hx
  cases vx with
  | agg cs =>
   simp only at he
   cases hc:cs[j]? with
   | none=>rw[hc] at he; cases he
   | some a =>
    rw[hc] at he
    simp only at he
    cases ho:Vm.weakLeaf st a with
    | none=>rw[ho] at he; cases he
    | some st1 =>
     rw[ho] at he
     obtain⟨u,hl⟩:∃u,PL st tm w Im base u a nos:=by
      generalize Xe tm x=v at hx
      cases hx with
      | leaf h=>cases h; rename_i h; cases h
      | agg vs Sf hl hin hsub hd =>
       have hlt:j<vs.length:=by rw[hl]; exact(List.getElem?_eq_some_iff.1 hc).1
       exact⟨vs[j],(hin j _ a (List.getElem?_eq_getElem hlt) hc).mono (hsub j)⟩
     obtain⟨Im1,SO1,r1⟩:=h.weakLeaf hl ho
     exact Xbv n (j+1) r1 he
  | _=>cases he
def Xp.weakArg(h:Xp w0 L Im0 st tm w Im base SO){x:Operand}{st':St}(he:weakArg st x=some st'):∃(Im1:CS) (SO1:Bool->Nat->CS),Xp w0 L Im0 st' tm w Im1 base SO1:=by
 unfold Vm.weakArg at he
 have hx:=h.view x
 generalize hvx:Vm.view st x=vx at he hx
 have leaf:Vm.weakLeaf st vx=some st'->(∀cs,vx≠.agg cs)->∃(Im1:CS) (SO1:Bool->Nat->CS),Xp w0 L Im0 st' tm w Im1 base SO1:=by
  intro he hna
  generalize Xe tm x=v at hx
  cases hx with
  | u=>simp only[Vm.weakLeaf,Option.some.injEq] at he; subst he; exact⟨Im,SO,h⟩
  | no=>simp only[Vm.weakLeaf,Option.some.injEq] at he; subst he; exact⟨Im,SO,h⟩
  | leaf hl=>exact h.weakLeaf hl he
  | agg=>exact absurd rfl (hna _)
  | tup=>cases he
 cases vx with
 | agg cs=>exact Xbv cs.length 0 h he
 | _=>exact leaf he (λcs e=>by cases e)
def Xp.weakAll:∀{ms:List Md} {xs:List Operand} {st:St} {Im:CS} {SO:Bool->Nat->CS} {st1:St},Xp w0 L Im0 st tm w Im base SO->weakAll st ms xs=some st1->∃(Im1:CS) (SO1:Bool->Nat->CS),Xp w0 L Im0 st1 tm w Im1 base SO1
 | [],xs,st,Im,SO,st1,h,he=>by
  simp only[Vm.weakAll,Option.some.injEq] at he
  subst he
  exact⟨Im,SO,h⟩
 | m :: ms,[],st,Im,SO,st1,h,he=>by
  simp only[Vm.weakAll,Option.some.injEq] at he
  subst he
  exact⟨Im,SO,h⟩
 | m :: ms,x :: xs,st,Im,SO,st1,h,he=>by
  cases m with
  | ro n =>
   simp only[Vm.weakAll] at he
   cases hw:Vm.weakArg st x with
   | none=>rw[hw] at he; cases he
   | some st2 =>
    rw[hw] at he
    obtain⟨Im2,SO2,h2⟩:=h.weakArg hw
    exact Xp.weakAll h2 he
  | rw n=>simp only[Vm.weakAll] at he; exact Xp.weakAll h he
  | mv=>simp only[Vm.weakAll] at he; exact Xp.weakAll h he
end Go.Vm
set_option autoImplicit false
namespace Go.Vm
variable {w0 : World} {L Im0 : CS} {st : St} {tm : Array Value} {w : World} {Im : CS} {base : Nat -> Nat × Nat} {SO : Bool -> Nat -> CS} {P : Program}
def Xa8{z lo:Nat}{es:List (List AV)}:Yh z lo 0 es=es:=by simp[Yh]
def UF{z lo n:Nat}{es:List (List AV)}(h:lo+n<=es.length):(Yh z lo n es).length=es.length:=by simp[Yh]; omega
def Qv{z lo n i:Nat}{es:List (List AV)}{row:List AV}(h:lo+n<=es.length)(hr:(Yh z lo n es)[i]?=some row):(¬(lo<=i/\i<lo+n)/\es[i]?=some row)\/((lo<=i/\i<lo+n)/\row=List.replicate z .u):=by
 unfold Yh at hr
 have hl:(es.take lo).length=lo:=by rw[List.length_take]; omega
 rw[List.append_assoc] at hr
 by_cases h1:i<lo
 ·rw[List.getElem?_append_left (by omega),List.getElem?_take,if_pos h1] at hr
  exact .inl ⟨by omega,hr⟩
 ·rw[List.getElem?_append_right (by omega),hl] at hr
  by_cases h2:i<lo+n
  ·rw[List.getElem?_append_left (by simp; omega),List.getElem?_replicate,if_pos (by omega)] at hr
   exact .inr ⟨by omega,by injection hr with hr; exact hr.symm⟩
  ·rw[List.getElem?_append_right (by simp; omega),List.length_replicate,List.getElem?_drop] at hr
   rw[show lo+n+(i-lo-n)=i by omega] at hr
   exact .inl ⟨by omega,hr⟩
def Rep.clear{A:Option Addr}{N cap z lo n:Nat}{es:List (List AV)}{V:CS}(h:Rep w Im (.slice A N cap) (.sl .mut z es) V)(hle:lo+n<=es.length)(hd:XY V Im)(hI:∀g k,Im g k->g<w.heap.size)(hV:∀g k,V g k->g<w.heap.size){zs:List Value}(hzl:zs.length=n*z)(hzo:∀v∈zs,v.oneCell'=true)(h0:0<n) :
  ∃(g off:Nat) (w':World),A=some ⟨g,off,none⟩/\(∀P,(storeCells ⟨g,off+lo*z,none⟩ zs).run P w=.ok () w')/\Frame w w' V/\Rep w' Im (.slice A N cap) (.sl .mut z (Yh z lo n es)) V:=by
 cases h with
 | sl g off vs Sf hn hc hL hA hz hrow hin hf hsub hd0 hself hnone =>
  have hcap:0<cap:=by omega
  have hbnd:(lo+n)*z<=cap*z:=Nat.mul_le_mul_right _ (by omega)
  have hmul:(lo+n)*z=lo*z+n*z:=Nat.add_mul _ _ _
  have hcells:∀j,j<zs.length->(w.cell? ⟨g,off+lo*z+j,none⟩).isSome=true/\w.frozen? ⟨g,off+lo*z+j,none⟩=false:=by
   intro j hj
   obtain⟨⟨v,hv⟩,hfz⟩:=hf.free (by simp) (lo*z+j) (by omega)
   rw[<-Nat.add_assoc] at hv hfz
   simp only[Xt] at hv
   have hfz:=hfz.1
   simp only[YE] at hfz
   exact⟨by rw[hv]; rfl,hfz⟩
  have hrun:∀P,(storeCells ⟨g,off+lo*z,none⟩ zs).run P w=.ok () (w.setCells g (off+lo*z) zs):=by
   intro P
   have:=run_storeCells_cells (P:=P) g (off+lo*z) zs 0 w (λj hj=>by simpa using(hcells j hj).1) (λj hj=>by simpa using(hcells j hj).2) hzo
   simpa using this
  have hsame:∀S:CS,XY S (seg g (off+lo*z) zs.length)->XN S w (w.setCells g (off+lo*z) zs):=λS hS=>ZE g (off+lo*z) zs w hS
  have hsegV:Sub (seg g (off+lo*z) zs.length) V:=by
   rintro b k ⟨rfl,h1,h2⟩
   have:=hf.own rfl (k-off) (by omega)
   rwa [Nat.add_sub_cancel' (by omega)] at this
  have hfrm:Frame w (w.setCells g (off+lo*z) zs) V:=(YR g zs (off+lo*z) w).mono hsegV
  have hIs:XN Im w (w.setCells g (off+lo*z) zs):=hsame _ (hd.symm.mono (Sub.rfl' _) hsegV)
  have h1s:∀i j,XN (Sf i j) w (w.setCells g (off+lo*z) zs):=λi j=>hsame _ (λb k hb hm=>by
   obtain⟨rfl,h1,h2⟩:=hm
   have:=hself rfl i j (k-off) (by omega)
   rw[Nat.add_sub_cancel' (by omega)] at this
   exact this hb)
  refine⟨g,off,_,hA hcap,hrun,hfrm,?_⟩
  let vs':Nat->Nat->Value:=λi j=>if lo<=i/\i<lo+n then zs.getD ((i-lo)*z+j) undef else vs i j
  let Sf':Nat->Nat->CS:=λi j=>if lo<=i/\i<lo+n then nos else Sf i j
  refine .sl g off vs' Sf' (by rw[UF hle]; exact hn) hc hL hA ?_ ?_ ?_ ⟨hf.own,(λe=>by cases e),λe k hk=>?_,λe=>absurd rfl e⟩ ?_ ?_ ?_ (λe=>absurd rfl e)
  ·intro i row hi
   rcases Qv hle hi with⟨_,hi⟩ | ⟨_,rfl⟩
   ·exact hz i row hi
   ·simp
  ·intro i row j a hi hj
   rcases Qv hle hi with⟨hno,hi⟩ | ⟨hyes,rfl⟩
   ·simp only[vs']
    rw[if_neg hno]
    obtain⟨q1,q2,q3⟩:=idx_lt hz hi hj
    have hkey:i*z+j<lo*z\/lo*z+n*z<=i*z+j:=by
     by_cases hl:i<lo
     ·left
      have:(i+1)*z<=lo*z:=Nat.mul_le_mul_right _ (by omega)
      rw[Nat.add_mul] at this; omega
     ·right
      have:(lo+n)*z<=i*z:=Nat.mul_le_mul_right _ (by omega)
      omega
    have:=hsame (λb k=>b=g/\k=off+(i*z+j)) (by rintro b k ⟨rfl,rfl⟩ ⟨_,h1,h2⟩; omega) g _ ⟨rfl,rfl⟩
    rw[this.1]; exact hrow i row j a hi hj
   ·simp only[vs']
    rw[if_pos hyes]
    have hjz:j<z:=by have:=(List.getElem?_eq_some_iff.1 hj).1; simpa using this
    have hlt:(i-lo)*z+j<zs.length:=by
     have:(i-lo+1)*z<=n*z:=Nat.mul_le_mul_right _ (by omega)
     rw[Nat.add_mul] at this; omega
    have:=World.cell?_setCells_in g zs (off+lo*z) w (λq hq=>(hcells q hq).1) _ hlt
    have hsum:off+lo*z+((i-lo)*z+j)=off+(i*z+j):=by
     have:lo*z+(i-lo)*z=i*z:=by rw[<-Nat.add_mul]; congr 1; omega
     omega
    rw[hsum] at this
    rw[show zs.getD ((i-lo)*z+j) undef=zs[(i-lo)*z+j] from by simp[List.getD,hlt]]
    exact this
  ·intro i row j a hi hj
   rcases Qv hle hi with⟨hno,hi⟩ | ⟨hyes,rfl⟩
   ·simp only[vs',Sf']
    rw[if_neg hno,if_neg hno]
    exact(hin i row j a hi hj).keep (Sub.rfl' _) (Sub.rfl' _) hIs (h1s i j)
   ·simp only[vs',Sf']
    rw[if_pos hyes,if_pos hyes]
    have hjz:j<z:=by have:=(List.getElem?_eq_some_iff.1 hj).1; simpa using this
    have ha:a=.u:=by
     rw[List.getElem?_replicate,if_pos hjz] at hj
     injection hj with hj; exact hj.symm
    subst ha
    have hlt:(i-lo)*z+j<zs.length:=by
     have:(i-lo+1)*z<=n*z:=Nat.mul_le_mul_right _ (by omega)
     rw[Nat.add_mul] at this; omega
    rw[show zs.getD ((i-lo)*z+j) undef=zs[(i-lo)*z+j] from by simp[List.getD,hlt]]
    exact .u (hzo _ (List.getElem_mem hlt))
  ·obtain⟨⟨v,hv⟩,hfz⟩:=hf.free e k hk
   refine⟨?_,hfz.to λ_=>World.frozen?_setCells g zs _ w _⟩
   by_cases hk2:lo*z<=k/\k<lo*z+zs.length
   ·have:=World.cell?_setCells_in g zs (off+lo*z) w (λq hq=>(hcells q hq).1) (k-lo*z) (by omega)
    rw[show off+lo*z+(k-lo*z)=off+k by omega] at this
    exact⟨_,this⟩
   ·have:=hsame (λb q=>b=g/\q=off+k) (by rintro b q ⟨rfl,rfl⟩ ⟨_,h1,h2⟩; omega) g _ ⟨rfl,rfl⟩
    exact⟨v,by rw[this.1]; exact hv⟩
  ·intro i j
   simp only[Sf']
   split
   ·exact Xo _
   ·exact hsub i j
  ·intro i j i' j' hne
   simp only[Sf']
   split<;>split
   ·exact Xh _
   ·exact Xh _
   ·exact XM _
   ·exact hd0 i j i' j' hne
  ·intro e i j k hk
   simp only[Sf']
   split
   ·exact λx=>x
   ·exact hself e i j k hk
def XfO{v:Value}{a:AV}(h:UR v a=true):v.oneCell'=true:=by
 unfold UR at h
 split at h<;>first | rfl | exact h | cases h
def Xec:∀{vs:List Value} {as:List AV},QB vs as=true->∀v∈vs,v.oneCell'=true
 | [],[],_,v,hv=>by simp at hv
 | x :: vs,a :: as,h,v,hv=>by
  simp only[QB,Bool.and_eq_true] at h
  rcases List.mem_cons.1 hv with rfl | hv
  ·exact XfO h.1
  ·exact Xec h.2 v hv
def Xp.clear(h:Xp w0 L Im0 st tm w Im base SO){t:TypeId}{ti:TI}(hT:TIs P t ti){x:Operand}(hl:PT st tm w Im base (Xe tm x) (Vm.view st x) nos){st':St}(he:U1 ti st (Vm.view st x)=some st'){rt:TypeId} :
  ∃(w':World) (SO':Bool->Nat->CS),(Builtin.clear_ #[t] rt #[Xe tm x]).run P w=.ok (.tuple #[]) w'/\Xp w0 L Im0 st' tm w' Im base SO':=by
 generalize Xe tm x=v at hl
 generalize Vm.view st x=vx at hl he
 cases ti with
 | slice z bytes zero =>
  cases vx with
  | rf pl y lo n =>
   simp only[U1] at he
   have hrf:Rf st tm w base pl y lo n v:=by
    cases hl with
    | leaf h=>cases h with
     | rep h=>cases h
     | rf h _=>exact h
   cases hn:node st pl with
   | none=>rw[hn] at he; cases he
   | some cells =>
    rw[hn] at he
    simp only at he
    split at he
    ·rename_i z' es hc
     split at he
     ·rename_i hcond
      obtain⟨⟨⟨hle,hz1⟩,hz2⟩,hw⟩:=hcond
      subst hz1 hz2
      simp only[Bool.and_eq_true] at hw
      obtain⟨hw,hok⟩:=hw
      obtain⟨A,N,cap,A',V0,e1,e2,e3,e4,e5,hR,hV0,l,f1,f2⟩:=h.lookRf hrf hn hc
      have hA0:0<cap->∃g o,A=some ⟨g,o,none⟩:=by
       intro h0
       cases hR with
       | sl g off vs Sf hn hc hL hA=>exact⟨g,off,hA h0⟩
      have hrf0:Rf st tm w base pl y 0 es.length (.slice A N cap):=by
       obtain⟨q1,q2⟩:=hrf
       refine⟨⟨l,A,N,cap,A,f1,f2,by rw[e4,Nat.sub_zero],by omega,e3,λh0=>?_⟩,q2⟩
       obtain⟨g,o,hg⟩:=hA0 h0
       exact⟨g,o,hg,by rw[hg]; simp⟩
      have hout:Vm.outLeaf st (.rf pl y 0 es.length)=some ((.sl .mut y es,some (pl,UN st pl)),(Xi st pl (cells.set pl.c .u)).cut pl 1):=by simp[Vm.outLeaf,hn,hc,hw]
      obtain⟨SO1,V,r1,r2,r3,r4,_,r6⟩:=h.outLeaf (.rf hrf0 rfl) hout
      simp only at r3
      obtain⟨e,i,zv,hu,hi,hsz,_,_,hz,hzo,hzl,_⟩:=hT.slice
      subst e1
      by_cases h0:n=0
      ·subst h0
       rw[Xa8] at he
       obtain⟨SO',k1,_⟩:=r1.fill he r3 r4 (λy hy=>by injection hy with hy; subst hy; exact r6 _ rfl)
       exact⟨w,SO',by cases A'<;>simp[Builtin.clear_,Xk hu],k1⟩
      ·have hzs:zv.cells.toList.length=zero.length:=by
        have:∀{vs:List Value} {as:List AV},QB vs as=true->vs.length=as.length:=by
         intro vs
         induction vs with
         | nil=>intro as h; cases as with
          | nil=>rfl
          | cons=>cases h
         | cons v vs ih=>intro as h; cases as with
          | nil=>cases h
          | cons a as=>simp only[QB,Bool.and_eq_true] at h; simp[ih h.2]
        rw[this hzo]
       have hzl':(Builtin.zeroCells zv.cells n).toList.length=n*zero.length:=by rw[Qu]; simp only[Array.length_toList] at hzs; rw[hzs]
       have hone:∀v∈(Builtin.zeroCells zv.cells n).toList,v.oneCell'=true:=by
        intro v hv
        simp only[Builtin.zeroCells,Array.toList_map,List.mem_map] at hv
        obtain⟨q,hq,rfl⟩:=hv
        have hzpos:0<zv.cells.size:=by
         have:q<n*zv.cells.size:=by simpa using hq
         exact Nat.pos_of_ne_zero (λe=>by rw[e] at this; omega)
        have hlt:q%zv.cells.size<zv.cells.size:=Nat.mod_lt _ hzpos
        refine Xec hzo _ ?_
        rw[getElem!_pos zv.cells _ hlt]
        exact Array.getElem_mem_toList hlt
       obtain⟨g,off,w',a1,a2,a3,a4⟩:=r3.clear hle r4.disI r1.inI r4.ins (by rw[hzl',hzl]) hone (by omega)
       obtain⟨g',o',b1,b2⟩:=e5 (by omega)
       rw[a1] at b1
       simp only[Option.some.injEq,Addr.mk.injEq,and_true] at b1
       obtain⟨rfl,rfl⟩:=b1
       have r1':=r1.worldS a3 (λe r=>(r4.dis e r).symm) r4.disI.symm r4.from_
       have hsI:XN Im w w':=a3.same r4.disI.symm r1.inI
       have hsS:∀e r,XN (SO1 e r) w w':=λe r=>a3.same (r4.dis e r).symm (r1.inS e r)
       obtain⟨SO',k1,_⟩:=r1'.fill he a4 ⟨r4.dis,r4.disI,λg k x=>Nat.lt_of_lt_of_le (r4.ins g k x) a3.size,r4.from_⟩ (λy hy=>by injection hy with hy; subst hy; exact(r6 _ rfl).world r1 hok hsI hsS)
       refine⟨w',SO',?_,k1⟩
       have hn0:∀a:Addr,(Builtin.clear_ #[t] rt #[.slice (some a) n (cap-lo)]).run P w=(do storeCells a (Builtin.zeroCells zv.cells n).toList; pure (Value.tuple #[])).run P w:=by
        intro a
        obtain⟨m,rfl⟩:∃m,n=m+1:=⟨n-1,by omega⟩
        simp[Builtin.clear_,Xk hu,zeroValue,typeInfo,hi,hz]
       rw[b2,hn0]
       simp[a2 P]
     ·cases he
    ·cases he
  | _=>cases he
 | _=>cases he
end Go.Vm
set_option autoImplicit false
namespace Go.Vm
variable {w0 : World} {L Im0 : CS} {st : St} {tm : Array Value} {w : World} {Im : CS} {base : Nat -> Nat × Nat} {SO : Bool -> Nat -> CS} {P : Program}
def Xp.newBoxAt(h:Xp w0 L Im0 st tm w Im base SO){d:Nat}(hd:d<tm.size)(hs:Yp (st.env d)=false){g0 o0:Nat}{cs:List AV}{S0:CS}
  (hN:Up (Yy w Im noP noR) #[] w (.mem g0 o0) cs S0) (hsp:Xw w0 L w Im SO S0) (hne:cs≠[]) :
  ∃(SO':Bool->Nat->CS),Xp w0 L Im0 (Vm.newBox st d cs) (tm.setIfInBounds d (.pointer (some ⟨g0,o0,none⟩))) w Im (upd base d (g0,o0)) SO'/\∀e r b k,SO' e r b k->SO e r b k\/S0 b k:=by
 have h1:=h
 let w':=w
 let tm':=tm.setIfInBounds d (.pointer (some ⟨g0,o0,none⟩))
 let base':Nat->Nat×Nat:=upd base d (g0,o0)
 let nb:CS:=S0
 let SO':Bool->Nat->CS:=λe r=>if r=d then(if e then nos else nb) else SO e r
 have gen:∀(kp kr:Pl->Bool),(∀q ad,kp q=true->Pt st tm w' base q ad->¬(q.e=false/\q.r=d))->(∀q z lo n v,kr q=true->Rf st tm w' base q z lo n v->¬(q.e=false/\q.r=d)) ->
   Xp w0 L Im0 ⟨upd (st.filt kp kr).env d (.p ⟨false,d,[],0⟩),upd (st.filt kp kr).bx d (XR kp kr cs)⟩ tm' w' Im base' SO':=by
  intro kp kr hkp hkr
  let st':St:=⟨upd (st.filt kp kr).env d (.p ⟨false,d,[],0⟩),upd (st.filt kp kr).bx d (XR kp kr cs)⟩
  have hroot:∀e r,r≠d->Xa st' e r=XR kp kr (Xa st e r):=by
   intro e r hr
   have:Xa st' e r=Xa (st.filt kp kr) e r:=by
    cases e with
    | false=>simp only[Xa,st',Bool.false_eq_true,if_false]; rw[Yr _ _ hr]
    | true=>simp only[Xa,st',if_true]; rw[Yr _ _ hr]
   rw[this,Zm]
  have hrl:∀e r,r≠d->Yn base' e r=Yn base e r:=by
   intro e r hr
   cases e with
   | true=>rfl
   | false=>simp only[Yn,base',Bool.false_eq_true,if_false]; rw[Yr _ _ hr]
  have nd:∀q:Pl,¬(q.e=false/\q.r=d)->¬(q.e=true/\q.r=d)->q.r≠d:=by
   intro q h1 h2 hr
   cases he:q.e
   ·exact h1 ⟨he,hr⟩
   ·exact h2 ⟨he,hr⟩
  have hfol:∀(q:Pl),q.r≠d->follow tm' w' (Yn base' q.e q.r) q.path=follow tm w' (Yn base q.e q.r) q.path:=by
   intro q hr
   rw[hrl _ _ hr]
   exact Q6 (Qo (λx=>hr x.2)) _
  have hp:∀q ad,kp q=true->Pt st tm w' base q ad->Pt st' tm' w' base' q ad:=by
   intro q ad hk hq
   have hr:=nd q (hkp q ad hk hq) (hq.off hs)
   obtain⟨⟨g,o,k1,k2⟩,⟨row,k3⟩,k4⟩:=hq
   refine⟨⟨g,o,by rw[hfol q hr]; exact k1,k2⟩,?_,λe=>⟨(k4 e).1,?_⟩⟩
   ·rw[hroot _ _ hr,Q5]
    split
    ·exact⟨_,rfl⟩
    ·exact⟨row,k3⟩
   ·simp only[st']
    rw[Yr _ _ hr]
    exact(Y7 kp kr _).2 (k4 e).2
  have hr:∀q z lo n v,kr q=true->Rf st tm w' base q z lo n v->Rf st' tm' w' base' q z lo n v:=by
   intro q z lo n v hk hq
   have hr:=nd q (hkr q z lo n v hk hq) (hq.off hs)
   obtain⟨⟨l,A,N,cap,A',k1,k2,k3⟩,row,k4,k5⟩:=hq
   have hlne:l≠.slot d:=by
    cases hp:q.path with
    | nil=>rw[hp] at k1; simp only[follow,Option.some.injEq] at k1; rw[<-k1]; exact Qo (λx=>hr x.2)
    | cons x ps =>
     obtain⟨c,i,z⟩:=x
     rw[hp] at k1 k4
     obtain⟨l2,f1,_,f3,_⟩:=(h1.root q.e q.r (λe=>XbT (by rw[<-hp] at k4; exact k4) (by rw[hp]; simp) e)).look (λ_ _ _ _ _ h=>h.sl) (λ_ _ _ h=>.rep h) _ k4
     rw[k1] at f1
     injection f1 with f1
     subst f1
     obtain⟨g,o,e⟩:=f3 (by simp)
     rw[e]; intro x; cases x
   refine⟨⟨l,A,N,cap,A',by rw[hfol q hr]; exact k1,by rw[Xag hlne]; exact k2,k3⟩,?_⟩
   unfold YG
   rw[hroot _ _ hr,Q5]
   split
   ·rename_i hpath
    rw[hpath] at k4
    simp only[nav,Option.some.injEq] at k4
    subst k4
    exact⟨_,rfl,by rw[Qn]; exact k5⟩
   ·exact⟨row,k4,k5⟩
  have leaf:∀v a V,PL st tm w' Im base v a V->PL st' tm' w' Im base' v (filt kp kr a) V:=λv a V hl=>hl.filt kp kr hp hr
  refine⟨λt=>?_,λr=>?_,?_,?_,h1.inI,?_,h1.imm,h1.fromI,?_,h1.frame⟩
  ·by_cases ht:t=d
   ·subst ht
    simp only[st',tm',SO',Zf,if_true]
    rw[ZX _ _ _ hd]
    refine .leaf (.p ⟨⟨g0,o0,?_,rfl⟩,⟨XR kp kr cs,?_⟩,λ_=>⟨rfl,?_⟩⟩)
    ·simp only[Yn,base',Zf,follow,Bool.false_eq_true,if_false]
    ·simp only[Xa,Bool.false_eq_true,if_false,Zf,nav]
    ·simp only[Zf]; exact(Y7 kp kr _).2 hne
   ·have e1:st'.env t=filt kp kr (st.env t):=by simp only[st']; rw[Yr _ _ ht]; rfl
    have e2:SO' true t=SO true t:=by simp only[SO',if_neg ht]
    rw[e1,e2]
    have:=(h1.env t).filt kp kr hp hr
    simp only[tm']
    rw[Y1 _ _ _ _ ht]
    exact this
  ·by_cases ht:r=d
   ·subst ht
    have e2:SO' false r=nb:=by simp[SO']
    rw[e2]
    simp only[st',base',Zf]
    obtain⟨us,nS,q1,q2,q3,q4,q5⟩:=hN
    refine⟨us,nS,λj a hj=>?_,λj a hj=>?_,q3,q4,λg o e j hj=>by have hq:=q5 g o e j (by simpa[XT] using hj); rwa [<-XT kp kr] at hq⟩
    all_goals
     rw[Yq] at hj
     obtain⟨a',ha',rfl⟩:=Option.map_eq_some_iff.1 hj
    ·exact q1 j a' ha'
    ·exact leaf _ _ _ ((q2 j a' ha').keep (Sub.rfl' _) (XN.refl _ _) (λ_ _ h=>h.elim) (λ_ _ _ _ _ h=>h.elim) (Sub.rfl' _) (XN.refl _ _))
   ·have e1:st'.bx r=XR kp kr (st.bx r):=by simp only[st']; rw[Yr _ _ ht]; rfl
    have e2:SO' false r=SO false r:=by simp only[SO',if_neg ht]
    have e3:base' r=base r:=Yr _ _ ht
    rw[e1,e2,e3]
    obtain⟨vs2,Sf2,c1,c2,c3,c4,c5⟩:=h1.bx r
    refine⟨vs2,Sf2,λj a hj=>?_,λj a hj=>?_,c3,c4,λg oo e j hj=>by have hq:=c5 g oo e j (by simpa[XT] using hj); rwa [<-XT kp kr] at hq⟩
    all_goals
     rw[Yq] at hj
     obtain⟨a',ha',rfl⟩:=Option.map_eq_some_iff.1 hj
    ·exact c1 j a' ha'
    ·exact leaf _ _ _ (c2 j a' ha')
  ·have hnb:∀e r,XY nb (SO e r):=hsp.dis
   intro e r e' r' hne'
   simp only[SO']
   by_cases c1:r=d
   ·by_cases c2:r'=d
    ·rw[if_pos c1,if_pos c2]
     cases e<;>cases e'<;>simp
     ·exact absurd ⟨rfl,c1.trans c2.symm⟩ hne'
     ·exact XM _
     ·exact Xh _
     ·exact Xh _
    ·rw[if_pos c1,if_neg c2]
     cases e<;>simp
     ·exact hnb _ _
     ·exact Xh _
   ·rw[if_neg c1]
    by_cases c2:r'=d
    ·rw[if_pos c2]
     cases e'<;>simp
     ·exact(hnb _ _).symm
     ·exact XM _
    ·rw[if_neg c2]; exact h.dis e r e' r' hne'
  ·intro e r
   simp only[SO']
   split
   ·cases e<;>simp
    ·exact hsp.disI
    ·exact Xh _
   ·exact h.disI e r
  ·intro e r g k hS
   simp only[SO'] at hS
   split at hS
   ·cases e<;>simp at hS
    ·exact hsp.ins g k hS
    ·exact hS.elim
   ·exact h.inS e r g k hS
  ·intro e r g k hS
   simp only[SO'] at hS
   split at hS
   ·cases e<;>simp at hS
    ·exact hsp.from_ g k hS
    ·exact hS.elim
   ·exact h.fromS e r g k hS
 refine⟨SO',?_,λe r b k hb=>?_⟩
 rotate_left
 ·simp only[SO'] at hb
  split at hb
  ·cases e
   ·exact .inr hb
   ·exact hb.elim
  ·exact .inl hb
 unfold Vm.newBox
 split
 ·rename_i hemp
  have hemp':st.bx d=[]:=by simpa using hemp
  have:=gen all all (λq ad _ hq hx=>by
   obtain⟨_,⟨row,k3⟩,k4⟩:=hq
   by_cases hpath:q.path=[]
   ·rw[hx.2] at k4; exact(k4 hpath).2 hemp'
   ·obtain⟨⟨c,i,z⟩,ps,hps⟩:=List.exists_cons_of_ne_nil hpath
    rw[hps,hx.1,hx.2] at k3
    simp only[Xa,Bool.false_eq_true,if_false,hemp'] at k3
    rw[ZG] at k3; cases k3) (λq z lo n v _ hq hx=>by
   obtain⟨_,row,k3,k4⟩:=hq
   rw[hx.1,hx.2] at k3
   simp only[Xa,Bool.false_eq_true,if_false,hemp'] at k3
   cases hpath:q.path with
   | nil=>rw[hpath] at k3; simp only[nav,Option.some.injEq] at k3; subst k3; simp at k4
   | cons x ps=>obtain⟨c,i,z⟩:=x; rw[hpath,ZG] at k3; cases k3)
  rw[St.filt_id,filtL_id] at this
  exact this
 ·exact gen _ _ (λq ad hk _=>XZ.1 hk) (λq z lo n v hk _=>XZ.1 hk)
end Go.Vm
