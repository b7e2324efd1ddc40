/- A part of a reflected evaluator of the program's code, and the proof that what it computes is what the machine does. -/
import GoSem.Step
import Derived.Laws.World
import Derived.Laws.Sem
import Derived.Below
import Derived.Calls
set_option linter.unusedVariables false
set_option linter.unusedSimpArgs false
set_option autoImplicit false
set_option linter.defProp false
namespace Go.Vm
inductive Tag | ro | app | mut
 deriving DecidableEq
structure Pl where
 e:Bool
 r:Nat
 path:List (Nat×Nat×Nat)
 c:Nat
 deriving DecidableEq
inductive AV where
 | u
 | no
 | ub
 | b (x:Bool)
 | i (k:IntKind) (n:Int)
 | s (x:ByteArray)
 | nil
 | sl (t:Tag) (z:Nat) (es:List (List AV))
 | rf (pl:Pl) (z lo n:Nat)
 | p (pl:Pl)
 | pr (cs:List AV)
 | pn
 | fn (f:Nat) (cs:List AV)
 | fs (es:List AV)
 | agg (cs:List AV)
 | tup (vs:List AV)
 deriving Inhabited
structure St where
 env:Nat->AV
 bx:Nat->List AV
def upd{α:Type}(f:Nat->α)(t:Nat)(v:α):Nat->α:=λx=>if x=t then v else f x
inductive TI
 | bool | int (k:IntKind) | str | ptr | fn
 | slice (z bytes:Nat) (zero:List AV)
 | struct (size:Nat) (flds:List (Nat×Nat×Bool×Nat)) (zero:List AV)
 | array (n z:Nat) (ag:Bool) (zero:List AV)
 deriving Inhabited
def TI.size:TI->Nat
 | .struct n _ _=>n
 | .array n z _ _=>n*z
 | _=>1
def TI.ag:TI->Bool
 | .struct ..=>true
 | .array ..=>true
 | _=>false
def TI.z:TI->Nat
 | .slice z _ _=>z
 | _=>0
def TI.zero:TI->List AV
 | .bool=>[.b false]
 | .int k=>[.i k 0]
 | .str=>[.s ⟨#[]⟩]
 | .ptr=>[.pn]
 | .fn=>[.u]
 | .slice z _ _=>[.sl .mut z []]
 | .struct _ _ z=>z
 | .array _ _ _ z=>z
inductive Md
 | ro (n:Nat)
 | rw(n:Nat)
 | mv
structure FS where
 md:List Md
 F:List AV->Option (AV×List AV)
 wk:Bool:=false
inductive XaY
 | done
 | take (i:Nat) (p:XaY)
 | one (i:Nat) (p:XaY)
 | alt (i:Nat) (p q:XaY)
structure Cx where
 T:TypeId->Option TI
 fns:Nat->Option FS
 cuts:Nat->List (Option (List Nat))
 rg:Nat->Option (List Nat×List Nat)
 live:Nat->Option (List Nat×List Nat)
 out:Nat->Option (List Nat×List Nat)
 rets:Option (List Nat×List Nat)
 al:List Nat
 plan:Nat->Option XaY:=λ_=>none
 fz:List Nat:=[]
 eqs:TypeId->Option (List Nat):=λ_=>none
 rounds:Nat
 nz:Bool:=false
 ws:Nat->List (Bool×Nat×Nat):=λ_=>[]
def Xep:Value->AV
 | .bool x=>.b x
 | .int k n=>.i k n
 | .string x=>.s x
 | .slice none 0 0=>.nil
 | .pointer none=>.pn
 | _=>.u
def fix(z:Nat):AV->AV
 | .nil=>if z=0 then .nil else .sl .mut z []
 | a=>a
def zOf(cx:Cx)(t:TypeId):Nat:=match cx.T t with
 | some ti=>ti.z
 | none=>0
def cellsOf:AV->List AV
 | .agg cs=>cs
 | a=>[a]
def Xa(st:St)(e:Bool)(r:Nat):List AV:=if e then cellsOf (st.env r) else st.bx r
def YC(cs:List AV)(c i z:Nat):Option (Tag×List AV):=match cs[c]? with
 | some (.sl t z' es)=>if z'=z then match es[i]? with
   | some row=>some (t,row)
   | none=>none
  else none
 | _=>none
def nav:List AV->List (Nat×Nat×Nat)->Option (List AV)
 | cs,[]=>some cs
 | cs,(c,i,z) :: ps=>match YC cs c i z with
  | some (_,row)=>nav row ps
  | none=>none
def wrt:List AV->List (Nat×Nat×Nat)->Bool
 | _,[]=>true
 | cs,(c,i,z) :: ps=>match YC cs c i z with
  | some (.mut,row)=>wrt row ps
  | _=>false
def XG:List AV->List (Nat×Nat×Nat)->List AV->List AV
 | _,[],new=>new
 | cs,(c,i,_) :: ps,new=>match cs[c]? with
  | some (.sl t z es)=>cs.set c (.sl t z (es.set i (XG (es.getD i []) ps new)))
  | _=>cs
def node(st:St)(pl:Pl):Option (List AV):=nav (Xa st pl.e pl.r) pl.path
def Xz(st:St)(pl:Pl):Bool:=wrt (Xa st pl.e pl.r) pl.path
def Zs(a:AV)(cs:List AV):AV:=match a with
 | .agg _=>.agg cs
 | _=>cs.headD .u
def Xi(st:St)(pl:Pl)(new:List AV):St :=
 if pl.e then{st with env:=upd st.env pl.r (Zs (st.env pl.r) (XG (Xa st true pl.r) pl.path new))}
 else{st with bx:=upd st.bx pl.r (XG (st.bx pl.r) pl.path new)}
mutual
def filt(kp kr:Pl->Bool):AV->AV
 | .p q=>if kp q then .p q else .u
 | .rf q z lo m=>if kr q then .rf q z lo m else .u
 | .agg cs=>.agg (XR kp kr cs)
 | .tup cs=>.tup (XR kp kr cs)
 | .fn f cs=>.fn f (XR kp kr cs)
 | .fs cs=>.fs (XR kp kr cs)
 | a=>a
def XR(kp kr:Pl->Bool):List AV->List AV
 | []=>[]
 | a :: l=>filt kp kr a :: XR kp kr l
end
def St.filt(st:St)(kp kr:Pl->Bool):St:=⟨λt=>Vm.filt kp kr (st.env t),λt=>XR kp kr (st.bx t)⟩
def Xq:List (Nat×Nat×Nat)->Nat->Nat->List (Nat×Nat×Nat)->Bool
 | [],c,n,(c',_,_) :: _=>decide (c<=c')&&decide (c'<c+n)
 | [],_,_,[]=>false
 | _ :: _,_,_,[]=>false
 | (a,b,_) :: ps,c,n,(a',b',_) :: qs=>a==a'&&b==b'&&Xq ps c n qs
def YV:List (Nat×Nat×Nat)->List (Nat×Nat×Nat)->Bool
 | [],[]=>true
 | (a,b,_) :: ps,(a',b',_) :: qs=>a==a'&&b==b'&&YV ps qs
 | _,_=>false
def keepP(e:Bool)(r:Nat)(path:List (Nat×Nat×Nat))(c n:Nat)(q:Pl):Bool:=!(q.e==e&&q.r==r&&Xq path c n q.path)
def keepR(e:Bool)(r:Nat)(path:List (Nat×Nat×Nat))(c n:Nat)(q:Pl):Bool :=
 !(q.e==e&&q.r==r&&(Xq path c n q.path||(YV path q.path&&decide (c<=q.c)&&decide (q.c<c+n))))
def St.cut(st:St)(pl:Pl)(n:Nat):St:=st.filt (keepP pl.e pl.r pl.path pl.c n) (keepR pl.e pl.r pl.path pl.c n)
def Xu(e:Bool)(r:Nat)(q:Pl):Bool:=!(q.e==e&&q.r==r)
def St.dropRoot(st:St)(e:Bool)(r:Nat):St:=st.filt (Xu e r) (Xu e r)
def Zo:AV->Bool
 | .sl ..=>true
 | _=>false
def Yp:AV->Bool
 | .sl ..=>true
 | .agg cs=>cs.any Zo
 | _=>false
def St.put(st:St)(d:Nat)(v:AV):St :=
 if Yp (st.env d) then let s:=st.dropRoot true d; ⟨upd s.env d (Vm.filt (Xu true d) (Xu true d) v),s.bx⟩ else⟨upd st.env d v,st.bx⟩
def St.put?(st:St)(d:Option Nat)(v:AV):St:=match d with
 | some d=>st.put d v
 | none=>st
def XA(pl:Pl):AV->AV
 | .sl .app z es=>.rf pl z 0 es.length
 | .sl .mut z es=>.rf pl z 0 es.length
 | a=>a
def X7(pl:Pl):Nat->List AV->List AV
 | _,[]=>[]
 | j,a :: r=>XA {pl with c:=j} a :: X7 pl (j+1) r
def viewTmp(st:St)(x:Nat):AV:=match st.env x with
 | .agg cs=>.agg (X7 ⟨true,x,[],0⟩ 0 cs)
 | .tup _=>.u
 | a=>XA ⟨true,x,[],0⟩ a
def view(st:St):Operand->AV
 | .tmp x=>viewTmp st x
 | .const v=>Xep v
 | .func f=>.fn f []
 | .global _=>.u
def takeRf(st:St)(pl:Pl)(z lo n:Nat):Option (AV×St) :=
 match node st pl with
 | some cells=>match cells[pl.c]? with
  | some (.sl t z' es) =>
   if lo+n<=es.length/\z=z' then
    match t with
    | .ro=>some (.sl .ro z ((es.drop lo).take n),st)
    | .mut=>if Xz st pl then some (.sl .mut z ((es.drop lo).take n),(Xi st pl (cells.set pl.c .u)).cut pl 1) else none
    | .app=>if Xz st pl&&decide (lo+n=es.length) then some (.sl .app z ((es.drop lo).take n),Xi st pl (cells.set pl.c (.sl .ro z es)))
     else some (.sl .ro z ((es.drop lo).take n),st)
   else none
  | _=>none
 | none=>none
def XX(st:St):AV->Option (AV×St)
 | .rf pl z lo n=>takeRf st pl z lo n
 | .tup _=>none
 | a=>some (a,st)
def Xcf:AV->Bool
 | .rf ..=>true
 | _=>false
def gone(_:Pl):Bool:=false
def takeL:St->List AV->Option (List AV×St)
 | st,[]=>some ([],st)
 | st,a :: l=>match XX st a with
  | some (a',st1)=>match takeL st1 l with
   | some (l',st2)=>some (Vm.filt gone gone a' :: l',st2)
   | none=>none
  | none=>none
def takeVal(st:St):AV->Option (AV×St)
 | .agg cs=>if cs.any Xcf then(match takeL st cs with
  | some (cs',st')=>some (.agg cs',st')
  | none=>none) else some (.agg cs,st)
 | a=>XX st a
def clear(st:St)(x:Nat):St:=let s:=st.dropRoot true x; ⟨upd s.env x .u,s.bx⟩
def take(st:St):Operand->Option (AV×St)
 | .tmp x=>if Yp (st.env x) then takeVal (clear st x) (Vm.filt (Xu true x) (Xu true x) (st.env x)) else takeVal st (st.env x)
 | .const v=>some (Xep v,st)
 | .func f=>some (.fn f [],st)
 | .global _=>none
def loadAt(st:St)(ti:TI):AV->Option AV
 | .p pl=>match node st pl with
  | some cells =>
   if pl.c+ti.size<=cells.length then
    if ti.ag then some (.agg (X7 pl pl.c ((cells.drop pl.c).take ti.size))) else some (XA pl (cells.getD pl.c .u))
   else none
  | none=>none
 | .pr cs=>if ti.size<=cs.length then(if ti.ag then some (.agg (cs.take ti.size)) else some (cs.getD 0 .u)) else none
 | _=>none
def QJ:AV->Bool
 | .no=>false
 | .rf ..=>false
 | .agg _=>false
 | .tup _=>false
 | .fn ..=>false
 | .fs _=>false
 | _=>true
def XK:AV->Bool
 | .p _=>false
 | a=>QJ a
def top:AV->Bool
 | .u=>false
 | .no=>false
 | .tup _=>false
 | _=>true
def setCells(st:St)(pl:Pl)(n:Nat)(vs:List AV):Option St :=
 match node st pl with
 | some cells =>
  if Xz st pl&&decide (vs.length=n)&&decide (pl.c+n<=cells.length)&&vs.all (if pl.path.isEmpty then QJ else XK) then
   (if((cells.drop pl.c).take n).any Zo then some ((Xi st pl (cells.take pl.c++vs++cells.drop (pl.c+n))).cut pl n)
   else some (Xi st pl (cells.take pl.c++vs++cells.drop (pl.c+n))))
  else none
 | none=>none
def storeAt(st:St)(ti:TI)(a v:AV):Option St:=match a with
 | .p pl=>if top v then setCells st pl ti.size (cellsOf (fix ti.z v)) else none
 | _=>none
def XaZ(zero:List AV):List (Nat×List AV)->List AV
 | []=>zero
 | (off,vs) :: r=>XaZ (zero.take off++vs++zero.drop (off+vs.length)) r
def XC(st:St):AV->Option (List (List AV))
 | .nil=>some []
 | .sl _ _ es=>some es
 | .rf pl z lo n=>match node st pl with
  | some cells=>match cells[pl.c]? with
   | some (.sl _ z' es)=>if lo+n<=es.length/\z=z' then some ((es.drop lo).take n) else none
   | _=>none
  | none=>none
 | _=>none
mutual
def strip:AV->AV
 | .sl _ z es=>.sl .ro z (XH es)
 | .p _=>.u
 | .rf _ _ _ _=>.u
 | .agg _=>.u
 | .tup _=>.u
 | .fn _ _=>.u
 | .fs _=>.u
 | .no=>.u
 | a=>a
def Yz:List AV->List AV
 | []=>[]
 | a :: l=>strip a :: Yz l
def XH:List (List AV)->List (List AV)
 | []=>[]
 | a :: l=>Yz a :: XH l
end
mutual
def XW:AV->Bool
 | .sl .mut _ es=>X8 es
 | .sl _ _ _=>true
 | .pr _=>true
 | .agg cs=>X4 cs
 | .tup cs=>X4 cs
 | .fn _ _=>true
 | .fs _=>true
 | _=>false
def X4:List AV->Bool
 | []=>false
 | a :: l=>XW a||X4 l
def X8:List (List AV)->Bool
 | []=>false
 | a :: l=>X4 a||X8 l
end
def plain:AV->Bool
 | .b _=>true
 | .i _ _=>true
 | .s _=>true
 | .pn=>true
 | .sl .ro _ _=>true
 | _=>false
def Xc9(op:BinOp)(k:IntKind)(a b:Int):Option AV :=
 match op with
 | .add=>some (.i k (k.wrap (a+b)))
 | .sub=>some (.i k (k.wrap (a-b)))
 | .mul=>some (.i k (k.wrap (a*b)))
 | .quo=>if b=0 then none else some (.i k (k.wrap (a.tdiv b)))
 | .rem=>if b=0 then none else some (.i k (a.tmod b))
 | .eql=>some (.b (a==b))
 | .neq=>some (.b (a !=b))
 | .lss=>some (.b (decide (a<b)))
 | .leq=>some (.b (decide (a<=b)))
 | .gtr=>some (.b (decide (a>b)))
 | .geq=>some (.b (decide (a>=b)))
 | _=>none
def Xiv(op:BinOp)(a b:ByteArray):Option AV :=
 match op with
 | .add=>if a.size+b.size<=9223372036854775807 then some (.s (a++b)) else none
 | .eql=>some (.b (a.toList==b.toList))
 | .neq=>some (.b !(a.toList==b.toList))
 | .lss=>some (.b (Op.bytesLess a.toList b.toList))
 | .leq=>some (.b (Op.bytesLess a.toList b.toList||(a.toList==b.toList)))
 | .gtr=>some (.b !(Op.bytesLess a.toList b.toList||(a.toList==b.toList)))
 | .geq=>some (.b !(Op.bytesLess a.toList b.toList))
 | _=>none
def eqB(op:BinOp)(e:Bool):Option AV:=match op with
 | .eql=>some (.b e)
 | .neq=>some (.b !e)
 | _=>none
def U0(ti:Option TI)(op:BinOp)(n:Nat):Option AV:=match ti with
 | some (.slice _ _ _)=>if 0<n then eqB op false else(match op with
  | .eql=>some .ub
  | .neq=>some .ub
  | _=>none)
 | _=>none
def bin(ti:Option TI)(op:BinOp)(x y:AV):Option AV:=match x,y with
 | .sl _ _ es,.nil=>U0 ti op es.length
 | .rf _ _ _ n,.nil=>U0 ti op n
 | .i k a,.i k' b=>if k=k' then Xc9 op k a b else none
 | .s a,.s b=>Xiv op a b
 | .b a,.b b=>match ti with
  | some .bool=>eqB op (a==b)
  | _=>none
 | .p _,.pn=>match ti with
  | some .ptr=>eqB op false
  | _=>none
 | .pr _,.pn=>match ti with
  | some .ptr=>eqB op false
  | _=>none
 | .pn,.pn=>match ti with
  | some .ptr=>eqB op true
  | _=>none
 | _,_=>none
def X0:List Nat->List AV->List AV->Option Bool
 | [],[],[]=>some true
 | 0 :: ks,.b x :: a,.b y :: b=>match X0 ks a b with
  | some e=>some (x==y&&e)
  | none=>none
 | 1 :: ks,.i k x :: a,.i k' y :: b=>if k=k' then(match X0 ks a b with
  | some e=>some (x==y&&e)
  | none=>none) else none
 | 2 :: ks,.s x :: a,.s y :: b=>match X0 ks a b with
  | some e=>some (x.toList==y.toList&&e)
  | none=>none
 | _,_,_=>none
def Xfo(E:Option (List Nat))(op:BinOp)(a b:List AV):Option AV:=match E with
 | some ks=>match X0 ks a b with
  | some e=>eqB op e
  | none=>none
 | none=>none
def Xa0(T:Option TI)(E:Option (List Nat))(op:BinOp)(x y:AV):Option AV:=match x with
 | .agg a=>(match y with
  | .agg b=>Xfo E op a b
  | _=>none)
 | x=>bin T op x y
def unV(op:UnOp)(a:AV):Option AV:=match op,a with
 | .not,.b x=>some (.b !x)
 | .neg,.i k n=>some (.i k (k.wrap (0-n)))
 | _,_=>none
def YY(n:Nat)(i:Int):Option Nat:=if 0<=i/\i<n then some i.toNat else none
def lenOf(st:St):AV->Option Nat
 | .fs es=>some es.length
 | a=>match XC st a with
  | some es=>some es.length
  | none=>none
def Xk0:AV->Option Nat
 | .s x=>some x.size
 | _=>none
def XkE(st:St)(ti:TI)(a:AV):Option Nat:=match ti with
 | .str=>Xk0 a
 | .slice _ _ _=>lenOf st a
 | _=>none
def Z4(d n:Nat):Option AV->Option Nat
 | none=>some d
 | some (.i _ l)=>if 0<=l/\l<=n then some l.toNat else none
 | _=>none
def Zt(x:AV)(lo hi:Option AV):Option AV :=
 match x with
 | .s b=>match Z4 b.size b.size hi with
  | some h=>match Z4 0 h lo with
   | some l=>some (.s (b.extract l h))
   | none=>none
  | none=>none
 | .sl .ro z es=>match Z4 es.length es.length hi with
  | some h=>match Z4 0 h lo with
   | some l=>some (.sl .ro z ((es.drop l).take (h-l)))
   | none=>none
  | none=>none
 | .rf pl z o n=>match Z4 n n hi with
  | some h=>match Z4 0 h lo with
   | some l=>some (.rf pl z (o+l) (h-l))
   | none=>none
  | none=>none
 | _=>none
def Us(ti:TI)(x:AV)(lo hi:Option AV):Option AV:=match ti,x with
 | .str,.s b=>Zt (.s b) lo hi
 | .slice z' _ _,.sl t z es=>if z'=z then Zt (.sl t z es) lo hi else none
 | .slice z' _ _,.rf pl z o n=>if z'=z then Zt (.rf pl z o n) lo hi else none
 | _,_=>none
def indexAddr(st:St)(z:Nat)(x:AV)(i:Int):Option AV :=
 match x with
 | .sl .ro z' es=>if z=z' then match YY es.length i with
   | some j=>some (.pr (es.getD j []))
   | none=>none
  else none
 | .fs es=>if z=1 then match YY es.length i with
   | some j=>some (.pr [Vm.filt gone gone (es.getD j .u)])
   | none=>none
  else none
 | .rf pl zr lo n=>match node st pl with
  | some cells=>match cells[pl.c]? with
   | some (.sl t z' es)=>if(z=z'/\zr=z)/\lo+n<=es.length then match YY n i with
    | some j=>match t with
     | .mut=>some (.p ⟨pl.e,pl.r,pl.path++[(pl.c,lo+j,z)],0⟩)
     | _=>some (.pr (Yz (es.getD (lo+j) [])))
    | none=>none
    else none
   | _=>none
  | none=>none
 | _=>none
def Y6(bytes:Nat)(t:Tag)(z:Nat)(es new:List (List AV)):Option AV:=match t with
 | .ro=>none
 | t=>if(es.length+new.length)*bytes<=140737488355328 then some (.sl t z (es++new)) else none
def bytesRow(b:ByteArray):List (List AV):=b.toList.map λc=>[.i .u8 c.toNat]
def XI(st:St)(z:Nat):AV->Option (List (List AV))
 | .nil=>some []
 | .sl t y es=>if y=z then XC st (.sl t y es) else none
 | .rf pl y lo n=>if y=z then XC st (.rf pl y lo n) else none
 | _=>none
def Xap(bytes:Nat)(z:Nat)(es:List (List AV)):Tag->Option (AV×St)->Option (AV×St)
 | .mut,some (.sl .mut z' zs,st2)=>if z=z' then(match Y6 bytes .mut z es zs with
  | some v=>some (v,st2)
  | none=>none) else none
 | _,_=>none
def Q3(bytes:Nat)(st1:St)(t:Tag)(z:Nat)(es:List (List AV))(y:Operand):Option (List (List AV))->Option (AV×St)
 | some ys=>if ys.all (·.all plain) then(match Y6 bytes t z es ys with
   | some v=>some (v,st1)
   | none=>none)
  else Xap bytes z es t (take st1 y)
 | none=>none
def Ut(bytes:Nat)(st1:St)(t:Tag)(z:Nat)(es:List (List AV))(b:ByteArray):Option (AV×St) :=
 if z=1 then(match Y6 bytes t z es (bytesRow b) with
  | some v=>some (v,st1)
  | none=>none)
 else none
def Xd3(bytes:Nat)(st1:St)(t:Tag)(z:Nat)(es:List (List AV))(y:Operand):AV->Option (AV×St)
 | .s b=>Ut bytes st1 t z es b
 | yv=>Q3 bytes st1 t z es y (XI st1 z yv)
def XbP(st:St)(z bytes:Nat)(x y:Operand):Option (AV×St) :=
 match take st x with
 | some (xv,st1)=>match fix z xv with
  | .sl t z' es=>if z=z' then Xd3 bytes st1 t z es y (view st1 y) else none
  | _=>none
 | none=>none
def Md.isRw:Md->Bool
 | .rw _=>true
 | _=>false
def YZ:Md->Bool
 | .ro _=>true
 | _=>false
def Md.isMv:Md->Bool
 | .mv=>true
 | _=>false
def YA:AV->Bool
 | .b _=>true
 | .i _ _=>true
 | .s _=>true
 | .pn=>true
 | .pr _=>true
 | .sl .ro _ _=>true
 | _=>false
def Qi:AV->Bool
 | .fn _ cs=>cs.all YA
 | a=>YA a
def XL:AV->Bool
 | .agg cs=>cs.all XK
 | .fn _ cs=>cs.all YA
 | a=>XK a
def XnB(cx:Cx)(t:TypeId)(a:AV):Operand->AV
 | .const _=>a
 | _=>fix (zOf cx t) a
def Xcg(cx:Cx):List TypeId->List Operand->List AV->List AV
 | t :: ts,x :: xs,a :: as=>XnB cx t a x :: Xcg cx ts xs as
 | _,_,as=>as
def fnV(f:AV)(args:List AV):Option (Nat×List AV):=match f with
 | .fn g caps=>some (g,args++caps)
 | _=>none
def Qj(cx:Cx)(st:St)(f:Operand)(ts:List TypeId)(xs:List Operand):Option (Nat×List AV):=fnV (view st f) (Xcg cx ts xs (xs.map (view st)))
def weakLeaf(st:St):AV->Option St
 | .rf pl z' _ _=>match node st pl with
  | some cells=>match cells[pl.c]? with
   | some (.sl .mut z es)=>if z'=z then(if Xz st pl then some ((Xi st pl (cells.set pl.c (.sl .app z (XH es)))).filt (keepP pl.e pl.r pl.path pl.c 1) (keepP pl.e pl.r pl.path pl.c 1)) else none) else none
   | _=>some st
  | none=>some st
 | .p _=>none
 | .fn _ _=>none
 | .fs _=>none
 | .tup _=>none
 | .agg _=>none
 | _=>some st
def Zu(x:Operand):Nat->Nat->St->Option St
 | 0,_,st=>some st
 | n+1,j,st=>match view st x with
  | .agg cs=>match cs[j]? with
   | some a=>match weakLeaf st a with
    | some st'=>Zu x n (j+1) st'
    | none=>none
   | none=>none
  | _=>none
def weakArg(st:St)(x:Operand):Option St:=match view st x with
 | .agg cs=>Zu x cs.length 0 st
 | a=>weakLeaf st a
def weakAll:St->List Md->List Operand->Option St
 | st,m :: ms,x :: xs=>match m with
  | .ro _=>(match weakArg st x with
   | some st'=>weakAll st' ms xs
   | none=>none)
  | _=>weakAll st ms xs
 | st,_,_=>some st
def ZO(av:Option (Bool×Nat))(q:Pl):Bool:=match av with
 | some (e,r)=>Xu e r q
 | none=>true
mutual
def Xm(own:Bool)(av:Option (Bool×Nat))(st:St):Nat->AV->Option AV
 | _,.sl _ z es=>some (.sl .ro z (XH es))
 | _,.rf pl z lo n=>if ZO av pl=true then(match node st pl with
  | some cells=>match cells[pl.c]? with
   | some (.sl t z' es)=>if(lo+n<=es.length/\z=z')/\(own=true\/t≠.mut) then some (.sl .ro z (XH ((es.drop lo).take n))) else none
   | _=>none
  | none=>none) else none
 | d+1,.p pl=>if(own&&ZO av pl&&Xz st pl)=true then(match node st pl with
  | some cells=>match Xs own av st d (cells.drop pl.c) with
   | some cs=>some (.pr cs)
   | none=>none
  | none=>none) else none
 | d+1,.fn f cs=>match Xs own av st d cs with
  | some cs=>some (.fn f cs)
  | none=>none
 | d+1,.fs cs=>match Xs own av st d cs with
  | some cs=>some (.fs cs)
  | none=>none
 | _,.b x=>some (.b x)
 | _,.i k n=>some (.i k n)
 | _,.s x=>some (.s x)
 | _,.pn=>some .pn
 | _,.nil=>some .nil
 | _,.pr cs=>some (.pr cs)
 | _,.u=>some .u
 | _,.ub=>some .ub
 | _,_=>none
def Xs(own:Bool)(av:Option (Bool×Nat))(st:St):Nat->List AV->Option (List AV)
 | _,[]=>some []
 | d,a :: l=>match Xm own av st d a with
  | some a'=>match Xs own av st d l with
   | some l'=>some (a' :: l')
   | none=>none
  | none=>none
end
def Zv(own:Bool)(av:Option (Bool×Nat))(st:St):AV->Option AV
 | .agg cs=>match Xs own av st 8 cs with
  | some cs=>some (.agg cs)
  | none=>none
 | a=>Xm own av st 8 a
def Ze:AV->Bool
 | .agg _=>false
 | _=>true
def UN(st:St)(pl:Pl):Bool:=pl.e&&pl.path.isEmpty&&Ze (st.env pl.r)
def outLeaf(st:St):AV->Option ((AV×Option (Pl×Bool))×St)
 | .rf pl z' lo n=>match node st pl with
  | some cells=>match cells[pl.c]? with
   | some (.sl .mut z es)=>if(lo=0/\n=es.length)/\z'=z then(if Xz st pl=true then some ((.sl .mut z es,some (pl,UN st pl)),(Xi st pl (cells.set pl.c .u)).cut pl 1) else none) else none
   | _=>none
  | none=>none
 | a=>if XK a=true then some ((a,none),st) else none
def Zx(x:Operand):Nat->Nat->St->Option ((List AV×List (Option (Pl×Bool)))×St)
 | 0,_,st=>some (([],[]),st)
 | n+1,j,st=>match view st x with
  | .agg cs=>match cs[j]? with
   | some a=>match outLeaf st a with
    | some (y,st')=>match Zx x n (j+1) st' with
     | some (ys,st'')=>some ((y.1 :: ys.1,y.2 :: ys.2),st'')
     | none=>none
    | none=>none
   | none=>none
  | _=>none
def outArg(z:Nat)(st:St)(x:Operand):Option ((AV×List (Option (Pl×Bool)))×St):=match view st x with
 | .agg cs=>match Zx x cs.length 0 st with
  | some (ys,st')=>some ((.agg ys.1,ys.2),st')
  | none=>none
 | a=>match outLeaf st (fix z a) with
  | some (y,st')=>some ((y.1,[y.2]),st')
  | none=>none
def XO(cx:Cx):St->List Md->List TypeId->List Operand->Option (List (AV×List (Option (Pl×Bool)))×St)
 | st,m :: ms,t :: ts,x :: xs=>if m.isMv=true then(match outArg (zOf cx t) st x with
   | some (y,st')=>match XO cx st' ms ts xs with
    | some (ys,st'')=>some (y :: ys,st'')
    | none=>none
   | none=>none)
  else(match XO cx st ms ts xs with
   | some (ys,st'')=>some ((.u,[]) :: ys,st'')
   | none=>none)
 | st,_,_,_=>some ([],st)
def Xfp(st:St):Option (Pl×Bool)->Bool
 | none=>true
 | some (pl,true)=>true
 | some (pl,false)=>(!pl.e||top (st.env pl.r))&&(match node st pl with
  | some cells=>decide (pl.c<cells.length)
  | none=>false)
def XB(st:St)(a:AV):Option (Pl×Bool)->Option St
 | none=>some st
 | some (pl,f)=>match a with
  | .sl t z es=>(match f with
   | true=>(match st.env pl.r with
    | .u=>some (st.put pl.r (.sl t z es))
    | _=>none)
   | false=>(match node st pl with
    | some cells=>match cells[pl.c]? with
     | some .u=>if Xz st pl&&(!pl.e||top (st.env pl.r)) then some (Xi st pl (cells.set pl.c (.sl t z es))) else none
     | _=>none
    | none=>none))
  | _=>some st
def XV:St->List AV->List (Option (Pl×Bool))->Option St
 | st,a :: as,p :: ps=>match XB st a p with
  | some st'=>XV st' as ps
  | none=>none
 | st,[],[]=>some st
 | _,_,_=>none
def Xfq:AV->Bool
 | .u=>true
 | _=>false
def XS:St->List AV->List (AV×List (Option (Pl×Bool)))->Option St
 | st,o :: os,y :: ys=>match y.2 with
  | []=>XS st os ys
  | _=>(match Xfq o with
   | true=>XS st os ys
   | false=>(match XV st (cellsOf o) y.2 with
    | some st'=>XS st' os ys
    | none=>none))
 | st,_,_=>some st
def QK(own:Bool)(av:Option (Bool×Nat))(st:St)(m:Md)(a:AV)(y:AV×List (Option (Pl×Bool))):Option AV:=match m with
 | .ro _=>Zv own av st a
 | .mv=>some y.1
 | .rw n=>match a with
  | .p pl=>match node st pl with
   | some cells=>if(Xz st pl&&decide (pl.c+n<=cells.length)&&((cells.drop pl.c).take n).all XK)=true then some (.agg ((cells.drop pl.c).take n)) else none
   | none=>none
  | _=>none
def Ym(own:Bool)(av:Option (Bool×Nat))(st:St):List Md->List AV->List (AV×List (Option (Pl×Bool)))->Option (List AV)
 | [],[],_=>some []
 | m :: ms,a :: as,ys=>match QK own av st m a (ys.headD (.u,[])) with
  | some b=>match Ym own av st ms as ys.tail with
   | some l=>some (b :: l)
   | none=>none
  | none=>none
 | _,_,_=>none
def Xa1:Nat->List Md->Option (Nat×Nat)
 | k,.rw n :: _=>some (k,n)
 | k,_ :: ms=>Xa1 (k+1) ms
 | _,[]=>none
def Xa2:Nat->List Md->Bool
 | 0,_ :: ms=>ms.all YZ
 | k+1,.ro _ :: ms=>Xa2 k ms
 | _,_=>false
def Xbe(cx:Cx)(st:St)(fs:FS)(as:List AV)(k n:Nat)(pl:Pl):Option (AV×St) :=
 match Ym (!fs.wk) (some (pl.e,pl.r)) st fs.md as [] with
 | some bs=>match fs.F bs with
  | some (r,os)=>match os[k]? with
   | some (.agg cs)=>match node st pl with
    | some cells=>some (r,(Xi st pl (cells.take pl.c++cs++cells.drop (pl.c+n))).cut pl n)
    | none=>none
   | _=>none
  | none=>none
 | none=>none
def sameI:List AV->List AV->Bool
 | [],[]=>true
 | .i k a :: r,.i k' b :: r'=>decide (k=k'/\a=b)&&sameI r r'
 | _,_=>false
def Xck(st:St)(fs:FS)(as:List AV)(n n2:Nat)(pl q:Pl):Option (AV×St) :=
 match Ym false (some (pl.e,pl.r)) st fs.md as [] with
 | some bs=>match fs.F bs with
  | some (r,os)=>match os with
   | .agg cs :: .agg ds :: _=>match node st pl with
    | some cells=>match node st q with
     | some dells=>if sameI ds ((dells.drop q.c).take n2)=true then some (r,(Xi st pl (cells.take pl.c++cs++cells.drop (pl.c+n))).cut pl n) else none
     | none=>none
    | none=>none
   | _=>none
  | none=>none
 | none=>none
def Xfr(st:St)(fs:FS)(as:List AV):Option (AV×St):=match fs.md with
 | .rw n :: .rw n2 :: ms=>match as with
  | .p pl :: .p q :: _=>if(fs.wk&&ms.all YZ&&(!q.e&&q.path.isEmpty&&(pl.e||!(pl.r==q.r))))=true then Xck st fs as n n2 pl q else none
  | _=>none
 | _=>none
def Xa3(cx:Cx)(st:St)(g:Nat)(fs:FS)(k n:Nat)(f:Operand)(ts:List TypeId)(xs:List Operand):Option (AV×St) :=
 match Qj cx st f ts xs with
 | some (g',as)=>if g'=g/\Xa2 k fs.md=true then(match as[k]? with
   | some (.p pl)=>Xbe cx st fs as k n pl
   | _=>none) else(if g'=g then Xfr st fs as else none)
 | none=>none
def Xfs(st:St)(fs:FS)(as:List AV)(ys:List (AV×List (Option (Pl×Bool)))):Option (AV×St) :=
 match Ym (!fs.wk) none st fs.md as ys with
 | some bs=>match fs.F bs with
  | some (r,os)=>match XS st os ys with
   | some st'=>some (r,st')
   | none=>none
  | none=>none
 | none=>none
def Xaq(cx:Cx)(st:St)(g:Nat)(fs:FS)(f:Operand)(ts:List TypeId)(xs:List Operand):Option (AV×St) :=
 match XO cx st fs.md ts xs with
 | some (ys,st2)=>match Qj cx st2 f ts xs with
  | some (g',as)=>if g'=g/\(ys.all λy=>y.2.all (Xfp st2))=true then Xfs st2 fs as ys else none
  | none=>none
 | none=>none
def Xar(cx:Cx)(st:St)(g:Nat)(fs:FS)(f:Operand)(ts:List TypeId)(xs:List Operand):Option (AV×St) :=
 match Xa1 0 fs.md with
 | some (k,n)=>Xa3 cx st g fs k n f ts xs
 | none=>Xaq cx st g fs f ts xs
def Xas(cx:Cx)(st:St)(g:Nat)(fs:FS)(f:Operand)(ts:List TypeId)(xs:List Operand):Option (AV×St) :=
 if fs.wk=true then(match weakAll st fs.md xs with
  | some st1=>Xar cx st1 g fs f ts xs
  | none=>none)
 else Xar cx st g fs f ts xs
def Uf(cx:Cx)(st:St)(f:Operand)(ts:List TypeId)(xs:List Operand):Option (AV×St) :=
 match Qj cx st f ts xs with
 | some (g,_)=>match cx.fns g with
  | some fs=>Xas cx st g fs f ts xs
  | none=>none
 | none=>none
def Y0(z:Nat):St->Nat->List (Nat×Operand)->Option (List (List AV)×St)
 | st,_,[]=>some ([],st)
 | st,i,(j,x) :: r=>if i=j then(match take st x with
  | some (v,st1)=>if(top v&&(cellsOf v).all XK)=true/\(cellsOf v).length=z then(match Y0 z st1 (i+1) r with
   | some (l,st2)=>some (cellsOf v :: l,st2)
   | none=>none) else none
  | none=>none) else none
def YP(flds:List (Nat×Nat×Bool×Nat))(st:St):List (Nat×Operand)->Option (List (Nat×List AV))
 | []=>some []
 | (i,x) :: r=>match flds[i]? with
  | some (off,n,_,z)=>if top (fix z (view st x))=true then(if(cellsOf (fix z (view st x))).length=n then match YP flds st r with
   | some l=>some ((off,cellsOf (fix z (view st x))) :: l)
   | none=>none
   else none) else none
  | none=>none
def Xat(n z:Nat)(ag:Bool):List (Nat×Nat×Bool×Nat):=(List.range n).map λi=>(i*z,z,ag,0)
def Uu(ti:TI)(f:Nat)(a:AV):Option AV:=match ti with
 | .struct _ fl _=>match fl[f]? with
  | some (off,_)=>match a with
   | .p q=>some (.p {q with c:=q.c+off})
   | .pr q=>some (.pr (q.drop off))
   | _=>none
  | none=>none
 | _=>none
def Xcl(ti:TI)(f:Nat)(a:AV):Option AV:=match ti,a with
 | .struct _ fl _,.agg cs=>match fl[f]? with
  | some (off,n,ag,_)=>if off+n<=cs.length then some (if ag then .agg ((cs.drop off).take n) else cs.getD off .u) else none
  | none=>none
 | _,_=>none
def XiZ(m:Nat)(cs:List AV)(n:Int):Option AV:=if m=cs.length then(match YY m n with
 | some j=>some (cs.getD j .u)
 | none=>none) else none
def Ug(ti:TI)(a i:AV):Option AV:=match a,i with
 | .s b,.i _ n=>match ti with
  | .str=>match YY b.size n with
   | some j=>some (.i .u8 (b.data[j]?.getD 0).toNat)
   | none=>none
  | _=>none
 | .agg cs,.i _ n=>match ti with
  | .array m z ag _=>if z=1/\ag=false then XiZ m cs n else none
  | _=>none
 | _,_=>none
def Xa4:List (List AV)->Option (List UInt8)
 | []=>some []
 | [.i .u8 n] :: r=>match Xa4 r with
  | some l=>some (UInt8.ofNat n.toNat :: l)
  | none=>none
 | _=>none
def Xda(st:St)(src dst:TI)(a:AV):Option AV:=match dst,a with
 | .int k,.i _ n=>some (.i k (k.wrap n))
 | .str,.s x=>some (.s x)
 | .str,a=>match src with
  | .slice 1 1 [.i .u8 _]=>match XC st a with
   | some es=>match Xa4 es with
    | some l=>some (.s ⟨l.toArray⟩)
    | none=>none
   | none=>none
  | _=>none
 | _,_=>none
def Xau(b:UInt8):List AV:=[.i .u8 b.toNat]
def Xk1:List AV->Bool
 | [.i .u8 _]=>true
 | _=>false
def Xcm(src:TI)(z:Nat)(zero:List AV)(a:AV):Option AV:=match src,a with
 | .str,.s b=>if z=1/\Xk1 zero=true/\b.size<=9223372036854775807 then some (.sl .mut 1 (b.data.toList.map Xau)) else none
 | _,_=>none
def Xeq(st:St)(src dst:TI)(a:AV):Option AV:=match dst with
 | .slice z _ zero=>Xcm src z zero a
 | _=>Xda st src dst a
def Xi0:Option TI->Bool
 | some (.slice _ _ _)=>true
 | _=>false
def Qk(st:St)(x:Operand)(j:Nat):Option (AV×St):=match x with
 | .tmp t=>match st.env t with
  | .tup vs=>match vs[j]? with
   | some v=>some (v,⟨upd st.env t (.tup (vs.set j .u)),st.bx⟩)
   | none=>none
  | _=>none
 | _=>none
def Xdb(f:Int->Int->Int):List AV->Option AV
 | [.i k a]=>some (.i k a)
 | .i k a :: .i _ b :: r=>Xdb f (.i k (f a b) :: r)
 | _=>none
  termination_by l=>l.length
def Xbf:TI->Bool
 | .slice _ _ _=>true
 | .str=>true
 | _=>false
def UO(ti:TI)(st:St)(x y:Operand):Option (AV×St):=match ti with
 | .slice z bytes _=>XbP st z bytes x y
 | _=>none
def Xmi(z:Nat):Option (AV×St)->Option (AV×St)
 | some (xv,st1)=>some (fix z xv,st1)
 | none=>none
def Xdc(z bytes:Nat)(zero:List AV)(n:Int):Option (AV×St)->Option (AV×St)
 | some (.sl t z' es,st1)=>if z=z'/\0<=n/\n.toNat*bytes<=140737488355328 then(match Y6 bytes t z es (List.replicate n.toNat zero) with
  | some v=>some (v,st1)
  | none=>none) else none
 | _=>none
def Q4(ti tj:TI)(st:St)(x:Operand)(n:AV):Option (AV×St):=match ti,tj,n with
 | .slice z bytes zero,.int _,.i _ n=>Xdc z bytes zero n (Xmi z (take st x))
 | _,_,_=>none
def Z5(st:St)(ti:TI)(x ix:AV):Option AV:=match ti,ix with
 | .slice z _ _,.i _ n=>indexAddr st z x n
 | _,_=>none
def Xav(ti:TI)(st:St)(parts:List (Nat×Operand)):Option AV:=match ti with
 | .struct _ fl z=>match YP fl st parts with
  | some l=>some (.agg (XaZ z l))
  | none=>none
 | .array n z ag zero=>match YP (Xat n z ag) st parts with
  | some l=>some (.agg (XaZ zero l))
  | none=>none
 | _=>none
def Xbg:AV->Bool
 | .fn ..=>true
 | _=>false
def fsV(len:Nat)(st:St):Nat->List (Nat×Operand)->Option (List AV)
 | i,(j,x) :: r=>if i=j then(if Xbg (view st x) then match fsV len st (i+1) r with
   | some l=>some (view st x :: l)
   | none=>none
  else none) else none
 | i,[]=>if i=len then some [] else none
def Zg(ti:TI)(st:St)(len:Nat)(parts:List (Nat×Operand)):Option (AV×St):=match ti with
 | .slice z _ zero=>match zero with
  | [.u]=>match fsV len st 0 parts with
   | some l=>if len<=16777216 then some (.fs l,st) else none
   | none=>none
  | _=>match Y0 z st 0 parts with
   | some (l,st')=>if l.length=len/\len*(z+1)<=16777216 then some (.sl .mut z l,st') else none
   | none=>none
 | _=>none
def Xer(ti:TI)(l c:AV):Option AV:=match ti,l,c with
 | .slice z bytes zero,.i _ n,.i _ m=>if n=m/\0<=n/\n*bytes<=140737488355328 then some (.sl .mut z (List.replicate n.toNat zero)) else none
 | _,_,_=>none
def Xes(ti:TI)(v:AV):Option (List AV):=if top v=true/\(cellsOf v).length=ti.size then some (cellsOf v) else none
def XbQ(a:AV):Option AV:=match a with
 | .p q=>some (.p q)
 | .pr q=>some (.pr q)
 | _=>none
def Yh(z lo n:Nat)(es:List (List AV)):List (List AV):=es.take lo++List.replicate n (List.replicate z .u)++es.drop (lo+n)
def U1(ti:TI)(st:St)(a:AV):Option St:=match ti,a with
 | .slice z _ _,.rf pl y lo n=>match node st pl with
  | some cells=>match cells[pl.c]? with
   | some (.sl .mut z' es)=>if((lo+n<=es.length/\z'=z)/\y=z)/\(Xz st pl&&Xfp ((Xi st pl (cells.set pl.c .u)).cut pl 1) (some (pl,UN st pl)))=true then XB ((Xi st pl (cells.set pl.c .u)).cut pl 1) (.sl .mut z (Yh z lo n es)) (some (pl,UN st pl)) else none
   | _=>none
  | none=>none
 | _,_=>none
def noD(d:Option Nat)(x:Option St):Option St:=match d with
 | none=>x
 | some _=>none
def XkF(d:Option Nat):Option (AV×St)->Option St
 | some (v,st')=>match d with
  | some d=>some (st'.put d v)
  | none=>none
 | none=>none
def newBox(st:St)(d:Nat)(cs:List AV):St :=
 if(st.bx d).isEmpty then⟨upd st.env d (.p ⟨false,d,[],0⟩),upd st.bx d cs⟩
 else let s:=st.dropRoot false d; ⟨upd s.env d (.p ⟨false,d,[],0⟩),upd s.bx d (XR (Xu false d) (Xu false d) cs)⟩
def YB(st:St)(d:Nat)(cs:List AV):Option St:=match cs with
 | []=>none
 | c :: r=>if Yp (st.env d)=true then none else some (newBox st d (c :: r))
def UK:AV->Option (List AV)
 | .tup [.agg cs]=>some cs
 | _=>none
def Z6:AV->Option (List AV×List AV)
 | .tup [.tup [.agg cs],.tup l]=>some (cs,l)
 | _=>none
def Xk2(st:St)(d:Nat)(cs l:List AV):Option St:=match YB st d cs with
 | some st'=>some (st'.put d (.tup (l++[.p ⟨false,d,[],0⟩])))
 | none=>none
def XkG(d:Option Nat)(st:St)(r:AV):Option (List AV×List AV)->Option St
 | some q=>match d with
  | some d=>Xk2 st d q.1 q.2
  | none=>none
 | none=>some (st.put? d r)
def putN(d:Option Nat)(st:St)(r:AV):Option (List AV)->Option St
 | some cs=>match d with
  | some d=>YB st d cs
  | none=>none
 | none=>XkG d st r (Z6 r)
def Xmj(d:Option Nat):Option (AV×St)->Option St
 | some (v,st')=>putN d st' v (UK v)
 | none=>none
def Ye{α β:Type}(x:Option α)(f:α->Option β):Option β:=match x with
 | some a=>f a
 | none=>none
def Xch(st:St)(d:Option Nat):Option AV->Option St
 | some v=>match d with
  | some d=>some (st.put d v)
  | none=>none
 | none=>none
def Yo(cx:Cx)(st:St)(d:Option Nat)(c:Call):Option St:=match c.callee with
 | .builtin .len=>match c.args.toList,c.argTypes.toList with
  | [x],tx :: _=>Ye (cx.T tx) λti=>Ye (XkE st ti (view st x)) λn=>Xch st d (some (.i .i64 n))
  | _,_=>none
 | .builtin .append=>match c.args.toList,c.argTypes.toList with
  | [x,y],[tx,ty]=>Ye (cx.T tx) λti=>Ye (cx.T ty) λtj=>if Xbf tj=true then XkF d (UO ti st x y) else XkF d (Q4 ti tj st x (view st y))
  | _,_=>none
 | .builtin .min=>Xch st d (Xdb (λa b=>if b<a then b else a) (c.args.toList.map (view st)))
 | .builtin .max=>Xch st d (Xdb (λa b=>if b>a then b else a) (c.args.toList.map (view st)))
 | .builtin .clear=>match c.args.toList,c.argTypes.toList with
  | [x],[tx]=>Ye (cx.T tx) λti=>noD d (U1 ti st (view st x))
  | _,_=>none
 | .builtin _=>none
 | .invoke _ _=>none
 | .value f=>Xmj d (Uf cx st f c.argTypes.toList c.args.toList)
def ZC:AV->Bool
 | .agg _=>false
 | .u=>false
 | .no=>false
 | .tup _=>false
 | _=>true
def QL(st:St)(d:Nat)(cs:List AV):Option St:=if cs.all Qi=true then some (st.put d (.pr cs)) else none
def Xdd(st:St):Operand->Option (AV×St)
 | .tmp t=>match st.env t with
  | .tup (v :: vs)=>some (.tup (v :: vs),⟨upd st.env t .u,st.bx⟩)
  | _=>none
 | _=>none
def alD(cx:Cx):Option Nat->Bool
 | some d=>cx.al.contains d
 | none=>false
def mvT(cx:Cx)(o:Oper):Bool:=match o.op with
 | .move _=>alD cx o.dst
 | .convert _ t _=>Xi0 (cx.T t)
 | _=>false
def Xg(cx:Cx)(st:St)(o:Oper):Option St :=
 match o.op with
 | .move x=>if alD cx o.dst=true then XkF o.dst (Xdd st x) else some (st.put? o.dst (fix (zOf cx o.type) (view st x)))
 | .assign x=>Ye o.dst λd=>if cx.al.contains d then some (st.put d (fix (zOf cx o.type) (view st x))) else Ye (take st x) λy=>some (y.2.put d (fix (zOf cx o.type) y.1))
 | .pick c a b=>match view st c with
  | .b true=>some (st.put? o.dst (view st a))
  | .b false=>some (st.put? o.dst (view st b))
  | _=>none
 | .alloc t=>Ye (cx.T t) λti=>Ye o.dst λd=>YB st d ti.zero
 | .box t x=>Ye (cx.T t) λti=>Ye o.dst λd=>if cx.fz.contains d=true then Ye (Xes ti (fix ti.z (view st x))) λcs=>QL st d cs else if cx.al.contains d=true then Ye (Xes ti (fix ti.z (view st x))) λcs=>YB st d cs else Ye (take st x) λy=>Ye (Xes ti (fix ti.z y.1)) λcs=>YB y.2 d cs
 | .load t a=>Ye (cx.T t) λti=>Xch st o.dst (loadAt st ti (view st a))
 | .store t a x=>if o.dst.isSome then none else Ye (cx.T t) λti=>Ye (take st x) λy=>storeAt y.2 ti (view y.2 a) y.1
 | .nilCheck x=>Xch st o.dst (XbQ (view st x))
 | .fieldAddr t x f=>Ye (cx.T t) λti=>Xch st o.dst (Uu ti f (view st x))
 | .field t x f=>Ye (cx.T t) λti=>Xch st o.dst (Xcl ti f (view st x))
 | .indexAddr t x ix=>Ye (cx.T t) λti=>Xch st o.dst (Z5 st ti (view st x) (view st ix))
 | .index t x ix=>Ye (cx.T t) λti=>Xch st o.dst (Ug ti (view st x) (view st ix))
 | .binOp op xt x y _=>Xch st o.dst (Xa0 (cx.T xt) (cx.eqs xt) op (view st x) (view st y))
 | .unOp op _ x=>Xch st o.dst (unV op (view st x))
 | .convert s d x=>Ye (cx.T s) λts=>Ye (cx.T d) λtd=>Xch st o.dst (Xeq st ts td (view st x))
 | .slice xt x lo hi none=>Ye (cx.T xt) λti=>Xch st o.dst (Us ti (view st x) (lo.map (view st)) (hi.map (view st)))
 | .makeFunc (.func f) first caps=>if(first.isEmpty&&(caps.toList.map (view st)).all ZC)=true then some (st.put? o.dst (.fn f (caps.toList.map (view st)))) else none
 | .extract x j=>XkF o.dst (Qk st x j)
 | .build t parts=>Ye (cx.T t) λti=>Xch st o.dst (Xav ti st parts.toList)
 | .buildSlice t len parts=>Ye (cx.T t) λti=>XkF o.dst (Zg ti st len parts.toList)
 | .makeSlice t l c=>Ye (cx.T t) λti=>Xch st o.dst (Xer ti (view st l) (view st c))
 | .call c=>Yo cx st o.dst c
 | _=>none
def XaY.heads:XaY->List Nat
 | .one i _=>[i]
 | .alt i _ q=>i :: q.heads
 | _=>[]
def XaY.depth:XaY->Nat
 | .done=>0
 | .take _ p=>p.depth+1
 | .one _ p=>p.depth+1
 | .alt _ p q=>max (p.depth+1) q.depth
def Xcn:Op->Bool
 | .move _=>true
 | .pick _ _ _=>true
 | .load _ _=>true
 | .nilCheck _=>true
 | .fieldAddr _ _ _=>true
 | .field _ _ _=>true
 | .indexAddr _ _ _=>true
 | .index _ _ _=>true
 | .binOp _ _ _ _ _=>true
 | .unOp _ _ _=>true
 | .convert _ _ _=>true
 | .slice _ _ _ _ _=>true
 | .makeFunc _ _ _=>true
 | .build _ _=>true
 | .call c=>(match c.callee with
  | .builtin .len=>true
  | .builtin .min=>true
  | .builtin .max=>true
  | _=>false)
 | _=>false
def QM(cx:Cx):Op->Bool
 | .store _ _ _=>true
 | .call c=>(match c.callee with
  | .builtin .append=>true
  | .builtin .clear=>true
  | .value (.func g)=>(match cx.fns g with
   | some fs=>!fs.md.all YZ
   | none=>true)
  | _=>false)
 | _=>false
def Xft(cx:Cx):AV->Bool
 | .fn g _=>(match cx.fns g with
  | some fs=>fs.md.all YZ
  | none=>false)
 | _=>false
def Z7(cx:Cx)(st:St):Op->Bool
 | .store _ _ _=>false
 | .call c=>(match c.callee with
  | .builtin .append=>false
  | .builtin .clear=>false
  | .value f=>Xft cx (view st f)
  | _=>true)
 | _=>true
inductive Ex | nor | ex (id:Nat) | ret
 deriving DecidableEq
def Z8:List Oper->Nat->Option Nat
 | o :: _,0=>o.dst
 | _ :: r,n+1=>Z8 r n
 | [],_=>none
def wanted(ops:List Oper)(st:St)(o:Oper):Option Bool :=
 match o.guard with
 | none=>some true
 | some (j,want)=>match Z8 ops j with
  | some d=>match st.env d with
   | .b x=>some (x==want)
   | .no=>some false
   | _=>none
  | none=>none
def inE(ks:List Nat)(q:Pl):Bool:=if q.e then ks.contains q.r else true
def trim(ks:List Nat)(st:St):St:=let s:=st.filt (inE ks) (inE ks); ⟨λt=>if ks.contains t then s.env t else .u,s.bx⟩
def trim?(c:Option (List Nat))(st:St):St:=match c with
 | some ks=>trim ks st
 | none=>st
def hd?(cs:List (Option (List Nat))):Option (List Nat):=match cs with
 | c :: _=>c
 | []=>none
def XE(cx:Cx)(ops:List Oper):List (Option (List Nat))->St->List Oper->Option St
 | _,st,[]=>some st
 | cs,st,o :: r=>match wanted ops (trim? (hd? cs) st) o with
  | some true=>match Xg cx (trim? (hd? cs) st) o with
   | some st'=>XE cx ops cs.tail st' r
   | none=>none
  | some false=>XE cx ops cs.tail ((trim? (hd? cs) st).put? o.dst .no) r
  | none=>none
def Zy(cx:Cx)(ops:List Oper)(st:St)(o:Oper):Option St:=match wanted ops st o with
 | some true=>Xg cx st o
 | some false=>some (st.put? o.dst .no)
 | none=>none
def Ql:List Oper->Nat->Option Oper
 | o :: _,0=>some o
 | _ :: r,n+1=>Ql r n
 | [],_=>none
open Classical in
noncomputable def Xet(x y:Option St):Option St:=if x=y then x else none
def Xaw(p:Bool)(x:Option St):Option St:=if p=true then x else none
def Xiw(body:St->Option (Ex×St)):Nat->St->Option (Ex×St)
 | 0,_=>none
 | n+1,st=>match body st with
  | some (.nor,st')=>Xiw body n st'
  | r=>r
def within(ks bs:List Nat)(q:Pl):Bool:=if q.e then ks.contains q.r else bs.contains q.r
def keep(l:Option (List Nat×List Nat))(st:St):St:=match l with
 | none=>st
 | some (ks,bs)=>let s:=st.filt (within ks bs) (within ks bs); ⟨λt=>if ks.contains t then s.env t else .u,λt=>if bs.contains t then s.bx t else[]⟩
def weakAt(st:St)(b c:Nat):Option St:=match (st.bx b)[c]? with
 | some (.sl .mut z es)=>weakLeaf st (.rf ⟨false,b,[],c⟩ z 0 es.length)
 | _=>some st
def weakW:St->List (Bool×Nat×Nat)->Option St
 | st,[]=>some st
 | st,(true,r,_) :: l=>Ye (weakArg st (.tmp r)) λs=>weakW s l
 | st,(false,r,c) :: l=>Ye (weakAt st r c) λs=>weakW s l
def XkH(x:Option St):Option (Ex×St):=match x with
 | some s=>some (.nor,s)
 | none=>none
noncomputable def Yi(cx:Cx)(id:Nat)(ops:List Oper):XaY->St->Option St
 | .done,st=>some (keep (cx.rg id) st)
 | .take i p,st=>Ye (Ql ops i) λo=>Xaw (Xcn o.op) (Ye (Zy cx ops st o) λs=>Yi cx id ops p s)
 | .one i p,st=>Ye (Ql ops i) λo=>Xaw (QM cx o.op||Z7 cx st o.op) (Ye (Zy cx ops st o) λs=>Yi cx id ops p s)
 | .alt i p q,st=>Xet (Ye (Ql ops i) λo=>Xaw (QM cx o.op||Z7 cx st o.op) (Ye (Zy cx ops st o) λs=>Yi cx id ops p s)) (Yi cx id ops q st)
noncomputable def Xl(cx:Cx):Nat->Code->St->Option (Ex×St)
 | _,.skip,st=>some (.nor,st)
 | _,.region id ops draw,st=>if draw=true then Ye (Ye (cx.plan id) λp=>Yi cx id ops.toList p st) (λs=>XkH (weakW s (cx.ws id))) else(match XE cx ops.toList (cx.cuts id) st ops.toList with
  | some st'=>XkH (weakW (keep (cx.rg id) st') (cx.ws id))
  | none=>none)
 | blk,.seq a b,st=>match Xl cx blk a st with
  | some (.nor,st')=>Xl cx blk b st'
  | r=>r
 | blk,.cond c a b,st=>match view st c with
  | .b true=>Xl cx blk a st
  | .b false=>Xl cx blk b st
  | _=>none
 | _,.block id c,st=>match Xl cx id c st with
  | some (.ex j,st')=>if j=id then some (.nor,st') else some (.ex j,st')
  | r=>r
 | blk,.loop c,st=>Xiw (λst=>Xl cx blk c (keep (cx.live blk) st)) cx.rounds st
 | _,.exit id,st=>some (.ex id,keep (cx.out id) st)
 | _,.ret,st=>some (.ret,keep cx.rets st)
 | _,_,_=>none
def YD:List Md->List AV->Nat->Nat->AV
 | _,[],_,_=>.u
 | .rw _ :: ms,_ :: as,j,t=>if t=j then .p ⟨false,j,[],0⟩ else YD ms as (j+1) t
 | _ :: ms,a :: as,j,t=>if t=j then a else YD ms as (j+1) t
 | [],_,_,_=>.u
def Yx:List Md->List AV->Nat->Nat->List AV
 | .rw _ :: ms,a :: as,j,t=>if t=j then cellsOf a else Yx ms as (j+1) t
 | _ :: ms,_ :: as,j,t=>Yx ms as (j+1) t
 | _,_,_,_=>[]
def QE(ms:List Md)(as:List AV):St:=⟨YD ms as 0,Yx ms as 0⟩
def Uv(cx:Cx):St->List ResultVar->Option (List AV×St)
 | st,[]=>some ([],st)
 | st,.tmp t :: r=>match take st (.tmp t) with
  | some (v,st1)=>match Uv cx st1 r with
   | some (l,st2)=>some (v :: l,st2)
   | none=>none
  | none=>none
 | st,.cell a t :: r=>match Ye (cx.T t) λti=>Ye (loadAt st ti (view st (.tmp a))) λv=>takeVal st v with
  | some (v,st1)=>match Uv cx st1 r with
   | some (l,st2)=>some (v :: l,st2)
   | none=>none
  | none=>none
def one:List AV->AV
 | [a]=>a
 | l=>.tup l
def QN(st:St):List Md->Nat->List AV
 | [],_=>[]
 | .ro _ :: ms,j=>.u :: QN st ms (j+1)
 | .rw _ :: ms,j=>.agg (st.bx j) :: QN st ms (j+1)
 | .mv :: ms,j=>st.env j :: QN st ms (j+1)
def Zz:List Md->List AV->Bool
 | .rw n :: ms,.agg cs :: os=>decide (cs.length=n)&&Zz ms os
 | _ :: ms,_ :: os=>Zz ms os
 | _,_=>true
def npP(md:List Md)(st:St):AV->Option (List AV)
 | .p q=>if(!q.e&&q.path.isEmpty&&q.c==0&&decide (md.length<=q.r))=true then some (st.bx q.r) else none
 | _=>none
def Xa5(md:List Md)(st:St):List ResultVar->Option (List AV)
 | [.tmp t]=>npP md st (st.env t)
 | _=>none
def Xk3(md:List Md)(st:St)(cs:List AV):Option (AV×List AV) :=
 if(cs.all XK&&!cs.isEmpty&&(QN st md 0).all XL&&Zz md (QN st md 0))=true then some (.tup [.agg cs],QN st md 0) else none
def rvQ:List ResultVar->Option (List ResultVar×Nat)
 | [.tmp t]=>some ([],t)
 | a :: b :: r=>match rvQ (b :: r) with
  | some (rs,t)=>some (a :: rs,t)
  | none=>none
 | _=>none
def Xi1(cx:Cx)(md:List Md)(rv:List ResultVar)(st:St):Option (AV×List AV) :=
 match rvQ rv with
 | some (rs,t)=>match Uv cx st rs with
  | some (l,st')=>match npP md st' (st'.env t) with
   | some cs=>if(l.all XL&&!l.isEmpty&&cs.all XK&&!cs.isEmpty&&(QN st' md 0).all XL&&Zz md (QN st' md 0))=true then some (.tup [.tup [.agg cs],.tup l],QN st' md 0) else none
   | none=>none
  | none=>none
 | none=>none
def XlT(cx:Cx)(md:List Md)(rv:List ResultVar)(st:St):Option (AV×List AV) :=
 match Uv cx st rv with
 | some (l,st')=>if(l.all XL&&(QN st' md 0).all XL&&Zz md (QN st' md 0))=true then some (one l,QN st' md 0) else Xi1 cx md rv st
 | none=>none
def ZA(cx:Cx)(md:List Md)(rv:List ResultVar)(st:St):Option (AV×List AV) :=
 match Xa5 md st rv with
 | some cs=>Xk3 md st cs
 | none=>XlT cx md rv st
open Classical in
noncomputable def Xde(x y:Option (Ex×St)):Option (Ex×St):=if x=y then x else none
def Xbh(x:Option (Ex×St))(K:St->Option (Ex×St)):Option (Ex×St):=match x with
 | some (.nor,s)=>K s
 | r=>r
noncomputable def evN(cx:Cx):Code->(St->Option (Ex×St))->St->Option (Ex×St)
 | .skip,K,st=>K st
 | .seq a b,K,st=>evN cx a (evN cx b K) st
 | .cond c a b,K,st=>match view st c with
  | .b true=>evN cx a K st
  | .b false=>evN cx b K st
  | .ub=>Xde (evN cx a K st) (evN cx b K st)
  | _=>none
 | c,K,st=>Xbh (Xl cx 0 c st) K
noncomputable def evB(cx:Cx)(c:Code)(st:St):Option (Ex×St):=if cx.nz=true then evN cx c (λs=>some (.nor,s)) st else Xl cx 0 c st
noncomputable def Z9(cx:Cx)(md:List Md)(f:Func)(args:List AV):Option (AV×List AV) :=
 match f.body with
 | some c=>match evB cx c (QE md args) with
  | some (.nor,st)=>ZA cx md f.results.toList st
  | some (.ret,st)=>ZA cx md f.results.toList st
  | _=>none
 | none=>none
end Go.Vm
set_option autoImplicit false
namespace Go.Vm
abbrev CS:=Nat->Nat->Prop
def Sub(S T:CS):Prop:=∀b k,S b k->T b k
def XY(S T:CS):Prop:=∀b k,S b k->T b k->False
def nos:CS:=λ_ _=>False
def Sub.rfl'(S:CS):Sub S S:=λ_ _ h=>h
def Sub.trans{S T U:CS}(h:Sub S T)(k:Sub T U):Sub S U:=λb i x=>k b i (h b i x)
def XY.symm{S T:CS}(h:XY S T):XY T S:=λb k x y=>h b k y x
def XY.mono{S T S' T':CS}(h:XY S T)(h1:Sub S' S)(h2:Sub T' T):XY S' T':=λb k x y=>h b k (h1 b k x) (h2 b k y)
def Xo(S:CS):Sub nos S:=λ_ _ h=>h.elim
def Xh(S:CS):XY nos S:=λ_ _ h=>h.elim
def XM(S:CS):XY S nos:=λ_ _ _ h=>h.elim
def Xt(w:World)(g o:Nat):Option Value:=w.cell? ⟨g,o,none⟩
def YE(w:World)(g o:Nat):Bool:=w.frozen? ⟨g,o,none⟩
def fz(w:World)(g k z:Nat):Prop:=YE w g k=false/\(z≠1->∀j,YE w g j=false)
def XN(S:CS)(w w':World):Prop:=∀g k,S g k->Xt w' g k=Xt w g k/\∀j,YE w' g j=YE w g j
def XN.refl(S:CS)(w:World):XN S w w:=λ_ _ _=>⟨rfl,λ_=>rfl⟩
def XN.trans{S:CS}{a b c:World}(h:XN S a b)(k:XN S b c):XN S a c:=λg i x=>⟨(k g i x).1.trans (h g i x).1,λj=>((k g i x).2 j).trans ((h g i x).2 j)⟩
def fz.to{w w':World}{g k z:Nat}(h:fz w g k z)(e:∀j,YE w' g j=YE w g j):fz w' g k z:=⟨(e k).trans h.1,λhz j=>(e j).trans (h.2 hz j)⟩
def XN.mono{S T:CS}{a b:World}(h:XN S a b)(hs:Sub T S):XN T a b:=λg i x=>h g i (hs g i x)
structure SlF (w:World) (Im:CS) (t:Tag) (g off z n cap:Nat) (S:CS):Prop where
 own:t=.mut->∀k,k<cap*z->S g (off+k)
 app:t=.app->∀k,n*z<=k->k<cap*z->S g (off+k)
 free:t≠.ro->∀k,k<cap*z->(∃v,Xt w g (off+k)=some v)/\fz w g (off+k) z
 imm:t≠.mut->∀k,k<n*z->Im g (off+k)
inductive Rep (w:World) (Im:CS):Value->AV->CS->Prop
 | u {v:Value} {S:CS} (h:v.oneCell'=true):Rep w Im v .u S
 | ub {x:Bool} {S:CS}:Rep w Im (.bool x) .ub S
 | b {x:Bool} {S:CS}:Rep w Im (.bool x) (.b x) S
 | i {k:IntKind} {n:Int} {S:CS}:Rep w Im (.int k n) (.i k n) S
 | s {x:ByteArray} {S:CS}:Rep w Im (.string x) (.s x) S
 | nil {S:CS}:Rep w Im (.slice none 0 0) .nil S
 | pn {S:CS}:Rep w Im (.pointer none) .pn S
 | sl {A:Option Addr} {n cap:Nat} {t:Tag} {z:Nat} {es:List (List AV)} {S:CS} (g off:Nat) (vs:Nat->Nat->Value) (Sf:Nat->Nat->CS)
   (hn:es.length=n) (hc:n<=cap) (hL:n<=9223372036854775807) (hA:0<cap->A=some ⟨g,off,none⟩) (hz:∀(i:Nat) (row:List AV),es[i]?=some row->row.length=z)
   (hrow:∀(i:Nat) (row:List AV) (j:Nat) (a:AV),es[i]?=some row->row[j]?=some a->Xt w g (off+(i*z+j))=some (vs i j))
   (hin:∀(i:Nat) (row:List AV) (j:Nat) (a:AV),es[i]?=some row->row[j]?=some a->Rep w Im (vs i j) a (Sf i j))
   (hf:SlF w Im t g off z n cap S)
   (hsub:∀i j,Sub (Sf i j) S) (hd:∀i j i' j',¬(i=i'/\j=j')->XY (Sf i j) (Sf i' j'))
   (hself:t=.mut->∀i j k,k<cap*z->¬Sf i j g (off+k))
   (hnone:t≠.mut->∀i j,Sf i j=nos):Rep w Im (.slice A n cap) (.sl t z es) S
 | pr {g off:Nat} {cs:List AV} {S:CS} (vs:Nat->Value) (hrow:∀(j:Nat) (a:AV),cs[j]?=some a->Xt w g (off+j)=some (vs j)/\Im g (off+j))
   (hin:∀(j:Nat) (a:AV),cs[j]?=some a->Rep w Im (vs j) a nos):Rep w Im (.pointer (some ⟨g,off,none⟩)) (.pr cs) S
 | fn {f:Nat} {cs:List AV} {S:CS} (vs:List Value) (hl:vs.length=cs.length) (hin:∀(j:Nat) (v:Value) (a:AV),vs[j]?=some v->cs[j]?=some a->Rep w Im v a nos) :
   Rep w Im (.func (.func f) #[] vs.toArray) (.fn f cs) S
 | fs {A:Option Addr} {n cap:Nat} {es:List AV} {S:CS} (g off:Nat) (vs:Nat->Value) (hn:es.length=n) (hc:n<=cap) (hA:0<n->A=some ⟨g,off,none⟩)
   (hrow:∀(j:Nat) (a:AV),es[j]?=some a->Xt w g (off+j)=some (vs j)/\Im g (off+j)) (hin:∀(j:Nat) (a:AV),es[j]?=some a->Rep w Im (vs j) a nos) :
   Rep w Im (.slice A n cap) (.fs es) S
def Rep.one{w:World}{Im:CS}{v:Value}{a:AV}{S:CS}(h:Rep w Im v a S):v.oneCell'=true:=by
 cases h<;>first | assumption | rfl
def idx_lt{es:List (List AV)}{z i j:Nat}{row:List AV}{a:AV}(hz:∀(i:Nat) (row:List AV),es[i]?=some row->row.length=z)(hi:es[i]?=some row)(hj:row[j]?=some a):i<es.length/\j<z/\i*z+j<es.length*z:=by
 obtain⟨h1,_⟩:=List.getElem?_eq_some_iff.1 hi
 obtain⟨h2,_⟩:=List.getElem?_eq_some_iff.1 hj
 have h3:=hz i row hi
 refine⟨h1,by omega,?_⟩
 have:(i+1)*z<=es.length*z:=Nat.mul_le_mul_right _ h1
 rw[Nat.add_mul] at this
 omega
def Rep.keep{w w':World}{Im Im':CS}{v:Value}{a:AV}{S:CS}(h:Rep w Im v a S)(hI:Sub Im Im'):∀{S':CS},Sub S S'->XN Im w w'->XN S w w'->Rep w' Im' v a S':=by
 induction h with
 | u h=>intro S' _ _ _; exact .u h
 | ub=>intro S' _ _ _; exact .ub
 | b=>intro S' _ _ _; exact .b
 | i=>intro S' _ _ _; exact .i
 | s=>intro S' _ _ _; exact .s
 | nil=>intro S' _ _ _; exact .nil
 | pn=>intro S' _ _ _; exact .pn
 | @sl A n cap t z es S g off vs Sf hn hc hL hA hz hrow hin hf hsub hd hself hnone ih =>
  intro S' hS hw hs
  refine .sl g off vs Sf hn hc hL hA hz ?_ ?_ ?_ (λi j=>(hsub i j).trans hS) hd hself hnone
  ·intro i row j a hi hj
   obtain⟨h1,h2,h3⟩:=idx_lt hz hi hj
   rw[hn] at h3
   by_cases ht:t=.mut
   ·have h4:n*z<=cap*z:=Nat.mul_le_mul_right _ hc
    rw[(hs _ _ (hf.own ht (i*z+j) (by omega))).1]; exact hrow i row j a hi hj
   ·rw[(hw _ _ (hf.imm ht (i*z+j) h3)).1]; exact hrow i row j a hi hj
  ·intro i row j a hi hj
   exact ih i row j a hi hj (Sub.rfl' _) hw (hs.mono (hsub i j))
  ·refine⟨λht k hk=>hS _ _ (hf.own ht k hk),λht k h1 h2=>hS _ _ (hf.app ht k h1 h2),?_,λht k hk=>hI _ _ (hf.imm ht k hk)⟩
   intro ht k hk
   have h0:=hf.free ht k hk
   by_cases hm:t=.mut
   ·have:=hs _ _ (hf.own hm k hk); rw[this.1]; exact⟨h0.1,h0.2.to (this.2)⟩
   ·have ha:t=.app:=by cases t<;>simp_all
    by_cases hlt:k<n*z
    ·have:=hw _ _ (hf.imm hm k hlt); rw[this.1]; exact⟨h0.1,h0.2.to (this.2)⟩
    ·have:=hs _ _ (hf.app ha k (by omega) hk); rw[this.1]; exact⟨h0.1,h0.2.to (this.2)⟩
 | pr vs hrow hin ih =>
  intro S' _ hw _
  refine .pr vs (λj a hj=>?_) (λj a hj=>ih j a hj (Sub.rfl' _) hw (λ_ _ h=>h.elim))
  obtain⟨h1,h2⟩:=hrow j a hj
  exact⟨by rw[(hw _ _ h2).1]; exact h1,hI _ _ h2⟩
 | fn vs hl hin ih =>
  intro S' _ hw _
  exact .fn vs hl (λj v a hv ha=>ih j v a hv ha (Sub.rfl' _) hw (λ_ _ h=>h.elim))
 | fs g off vs hn hc hA hrow hin ih =>
  intro S' _ hw _
  refine .fs g off vs hn hc hA (λj a hj=>?_) (λj a hj=>ih j a hj (Sub.rfl' _) hw (λ_ _ h=>h.elim))
  obtain⟨h1,h2⟩:=hrow j a hj
  exact⟨by rw[(hw _ _ h2).1]; exact h1,hI _ _ h2⟩
inductive Loc
 | slot (r:Nat)
 | mem (g o:Nat)
def YW(tm:Array Value)(w:World):Loc->Nat->Option Value
 | .slot r,c=>(tm.getD r undef).cells[c]?
 | .mem g o,c=>Xt w g (o+c)
def Qm(tm:Array Value)(w:World)(l:Loc)(c i z:Nat):Option Loc:=match YW tm w l c with
 | some (.slice (some ⟨g,o,none⟩) _ _)=>some (.mem g (o+i*z))
 | _=>none
def follow(tm:Array Value)(w:World):Loc->List (Nat×Nat×Nat)->Option Loc
 | l,[]=>some l
 | l,(c,i,z) :: ps=>match Qm tm w l c i z with
  | some l'=>follow tm w l' ps
  | none=>none
def Yn(base:Nat->Nat×Nat)(e:Bool)(r:Nat):Loc:=if e then .slot r else .mem (base r).1 (base r).2
def Xn3(tm:Array Value)(w:World)(base:Nat->Nat×Nat)(pl:Pl)(ad:Addr):Prop :=
 ∃g o,follow tm w (Yn base pl.e pl.r) pl.path=some (.mem g o)/\ad=⟨g,o+pl.c,none⟩
def Xn4(tm:Array Value)(w:World)(base:Nat->Nat×Nat)(pl:Pl)(z lo n:Nat)(v:Value):Prop :=
 ∃l A N cap A',follow tm w (Yn base pl.e pl.r) pl.path=some l/\YW tm w l pl.c=some (.slice A N cap)/\v=.slice A' n (cap-lo)/\lo+n<=N/\N<=cap /\
  (lo<cap->∃g o,A=some ⟨g,o,none⟩/\A'=some ⟨g,o+lo*z,none⟩)
inductive Yy (w:World) (Im:CS) (Pt:Pl->Addr->Prop) (Rf:Pl->Nat->Nat->Nat->Value->Prop):Value->AV->CS->Prop
 | rep {v:Value} {a:AV} {S:CS} (h:Rep w Im v a S):Yy w Im Pt Rf v a S
 | p {pl:Pl} {ad:Addr} {S:CS} (h:Pt pl ad):Yy w Im Pt Rf (.pointer (some ad)) (.p pl) S
 | rf {pl:Pl} {z lo n:Nat} {v:Value} {S:CS} (h:Rf pl z lo n v) (ho:v.oneCell'=true):Yy w Im Pt Rf v (.rf pl z lo n) S
 | fn {f:Nat} {cs:List AV} {S:CS} (vs:List Value) (hl:vs.length=cs.length) (hin:∀(j:Nat) (v:Value) (a:AV),vs[j]?=some v->cs[j]?=some a->Yy w Im Pt Rf v a nos) :
   Yy w Im Pt Rf (.func (.func f) #[] vs.toArray) (.fn f cs) S
 | fs {A:Option Addr} {n cap:Nat} {es:List AV} {S:CS} (g off:Nat) (vs:Nat->Value) (hn:es.length=n) (hc:n<=cap) (hA:0<n->A=some ⟨g,off,none⟩)
   (hrow:∀(j:Nat) (a:AV),es[j]?=some a->Xt w g (off+j)=some (vs j)/\Im g (off+j)) (hin:∀(j:Nat) (a:AV),es[j]?=some a->Yy w Im Pt Rf (vs j) a nos) :
   Yy w Im Pt Rf (.slice A n cap) (.fs es) S
def Yy.one{w:World}{Im:CS}{Pt:Pl->Addr->Prop}{Rf:Pl->Nat->Nat->Nat->Value->Prop}{v:Value}{a:AV}{S:CS}(h:Yy w Im Pt Rf v a S):v.oneCell'=true:=by
 cases h with
 | rep h=>exact h.one
 | rf _ ho=>exact ho
 | _=>rfl
def Yy.keep{w w':World}{Im Im':CS}{Pt Pt':Pl->Addr->Prop}{Rf Rf':Pl->Nat->Nat->Nat->Value->Prop}{v:Value}{a:AV}{S:CS}(h:Yy w Im Pt Rf v a S)
  (hI:Sub Im Im') (hw:XN Im w w') (hp:∀pl ad,Pt pl ad->Pt' pl ad) (hr:∀pl z lo n v,Rf pl z lo n v->Rf' pl z lo n v):∀{S':CS},Sub S S'->XN S w w'->Yy w' Im' Pt' Rf' v a S':=by
 induction h with
 | rep h=>intro S' hS hs; exact .rep (h.keep hI hS hw hs)
 | p h=>intro S' _ _; exact .p (hp _ _ h)
 | rf h ho=>intro S' _ _; exact .rf (hr _ _ _ _ _ h) ho
 | fn vs hl hin ih=>intro S' _ _; exact .fn vs hl (λj v a hv ha=>ih j v a hv ha (Sub.rfl' _) (λ_ _ h=>h.elim))
 | fs g off vs hn hc hA hrow hin ih =>
  intro S' _ _
  refine .fs g off vs hn hc hA (λj a hj=>?_) (λj a hj=>ih j a hj (Sub.rfl' _) (λ_ _ h=>h.elim))
  obtain⟨h1,h2⟩:=hrow j a hj
  exact⟨by rw[(hw _ _ h2).1]; exact h1,hI _ _ h2⟩
def Yy.filt{w:World}{Im:CS}{Pt Pt':Pl->Addr->Prop}{Rf Rf':Pl->Nat->Nat->Nat->Value->Prop}{v:Value}{a:AV}{S:CS}(kp kr:Pl->Bool)(h:Yy w Im Pt Rf v a S)
  (hp:∀pl ad,kp pl=true->Pt pl ad->Pt' pl ad) (hr:∀pl z lo n v,kr pl=true->Rf pl z lo n v->Rf' pl z lo n v):Yy w Im Pt' Rf' v (Vm.filt kp kr a) S:=by
 have hL:∀(l:List AV) (j:Nat),(XR kp kr l)[j]?=(l[j]?).map (Vm.filt kp kr):=by
  intro l
  induction l with
  | nil=>intro j; simp[XR]
  | cons x r ih=>intro j; cases j<;>simp[XR,ih]
 have hlen:∀(l:List AV),(XR kp kr l).length=l.length:=by intro l; induction l<;>simp_all [XR]
 induction h with
 | rep h =>
  induction h with
  | u h=>exact .rep (.u h)
  | ub=>exact .rep .ub
  | b=>exact .rep .b
  | i=>exact .rep .i
  | s=>exact .rep .s
  | nil=>exact .rep .nil
  | pn=>exact .rep .pn
  | sl g off vs Sf hn hc hL hA hz hrow hin hf hsub hd hself hnone ih=>exact .rep (.sl g off vs Sf hn hc hL hA hz hrow hin hf hsub hd hself hnone)
  | pr vs hrow hin ih=>exact .rep (.pr vs hrow hin)
  | fn vs hl hin ih =>
   refine .fn vs (by rw[hl,hlen]) (λj v a hv ha=>?_)
   rw[hL] at ha
   obtain⟨a',ha',rfl⟩:=Option.map_eq_some_iff.1 ha
   exact ih j v a' hv ha'
  | fs g off vs hn hc hA hrow hin ih =>
   refine .fs g off vs (by rw[hlen]; exact hn) hc hA (λj a hj=>?_) (λj a hj=>?_)
   all_goals
    rw[hL] at hj
    obtain⟨a',ha',rfl⟩:=Option.map_eq_some_iff.1 hj
   ·exact hrow j a' ha'
   ·exact ih j a' ha'
 | @p pl ad S h =>
  unfold Vm.filt
  split
  ·rename_i hk; exact .p (hp _ _ hk h)
  ·exact .rep (.u rfl)
 | @rf pl z lo n v S h ho =>
  unfold Vm.filt
  split
  ·rename_i hk; exact .rf (hr _ _ _ _ _ hk h) ho
  ·exact .rep (.u ho)
 | fn vs hl hin ih =>
  refine .fn vs (by rw[hl,hlen]) (λj v a hv ha=>?_)
  rw[hL] at ha
  obtain⟨a',ha',rfl⟩:=Option.map_eq_some_iff.1 ha
  exact ih j v a' hv ha'
 | fs g off vs hn hc hA hrow hin ih =>
  refine .fs g off vs (by rw[hlen]; exact hn) hc hA (λj a hj=>?_) (λj a hj=>?_)
  all_goals
   rw[hL] at hj
   obtain⟨a',ha',rfl⟩:=Option.map_eq_some_iff.1 hj
  ·exact hrow j a' ha'
  ·exact ih j a' ha'
end Go.Vm
set_option autoImplicit false
namespace Go.Vm
inductive Top (w:World) (Im:CS) (Pt:Pl->Addr->Prop) (Rf:Pl->Nat->Nat->Nat->Value->Prop):Value->AV->CS->Prop
 | u {v:Value} {S:CS}:Top w Im Pt Rf v .u S
 | no {S:CS}:Top w Im Pt Rf undef .no S
 | leaf {v:Value} {a:AV} {S:CS} (h:Yy w Im Pt Rf v a S):Top w Im Pt Rf v a S
 | agg {cs:List AV} {S:CS} (vs:List Value) (Sf:Nat->CS) (hl:vs.length=cs.length) (hin:∀(j:Nat) (v:Value) (a:AV),vs[j]?=some v->cs[j]?=some a->Yy w Im Pt Rf v a (Sf j))
   (hsub:∀j,Sub (Sf j) S) (hd:∀i j,i≠j->XY (Sf i) (Sf j)):Top w Im Pt Rf (.agg vs.toArray) (.agg cs) S
 | tup {cs:List AV} {S:CS} (vs:List Value) (Sf:Nat->CS) (hl:vs.length=cs.length) (hin:∀(j:Nat) (v:Value) (a:AV),vs[j]?=some v->cs[j]?=some a->Top w Im Pt Rf v a (Sf j))
   (hsub:∀j,Sub (Sf j) S) (hd:∀i j,i≠j->XY (Sf i) (Sf j)):Top w Im Pt Rf (.tuple vs.toArray) (.tup cs) S
def Top.keep{w w':World}{Im Im':CS}{Pt Pt':Pl->Addr->Prop}{Rf Rf':Pl->Nat->Nat->Nat->Value->Prop}{v:Value}{a:AV}{S:CS}(h:Top w Im Pt Rf v a S)
  (hI:Sub Im Im') (hw:XN Im w w') (hp:∀pl ad,Pt pl ad->Pt' pl ad) (hr:∀pl z lo n v,Rf pl z lo n v->Rf' pl z lo n v):∀{S':CS},Sub S S'->XN S w w'->Top w' Im' Pt' Rf' v a S':=by
 induction h with
 | u=>intro _ _ _; exact .u
 | no=>intro _ _ _; exact .no
 | leaf h=>intro S' hS hs; exact .leaf (h.keep hI hw hp hr hS hs)
 | agg vs Sf hl hin hsub hd=>intro S' hS hs; exact .agg vs Sf hl (λj v a hv ha=>(hin j v a hv ha).keep hI hw hp hr (Sub.rfl' _) (hs.mono (hsub j))) (λj=>(hsub j).trans hS) hd
 | tup vs Sf hl hin hsub hd ih=>intro S' hS hs; exact .tup vs Sf hl (λj v a hv ha=>ih j v a hv ha (Sub.rfl' _) (hs.mono (hsub j))) (λj=>(hsub j).trans hS) hd
def Yq(kp kr:Pl->Bool)(l:List AV)(j:Nat):(XR kp kr l)[j]?=(l[j]?).map (Vm.filt kp kr):=by
 induction l generalizing j with
 | nil=>simp[XR]
 | cons x r ih=>cases j<;>simp[XR,ih]
def XT(kp kr:Pl->Bool)(l:List AV):(XR kp kr l).length=l.length:=by induction l<;>simp_all [XR]
def Top.filt{w:World}{Im:CS}{Pt Pt':Pl->Addr->Prop}{Rf Rf':Pl->Nat->Nat->Nat->Value->Prop}{v:Value}{a:AV}{S:CS}(kp kr:Pl->Bool)(h:Top w Im Pt Rf v a S)
  (hp:∀pl ad,kp pl=true->Pt pl ad->Pt' pl ad) (hr:∀pl z lo n v,kr pl=true->Rf pl z lo n v->Rf' pl z lo n v):Top w Im Pt' Rf' v (Vm.filt kp kr a) S:=by
 induction h with
 | u=>unfold Vm.filt; exact .u
 | no=>unfold Vm.filt; exact .no
 | leaf h=>exact .leaf (h.filt kp kr hp hr)
 | agg vs Sf hl hin hsub hd =>
  unfold Vm.filt
  refine .agg vs Sf (by rw[hl,XT]) (λj v a hv ha=>?_) hsub hd
  rw[Yq] at ha
  obtain⟨a',ha',rfl⟩:=Option.map_eq_some_iff.1 ha
  exact(hin j v a' hv ha').filt kp kr hp hr
 | tup vs Sf hl hin hsub hd ih =>
  unfold Vm.filt
  refine .tup vs Sf (by rw[hl,XT]) (λj v a hv ha=>?_) hsub hd
  rw[Yq] at ha
  obtain⟨a',ha',rfl⟩:=Option.map_eq_some_iff.1 ha
  exact ih j v a' hv ha'
structure Up (Q:Value->AV->CS->Prop) (tm:Array Value) (w:World) (l:Loc) (cs:List AV) (S:CS):Prop where
 mk ::
 out:∃(vs:Nat->Value) (Sf:Nat->CS),(∀(j:Nat) (a:AV),cs[j]?=some a->YW tm w l j=some (vs j))/\(∀(j:Nat) (a:AV),cs[j]?=some a->Q (vs j) a (Sf j)) /\
  (∀j,Sub (Sf j) S)/\(∀i j,i≠j->XY (Sf i) (Sf j))/\(∀g o,l=.mem g o->∀j,j<cs.length->S g (o+j)/\fz w g (o+j) cs.length/\∀i,¬Sf i g (o+j))
def Up.imp{Q Q':Value->AV->CS->Prop}{tm:Array Value}{w:World}{l:Loc}{cs:List AV}{S:CS}(h:Up Q tm w l cs S)(hq:∀v a T,Q v a T->Q' v a T):Up Q' tm w l cs S:=by
 obtain⟨vs,Sf,h1,h2,h3,h4,h5⟩:=h
 exact⟨vs,Sf,h1,λj a hj=>hq _ _ _ (h2 j a hj),h3,h4,h5⟩
def Xax{tm:Array Value}{w w':World}(hc:∀g k v,Xt w g k=some v->Xt w' g k=some v)(l:Loc)(c:Nat)(v:Value)(h:YW tm w l c=some v):YW tm w' l c=some v:=by
 cases l with
 | slot r=>exact h
 | mem g o=>exact hc _ _ _ h
def XgW{tm tm':Array Value}{w w':World}{l l':Loc}{c i z:Nat}(hg:∀v,YW tm w l c=some v->YW tm' w' l c=some v)(h:Qm tm w l c i z=some l'):Qm tm' w' l c i z=some l':=by
 unfold Qm at *
 cases hv:YW tm w l c with
 | none=>simp[hv] at h
 | some v=>rw[hv] at h; rw[hg v hv]; exact h
def Uw{tm:Array Value}{w:World}{l l':Loc}{c i z:Nat}(h:Qm tm w l c i z=some l'):∃g o,l'=.mem g o:=by
 unfold Qm at h
 split at h
 ·injection h with h; exact⟨_,_,h.symm⟩
 ·cases h
def Uj{tm:Array Value}{w w':World}(hc:∀g k v,Xt w g k=some v->Xt w' g k=some v):∀(ps:List (Nat×Nat×Nat)) (l l':Loc),follow tm w l ps=some l'->follow tm w' l ps=some l'
 | [],_,_,h=>h
 | (c,i,z) :: ps,l,l',h=>by
  simp only[follow] at h ⊢
  cases hs:Qm tm w l c i z with
  | none=>rw[hs] at h; cases h
  | some l1 =>
   rw[hs] at h
   rw[XgW (tm':=tm) (w':=w') (λv hv=>Xax hc l c v hv) hs]
   exact Uj hc ps l1 l' h
def Ux{tm tm':Array Value}{w:World}:∀(ps:List (Nat×Nat×Nat)) (g o:Nat),follow tm w (.mem g o) ps=follow tm' w (.mem g o) ps
 | [],_,_=>rfl
 | (c,i,z) :: ps,g,o=>by
  simp only[follow]
  have:Qm tm w (.mem g o) c i z=Qm tm' w (.mem g o) c i z:=rfl
  rw[this]
  cases hs:Qm tm' w (.mem g o) c i z with
  | none=>rfl
  | some l1 =>
   obtain⟨g1,o1,rfl⟩:=Uw hs
   exact Ux ps g1 o1
def Uy{tm:Array Value}{w:World}:∀(ps qs:List (Nat×Nat×Nat)) (l:Loc),follow tm w l (ps++qs)=(follow tm w l ps).bind λl'=>follow tm w l' qs
 | [],_,_=>rfl
 | (c,i,z) :: ps,qs,l=>by
  simp only[List.cons_append,follow]
  cases Qm tm w l c i z with
  | none=>rfl
  | some l1=>exact Uy ps qs l1
def YG(st:St)(pl:Pl)(c:Nat):Prop:=∃row,nav (Xa st pl.e pl.r) pl.path=some row/\(row[c]?).any Zo=true
def Xco(st:St)(pl:Pl):Prop:=(∃row,nav (Xa st pl.e pl.r) pl.path=some row)/\(pl.path=[]->pl.e=false/\st.bx pl.r≠[])
def Pt(st:St)(tm:Array Value)(w:World)(base:Nat->Nat×Nat)(pl:Pl)(ad:Addr):Prop:=Xn3 tm w base pl ad/\Xco st pl
def Rf(st:St)(tm:Array Value)(w:World)(base:Nat->Nat×Nat)(pl:Pl)(z lo n:Nat)(v:Value):Prop:=Xn4 tm w base pl z lo n v/\YG st pl pl.c
structure Frame (w0 w:World) (L:CS):Prop where
 os:w.os=w0.os
 tape:w.tape=w0.tape
 output:w.output=w0.output
 size:w0.heap.size<=w.heap.size
 block:∀g,g<w0.heap.size->w.heap[g]?=w0.heap[g]?\/∃c c' e fr,w0.heap[g]?=some (.cells c e fr)/\w.heap[g]?=some (.cells c' e fr)/\c'.size=c.size/\∀k,¬L g k->c'[k]?=c[k]?
def Frame.refl(w:World)(L:CS):Frame w w L:=⟨rfl,rfl,rfl,Nat.le_refl _,λ_ _=>.inl rfl⟩
def Frame.mono{w0 w:World}{L L':CS}(h:Frame w0 w L)(hs:Sub L L'):Frame w0 w L' :=
 ⟨h.os,h.tape,h.output,h.size,λg hg=>(h.block g hg).imp id λ⟨c,c',e,fr,h1,h2,h3,h4⟩=>⟨c,c',e,fr,h1,h2,h3,λk hk=>h4 k (λhl=>hk (hs _ _ hl))⟩⟩
def Frame.trans{a b c:World}{L:CS}(h:Frame a b L)(k:Frame b c L):Frame a c L:=by
 refine⟨k.os.trans h.os,k.tape.trans h.tape,k.output.trans h.output,Nat.le_trans h.size k.size,λg hg=>?_⟩
 rcases k.block g (Nat.lt_of_lt_of_le hg h.size) with k1 | ⟨c1,c2,e,fr,k1,k2,k3,k4⟩
 ·rw[k1]; exact h.block g hg
 ·rcases h.block g hg with h1 | ⟨d1,d2,e',fr',h1,h2,h3,h4⟩
  ·exact .inr ⟨c1,c2,e,fr,by rw[<-h1]; exact k1,k2,k3,k4⟩
  ·rw[h2] at k1
   injection k1 with k1
   injection k1 with e1 e2 e3
   subst e1 e2 e3
   exact .inr ⟨d1,c2,e',fr',h1,k2,k3.trans h3,λi hi=>(k4 i hi).trans (h4 i hi)⟩
def Frame.step{w0 w w':World}{L M:CS}(h:Frame w0 w L)(k:Frame w w' M)(hM:∀g i,M g i->L g i\/w0.heap.size<=g):Frame w0 w' L:=by
 refine⟨k.os.trans h.os,k.tape.trans h.tape,k.output.trans h.output,Nat.le_trans h.size k.size,λg hg=>?_⟩
 rcases k.block g (Nat.lt_of_lt_of_le hg h.size) with k1 | ⟨c1,c2,e,fr,k1,k2,k3,k4⟩
 ·rw[k1]; exact h.block g hg
 ·have k4':∀i,¬L g i->c2[i]?=c1[i]?:=λi hi=>k4 i (λhm=>(hM g i hm).elim hi (λhge=>by omega))
  rcases h.block g hg with h1 | ⟨d1,d2,e',fr',h1,h2,h3,h4⟩
  ·exact .inr ⟨c1,c2,e,fr,by rw[<-h1]; exact k1,k2,k3,k4'⟩
  ·rw[h2] at k1
   injection k1 with k1
   injection k1 with e1 e2 e3
   subst e1 e2 e3
   exact .inr ⟨d1,c2,e',fr',h1,k2,k3.trans h3,λi hi=>(k4' i hi).trans (h4 i hi)⟩
def QO{w w':World}{g k:Nat}(h:w'.heap[g]?=w.heap[g]?):Xt w' g k=Xt w g k/\∀j,YE w' g j=YE w g j:=by
 simp[Xt,YE,World.cell?,World.frozen?,h]
def Frame.same{w0 w:World}{L S:CS}(h:Frame w0 w L)(hd:XY S L)(hlt:∀g k,S g k->g<w0.heap.size):XN S w0 w:=by
 intro g k hs
 rcases h.block g (hlt g k hs) with h1 | ⟨c,c',e,fr,h1,h2,h3,h4⟩
 ·exact QO h1
 ·have:=h4 k (λhl=>hd g k hs hl)
  simp[Xt,YE,World.cell?,World.frozen?,h1,h2,this]
def Frame.froz{w0 w:World}{L:CS}(h:Frame w0 w L){g:Nat}(hg:g<w0.heap.size):∀j,YE w g j=YE w0 g j:=by
 intro j
 rcases h.block g hg with h1 | ⟨c,c',e,fr,h1,h2,h3,h4⟩
 ·exact(QO (k:=0) h1).2 j
 ·simp[YE,World.frozen?,h1,h2]
structure Xp (w0:World) (L Im0:CS) (st:St) (tm:Array Value) (w:World) (Im:CS) (base:Nat->Nat×Nat) (SO:Bool->Nat->CS):Prop where
 env:∀t,Top w Im (Pt st tm w base) (Rf st tm w base) (tm.getD t undef) (st.env t) (SO true t)
 bx:∀r,Up (Yy w Im (Pt st tm w base) (Rf st tm w base)) tm w (.mem (base r).1 (base r).2) (st.bx r) (SO false r)
 dis:∀e r e' r',¬(e=e'/\r=r')->XY (SO e r) (SO e' r')
 disI:∀e r,XY (SO e r) Im
 inI:∀g k,Im g k->g<w.heap.size
 inS:∀e r g k,SO e r g k->g<w.heap.size
 imm:Sub Im0 Im
 fromI:∀g k,Im g k->Im0 g k\/L g k\/w0.heap.size<=g
 fromS:∀e r g k,SO e r g k->L g k\/w0.heap.size<=g
 frame:Frame w0 w L
end Go.Vm
set_option autoImplicit false
namespace Go.Vm
variable {w0 : World} {L Im0 : CS} {st : St} {tm : Array Value} {w : World} {Im : CS} {base : Nat -> Nat × Nat} {SO : Bool -> Nat -> CS}
def Xfu(kp kr:Pl->Bool)(a:AV):Zo (filt kp kr a)=Zo a:=by
 cases a with
 | p q=>unfold filt; split<;>rfl
 | rf q z lo n=>unfold filt; split<;>rfl
 | _=>rfl
def Xcp(kp kr:Pl->Bool)(a:AV):cellsOf (filt kp kr a)=XR kp kr (cellsOf a):=by
 cases a with
 | p q=>simp only[cellsOf,XR]; unfold filt; cases kp q<;>rfl
 | rf q z lo n=>simp only[cellsOf,XR]; unfold filt; cases kr q<;>rfl
 | _=>rfl
def Zm(kp kr:Pl->Bool)(st:St)(e:Bool)(r:Nat):Xa (st.filt kp kr) e r=XR kp kr (Xa st e r):=by
 cases e<;>simp[Xa,St.filt,Xcp]
def Qn(kp kr:Pl->Bool)(l:List AV)(c:Nat):((XR kp kr l)[c]?).any Zo=(l[c]?).any Zo:=by
 rw[Yq]; cases l[c]?<;>simp[Xfu]
def Y7(kp kr:Pl->Bool)(l:List AV):XR kp kr l≠[]↔l≠[]:=by cases l<;>simp[XR]
def Xdf(kp kr:Pl->Bool)(l:List AV)(c i z:Nat):YC (XR kp kr l) c i z=YC l c i z:=by
 unfold YC
 rw[Yq]
 cases h:l[c]? with
 | none=>rfl
 | some a =>
  cases a with
  | p q=>simp only[Option.map]; unfold filt; cases kp q<;>rfl
  | rf q z lo n=>simp only[Option.map]; unfold filt; cases kr q<;>rfl
  | _=>rfl
def Q5(kp kr:Pl->Bool)(l:List AV)(ps:List (Nat×Nat×Nat)):nav (XR kp kr l) ps=if ps=[] then some (XR kp kr l) else nav l ps:=by
 cases ps with
 | nil=>rfl
 | cons x ps=>obtain⟨c,i,z⟩:=x; simp only[nav,Xdf]; rfl
def ZI(kp kr:Pl->Bool)(pl:Pl):Xco (st.filt kp kr) pl↔Xco st pl:=by
 unfold Xco
 rw[Zm,Q5]
 by_cases hp:pl.path=[]
 ·simp[hp,nav,St.filt,Y7]
 ·simp[hp]
def YH(kp kr:Pl->Bool)(pl:Pl)(c:Nat):YG (st.filt kp kr) pl c↔YG st pl c:=by
 unfold YG
 rw[Zm,Q5]
 by_cases hp:pl.path=[]
 ·simp[hp,nav,Qn]
 ·simp[hp]
def Xay{st st':St}{pl:Pl}(h:Xa st' pl.e pl.r=Xa st pl.e pl.r)(hb:pl.e=false->st'.bx pl.r=st.bx pl.r):Xco st pl->Xco st' pl:=by
 unfold Xco
 rw[h]
 rintro ⟨h1,h2⟩
 exact⟨h1,λhp=>⟨(h2 hp).1,by rw[hb (h2 hp).1]; exact(h2 hp).2⟩⟩
def U2{st st':St}{pl:Pl}{c:Nat}(h:Xa st' pl.e pl.r=Xa st pl.e pl.r):YG st pl c->YG st' pl c:=by
 unfold YG
 rw[h]; exact id
def Uz{cs row:List AV}{c i z:Nat}{ps:List (Nat×Nat×Nat)}(h:nav cs ((c,i,z) :: ps)=some row):(cs[c]?).any Zo=true:=by
 simp only[nav,YC] at h
 cases hc:cs[c]? with
 | none=>rw[hc] at h; simp at h
 | some a=>rw[hc] at h; cases a<;>simp_all [Zo]
def Pt.world{w':World}(hc:∀g k v,Xt w g k=some v->Xt w' g k=some v){pl:Pl}{ad:Addr}(h:Pt st tm w base pl ad):Pt st tm w' base pl ad:=by
 obtain⟨⟨g,o,h1,h2⟩,h3⟩:=h
 exact⟨⟨g,o,Uj hc _ _ _ h1,h2⟩,h3⟩
def Rf.world{w':World}(hc:∀g k v,Xt w g k=some v->Xt w' g k=some v){pl:Pl}{z lo n:Nat}{v:Value}(h:Rf st tm w base pl z lo n v):Rf st tm w' base pl z lo n v:=by
 obtain⟨⟨l,A,N,cap,A',h1,h2,h3⟩,h4⟩:=h
 exact⟨⟨l,A,N,cap,A',Uj hc _ _ _ h1,Xax hc _ _ _ h2,h3⟩,h4⟩
def Xp.world{w':World}(h:Xp w0 L Im0 st tm w Im base SO)(hf:Frame w w' nos):Xp w0 L Im0 st tm w' Im base SO:=by
 have hs:∀S:CS,(∀g k,S g k->g<w.heap.size)->XN S w w':=λS hS=>hf.same (λ_ _ _ h=>h.elim) hS
 have hc:∀g k v,Xt w g k=some v->Xt w' g k=some v:=by
  intro g k v hv
  have hlt:g<w.heap.size:=World.block_lt_of_cell? w ⟨g,k,none⟩ hv
  rw[(hs (λg' k'=>g'=g/\k'=k) (λg' k' e=>e.1▸hlt) g k ⟨rfl,rfl⟩).1]; exact hv
 have hp:∀pl ad,Pt st tm w base pl ad->Pt st tm w' base pl ad:=λ_ _=>Pt.world hc
 have hr:∀pl z lo n v,Rf st tm w base pl z lo n v->Rf st tm w' base pl z lo n v:=λ_ _ _ _ _=>Rf.world hc
 refine⟨λt=>(h.env t).keep (Sub.rfl' _) (hs _ h.inI) hp hr (Sub.rfl' _) (hs _ (h.inS true t)),λr=>?_,h.dis,h.disI,λg k hI=>Nat.lt_of_lt_of_le (h.inI g k hI) hf.size,
  λe r g k hS=>Nat.lt_of_lt_of_le (h.inS e r g k hS) hf.size,h.imm,h.fromI,h.fromS,h.frame.step hf (λ_ _ h=>h.elim)⟩
 obtain⟨vs,Sf,h1,h2,h3,h4,h5⟩:=h.bx r
 have hss:=hs _ (h.inS false r)
 refine⟨vs,Sf,λj a hj=>Xax hc _ _ _ (h1 j a hj),λj a hj=>(h2 j a hj).keep (Sub.rfl' _) (hs _ h.inI) hp hr (Sub.rfl' _) (hss.mono (h3 j)),h3,h4,λg o e j hj=>?_⟩
 obtain⟨k1,k2,k3⟩:=h5 g o e j hj
 exact⟨k1,k2.to (hss _ _ k1).2,k3⟩
def Y1(tm:Array Value)(d t:Nat)(v:Value)(h:t≠d):(tm.setIfInBounds d v).getD t undef=tm.getD t undef:=by
 simp only[Array.getD_eq_getD_getElem?,Array.getElem?_setIfInBounds]
 rw[if_neg (λe=>h e.symm)]
def ZX(tm:Array Value)(d:Nat)(v:Value)(h:d<tm.size):(tm.setIfInBounds d v).getD d undef=v:=by
 simp only[Array.getD_eq_getD_getElem?,Array.getElem?_setIfInBounds]
 simp[h]
def Xag{tm:Array Value}{d:Nat}{v:Value}{l:Loc}{c:Nat}(h:l≠.slot d):YW (tm.setIfInBounds d v) w l c=YW tm w l c:=by
 cases l with
 | slot r=>simp only[YW]; rw[Y1]; intro e; exact h (by rw[e])
 | mem g o=>rfl
def Q6{tm:Array Value}{d:Nat}{v:Value}{l:Loc}(h:l≠.slot d):∀ps,follow (tm.setIfInBounds d v) w l ps=follow tm w l ps
 | []=>rfl
 | (c,i,z) :: ps=>by
  simp only[follow]
  have:Qm (tm.setIfInBounds d v) w l c i z=Qm tm w l c i z:=by unfold Qm; rw[Xag h]
  rw[this]
  cases hs:Qm tm w l c i z with
  | none=>rfl
  | some l1 =>
   obtain⟨g,o,rfl⟩:=Uw hs
   exact Ux ps g o
def Qo{pl:Pl}{d:Nat}(h:¬(pl.e=true/\pl.r=d)):Yn base pl.e pl.r≠.slot d:=by
 unfold Yn
 intro e
 split at e
 ·rename_i he; injection e with e; exact h ⟨he,e⟩
 ·cases e
def Pt.set{d:Nat}{v:Value}{st':St}(hroot:∀e r,¬(e=true/\r=d)->Xa st' e r=Xa st e r){pl:Pl}{ad:Addr}(hk:¬(pl.e=true/\pl.r=d))(h:Pt st tm w base pl ad) :
  Pt st' (tm.setIfInBounds d v) w base pl ad:=by
 obtain⟨⟨g,o,h1,h2⟩,h3⟩:=h
 refine⟨⟨g,o,by rw[Q6 (Qo hk)]; exact h1,h2⟩,Xay (hroot _ _ hk) (λhe=>?_) h3⟩
 have:=hroot false pl.r (by simp)
 simpa[Xa] using this
def Rf.set{d:Nat}{v:Value}{st':St}(hroot:∀e r,¬(e=true/\r=d)->Xa st' e r=Xa st e r){pl:Pl}{z lo n:Nat}{u:Value}(hk:¬(pl.e=true/\pl.r=d))(h:Rf st tm w base pl z lo n u) :
  Rf st' (tm.setIfInBounds d v) w base pl z lo n u:=by
 obtain⟨⟨l,A,N,cap,A',h1,h2,h3⟩,h4⟩:=h
 have hl:l≠.slot d:=by
  cases hp:pl.path with
  | nil=>rw[hp] at h1; simp only[follow,Option.some.injEq] at h1; rw[<-h1]; exact Qo hk
  | cons x ps =>
   obtain⟨c,i,z⟩:=x
   rw[hp] at h1
   have:∀(ps:List (Nat×Nat×Nat)) (l0:Loc),(∃g o,l0=.mem g o)->follow tm w l0 ps=some l->∃g o,l=.mem g o:=by
    intro ps
    induction ps with
    | nil=>intro l0 h0 hf; simp only[follow,Option.some.injEq] at hf; rw[<-hf]; exact h0
    | cons y ps ih =>
     intro l0 _ hf
     obtain⟨c,i,z⟩:=y
     simp only[follow] at hf
     cases hs:Qm tm w l0 c i z with
     | none=>rw[hs] at hf; cases hf
     | some l1=>rw[hs] at hf; exact ih l1 (Uw hs) hf
   simp only[follow] at h1
   cases hs:Qm tm w (Yn base pl.e pl.r) c i z with
   | none=>rw[hs] at h1; cases h1
   | some l1=>rw[hs] at h1; obtain⟨g,o,rfl⟩:=this ps l1 (Uw hs) h1; intro e; cases e
 exact⟨⟨l,A,N,cap,A',by rw[Q6 (Qo hk)]; exact h1,by rw[Xag hl]; exact h2,h3⟩,U2 (hroot _ _ hk) h4⟩
def Uk{a:AV}(h:Yp a=false)(c:Nat):((cellsOf a)[c]?).any Zo=false:=by
 cases a with
 | agg cs =>
  simp only[Yp,List.any_eq_false] at h
  cases hc:cs[c]? with
  | none=>simp[cellsOf,hc]
  | some x=>simpa[cellsOf,hc] using h x (List.mem_of_getElem? hc)
 | sl t z es=>simp[Yp] at h
 | _=>cases c<;>simp[cellsOf,Zo]
def Pt.off{d:Nat}(hd:Yp (st.env d)=false){pl:Pl}{ad:Addr}(h:Pt st tm w base pl ad):¬(pl.e=true/\pl.r=d):=by
 rintro ⟨he,hr⟩
 obtain⟨⟨row,h3⟩,h4⟩:=h.2
 cases hp:pl.path with
 | nil=>have:=(h4 hp).1; rw[he] at this; cases this
 | cons x ps =>
  obtain⟨c,i,z⟩:=x
  rw[hp,he,hr] at h3
  have:=Uz h3
  simp only[Xa,if_true] at this
  rw[Uk hd] at this; cases this
def Rf.off{d:Nat}(hd:Yp (st.env d)=false){pl:Pl}{z lo n:Nat}{v:Value}(h:Rf st tm w base pl z lo n v):¬(pl.e=true/\pl.r=d):=by
 rintro ⟨he,hr⟩
 obtain⟨row,h3,h4⟩:=h.2
 cases hp:pl.path with
 | nil =>
  rw[hp,he,hr] at h3
  simp only[Xa,if_true,nav,Option.some.injEq] at h3
  subst h3
  rw[Uk hd] at h4; cases h4
 | cons x ps =>
  obtain⟨c,i,z⟩:=x
  rw[hp,he,hr] at h3
  have:=Uz h3
  simp only[Xa,if_true] at this
  rw[Uk hd] at this; cases this
def Zf{α:Type}(f:Nat->α)(t:Nat)(v:α):upd f t v t=v:=by simp[upd]
def Yr{α:Type}(f:Nat->α){t x:Nat}(v:α)(h:x≠t):upd f t v x=f x:=by simp[upd,h]
def YF(st:St)(d:Nat)(a:AV):∀e r,¬(e=true/\r=d)->Xa (⟨upd st.env d a,st.bx⟩:St) e r=Xa st e r:=by
 intro e r h
 cases e with
 | false=>rfl
 | true=>simp only[Xa,if_true]; rw[Yr _ _ (λhr=>h ⟨rfl,hr⟩)]
def XZ{e:Bool}{r:Nat}{q:Pl}:Xu e r q=true↔¬(q.e=e/\q.r=r):=by
 unfold Xu
 simp only[Bool.not_eq_true',Bool.and_eq_false_iff,beq_eq_false_iff_ne,ne_eq]
 constructor
 ·rintro (h | h) ⟨h1,h2⟩
  ·exact h h1
  ·exact h h2
 ·intro h
  by_cases h1:q.e=e
  ·exact .inr λh2=>h ⟨h1,h2⟩
  ·exact .inl h1
def own(SO:Bool->Nat->CS)(e:Bool)(r:Nat)(T:CS):Bool->Nat->CS:=λe' r'=>if e'=e/\r'=r then T else SO e' r'
def YQ(SO:Bool->Nat->CS)(e:Bool)(r:Nat)(T:CS):own SO e r T e r=T:=by simp[own]
def Zp{SO:Bool->Nat->CS}{e:Bool}{r:Nat}{T:CS}{e':Bool}{r':Nat}(h:¬(e'=e/\r'=r)):own SO e r T e' r'=SO e' r':=by simp[own,h]
def Xp.put{d:Nat}{v:Value}{a:AV}{T:CS}(h:Xp w0 L Im0 st tm w Im base SO)(hd:d<tm.size)(ht:Top w Im (Pt st tm w base) (Rf st tm w base) v a T)
  (h1:∀e r,¬(e=true/\r=d)->XY T (SO e r)) (h2:XY T Im) (h3:∀g k,T g k->g<w.heap.size) (h4:∀g k,T g k->L g k\/w0.heap.size<=g) :
  Xp w0 L Im0 (st.put d a) (tm.setIfInBounds d v) w Im base (own SO true d T):=by
 have rest:∀(st':St),(∀t,Top w Im (Pt st' (tm.setIfInBounds d v) w base) (Rf st' (tm.setIfInBounds d v) w base) ((tm.setIfInBounds d v).getD t undef) (st'.env t) (own SO true d T true t)) ->
   (∀r,Up (Yy w Im (Pt st' (tm.setIfInBounds d v) w base) (Rf st' (tm.setIfInBounds d v) w base)) (tm.setIfInBounds d v) w (.mem (base r).1 (base r).2) (st'.bx r) (SO false r)) ->
   Xp w0 L Im0 st' (tm.setIfInBounds d v) w Im base (own SO true d T):=by
  intro st' he hb
  refine⟨he,λr=>by rw[Zp (by simp)]; exact hb r,?_,?_,h.inI,?_,h.imm,h.fromI,?_,h.frame⟩
  ·intro e r e' r' hne
   by_cases c1:e=true/\r=d
   ·obtain⟨rfl,rfl⟩:=c1
    rw[YQ,Zp (λc=>hne ⟨c.1.symm,c.2.symm⟩)]
    exact h1 e' r' (λc=>hne ⟨c.1.symm,c.2.symm⟩)
   ·rw[Zp c1]
    by_cases c2:e'=true/\r'=d
    ·obtain⟨rfl,rfl⟩:=c2
     rw[YQ]; exact(h1 e r c1).symm
    ·rw[Zp c2]; exact h.dis e r e' r' hne
  ·intro e r
   by_cases c1:e=true/\r=d
   ·obtain⟨rfl,rfl⟩:=c1; rw[YQ]; exact h2
   ·rw[Zp c1]; exact h.disI e r
  ·intro e r
   by_cases c1:e=true/\r=d
   ·obtain⟨rfl,rfl⟩:=c1; rw[YQ]; exact h3
   ·rw[Zp c1]; exact h.inS e r
  ·intro e r
   by_cases c1:e=true/\r=d
   ·obtain⟨rfl,rfl⟩:=c1; rw[YQ]; exact h4
   ·rw[Zp c1]; exact h.fromS e r
 have hs:∀S,XN S w w:=λS=>XN.refl S w
 unfold St.put
 by_cases hsl:Yp (st.env d)=true
 ·rw[if_pos hsl]
  refine rest _ ?_ ?_
  ·intro t
   by_cases htd:t=d
   ·subst htd
    simp only[Zf,YQ]
    rw[ZX _ _ _ hd]
    refine ht.filt _ _ (λpl ad hk hp=>?_) (λpl z lo n u hk hp=>?_)
    ·exact Pt.set (st:=st.dropRoot true t) (YF _ _ _) (XZ.1 hk) ⟨hp.1,(ZI _ _ pl).2 hp.2⟩
    ·exact Rf.set (st:=st.dropRoot true t) (YF _ _ _) (XZ.1 hk) ⟨hp.1,(YH _ _ pl _).2 hp.2⟩
   ·simp only[Yr _ _ htd,Zp (show ¬(true=true/\t=d) from λc=>htd c.2)]
    rw[Y1 _ _ _ _ htd]
    refine(h.env t).filt _ _ (λpl ad hk hp=>?_) (λpl z lo n u hk hp=>?_)
    ·exact Pt.set (st:=st.dropRoot true d) (YF _ _ _) (XZ.1 hk) ⟨hp.1,(ZI _ _ pl).2 hp.2⟩
    ·exact Rf.set (st:=st.dropRoot true d) (YF _ _ _) (XZ.1 hk) ⟨hp.1,(YH _ _ pl _).2 hp.2⟩
  ·intro r
   obtain⟨vs,Sf,k1,k2,k3,k4,k5⟩:=h.bx r
   refine⟨vs,Sf,λj b hj=>?_,λj b hj=>?_,k3,k4,λg o e j hj=>by have:=k5 g o e j (by simpa[St.dropRoot,St.filt,XT] using hj); simpa[St.dropRoot,St.filt,XT] using this⟩
   all_goals
    simp only[St.dropRoot,St.filt,Yq] at hj
    obtain⟨b',hb',rfl⟩:=Option.map_eq_some_iff.1 hj
   ·exact k1 j b' hb'
   ·refine(k2 j b' hb').filt _ _ (λpl ad hk hp=>?_) (λpl z lo n u hk hp=>?_)
    ·exact Pt.set (st:=st.dropRoot true d) (YF _ _ _) (XZ.1 hk) ⟨hp.1,(ZI _ _ pl).2 hp.2⟩
    ·exact Rf.set (st:=st.dropRoot true d) (YF _ _ _) (XZ.1 hk) ⟨hp.1,(YH _ _ pl _).2 hp.2⟩
 ·have hsl':Yp (st.env d)=false:=by simpa using hsl
  rw[if_neg hsl]
  have hp:∀pl ad,Pt st tm w base pl ad->Pt ⟨upd st.env d a,st.bx⟩ (tm.setIfInBounds d v) w base pl ad:=λpl ad hp=>Pt.set (YF _ _ _) (hp.off hsl') hp
  have hr:∀pl z lo n u,Rf st tm w base pl z lo n u->Rf ⟨upd st.env d a,st.bx⟩ (tm.setIfInBounds d v) w base pl z lo n u:=λpl z lo n u hp=>Rf.set (YF _ _ _) (hp.off hsl') hp
  refine rest _ ?_ ?_
  ·intro t
   by_cases htd:t=d
   ·subst htd
    simp only[Zf,YQ]
    rw[ZX _ _ _ hd]
    exact ht.keep (Sub.rfl' _) (hs _) hp hr (Sub.rfl' _) (hs _)
   ·simp only[Yr _ _ htd,Zp (show ¬(true=true/\t=d) from λc=>htd c.2)]
    rw[Y1 _ _ _ _ htd]
    exact(h.env t).keep (Sub.rfl' _) (hs _) hp hr (Sub.rfl' _) (hs _)
  ·intro r
   obtain⟨vs,Sf,k1,k2,k3,k4,k5⟩:=h.bx r
   exact⟨vs,Sf,k1,λj b hj=>(k2 j b hj).keep (Sub.rfl' _) (hs _) hp hr (Sub.rfl' _) (hs _),k3,k4,k5⟩
def Xp.putN{d:Nat}{v:Value}{a:AV}(h:Xp w0 L Im0 st tm w Im base SO)(hd:d<tm.size)(ht:Top w Im (Pt st tm w base) (Rf st tm w base) v a nos) :
  Xp w0 L Im0 (st.put d a) (tm.setIfInBounds d v) w Im base (own SO true d nos) :=
 h.put hd ht (λ_ _ _=>Xh _) (Xh _) (λ_ _ h=>h.elim) (λ_ _ h=>h.elim)
end Go.Vm
set_option autoImplicit false
namespace Go.Vm
def un(S T:CS):CS:=λb k=>S b k\/T b k
def ZJ(S T:CS):CS:=λb k=>S b k/\¬T b k
def XbR(S T:CS):Sub (ZJ S T) S:=λ_ _ h=>h.1
def Xj(S T:CS):Sub S (un S T):=λ_ _=>.inl
def Yt(S T:CS):Sub T (un S T):=λ_ _=>.inr
def U3{S T U:CS}(h:Sub S U)(k:Sub T U):Sub (un S T) U:=λ_ _ x=>x.elim (h _ _) (k _ _)
structure ZD (Q:Value->AV->CS->Prop) (tm:Array Value) (w:World) (l:Loc) (cs:List AV) (S:CS) (vs:Nat->Value) (Sf:Nat->CS):Prop where
 get:∀(j:Nat) (a:AV),cs[j]?=some a->YW tm w l j=some (vs j)
 sh:∀(j:Nat) (a:AV),cs[j]?=some a->Q (vs j) a (Sf j)
 sub:∀j,Sub (Sf j) S
 dis:∀i j,i≠j->XY (Sf i) (Sf j)
 mem:∀g o,l=.mem g o->∀j,j<cs.length->S g (o+j)/\fz w g (o+j) cs.length/\∀i,¬Sf i g (o+j)
def Up.data{Q:Value->AV->CS->Prop}{tm:Array Value}{w:World}{l:Loc}{cs:List AV}{S:CS}(h:Up Q tm w l cs S):∃vs Sf,ZD Q tm w l cs S vs Sf:=by
 obtain⟨vs,Sf,h1,h2,h3,h4,h5⟩:=h
 exact⟨vs,Sf,h1,h2,h3,h4,h5⟩
def ZD.node{Q:Value->AV->CS->Prop}{tm:Array Value}{w:World}{l:Loc}{cs:List AV}{S:CS}{vs:Nat->Value}{Sf:Nat->CS}(h:ZD Q tm w l cs S vs Sf):Up Q tm w l cs S :=
 ⟨vs,Sf,h.get,h.sh,h.sub,h.dis,h.mem⟩
def ZD.mono{Q:Value->AV->CS->Prop}{tm:Array Value}{w:World}{l:Loc}{cs:List AV}{S S':CS}{vs:Nat->Value}{Sf:Nat->CS}(h:ZD Q tm w l cs S vs Sf)(hs:Sub S S'):ZD Q tm w l cs S' vs Sf :=
 ⟨h.get,h.sh,λj=>(h.sub j).trans hs,h.dis,λg o e j hj=>⟨hs _ _ (h.mem g o e j hj).1,(h.mem g o e j hj).2⟩⟩
def Xaz{cs row:List AV}{c i z:Nat}{t:Tag}(h:YC cs c i z=some (t,row)):∃es,cs[c]?=some (.sl t z es)/\es[i]?=some row:=by
 unfold YC at h
 cases hc:cs[c]? with
 | none=>rw[hc] at h; cases h
 | some a =>
  rw[hc] at h
  cases a with
  | sl t' z' es =>
   simp only at h
   split at h
   ·rename_i hz
    cases he:es[i]? with
    | none=>rw[he] at h; cases h
    | some r =>
     rw[he] at h
     injection h with h
     injection h with h1 h2
     subst h1 h2 hz
     exact⟨es,rfl,he⟩
   ·cases h
  | _=>cases h
def Yd{cs row:List AV}{c i z:Nat}{ps:List (Nat×Nat×Nat)}(h:nav cs ((c,i,z) :: ps)=some row):∃t es row0,cs[c]?=some (.sl t z es)/\es[i]?=some row0/\nav row0 ps=some row:=by
 simp only[nav] at h
 cases hs:YC cs c i z with
 | none=>rw[hs] at h; cases h
 | some x =>
  obtain⟨t,row0⟩:=x
  rw[hs] at h
  obtain⟨es,h1,h2⟩:=Xaz hs
  exact⟨t,es,row0,h1,h2,h⟩
def XgX{cs:List AV}{c i z:Nat}{ps:List (Nat×Nat×Nat)}(h:wrt cs ((c,i,z) :: ps)=true):∃es row0,cs[c]?=some (.sl .mut z es)/\es[i]?=some row0/\wrt row0 ps=true:=by
 simp only[wrt] at h
 cases hs:YC cs c i z with
 | none=>rw[hs] at h; cases h
 | some x =>
  obtain⟨t,row0⟩:=x
  rw[hs] at h
  cases t with
  | «mut» =>
   obtain⟨es,h1,h2⟩:=Xaz hs
   exact⟨es,row0,h1,h2,h⟩
  | _=>cases h
def Y8{tm:Array Value}{w:World}{l:Loc}{c i z g o n cap:Nat}(h:YW tm w l c=some (.slice (some ⟨g,o,none⟩) n cap)):Qm tm w l c i z=some (.mem g (o+i*z)):=by
 simp[Qm,h]
def Rep.read{tm:Array Value}{w w':World}{Im:CS}:∀(qs:List (Nat×Nat×Nat)) {v:Value} {t:Tag} {z:Nat} {es:List (List AV)} {S:CS} {i:Nat} {row0 row:List AV},
  Rep w Im v (.sl t z es) S->es[i]?=some row0->nav row0 qs=some row->XN Im w w'->XN S w w' ->
  ∃g off n cap g' o',v=.slice (some ⟨g,off,none⟩) n cap/\follow tm w (.mem g (off+i*z)) qs=some (.mem g' o')/\follow tm w' (.mem g (off+i*z)) qs=some (.mem g' o') /\
   ∀(c:Nat) (a:AV),row[c]?=some a->∃u V,Xt w g' (o'+c)=some u/\Xt w' g' (o'+c)=some u/\Sub V S/\Rep w Im u a V:=by
 intro qs
 induction qs with
 | nil =>
  intro v t z es S i row0 row h hi hn hI hS
  simp only[nav,Option.some.injEq] at hn
  subst hn
  cases h with
  | sl g off vs Sf hn hc hL hA hz hrow hin hf hsub hd hself hnone =>
   rename_i A n cap
   obtain⟨hlt,_⟩:=List.getElem?_eq_some_iff.1 hi
   refine⟨g,off,n,cap,g,off+i*z,by rw[hA (by omega)],rfl,rfl,λc a hca=>?_⟩
   obtain⟨h1,h2,h3⟩:=idx_lt hz hi hca
   rw[hn] at h3
   have h4:n*z<=cap*z:=Nat.mul_le_mul_right _ hc
   have hv:=hrow i row0 c a hi hca
   rw[<-Nat.add_assoc] at hv
   refine⟨vs i c,Sf i c,hv,?_,hsub i c,hin i row0 c a hi hca⟩
   by_cases ht:t=.mut
   ·rw[Nat.add_assoc,(hS _ _ (hf.own ht (i*z+c) (by omega))).1,<-Nat.add_assoc]; exact hv
   ·rw[Nat.add_assoc,(hI _ _ (hf.imm ht (i*z+c) h3)).1,<-Nat.add_assoc]; exact hv
 | cons x qs ih =>
  obtain⟨c,j,z'⟩:=x
  intro v t z es S i row0 row h hi hn hI hS
  obtain⟨t',es',row1,hc',hj,hn'⟩:=Yd hn
  cases h with
  | sl g off vs Sf hn hc hL hA hz hrow hin hf hsub hd hself hnone =>
   rename_i A n cap
   obtain⟨hlt,_⟩:=List.getElem?_eq_some_iff.1 hi
   obtain⟨h1,h2,h3⟩:=idx_lt hz hi hc'
   rw[hn] at h3
   have h4:n*z<=cap*z:=Nat.mul_le_mul_right _ hc
   have hv:=hrow i row0 c _ hi hc'
   have hv':Xt w' g (off+(i*z+c))=some (vs i c):=by
    by_cases ht:t=.mut
    ·rw[(hS _ _ (hf.own ht (i*z+c) (by omega))).1]; exact hv
    ·rw[(hI _ _ (hf.imm ht (i*z+c) h3)).1]; exact hv
   rw[<-Nat.add_assoc] at hv hv'
   obtain⟨g1,off1,n1,cap1,g',o',e1,f1,f2,hcell⟩:=ih (hin i row0 c _ hi hc') hj hn' hI (hS.mono (hsub i c))
   rw[e1] at hv hv'
   refine⟨g,off,n,cap,g',o',by rw[hA (by omega)],?_,?_,λk a hk=>?_⟩
   ·simp only[follow]
    rw[Y8 (l:=.mem g (off+i*z)) (i:=j) (z:=z') hv]; exact f1
   ·simp only[follow]
    rw[Y8 (l:=.mem g (off+i*z)) (i:=j) (z:=z') hv']; exact f2
   ·obtain⟨u,V,k1,k2,k3,k4⟩:=hcell k a hk
    exact⟨u,V,k1,k2,k3.trans (hsub i c),k4⟩
def Xix(g off i z:Nat)(Sf:Nat->Nat->CS):CS:=λb k=>(b=g/\off+i*z<=k/\k<off+i*z+z)\/∃j,Sf i j b k
def Xiy{i i' j j' z:Nat}(hj:j<z)(hj':j'<z)(h:i*z+j=i'*z+j'):i=i'/\j=j':=by
 have h1:(i*z+j) / z=i:=by rw[Nat.mul_comm,Nat.mul_add_div (by omega)]; simp[Nat.div_eq_of_lt hj]
 have h2:(i'*z+j') / z=i':=by rw[Nat.mul_comm,Nat.mul_add_div (by omega)]; simp[Nat.div_eq_of_lt hj']
 have h3:i=i':=by rw[<-h1,<-h2,h]
 subst h3
 exact⟨rfl,by omega⟩
def Xcq{i z n k:Nat}(hi:i<n)(h1:i*z<=k)(h2:k<i*z+z):k<n*z:=by
 have:(i+1)*z<=n*z:=Nat.mul_le_mul_right _ hi
 rw[Nat.add_mul] at this
 omega
def Yj{α:Type}{l:List α}{i k:Nat}{x y:α}(h:(l.set i x)[k]?=some y):(k=i/\y=x/\i<l.length)\/(k≠i/\l[k]?=some y):=by
 by_cases hk:k=i
 ·subst hk
  rw[List.getElem?_set] at h
  simp only[if_true] at h
  split at h
  ·rename_i hl; injection h with h; exact .inl ⟨rfl,h.symm,hl⟩
  ·cases h
 ·rw[List.getElem?_set] at h
  rw[if_neg (λe=>hk e.symm)] at h
  exact .inr ⟨hk,h⟩
def Rep.openRow{tm:Array Value}{w:World}{Im:CS}{v:Value}{z:Nat}{es:List (List AV)}{S:CS}{i:Nat}{row0:List AV}(h:Rep w Im v (.sl .mut z es) S)(hi:es[i]?=some row0) :
  ∃g off n cap T vs Sf,v=.slice (some ⟨g,off,none⟩) n cap/\Sub T S/\ZD (Rep w Im) tm w (.mem g (off+i*z)) row0 T vs Sf /\
   (∀(i':Nat) (row1:List AV),i'≠i->es[i']?=some row1->∃T' vs' Sf',Sub T' (ZJ S T)/\ZD (Rep w Im) tm w (.mem g (off+i'*z)) row1 T' vs' Sf') /\
   ∀(w':World) (Im':CS) (row':List AV) (U:CS) (vs':Nat->Value) (Sf':Nat->CS) (tm':Array Value),row'.length=row0.length->Sub Im Im'->XN Im w w'->XN (ZJ S T) w w' ->
    ZD (Rep w' Im') tm' w' (.mem g (off+i*z)) row' U vs' Sf'->XY U (ZJ S T)->Rep w' Im' v (.sl .mut z (es.set i row')) (un (ZJ S T) U):=by
 cases h with
 | sl g off vs Sf hn hc hL hA hz hrow hin hf hsub hd hself hnone =>
  rename_i A n cap
  obtain⟨hlt,_⟩:=List.getElem?_eq_some_iff.1 hi
  have hcz:n*z<=cap*z:=Nat.mul_le_mul_right _ hc
  have hrows:∀(i':Nat) (row1:List AV),es[i']?=some row1->ZD (Rep w Im) tm w (.mem g (off+i'*z)) row1 (Xix g off i' z Sf) (vs i') (Sf i'):=by
   intro i' row1 hi'
   refine⟨λj a hj=>?_,λj a hj=>hin i' row1 j a hi' hj,λj b k hk=>.inr ⟨j,hk⟩,λa b hab=>hd _ _ _ _ (λe=>hab e.2),?_⟩
   ·have:=hrow i' row1 j a hi' hj
    rw[<-Nat.add_assoc] at this
    exact this
   ·intro g' o' e j hj
    injection e with e1 e2
    subst e1 e2
    have hz':=hz i' row1 hi'
    have hlt':i'<es.length:=(List.getElem?_eq_some_iff.1 hi').1
    have hk:i'*z+j<n*z:=Xcq (hn▸hlt') (by omega) (by omega)
    refine⟨.inl ⟨rfl,by omega,by omega⟩,?_,λk hs=>?_⟩
    ·have:=(hf.free (by decide) (i'*z+j) (by omega)).2
     rw[hz']; rwa [<-Nat.add_assoc] at this
    ·rw[Nat.add_assoc] at hs
     exact hself rfl i' k (i'*z+j) (by omega) hs
  have hT:∀i',i'<n->Sub (Xix g off i' z Sf) S:=by
   intro i' hi' b k hk
   rcases hk with⟨rfl,h1,h2⟩ | ⟨j,hj⟩
   ·have hk:k-off<n*z:=Xcq hi' (by omega) (by omega)
    have:=hf.own rfl (k-off) (by omega)
    rwa [Nat.add_sub_cancel' (by omega)] at this
   ·exact hsub _ _ _ _ hj
  have hTd:∀i',i'<n->i'≠i->XY (Xix g off i' z Sf) (Xix g off i z Sf):=by
   intro i' hi' hne b k hk hk'
   rcases hk with⟨rfl,h1,h2⟩ | ⟨j,hj⟩
   ·have hkk:k-off<n*z:=Xcq hi' (by omega) (by omega)
    rcases hk' with⟨_,h3,h4⟩ | ⟨j',hj'⟩
    ·have:=Xiy (i:=i') (i':=i) (j:=k-off-i'*z) (j':=k-off-i*z) (z:=z) (by omega) (by omega) (by omega)
     exact hne this.1
    ·have:=hself rfl i j' (k-off) (by omega)
     rw[Nat.add_sub_cancel' (by omega)] at this
     exact this hj'
   ·rcases hk' with⟨rfl,h3,h4⟩ | ⟨j',hj'⟩
    ·have hkk:k-off<n*z:=Xcq (hn▸hlt) (by omega) (by omega)
     have:=hself rfl i' j (k-off) (by omega)
     rw[Nat.add_sub_cancel' (by omega)] at this
     exact this hj
    ·exact hd i' j i j' (λe=>hne e.1) b k hj hj'
  refine⟨g,off,n,cap,Xix g off i z Sf,vs i,Sf i,by rw[hA (by omega)],hT i (hn▸hlt),hrows i row0 hi,?_,?_⟩
  ·intro i' row1 hne hi'
   have hlt':i'<es.length:=(List.getElem?_eq_some_iff.1 hi').1
   refine⟨Xix g off i' z Sf,vs i',Sf i',λb k hk=>⟨hT i' (hn▸hlt') b k hk,λhk'=>hTd i' (hn▸hlt') hne b k hk hk'⟩,hrows i' row1 hi'⟩
  ·intro w' Im' row' U vs' Sf' tm' hlen hII hI hS hU hdU
   have hrow0:=hz i row0 hi
   have hlt0:i<n:=hn▸hlt
   have hrest:∀k,k<cap*z->¬(i*z<=k/\k<i*z+z)->ZJ S (Xix g off i z Sf) g (off+k):=by
    intro k hk hk'
    refine⟨hf.own rfl k hk,?_⟩
    rintro (⟨_,h1,h2⟩ | ⟨j,hj⟩)
    ·exact hk' ⟨by omega,by omega⟩
    ·exact hself rfl i j k hk hj
   have hrest2:∀i' j',i'≠i->Sub (Sf i' j') (ZJ S (Xix g off i z Sf)):=by
    intro i' j' hne b k hk
    refine⟨hsub _ _ _ _ hk,?_⟩
    rintro (⟨rfl,h1,h2⟩ | ⟨j,hj⟩)
    ·have hkk:k-off<n*z:=Xcq hlt0 (by omega) (by omega)
     have:=hself rfl i' j' (k-off) (by omega)
     rw[Nat.add_sub_cancel' (by omega)] at this
     exact this hk
    ·exact hd i' j' i j (λe=>hne e.1) b k hk hj
   have hmem:=hU.mem g (off+i*z) rfl
   refine .sl g off (λa b=>if a=i then vs' b else vs a b) (λa b=>if a=i then Sf' b else(if a<n then Sf a b else nos)) (by simpa using hn) hc hL hA ?_ ?_ ?_ ?_ ?_ ?_ ?_ ?_
   ·intro k row hk
    rcases Yj hk with⟨rfl,rfl,_⟩ | ⟨hne,hk⟩
    ·omega
    ·exact hz k row hk
   ·intro k row j a hk hj
    rcases Yj hk with⟨rfl,rfl,_⟩ | ⟨hne,hk⟩
    ·simp only[if_true]
     have:=hU.get j a hj
     rw[<-Nat.add_assoc]
     exact this
    ·rw[if_neg hne]
     obtain⟨h1,h2,h3⟩:=idx_lt hz hk hj
     rw[hn] at h3
     rw[(hS _ _ (hrest (k*z+j) (by omega) ?_)).1]
     ·exact hrow k row j a hk hj
     ·intro hh
      have:=Xiy (i:=k) (i':=i) (j:=j) (j':=k*z+j-i*z) (z:=z) h2 (by omega) (by omega)
      exact hne this.1
   ·intro k row j a hk hj
    rcases Yj hk with⟨rfl,rfl,_⟩ | ⟨hne,hk⟩
    ·simp only[if_true]
     exact hU.sh j a hj
    ·have hk0:k<n:=by have:=(List.getElem?_eq_some_iff.1 hk).1; omega
     rw[if_neg hne,if_neg hne,if_pos hk0]
     exact(hin k row j a hk hj).keep hII (Sub.rfl' _) hI (hS.mono (hrest2 k j hne))
   ·refine⟨λ_ k hk=>?_,(λe=>by cases e),λ_ k hk=>?_,λe=>absurd rfl e⟩
    ·by_cases hr:i*z<=k/\k<i*z+z
     ·have:=(hmem (k-i*z) (by omega)).1
      rw[Nat.add_assoc,Nat.add_sub_cancel' hr.1] at this
      exact .inr this
     ·exact .inl (hrest k hk hr)
    ·by_cases hr:i*z<=k/\k<i*z+z
     ·have h1:=(hmem (k-i*z) (by omega)).2.1
      have hlk:k-i*z<row'.length:=by omega
      have h2:=hU.get (k-i*z) row'[k-i*z] (List.getElem?_eq_getElem hlk)
      simp only[YW] at h2
      rw[Nat.add_assoc,Nat.add_sub_cancel' hr.1] at h1 h2
      rw[hlen,hrow0] at h1
      exact⟨⟨_,h2⟩,h1⟩
     ·have:=hS _ _ (hrest k hk hr)
      rw[this.1]
      exact⟨(hf.free (by decide) k hk).1,(hf.free (by decide) k hk).2.to this.2⟩
   ·intro a b
    by_cases ha:a=i
    ·simp only[ha,if_true]; exact(hU.sub b).trans (Yt _ _)
    ·simp only[ha,if_false]
     split
     ·exact(hrest2 a b ha).trans (Xj _ _)
     ·exact Xo _
   ·intro a b a' b' hne
    by_cases ha:a=i
    ·by_cases ha':a'=i
     ·subst ha ha'
      simp only[if_true]; exact hU.dis b b' (λe=>hne ⟨rfl,e⟩)
     ·simp only[ha,ha',if_true,if_false]
      split
      ·exact hdU.mono (hU.sub b) (hrest2 a' b' ha')
      ·exact XM _
    ·by_cases ha':a'=i
     ·simp only[ha,ha',if_true,if_false]
      split
      ·exact(hdU.mono (hU.sub b') (hrest2 a b ha)).symm
      ·exact Xh _
     ·simp only[ha,ha',if_false]
      split
      ·split
       ·exact hd _ _ _ _ hne
       ·exact XM _
      ·exact Xh _
   ·intro _ a b k hk
    by_cases ha:a=i
    ·simp only[ha,if_true]
     by_cases hr:i*z<=k/\k<i*z+z
     ·have:=(hmem (k-i*z) (by omega)).2.2 b
      rwa [Nat.add_assoc,Nat.add_sub_cancel' hr.1] at this
     ·intro hs
      exact hdU _ _ (hU.sub b _ _ hs) (hrest k hk hr)
    ·simp only[ha,if_false]
     split
     ·exact hself rfl a b k hk
     ·exact λh=>h
   ·intro e; exact absurd rfl e
end Go.Vm
set_option autoImplicit false
namespace Go.Vm
def chg(l:Loc)(c m len:Nat)(Sf:Nat->CS):CS:=λb k =>
 (∃g o j,l=.mem g o/\b=g/\k=o+j/\c<=j/\j<c+m/\j<len)\/∃j,c<=j/\j<c+m/\Sf j b k
def Xmk(tm:Array Value)(w:World)(l:Loc)(cs:List AV)(S Im:CS)(l':Loc)(row:List AV)(Sf:Nat->CS)(ps:List (Nat×Nat×Nat)):Prop :=
 ∀(w':World) (M:CS) (c m:Nat),Sub M (chg l' c m row.length Sf)->XN (λb k=>(S b k\/Im b k)/\¬M b k) w w' ->
  ∀(qs:List (Nat×Nat×Nat)) (row2:List AV),nav cs qs=some row2->Xq ps c m qs=false ->
   ∃l2,follow tm w l qs=some l2/\follow tm w' l qs=some l2/\∀c2,c2<row2.length->Xq ps c m (qs++[(c2,0,0)])=false->YW tm w' l2 c2=YW tm w l2 c2
section
variable {Q : Value -> AV -> CS -> Prop} {tm : Array Value} {w : World} {Im : CS} {l : Loc} {cs : List AV} {S : CS} {vs : Nat -> Value} {Sf : Nat -> CS}
def ZD.read1(hQ:∀v t z es V,Q v (.sl t z es) V->Rep w Im v (.sl t z es) V)(h:ZD Q tm w l cs S vs Sf){w':World}{c i z:Nat}{qs:List (Nat×Nat×Nat)}{row:List AV}
  (hn:nav cs ((c,i,z) :: qs)=some row) (hg:YW tm w' l c=YW tm w l c) (hI:XN Im w w') (hS:XN (Sf c) w w') :
  ∃l2,follow tm w l ((c,i,z) :: qs)=some l2/\follow tm w' l ((c,i,z) :: qs)=some l2/\∀c2,c2<row.length->YW tm w' l2 c2=YW tm w l2 c2:=by
 obtain⟨t,es,row0,hc,hi,hn'⟩:=Yd hn
 obtain⟨g,off,n,cap,g',o',e1,f1,f2,hcell⟩:=(hQ _ _ _ _ _ (h.sh c _ hc)).read (tm:=tm) qs hi hn' hI hS
 have hv:=h.get c _ hc
 rw[e1] at hv
 refine⟨.mem g' o',?_,?_,λc2 h2=>?_⟩
 ·simp only[follow]; rw[Y8 hv]; exact f1
 ·simp only[follow]; rw[Y8 (hg.trans hv)]; exact f2
 ·obtain⟨u,V,k1,k2,_⟩:=hcell c2 _ (List.getElem?_eq_getElem h2)
  exact k2.trans k1.symm
def Yu{w':World}{c:Nat}{V:CS}(hS:XN V w w')(h:∀g o,l=.mem g o->V g (o+c)):YW tm w' l c=YW tm w l c:=by
 cases l with
 | slot r=>rfl
 | mem g o=>exact(hS _ _ (h g o rfl)).1
def ZD.keep0(hQ:∀v t z es V,Q v (.sl t z es) V->Rep w Im v (.sl t z es) V)(hdI:XY S Im)(h:ZD Q tm w l cs S vs Sf):Xmk tm w l cs S Im l cs Sf []:=by
 intro w' M c m hM hs qs row2 hn ht
 have hMS:Sub M S:=by
  intro b k hb
  rcases hM b k hb with⟨g,o,j,e,rfl,rfl,h1,h2,h3⟩ | ⟨j,h1,h2,h3⟩
  ·exact(h.mem _ _ e j h3).1
  ·exact h.sub j b k h3
 have hIs:XN Im w w':=hs.mono λb k hb=>⟨.inr hb,λhm=>hdI b k (hMS b k hm) hb⟩
 have hcell:∀c2,c2<cs.length->¬(c<=c2/\c2<c+m)->YW tm w' l c2=YW tm w l c2:=by
  intro c2 h1 h2
  refine Yu hs λg o e=>⟨.inl (h.mem g o e c2 h1).1,λhm=>?_⟩
  rcases hM _ _ hm with⟨g',o',j,e',k1,k2,k3,k4,k5⟩ | ⟨j,k1,k2,k3⟩
  ·rw[e] at e'; injection e' with e1 e2; subst e1 e2; exact h2 ⟨by omega,by omega⟩
  ·exact(h.mem g o e c2 h1).2.2 j k3
 cases qs with
 | nil =>
  simp only[nav,Option.some.injEq] at hn
  subst hn
  refine⟨l,rfl,rfl,λc2 h2 ht2=>hcell c2 h2 ?_⟩
  simpa[Xq] using ht2
 | cons x qs =>
  obtain⟨cq,iq,zq⟩:=x
  have hcq:¬(c<=cq/\cq<c+m):=by simpa[Xq] using ht
  obtain⟨t,es,row0,hc,hi,hn'⟩:=Yd hn
  have hlt:cq<cs.length:=(List.getElem?_eq_some_iff.1 hc).1
  obtain⟨l2,f1,f2,f3⟩:=h.read1 hQ hn (hcell cq hlt hcq) hIs (hs.mono λb k hb=>⟨.inl (h.sub cq b k hb),λhm=>by
   rcases hM _ _ hm with⟨g',o',j,e',k1,k2,k3,k4,k5⟩ | ⟨j,k1,k2,k3⟩
   ·subst k1 k2; exact(h.mem _ _ e' j k5).2.2 cq hb
   ·by_cases hj:j=cq
    ·subst hj; exact hcq ⟨k1,k2⟩
    ·exact h.dis j cq hj b k k3 hb⟩)
  exact⟨l2,f1,f2,λc2 h2 _=>f3 c2 h2⟩
def ZD.lens:∀(ps:List (Nat×Nat×Nat)) {Q:Value->AV->CS->Prop} {l:Loc} {cs:List AV} {S:CS} {vs:Nat->Value} {Sf:Nat->CS} {row:List AV},
  (∀v t z es V,Q v (.sl t z es) V->Rep w Im v (.sl t z es) V)->XY S Im->ZD Q tm w l cs S vs Sf->wrt cs ps=true->nav cs ps=some row ->
  ∃l' T vs1 Sf1,follow tm w l ps=some l'/\Sub T S/\(ps=[]->l'=l/\T=S/\vs1=vs/\Sf1=Sf)/\(ps≠[]->∃g o,l'=.mem g o)/\ZD (if ps=[] then Q else Rep w Im) tm w l' row T vs1 Sf1 /\
   Xmk tm w l cs S Im l' row Sf1 ps /\
   ∀(w':World) (Im':CS) (Q':Value->AV->CS->Prop) (new:List AV) (U:CS) (vs':Nat->Value) (Sf':Nat->CS),new.length=row.length->Sub Im Im'->XN Im w w'->XN (ZJ S T) w w' ->
    ZD (if ps=[] then Q' else Rep w' Im') tm w' l' new U vs' Sf'->XY U (ZJ S T)->(∀j a,cs[j]?=some a->XN (Sf j) w w'->Q (vs j) a (Sf j)->Q' (vs j) a (Sf j))->(∀v a V,Rep w' Im' v a V->Q' v a V) ->
    Up Q' tm w' l (XG cs ps new) (un (ZJ S T) U):=by
 intro ps
 induction ps with
 | nil =>
  intro Q l cs S vs Sf row hQ hdI h hw hn
  simp only[nav,Option.some.injEq] at hn
  subst hn
  refine⟨l,S,vs,Sf,rfl,Sub.rfl' _,λ_=>⟨rfl,rfl,rfl,rfl⟩,λh=>absurd rfl h,h,h.keep0 hQ hdI,?_⟩
  intro w' Im' Q' new U vs' Sf' hl hII hI hS hU hdU hmv hR
  exact((hU:ZD Q' tm w' l new U vs' Sf').mono (Yt _ _)).node
 | cons x ps ih =>
  obtain⟨cp,ip,z⟩:=x
  intro Q l cs S vs Sf row hQ hdI h hw hn
  obtain⟨es,row0,hc,hi,hw'⟩:=XgX hw
  obtain⟨t,es',row0',hc',hi',hn'⟩:=Yd hn
  rw[hc] at hc'
  injection hc' with hc'
  injection hc' with _ _ e3
  subst e3
  rw[hi] at hi'
  injection hi' with hi'
  subst hi'
  have hR:=hQ _ _ _ _ _ (h.sh cp _ hc)
  have hltc:cp<cs.length:=(List.getElem?_eq_some_iff.1 hc).1
  obtain⟨g,off,n,cap,T0,vs0,Sf0,e1,hT0,hN0,hoth,hclose0⟩:=hR.openRow (tm:=tm) hi
  obtain⟨l',T,vs1,Sf1,f1,hTT,hnil,hmem',hN1,hkeep,hclose⟩:=ih (Q:=Rep w Im) (λ_ _ _ _ _ h=>h) (hdI.mono (hT0.trans (h.sub cp)) (Sub.rfl' _)) hN0 hw' hn'
  have hv:=h.get cp _ hc
  rw[e1] at hv
  have hN1':ZD (Rep w Im) tm w l' row T vs1 Sf1:=by
   have:(if ps=[] then Rep w Im else Rep w Im)=Rep w Im:=by split<;>rfl
   rw[this] at hN1; exact hN1
  have hTcp:Sub T (Sf cp):=hTT.trans hT0
  have hchgT:∀c m,Sub (chg l' c m row.length Sf1) T:=by
   intro c m b k hb
   rcases hb with⟨g,o,j,e,rfl,rfl,h1,h2,h3⟩ | ⟨j,h1,h2,h3⟩
   ·exact(hN1'.mem _ _ e j h3).1
   ·exact hN1'.sub j b k h3
  refine⟨l',T,vs1,Sf1,?_,hTcp.trans (h.sub cp),(λe=>by cases e),λ_=>?_,by rw[if_neg (by simp)]; exact hN1',?_,?_⟩
  ·simp only[follow]; rw[Y8 hv]; exact f1
  ·by_cases hp:ps=[]
   ·exact⟨g,_,(hnil hp).1⟩
   ·exact hmem' hp
  ·-- what does not lead Xq it
   intro w' M c m hM hs qs row2 hn2 ht
   have hMT:Sub M T:=hM.trans (hchgT c m)
   have hMcp:Sub M (Sf cp):=hMT.trans hTcp
   have hIs:XN Im w w':=hs.mono λb k hb=>⟨.inr hb,λhm=>hdI b k (h.sub cp b k (hMcp b k hm)) hb⟩
   have hcell:∀c2,c2<cs.length->YW tm w' l c2=YW tm w l c2:=by
    intro c2 h1
    exact Yu hs λg o e=>⟨.inl (h.mem g o e c2 h1).1,λhm=>(h.mem g o e c2 h1).2.2 cp (hMcp _ _ hm)⟩
   cases qs with
   | nil =>
    simp only[nav,Option.some.injEq] at hn2
    subst hn2
    exact⟨l,rfl,rfl,λc2 h2 _=>hcell c2 h2⟩
   | cons y qs =>
    obtain⟨cq,iq,zq⟩:=y
    obtain⟨t2,es2,row3,hc2,hi2,hn3⟩:=Yd hn2
    have hltq:cq<cs.length:=(List.getElem?_eq_some_iff.1 hc2).1
    by_cases hcc:cq=cp
    ·subst hcc
     rw[hc] at hc2
     injection hc2 with hc2
     injection hc2 with _ e4 e5
     subst e4 e5
     by_cases hii:iq=ip
     ·subst hii
      rw[hi] at hi2
      injection hi2 with hi2
      subst hi2
      have ht':Xq ps c m qs=false:=by simpa[Xq] using ht
      obtain⟨l2,k1,k2,k3⟩:=hkeep w' M c m hM (hs.mono λb k hb=>⟨hb.1.imp (λx=>h.sub cq b k (hT0 b k x)) id,hb.2⟩) qs row2 hn3 ht'
      refine⟨l2,?_,?_,λc2 h2 h3=>k3 c2 h2 (by simpa[Xq] using h3)⟩
      ·simp only[follow]; rw[Y8 hv]; exact k1
      ·simp only[follow]; rw[Y8 ((hcell cq hltq).trans hv)]; exact k2
     ·obtain⟨T',vs',Sf',hT',hN'⟩:=hoth iq row3 hii hi2
      have hsT':XN T' w w':=hs.mono λb k hb=>⟨.inl (h.sub cq b k ((hT' b k hb).1)),λhm=>(hT' b k hb).2 (hTT b k (hMT b k hm))⟩
      have hfol:∃l2,follow tm w (.mem g (off+iq*z)) qs=some l2/\follow tm w' (.mem g (off+iq*z)) qs=some l2/\∀c2,c2<row2.length->YW tm w' l2 c2=YW tm w l2 c2:=by
       cases qs with
       | nil =>
        simp only[nav,Option.some.injEq] at hn3
        subst hn3
        exact⟨_,rfl,rfl,λc2 h2=>Yu hsT' λg' o' e=>(hN'.mem g' o' e c2 h2).1⟩
       | cons z1 qs =>
        obtain⟨c3,i3,z3⟩:=z1
        obtain⟨t4,es4,row4,hc4,hi4,hn4⟩:=Yd hn3
        exact hN'.read1 (λ_ _ _ _ _ h=>h) hn3 (Yu hsT' λg' o' e=>(hN'.mem g' o' e c3 (List.getElem?_eq_some_iff.1 hc4).1).1) hIs (hsT'.mono (hN'.sub c3))
      obtain⟨l2,k1,k2,k3⟩:=hfol
      refine⟨l2,?_,?_,λc2 h2 _=>k3 c2 h2⟩
      ·simp only[follow]; rw[Y8 hv]; exact k1
      ·simp only[follow]; rw[Y8 ((hcell cq hltq).trans hv)]; exact k2
    ·obtain⟨l2,k1,k2,k3⟩:=h.read1 hQ hn2 (hcell cq hltq) hIs (hs.mono λb k hb=>⟨.inl (h.sub cq b k hb),λhm=>h.dis cq cp hcc b k hb (hMcp b k hm)⟩)
     exact⟨l2,k1,k2,λc2 h2 _=>k3 c2 h2⟩
  ·intro w' Im' Q' new U vs' Sf' hl hII hI hS hU hdU hmv hRQ
   rw[if_neg (by simp)] at hU
   have hsub0:Sub (ZJ T0 T) (ZJ S T):=λb k hb=>⟨h.sub cp b k (hT0 b k hb.1),hb.2⟩
   have hsub1:Sub (ZJ (Sf cp) T0) (ZJ S T):=λb k hb=>⟨h.sub cp b k hb.1,λht=>hb.2 (hTT b k ht)⟩
   have hsubj:∀j,j≠cp->Sub (Sf j) (ZJ S T):=λj hj b k hb=>⟨h.sub j b k hb,λht=>h.dis j cp hj b k hb (hTcp b k ht)⟩
   have hN2:Up (Rep w' Im') tm w' (.mem g (off+ip*z)) (XG row0 ps new) (un (ZJ T0 T) U):=by
    refine hclose w' Im' (Rep w' Im') new U vs' Sf' hl hII hI (hS.mono hsub0) ?_ (hdU.mono (Sub.rfl' _) hsub0) ?_ (λ_ _ _ h=>h)
    ·have:(if ps=[] then Rep w' Im' else Rep w' Im')=Rep w' Im':=by split<;>rfl
     rw[this]; exact hU
    ·intro j a _ hsj hr
     exact hr.keep hII (Sub.rfl' _) hI hsj
   obtain⟨vs2,Sf2,hN2⟩:=hN2.data
   have hlen2:(XG row0 ps new).length=row0.length:=by
    cases ps with
    | nil=>simp only[nav,Option.some.injEq] at hn'; subst hn'; simpa[XG] using hl
    | cons y ps=>obtain⟨c3,i3,z3⟩:=y; simp only[XG]; split<;>simp
   have hleaf:=hclose0 w' Im' _ _ vs2 Sf2 tm hlen2 hII hI (hS.mono hsub1) hN2 (λb k hb hb'=>hb.elim (λh1=>hb'.2 h1.1) (λh1=>hdU b k h1 (hsub1 b k hb')))
   have hset:XG cs ((cp,ip,z) :: ps) new=cs.set cp (.sl .mut z (es.set ip (XG row0 ps new))):=by
    simp only[XG,hc]
    rw[List.getD_eq_getElem?_getD,hi]; rfl
   rw[hset]
   refine ZD.node (vs:=vs) (Sf:=λj=>if j=cp then un (ZJ (Sf cp) T0) (un (ZJ T0 T) U) else Sf j) ⟨?_,?_,?_,?_,?_⟩
   ·intro j a hj
    have hjl:j<cs.length:=by have:=(List.getElem?_eq_some_iff.1 hj).1; simpa using this
    rw[Yu hS λg o e=>⟨(h.mem g o e j hjl).1,λht=>(h.mem g o e j hjl).2.2 cp (hTcp _ _ ht)⟩]
    exact h.get j _ (List.getElem?_eq_getElem hjl)
   ·intro j a hj
    rcases Yj hj with⟨rfl,rfl,_⟩ | ⟨hne,hj⟩
    ·simp only[if_true]; exact hRQ _ _ _ hleaf
    ·simp only[hne,if_false]; exact hmv j a hj (hS.mono (hsubj j hne)) (h.sh j a hj)
   ·intro j
    by_cases hj:j=cp
    ·simp only[hj,if_true]
     exact U3 (hsub1.trans (Xj _ _)) (U3 (hsub0.trans (Xj _ _)) (Yt _ _))
    ·simp only[hj,if_false]; exact(hsubj j hj).trans (Xj _ _)
   ·intro i j hne
    have key:∀j,j≠cp->XY (un (ZJ (Sf cp) T0) (un (ZJ T0 T) U)) (Sf j):=by
     intro j hj b k hb hb'
     rcases hb with h1 | h1 | h1
     ·exact h.dis cp j (λe=>hj e.symm) b k h1.1 hb'
     ·exact h.dis cp j (λe=>hj e.symm) b k (hT0 b k h1.1) hb'
     ·exact hdU b k h1 (hsubj j hj b k hb')
    by_cases hi':i=cp
    ·have hj':j≠cp:=λe=>hne (hi'.trans e.symm)
     simp only[hi',hj',if_true,if_false]; exact key j hj'
    ·by_cases hj':j=cp
     ·simp only[hi',hj',if_true,if_false]; exact(key i hi').symm
     ·simp only[hi',hj',if_false]; exact h.dis i j hne
   ·intro g1 o1 e j hj
    have hjl:j<cs.length:=by simpa using hj
    obtain⟨m1,m2,m3⟩:=h.mem g1 o1 e j hjl
    have hd:ZJ S T g1 (o1+j):=⟨m1,λht=>m3 cp (hTcp _ _ ht)⟩
    refine⟨.inl hd,by rw[List.length_set]; exact m2.to (hS _ _ hd).2,λi hb=>?_⟩
    by_cases hi':i=cp
    ·simp only[hi',if_true] at hb
     rcases hb with h1 | h1 | h1
     ·exact m3 cp h1.1
     ·exact m3 cp (hT0 _ _ h1.1)
     ·exact hdU _ _ h1 hd
    ·simp only[hi',if_false] at hb; exact m3 i hb
end
end Go.Vm
set_option autoImplicit false
namespace Go.Vm
variable {w0 : World} {L Im0 : CS} {st : St} {tm : Array Value} {w : World} {Im : CS} {base : Nat -> Nat × Nat} {SO : Bool -> Nat -> CS}
abbrev PL(st:St)(tm:Array Value)(w:World)(Im:CS)(base:Nat->Nat×Nat):Value->AV->CS->Prop:=Yy w Im (Pt st tm w base) (Rf st tm w base)
abbrev PT(st:St)(tm:Array Value)(w:World)(Im:CS)(base:Nat->Nat×Nat):Value->AV->CS->Prop:=Top w Im (Pt st tm w base) (Rf st tm w base)
def XgI:AV->Bool
 | .sl .ro _ _=>false
 | .sl _ _ _=>true
 | _=>false
def Rep.free{v:Value}{a:AV}{S T:CS}(h:Rep w Im v a S)(ha:XgI a=false):Rep w Im v a T:=by
 cases h with
 | u h=>exact .u h
 | ub=>exact .ub
 | b=>exact .b
 | i=>exact .i
 | s=>exact .s
 | nil=>exact .nil
 | pn=>exact .pn
 | @sl A n cap t z es S g off vs Sf hn hc hL hA hz hrow hin hf hsub hd hself hnone =>
  cases t with
  | ro =>
   have h0:=hnone (by decide)
   exact .sl g off vs Sf hn hc hL hA hz hrow hin ⟨(λe=>by cases e),(λe=>by cases e),λe=>absurd rfl e,hf.imm⟩ (λi j=>by rw[h0]; exact Xo _) hd (λe=>by cases e) hnone
  | app=>simp[XgI] at ha
  | «mut»=>simp[XgI] at ha
 | pr vs hrow hin=>exact .pr vs hrow hin
 | fn vs hl hin=>exact .fn vs hl hin
 | fs g off vs hn hc hA hrow hin=>exact .fs g off vs hn hc hA hrow hin
def Yy.free{Pt:Pl->Addr->Prop}{Rf:Pl->Nat->Nat->Nat->Value->Prop}{v:Value}{a:AV}{S T:CS}(h:Yy w Im Pt Rf v a S)(ha:XgI a=false):Yy w Im Pt Rf v a T:=by
 cases h with
 | rep h=>exact .rep (h.free ha)
 | p h=>exact .p h
 | rf h ho=>exact .rf h ho
 | fn vs hl hin=>exact .fn vs hl hin
 | fs g off vs hn hc hA hrow hin=>exact .fs g off vs hn hc hA hrow hin
def Yy.sl{Pt:Pl->Addr->Prop}{Rf:Pl->Nat->Nat->Nat->Value->Prop}{v:Value}{t:Tag}{z:Nat}{es:List (List AV)}{S:CS}(h:Yy w Im Pt Rf v (.sl t z es) S):Rep w Im v (.sl t z es) S:=by
 cases h with
 | rep h=>exact h
def Yy.mono{Pt:Pl->Addr->Prop}{Rf:Pl->Nat->Nat->Nat->Value->Prop}{v:Value}{a:AV}{S S':CS}(h:Yy w Im Pt Rf v a S)(hs:Sub S S'):Yy w Im Pt Rf v a S' :=
 h.keep (Sub.rfl' _) (XN.refl _ _) (λ_ _ h=>h) (λ_ _ _ _ _ h=>h) hs (XN.refl _ _)
def Top.mono{Pt:Pl->Addr->Prop}{Rf:Pl->Nat->Nat->Nat->Value->Prop}{v:Value}{a:AV}{S S':CS}(h:Top w Im Pt Rf v a S)(hs:Sub S S'):Top w Im Pt Rf v a S' :=
 h.keep (Sub.rfl' _) (XN.refl _ _) (λ_ _ h=>h) (λ_ _ _ _ _ h=>h) hs (XN.refl _ _)
def Zq{v:Value}(h:v.oneCell'=true):v.cells=#[v]:=by cases v<;>first | rfl | (simp[Value.oneCell'] at h)
def Yy.noAgg{Pt:Pl->Addr->Prop}{Rf:Pl->Nat->Nat->Nat->Value->Prop}{v:Value}{a:AV}{S:CS}(h:Yy w Im Pt Rf v a S):cellsOf a=[a]:=by
 cases h with
 | rep h=>cases h<;>rfl
 | _=>rfl
def Top.node{a:AV}{S:CS}{r:Nat}{v:Value}(hv:tm.getD r undef=v)(h:PT st tm w Im base v a S)(ha:top a=true):Up (PL st tm w Im base) tm w (.slot r) (cellsOf a) S:=by
 cases h with
 | u=>simp[top] at ha
 | no=>simp[top] at ha
 | leaf h =>
  rw[h.noAgg]
  have hc:=Zq h.one
  refine⟨λ_=>v,λj=>if j=0 then S else nos,λj b hj=>?_,λj b hj=>?_,λj=>?_,λi j hij=>?_,λg o e=>by cases e⟩
  ·cases j with
   | zero=>simp only[YW,hv,hc]; rfl
   | succ j=>simp at hj
  ·cases j with
   | zero=>simp only[List.getElem?_cons_zero,Option.some.injEq] at hj; subst hj; simpa using h
   | succ j=>simp at hj
  ·show Sub (if j=0 then S else nos) S
   split
   ·exact Sub.rfl' _
   ·exact Xo _
  ·by_cases hi:i=0
   ·have hj:j≠0:=λe=>hij (hi.trans e.symm)
    simp only[hj,if_false]; exact XM _
   ·simp only[hi,if_false]; exact Xh _
 | @agg cs S vs Sf hl hin hsub hd =>
  refine⟨λj=>vs.getD j undef,Sf,λj b hj=>?_,λj b hj=>?_,hsub,hd,λg o e=>by cases e⟩
  ·have hlt:j<vs.length:=by rw[hl]; exact(List.getElem?_eq_some_iff.1 hj).1
   simp only[YW,hv,Value.cells]
   simp[List.getD,hlt]
  ·have hlt:j<vs.length:=by rw[hl]; exact(List.getElem?_eq_some_iff.1 hj).1
   refine hin j _ b ?_ hj
   simp[List.getD,hlt]
 | tup=>simp[top] at ha
def Up.toTop{st':St}{w':World}{Im':CS}{base':Nat->Nat×Nat}{a:AV}{S S':CS}{r:Nat}{v:Value}{cs':List AV}(hv:tm.getD r undef=v)(h:PT st tm w Im base v a S)(ha:top a=true)(hl':cs'.length=(cellsOf a).length)
  (hn:Up (PL st' tm w' Im' base') tm w' (.slot r) cs' S'):PT st' tm w' Im' base' v (Zs a cs') S':=by
 obtain⟨vs1,Sf1,k1,k2,k3,k4,_⟩:=hn
 cases h with
 | u=>simp[top] at ha
 | no=>simp[top] at ha
 | leaf h =>
  rw[h.noAgg] at hl'
  have hc:=Zq h.one
  match cs',hl' with
  | [x],_ =>
   have h0:v=vs1 0:=by have:=k1 0 x rfl; simpa[YW,hv,hc] using this
   have hk:=k2 0 x rfl
   rw[<-h0] at hk
   have hr:Zs a [x]=x:=by
    cases h with
    | rep h=>cases h<;>rfl
    | _=>rfl
   rw[hr]
   exact .leaf (hk.mono (k3 0))
 | @agg cs S vs Sf hl hin hsub hd =>
  simp only[Zs,cellsOf] at hl' ⊢
  refine .agg vs Sf1 (by omega) (λj u b hj hb=>?_) k3 k4
  have h0:vs[j]?=some (vs1 j):=by have:=k1 j b hb; simpa[YW,hv,Value.cells] using this
  rw[h0] at hj
  injection hj with hj
  rw[<-hj]
  exact k2 j b hb
 | tup=>simp[top] at ha
def Xp.root(h:Xp w0 L Im0 st tm w Im base SO)(e:Bool)(r:Nat)(he:e=true->top (st.env r)=true):Up (PL st tm w Im base) tm w (Yn base e r) (Xa st e r) (SO e r):=by
 cases e with
 | false=>simpa[Yn,Xa] using h.bx r
 | true=>simpa[Yn,Xa] using(h.env r).node rfl (he rfl)
def Up.look{Q:Value->AV->CS->Prop}{l:Loc}{cs row:List AV}{S:CS}(hQ:∀v t z es V,Q v (.sl t z es) V->Rep w Im v (.sl t z es) V)(hR:∀v a V,Rep w Im v a V->Q v a V)
  (h:Up Q tm w l cs S) (ps:List (Nat×Nat×Nat)) (hn:nav cs ps=some row) :
  ∃l',follow tm w l ps=some l'/\(ps=[]->l'=l)/\(ps≠[]->∃g o,l'=.mem g o)/\∀(c:Nat) (a:AV),row[c]?=some a->∃u V,YW tm w l' c=some u/\Sub V S/\Q u a V/\(ps≠[]->Rep w Im u a V):=by
 obtain⟨vs,Sf,hd⟩:=h.data
 cases ps with
 | nil =>
  simp only[nav,Option.some.injEq] at hn
  subst hn
  exact⟨l,rfl,λ_=>rfl,λe=>absurd rfl e,λc a hc=>⟨vs c,Sf c,hd.get c a hc,hd.sub c,hd.sh c a hc,λe=>absurd rfl e⟩⟩
 | cons x ps =>
  obtain⟨c,i,z⟩:=x
  obtain⟨t,es,row0,hc,hi,hn'⟩:=Yd hn
  obtain⟨g,off,n,cap,g',o',e1,f1,f2,hcell⟩:=(hQ _ _ _ _ _ (hd.sh c _ hc)).read (tm:=tm) ps hi hn' (XN.refl _ w) (XN.refl _ _)
  have hv:=hd.get c _ hc
  rw[e1] at hv
  refine⟨.mem g' o',?_,(λe=>by cases e),λ_=>⟨g',o',rfl⟩,λc2 a h2=>?_⟩
  ·simp only[follow]; rw[Y8 hv]; exact f1
  ·obtain⟨u,V,k1,_,k3,k4⟩:=hcell c2 a h2
   exact⟨u,V,k1,k3.trans (hd.sub c),hR _ _ _ k4,λ_=>k4⟩
def Yy.view{pl:Pl}{l':Loc}{row:List AV}{v:Value}{a:AV}{V:CS}(h:PL st tm w Im base v a V)(hf:follow tm w (Yn base pl.e pl.r) pl.path=some l')(hg:YW tm w l' pl.c=some v)
  (hn:nav (Xa st pl.e pl.r) pl.path=some row) (hr:row[pl.c]?=some a):PL st tm w Im base v (XA pl a) nos:=by
 by_cases ha:XgI a=true
 ·cases a with
  | sl t z es =>
   have hv:XA pl (.sl t z es)=.rf pl z 0 es.length:=by cases t<;>first | rfl | simp[XgI] at ha
   rw[hv]
   have hR:=h.sl
   cases hR with
   | sl g off vs Sf hn' hc hL hA hz hrow hin hf' hsub hd hself hnone =>
    rename_i A n cap
    refine .rf ⟨⟨l',A,n,cap,A,hf,hg,by rw[hn']; simp,by omega,hc,λhlt=>⟨g,off,hA hlt,by rw[hA hlt]; simp⟩⟩,row,hn,by rw[hr]; rfl⟩ rfl
  | _=>simp[XgI] at ha
 ·have hv:XA pl a=a:=by
   cases a with
   | sl t z es=>cases t<;>first | rfl | exact absurd rfl ha
   | _=>rfl
  rw[hv]
  exact h.free (by simpa using ha)
def Qp(pl:Pl):∀(l:List AV) (j0 j:Nat),(X7 pl j0 l)[j]?=(l[j]?).map (XA {pl with c:=j0+j})
 | [],_,_=>by simp[X7]
 | a :: l,j0,0=>by simp[X7]
 | a :: l,j0,j+1=>by
  simp only[X7,List.getElem?_cons_succ]
  rw[Qp pl l (j0+1) j,Nat.add_assoc,Nat.add_comm 1 j]
def Qq(pl:Pl):∀(l:List AV) (j0:Nat),(X7 pl j0 l).length=l.length
 | [],_=>rfl
 | a :: l,j0=>by simp[X7,Qq pl l]
def Xp.viewTmp(h:Xp w0 L Im0 st tm w Im base SO)(x:Nat):PT st tm w Im base (tm.getD x undef) (viewTmp st x) nos:=by
 have ht:=h.env x
 unfold Vm.viewTmp
 generalize ha:st.env x=a at ht
 have key:∀(c:Nat) (b:AV),top a=true->(cellsOf a)[c]?=some b->∀u,YW tm w (.slot x) c=some u->∀V,PL st tm w Im base u b V->PL st tm w Im base u (XA ⟨true,x,[],c⟩ b) nos:=by
  intro c b htop hb u hu V hl
  exact Yy.view (pl:=⟨true,x,[],c⟩) (l':=.slot x) (row:=cellsOf a) hl rfl hu (by simp[Xa,ha,nav]) hb
 have one:∀(hno:top a=true) (hca:cellsOf a=[a]),PT st tm w Im base (tm.getD x undef) (XA ⟨true,x,[],0⟩ a) nos:=by
  intro hno hca
  have hl:PL st tm w Im base (tm.getD x undef) a (SO true x):=by
   revert ht
   generalize tm.getD x undef=v
   intro ht
   cases ht with
   | leaf h=>exact h
   | u=>simp[top] at hno
   | no=>simp[top] at hno
   | agg vs Sf hl hin hsub hd=>simp only[cellsOf] at hca; exfalso; rename_i cs; cases cs with
    | nil=>cases hca
    | cons y r=>injection hca with h1 h2; subst h2; exact absurd (congrArg SizeOf.sizeOf h1) (by simp; omega)
   | tup=>simp[top] at hno
  have hc:=Zq hl.one
  exact .leaf (key 0 a hno (by rw[hca]; rfl) _ (by simp only[YW,hc]; rfl) _ hl)
 cases a with
 | agg cs =>
  generalize hv:tm.getD x undef=v at ht
  cases ht with
  | leaf h=>cases h; rename_i h; cases h
  | agg vs Sf hl hin hsub hd =>
   refine .agg vs (λ_=>nos) (by simp[hl,Qq]) (λj u b hj hb=>?_) (λ_=>Sub.rfl' _) (λ_ _ _=>Xh _)
   rw[Qp] at hb
   obtain⟨b',hb',rfl⟩:=Option.map_eq_some_iff.1 hb
   simp only[Nat.zero_add]
   exact key j b' rfl hb' u (by simp only[YW,hv,Value.cells,List.getElem?_toArray]; exact hj) _ (hin j u b' hj hb')
 | tup=>exact .u
 | u=>exact .u
 | no =>
  generalize hv:tm.getD x undef=v at ht
  cases ht with
  | no=>exact .no
  | leaf h=>cases h; rename_i h; cases h
 | _=>exact one rfl rfl
def XgY(v:Value)(hv:v.oneCell'=true):Rep w Im v (Xep v) nos:=by
 unfold Xep
 split<;>first | exact .b | exact .i | exact .s | exact .nil | exact .pn | exact .u hv
def Xe(tm:Array Value):Operand->Value
 | .tmp t=>tm.getD t undef
 | .const v=>v
 | .global g=>.pointer (some ⟨g,0,none⟩)
 | .func f=>.func (.func f) #[] #[]
def Xk4(a:Act)(x:Operand):a.eval x=Xe a.tmps x:=by cases x<;>rfl
def Xp.view(h:Xp w0 L Im0 st tm w Im base SO)(x:Operand):PT st tm w Im base (Xe tm x) (view st x) nos:=by
 cases x with
 | tmp t=>exact h.viewTmp t
 | const v =>
  simp only[Xe,Vm.view]
  by_cases hv:v.oneCell'=true
  ·exact .leaf (.rep (XgY v hv))
  ·have:Xep v=.u:=by cases v<;>first | rfl | exact absurd rfl hv
   rw[this]; exact .u
 | global g=>exact .u
 | func f=>exact .leaf (.rep (.fn [] rfl (λj v a hv=>by simp at hv)))
end Go.Vm
set_option autoImplicit false
namespace Go.Vm
variable {w0 : World} {L Im0 : CS} {st : St} {tm : Array Value} {w : World} {Im : CS} {base : Nat -> Nat × Nat} {SO : Bool -> Nat -> CS}
def QP(c n c2:Nat):∀(ps qs:List (Nat×Nat×Nat)),Xq ps c n (qs++[(c2,0,0)])=(Xq ps c n qs||(YV ps qs&&decide (c<=c2)&&decide (c2<c+n)))
 | [],[]=>by simp[Xq,YV]
 | [],(a,b,z) :: qs=>by simp[Xq,YV]
 | (a,b,z) :: ps,[]=>by cases ps<;>simp[Xq,YV]
 | (a,b,z) :: ps,(a',b',z') :: qs=>by
  simp only[List.cons_append,Xq,YV,QP c n c2 ps qs]
  cases (a==a')<;>cases (b==b')<;>simp
def shp:AV->Option (Nat×List (List AV))
 | .sl _ z es=>some (z,es)
 | _=>none
def Xbi(a:Option AV):a.any Zo=(a.bind shp).isSome:=by
 cases a with
 | none=>rfl
 | some a=>cases a<;>rfl
def ZY(l:List AV)(c i z:Nat)(ps:List (Nat×Nat×Nat)) :
  nav l ((c,i,z) :: ps)=((l[c]?).bind shp).bind λp=>if p.1=z then(p.2[i]?).bind λrow=>nav row ps else none:=by
 simp only[nav,YC]
 cases l[c]? with
 | none=>rfl
 | some a =>
  cases a with
  | sl t z' es =>
   simp only[Option.bind,shp]
   by_cases hz:z'=z
   ·simp only[hz,if_true]; cases es[i]?<;>rfl
   ·simp only[hz,if_false]
  | _=>rfl
def Xfv{l l':List AV}{c:Nat}(h:(l[c]?).bind shp=(l'[c]?).bind shp)(i z:Nat)(ps:List (Nat×Nat×Nat)):nav l ((c,i,z) :: ps)=nav l' ((c,i,z) :: ps):=by
 rw[ZY,ZY,h]
def Xbj{c m:Nat}:∀(ps:List (Nat×Nat×Nat)) {cs cells new:List AV} {qs:List (Nat×Nat×Nat)} {row2:List AV},nav cs ps=some cells ->
  (∀j,¬(c<=j/\j<c+m)->(new[j]?).bind shp=(cells[j]?).bind shp)->nav cs qs=some row2->Xq ps c m qs=false ->
  ∃row2',nav (XG cs ps new) qs=some row2'/\∀c2,Xq ps c m (qs++[(c2,0,0)])=false->(row2'[c2]?).any Zo=(row2[c2]?).any Zo:=by
 intro ps
 induction ps with
 | nil =>
  intro cs cells new qs row2 hn hout hq ht
  simp only[nav,Option.some.injEq] at hn
  subst hn
  cases qs with
  | nil =>
   simp only[nav,Option.some.injEq] at hq
   subst hq
   refine⟨new,rfl,λc2 h2=>?_⟩
   rw[Xbi,Xbi,hout c2 (by simpa[Xq] using h2)]
  | cons x qs =>
   obtain⟨cq,iq,zq⟩:=x
   refine⟨row2,?_,λ_ _=>rfl⟩
   simp only[XG]
   rw[Xfv (hout cq (by simpa[Xq] using ht))]; exact hq
 | cons x ps ih =>
  obtain⟨cp,ip,z⟩:=x
  intro cs cells new qs row2 hn hout hq ht
  obtain⟨t,es,row0,hc,hi,hn'⟩:=Yd hn
  have hset:XG cs ((cp,ip,z) :: ps) new=cs.set cp (.sl t z (es.set ip (XG row0 ps new))):=by
   simp only[XG,hc]
   rw[List.getD_eq_getElem?_getD,hi]; rfl
  have hlt:cp<cs.length:=(List.getElem?_eq_some_iff.1 hc).1
  rw[hset]
  cases qs with
  | nil =>
   simp only[nav,Option.some.injEq] at hq
   subst hq
   refine⟨_,rfl,λc2 h2=>?_⟩
   by_cases hcc:c2=cp
   ·subst hcc; rw[hc,List.getElem?_set_self hlt]; rfl
   ·rw[List.getElem?_set_ne (λe=>hcc e.symm)]
  | cons y qs =>
   obtain⟨cq,iq,zq⟩:=y
   obtain⟨t2,es2,row3,hc2,hi2,hn3⟩:=Yd hq
   by_cases hcc:cq=cp
   ·subst hcc
    rw[hc] at hc2
    injection hc2 with hc2
    injection hc2 with e3 e4 e5
    subst e3 e4 e5
    have hst:∀(i:Nat) (r:List AV),(es.set ip (XG row0 ps new))[i]?=some r->YC (cs.set cq (.sl t z (es.set ip (XG row0 ps new)))) cq i z=some (t,r):=by
     intro i r hr
     unfold YC
     rw[List.getElem?_set_self hlt]
     simp[hr]
    have hlti:ip<es.length:=(List.getElem?_eq_some_iff.1 hi).1
    by_cases hii:iq=ip
    ·subst hii
     rw[hi] at hi2
     injection hi2 with hi2
     subst hi2
     obtain⟨row2',k1,k2⟩:=ih hn' hout hn3 (by simpa[Xq] using ht)
     refine⟨row2',?_,λc2 h2=>k2 c2 (by simpa[Xq] using h2)⟩
     simp only[nav]
     rw[hst iq _ (by rw[List.getElem?_set_self hlti])]
     exact k1
    ·refine⟨row2,?_,λ_ _=>rfl⟩
     simp only[nav]
     rw[hst iq row3 (by rw[List.getElem?_set_ne (λe=>hii e.symm)]; exact hi2)]
     exact hn3
   ·refine⟨row2,?_,λ_ _=>rfl⟩
    have:YC (cs.set cp (.sl t z (es.set ip (XG row0 ps new)))) cq iq zq=YC cs cq iq zq:=by
     unfold YC; rw[List.getElem?_set_ne (λe=>hcc e.symm)]
    simp only[nav,this]; exact hq
def Yv(c:Nat):∀(ps qs:List (Nat×Nat×Nat)),Xq ps c 0 qs=false
 | [],[]=>rfl
 | [],(a,b,z) :: qs=>by simp[Xq]
 | _ :: _,[]=>rfl
 | (a,b,z) :: ps,(a',b',z') :: qs=>by simp[Xq,Yv c ps qs]
def UP{cs cells new:List AV}(ps:List (Nat×Nat×Nat))(hn:nav cs ps=some cells)(hl:new.length=cells.length):(XG cs ps new).length=cs.length:=by
 cases ps with
 | nil=>simp only[nav,Option.some.injEq] at hn; subst hn; simpa[XG] using hl
 | cons y ps=>obtain⟨c3,i3,z3⟩:=y; simp only[XG]; split<;>simp
def ZP{c m:Nat}:∀(ps:List (Nat×Nat×Nat)) {cs cells:List AV} {qs:List (Nat×Nat×Nat)} {row2:List AV},nav cs ps=some cells->nav cs qs=some row2 ->
  (∀j,c<=j->j<c+m->(cells[j]?).any Zo=false)->Xq ps c m qs=false:=by
 intro ps
 induction ps with
 | nil =>
  intro cs cells qs row2 hn hq hno
  simp only[nav,Option.some.injEq] at hn
  subst hn
  cases qs with
  | nil=>rfl
  | cons x qs =>
   obtain⟨cq,iq,zq⟩:=x
   have h1:=Uz hq
   simp only[Xq,Bool.and_eq_false_iff,decide_eq_false_iff_not]
   by_cases h2:c<=cq
   ·by_cases h3:cq<c+m
    ·rw[hno cq h2 h3] at h1; cases h1
    ·exact .inr h3
   ·exact .inl h2
 | cons x ps ih =>
  obtain⟨cp,ip,z⟩:=x
  intro cs cells qs row2 hn hq hno
  obtain⟨t,es,row0,hc,hi,hn'⟩:=Yd hn
  cases qs with
  | nil=>rfl
  | cons y qs =>
   obtain⟨cq,iq,zq⟩:=y
   obtain⟨t2,es2,row3,hc2,hi2,hn3⟩:=Yd hq
   simp only[Xq]
   by_cases hcc:cp=cq
   ·subst hcc
    rw[hc] at hc2
    injection hc2 with hc2
    injection hc2 with e3 e4 e5
    subst e3 e4 e5
    by_cases hii:ip=iq
    ·subst hii
     rw[hi] at hi2
     injection hi2 with hi2
     subst hi2
     simp[ih hn' hn3 hno]
    ·simp[hii]
   ·simp[hcc]
def QQ{c m c2:Nat}:∀(ps:List (Nat×Nat×Nat)) {cs cells:List AV} {qs:List (Nat×Nat×Nat)} {row2:List AV},nav cs ps=some cells->nav cs qs=some row2->(row2[c2]?).any Zo=true ->
  (∀j,c<=j->j<c+m->(cells[j]?).any Zo=false)->Xq ps c m (qs++[(c2,0,0)])=false:=by
 intro ps
 induction ps with
 | nil =>
  intro cs cells qs row2 hn hq h2 hno
  cases qs with
  | nil =>
   simp only[nav,Option.some.injEq] at hn hq
   subst hn hq
   simp only[List.nil_append,Xq,Bool.and_eq_false_iff,decide_eq_false_iff_not]
   by_cases h3:c<=c2
   ·by_cases h4:c2<c+m
    ·rw[hno c2 h3 h4] at h2; cases h2
    ·exact .inr h4
   ·exact .inl h3
  | cons x qs =>
   have:=ZP [] hn hq hno
   obtain⟨cq,iq,zq⟩:=x
   simpa[Xq] using this
 | cons x ps ih =>
  obtain⟨cp,ip,z⟩:=x
  intro cs cells qs row2 hn hq h2 hno
  obtain⟨t,es,row0,hc,hi,hn'⟩:=Yd hn
  cases qs with
  | nil=>simp only[List.nil_append]; cases ps<;>simp[Xq]
  | cons y qs =>
   obtain⟨cq,iq,zq⟩:=y
   obtain⟨t2,es2,row3,hc2,hi2,hn3⟩:=Yd hq
   simp only[List.cons_append,Xq]
   by_cases hcc:cp=cq
   ·subst hcc
    rw[hc] at hc2
    injection hc2 with hc2
    injection hc2 with e3 e4 e5
    subst e3 e4 e5
    by_cases hii:ip=iq
    ·subst hii
     rw[hi] at hi2
     injection hi2 with hi2
     subst hi2
     simp[ih hn' hn3 h2 hno]
    ·simp[hii]
   ·simp[hcc]
structure Ys (st:St) (tm:Array Value) (w:World) (Im:CS) (base:Nat->Nat×Nat) (SO:Bool->Nat->CS) (pl:Pl) (cells:List AV) (l':Loc) (T:CS) (vs:Nat->Value) (Sf:Nat->CS):Prop where
 nav:nav (Xa st pl.e pl.r) pl.path=some cells
 at_:follow tm w (Yn base pl.e pl.r) pl.path=some l'
 sub:Sub T (SO pl.e pl.r)
 root:pl.path=[]->l'=Yn base pl.e pl.r
 mem:pl.path≠[]->∃g o,l'=.mem g o
 nd:ZD (if pl.path=[] then PL st tm w Im base else Rep w Im) tm w l' cells T vs Sf
 keep:Xmk tm w (Yn base pl.e pl.r) (Xa st pl.e pl.r) (SO pl.e pl.r) Im l' cells Sf pl.path
 close:∀(w':World) (Im':CS) (Q':Value->AV->CS->Prop) (new:List AV) (U:CS) (vs':Nat->Value) (Sf':Nat->CS),new.length=cells.length->Sub Im Im'->XN Im w w'->XN (ZJ (SO pl.e pl.r) T) w w' ->
  ZD (if pl.path=[] then Q' else Rep w' Im') tm w' l' new U vs' Sf'->XY U (ZJ (SO pl.e pl.r) T) ->
  (∀v a V,XN V w w'->Sub V (SO pl.e pl.r)->PL st tm w Im base v a V->Q' v a V)->(∀v a V,Rep w' Im' v a V->Q' v a V) ->
  Up Q' tm w' (Yn base pl.e pl.r) (XG (Xa st pl.e pl.r) pl.path new) (un (ZJ (SO pl.e pl.r) T) U)
def Xp.open(h:Xp w0 L Im0 st tm w Im base SO){pl:Pl}{cells:List AV}(hn:node st pl=some cells)(hw:Xz st pl=true)(he:pl.e=true->top (st.env pl.r)=true) :
  ∃l' T vs Sf,Ys st tm w Im base SO pl cells l' T vs Sf:=by
 obtain⟨vs0,Sf0,hd⟩:=(h.root pl.e pl.r he).data
 obtain⟨l',T,vs,Sf,k1,k2,k3,k4,k5,k6,k7⟩:=hd.lens pl.path (λ_ _ _ _ _ h=>h.sl) (h.disI pl.e pl.r) hw hn
 refine⟨l',T,vs,Sf,hn,k1,k2,λe=>(k3 e).1,k4,k5,k6,?_⟩
 intro w' Im' Q' new U vs' Sf' h1 h2 h3 h4 h5 h6 h7 h8
 exact k7 w' Im' Q' new U vs' Sf' h1 h2 h3 h4 h5 h6 (λj a hj hs hq=>h7 _ _ _ hs (hd.sub j) hq) h8
def Xp.stay(h:Xp w0 L Im0 st tm w Im base SO){w':World}{e:Bool}{r:Nat}{qs:List (Nat×Nat×Nat)}{row2:List AV}(hn:nav (Xa st e r) qs=some row2)(hI:XN Im w w')(hS:XN (SO e r) w w')
  (ht:qs=[]->e=true->top (st.env r)=true) :
  ∃l2,follow tm w (Yn base e r) qs=some l2/\follow tm w' (Yn base e r) qs=some l2/\∀c2,c2<row2.length->YW tm w' l2 c2=YW tm w l2 c2:=by
 have he:e=true->top (st.env r)=true:=by
  intro e1
  cases qs with
  | nil=>exact ht rfl e1
  | cons x qs =>
   obtain⟨c,i,z⟩:=x
   have hh:=Uz hn
   subst e1
   simp only[Xa,if_true] at hh
   cases hv:st.env r<;>rw[hv] at hh<;>first | rfl | (cases c<;>simp[cellsOf,Zo] at hh)
 obtain⟨vs0,Sf0,hd⟩:=(h.root e r he).data
 have hcell:∀c2,c2<(Xa st e r).length->YW tm w' (Yn base e r) c2=YW tm w (Yn base e r) c2:=λc2 h2=>Yu hS λg o e=>(hd.mem g o e c2 h2).1
 cases qs with
 | nil =>
  simp only[nav,Option.some.injEq] at hn
  subst hn
  exact⟨_,rfl,rfl,hcell⟩
 | cons x qs =>
  obtain⟨c,i,z⟩:=x
  obtain⟨t,es,row0,hc,hi,hn'⟩:=Yd hn
  exact hd.read1 (λ_ _ _ _ _ h=>h.sl) hn (hcell c (List.getElem?_eq_some_iff.1 hc).1) hI (hS.mono (hd.sub c))
def XbS{a:AV}{cs:List AV}(hl:cs.length=(cellsOf a).length)(hna:∀x∈cs,cellsOf x=[x]):cellsOf (Zs a cs)=cs:=by
 have one:∀(hl:cs.length=1),cellsOf (cs.headD .u)=cs:=by
  intro hl
  match cs,hl with
  | [x],_=>exact hna x (by simp)
 cases a<;>first | rfl | exact one hl
def Xfw{cs cells new:List AV}(ps:List (Nat×Nat×Nat))(hn:nav cs ps=some cells)(h:∀x∈cs,cellsOf x=[x])(h':∀x∈new,cellsOf x=[x]):∀x∈XG cs ps new,cellsOf x=[x]:=by
 cases ps with
 | nil=>exact h'
 | cons y ps =>
  obtain⟨c,i,z⟩:=y
  simp only[XG]
  split
  ·intro x hx
   rcases List.mem_or_eq_of_mem_set hx with hx | rfl
   ·exact h x hx
   ·rfl
  ·exact h
def Zr{pl:Pl}{cells new:List AV}(hn:node st pl=some cells)(hl:new.length=cells.length)(hna0:pl.e=true->∀x∈Xa st true pl.r,cellsOf x=[x])(hna:∀x∈new,cellsOf x=[x]) :
  Xa (Xi st pl new) pl.e pl.r=XG (Xa st pl.e pl.r) pl.path new:=by
 unfold Xi
 by_cases he:pl.e=true
 ·rw[if_pos he]
  unfold node at hn
  rw[he] at hn
  simp only[Xa,he,if_true,Zf]
  refine XbS ?_ (Xfw pl.path hn (hna0 he) hna)
  exact UP pl.path hn hl
 ·rw[if_neg he]
  have he':pl.e=false:=by simpa using he
  simp only[Xa,he',Zf]
  simp
def Qr{pl:Pl}{new:List AV}{e:Bool}{r:Nat}(h:¬(e=pl.e/\r=pl.r)):Xa (Xi st pl new) e r=Xa st e r:=by
 unfold Xi
 by_cases he:pl.e=true
 ·rw[if_pos he]
  cases e with
  | false=>rfl
  | true=>simp only[Xa,if_true]; rw[Yr _ _ (λe=>h ⟨he.symm,e⟩)]
 ·rw[if_neg he]
  have he':pl.e=false:=by simpa using he
  cases e with
  | true=>rfl
  | false=>simp only[Xa]; simp only[Bool.false_eq_true,if_false]; rw[Yr _ _ (λe=>h ⟨he'.symm,e⟩)]
end Go.Vm
set_option autoImplicit false
namespace Go.Vm
variable {w0 : World} {L Im0 : CS} {st : St} {tm : Array Value} {w : World} {Im : CS} {base : Nat -> Nat × Nat} {SO : Bool -> Nat -> CS}
variable {pl : Pl} {cells : List AV} {l' : Loc} {T : CS} {vs : Nat -> Value} {Sf : Nat -> CS}
def Ys.chgT(o:Ys st tm w Im base SO pl cells l' T vs Sf)(c m:Nat):Sub (chg l' c m cells.length Sf) T:=by
 intro b k hb
 rcases hb with⟨g,o',j,e,rfl,rfl,h1,h2,h3⟩ | ⟨j,h1,h2,h3⟩
 ·exact(o.nd.mem _ _ e j h3).1
 ·exact o.nd.sub j b k h3
structure Chg (st:St) (w:World) (Im:CS) (SO:Bool->Nat->CS) (pl:Pl) (cells:List AV) (l':Loc) (Sf:Nat->CS) (w':World) (M:CS) (c m:Nat) (new:List AV):Prop where
 len:new.length=cells.length
 out:∀j,¬(c<=j/\j<c+m)->(new[j]?).bind shp=(cells[j]?).bind shp
 na0:pl.e=true->∀x∈Xa st true pl.r,cellsOf x=[x]
 na:∀x∈new,cellsOf x=[x]
 hM:Sub M (chg l' c m cells.length Sf)
 same:XN (λb k=>((∃e r,SO e r b k)\/Im b k)/\¬M b k) w w'
variable {w' : World} {M : CS} {c m : Nat} {new : List AV}
def Ys.sameI(o:Ys st tm w Im base SO pl cells l' T vs Sf)(h:Xp w0 L Im0 st tm w Im base SO)(k:Chg st w Im SO pl cells l' Sf w' M c m new):XN Im w w' :=
 k.same.mono λb i hb=>⟨.inr hb,λhm=>h.disI pl.e pl.r b i (o.sub b i (o.chgT c m b i (k.hM b i hm))) hb⟩
def Ys.sameS(o:Ys st tm w Im base SO pl cells l' T vs Sf)(h:Xp w0 L Im0 st tm w Im base SO)(k:Chg st w Im SO pl cells l' Sf w' M c m new){e:Bool}{r:Nat}(hne:¬(e=pl.e/\r=pl.r)):XN (SO e r) w w' :=
 k.same.mono λb i hb=>⟨.inl ⟨e,r,hb⟩,λhm=>h.dis e r pl.e pl.r hne b i hb (o.sub b i (o.chgT c m b i (k.hM b i hm)))⟩
def Ys.sameD(o:Ys st tm w Im base SO pl cells l' T vs Sf)(k:Chg st w Im SO pl cells l' Sf w' M c m new):XN (ZJ (SO pl.e pl.r) T) w w' :=
 k.same.mono λb i hb=>⟨.inl ⟨_,_,hb.1⟩,λhm=>hb.2 (o.chgT c m b i (k.hM b i hm))⟩
def Ys.follow(o:Ys st tm w Im base SO pl cells l' T vs Sf)(h:Xp w0 L Im0 st tm w Im base SO)(k:Chg st w Im SO pl cells l' Sf w' M c m new){q:Pl}{row2:List AV}
  (hn:Vm.nav (Xa st q.e q.r) q.path=some row2) (ht:q.path=[]->q.e=true->top (st.env q.r)=true) (hk:q.e=pl.e->q.r=pl.r->Xq pl.path c m q.path=false) :
  ∃l2,Vm.follow tm w (Yn base q.e q.r) q.path=some l2/\Vm.follow tm w' (Yn base q.e q.r) q.path=some l2 /\
   ∀c2,c2<row2.length->(q.e=pl.e->q.r=pl.r->Xq pl.path c m (q.path++[(c2,0,0)])=false)->YW tm w' l2 c2=YW tm w l2 c2:=by
 by_cases hr:q.e=pl.e/\q.r=pl.r
 ·obtain⟨h1,h2⟩:=hr
  have hk':=hk h1 h2
  rw[h1,h2] at hn ⊢
  obtain⟨l2,f1,f2,f3⟩:=o.keep w' M c m k.hM (k.same.mono λb i hb=>⟨hb.1.imp (λx=>⟨_,_,x⟩) id,hb.2⟩) q.path row2 hn hk'
  exact⟨l2,f1,f2,λc2 h3 h4=>f3 c2 h3 (h4 rfl rfl)⟩
 ·obtain⟨l2,f1,f2,f3⟩:=h.stay hn (o.sameI h k) (o.sameS h k hr) ht
  exact⟨l2,f1,f2,λc2 h3 _=>f3 c2 h3⟩
def Xeu(o:Ys st tm w Im base SO pl cells l' T vs Sf)(hl:new.length=cells.length)(r:Nat):(Xi st pl new).bx r≠[]↔st.bx r≠[]:=by
 unfold Xi
 by_cases he:pl.e=true
 ·rw[if_pos he]
 ·rw[if_neg he]
  have he':pl.e=false:=by simpa using he
  by_cases hr:r=pl.r
  ·subst hr
   have hn:=o.nav
   rw[he'] at hn
   have:=UP pl.path hn hl
   simp only[Xa,Bool.false_eq_true,if_false] at this
   simp only[Zf]
   rw[<-List.length_pos_iff,<-List.length_pos_iff,this]
  ·simp only[Yr _ _ hr]
def Xah{a:AV}{c2:Nat}(h:((cellsOf a)[c2]?).any Zo=true):top a=true:=by
 cases a<;>first | rfl | (cases c2<;>simp[cellsOf,Zo] at h)
def Ys.navs(o:Ys st tm w Im base SO pl cells l' T vs Sf)(k:Chg st w Im SO pl cells l' Sf w' M c m new){q:Pl}{row2:List AV}
  (hn:Vm.nav (Xa st q.e q.r) q.path=some row2) (hk:q.e=pl.e->q.r=pl.r->Xq pl.path c m q.path=false) :
  ∃row2',Vm.nav (Xa (Xi st pl new) q.e q.r) q.path=some row2'/\∀c2,(q.e=pl.e->q.r=pl.r->Xq pl.path c m (q.path++[(c2,0,0)])=false)->(row2'[c2]?).any Zo=(row2[c2]?).any Zo:=by
 by_cases hr:q.e=pl.e/\q.r=pl.r
 ·obtain⟨h1,h2⟩:=hr
  have hk':=hk h1 h2
  rw[h1,h2] at hn ⊢
  rw[Zr (st:=st) o.nav k.len k.na0 k.na]
  obtain⟨row2',e1,e2⟩:=Xbj pl.path o.nav k.out hn hk'
  exact⟨row2',e1,λc2 h3=>e2 c2 (h3 rfl rfl)⟩
 ·rw[Qr hr]
  exact⟨row2,hn,λ_ _=>rfl⟩
def Ys.keepP(o:Ys st tm w Im base SO pl cells l' T vs Sf)(h:Xp w0 L Im0 st tm w Im base SO)(k:Chg st w Im SO pl cells l' Sf w' M c m new){q:Pl}{ad:Addr}
  (hk:∀row2,q.e=pl.e->q.r=pl.r->Vm.nav (Xa st pl.e pl.r) q.path=some row2->Xq pl.path c m q.path=false) (hq:Pt st tm w base q ad):Pt (Xi st pl new) tm w' base q ad:=by
 obtain⟨⟨g,oo,h1,h2⟩,⟨row2,hn⟩,h4⟩:=hq
 have hk':q.e=pl.e->q.r=pl.r->Xq pl.path c m q.path=false:=λe1 e2=>hk row2 e1 e2 (by rw[<-e1,<-e2]; exact hn)
 obtain⟨l2,f1,f2,_⟩:=o.follow h k hn (λe1 e2=>by have:=(h4 e1).1; rw[e2] at this; cases this) hk'
 rw[h1] at f1
 injection f1 with f1
 subst f1
 obtain⟨row2',e1,_⟩:=o.navs k hn hk'
 exact⟨⟨g,oo,f2,h2⟩,⟨row2',e1⟩,λe=>⟨(h4 e).1,(Xeu o k.len q.r).2 (h4 e).2⟩⟩
def Ys.keepR(o:Ys st tm w Im base SO pl cells l' T vs Sf)(h:Xp w0 L Im0 st tm w Im base SO)(k:Chg st w Im SO pl cells l' Sf w' M c m new){q:Pl}{z lo n:Nat}{v:Value}
  (hk:∀row2,q.e=pl.e->q.r=pl.r->Vm.nav (Xa st pl.e pl.r) q.path=some row2->(row2[q.c]?).any Zo=true->Xq pl.path c m q.path=false/\Xq pl.path c m (q.path++[(q.c,0,0)])=false)
  (hq:Rf st tm w base q z lo n v):Rf (Xi st pl new) tm w' base q z lo n v:=by
 obtain⟨⟨l,A,N,cap,A',h1,h2,h3⟩,row2,hn,hs⟩:=hq
 have hk':q.e=pl.e->q.r=pl.r->Xq pl.path c m q.path=false/\Xq pl.path c m (q.path++[(q.c,0,0)])=false:=λe1 e2=>hk row2 e1 e2 (by rw[<-e1,<-e2]; exact hn) hs
 have hlt:q.c<row2.length:=by
  cases hc:row2[q.c]? with
  | none=>rw[hc] at hs; cases hs
  | some a=>exact(List.getElem?_eq_some_iff.1 hc).1
 obtain⟨l2,f1,f2,f3⟩:=o.follow h k hn (λe1 e2=>by
  rw[e1,e2] at hn
  simp only[Vm.nav,Xa,if_true,Option.some.injEq] at hn
  subst hn
  exact Xah hs) (λe1 e2=>(hk' e1 e2).1)
 rw[h1] at f1
 injection f1 with f1
 subst f1
 obtain⟨row2',e1,e2⟩:=o.navs k hn (λe1 e2=>(hk' e1 e2).1)
 refine⟨⟨l,A,N,cap,A',f2,?_,h3⟩,row2',e1,?_⟩
 ·rw[f3 q.c hlt (λe1 e2=>(hk' e1 e2).2)]; exact h2
 ·rw[e2 q.c (λe1 e2=>(hk' e1 e2).2)]; exact hs
structure QF (st:St) (pl:Pl) (c m:Nat) (kp kr:Pl->Bool):Prop where
 p:∀(q:Pl) (row2:List AV),kp q=true->q.e=pl.e->q.r=pl.r->nav (Xa st pl.e pl.r) q.path=some row2->Xq pl.path c m q.path=false
 r:∀(q:Pl) (row2:List AV),kr q=true->q.e=pl.e->q.r=pl.r->nav (Xa st pl.e pl.r) q.path=some row2->(row2[q.c]?).any Zo=true->Xq pl.path c m q.path=false/\Xq pl.path c m (q.path++[(q.c,0,0)])=false
def Xfx{kp kr:Pl->Bool}{q:Pl}{ad:Addr}:Pt (st.filt kp kr) tm w base q ad↔Pt st tm w base q ad:=and_congr Iff.rfl (ZI kp kr q)
def Xdg{kp kr:Pl->Bool}{q:Pl}{z lo n:Nat}{v:Value}:Rf (st.filt kp kr) tm w base q z lo n v↔Rf st tm w base q z lo n v:=and_congr Iff.rfl (YH kp kr q q.c)
def Xev(kp kr:Pl->Bool)(a:AV)(cs:List AV):filt kp kr (Zs a cs)=Zs a (XR kp kr cs):=by
 have:filt kp kr (cs.headD .u)=(XR kp kr cs).headD .u:=by cases cs<;>rfl
 cases a<;>first | exact this | rfl
def Ys.relG(o:Ys st tm w Im base SO pl cells l' T vs Sf)(h:Xp w0 L Im0 st tm w Im base SO)(k:Chg st w Im SO pl cells l' Sf w' M c m new){kp kr:Pl->Bool}
  (hp0:∀(q:Pl) (ad:Addr),kp q=true->Pt st tm w base q ad->Pt (Xi st pl new) tm w' base q ad) (hr0:∀(q:Pl) (z lo n:Nat) (v:Value),kr q=true->Rf st tm w base q z lo n v->Rf (Xi st pl new) tm w' base q z lo n v)
  {Im' U:CS} {vs':Nat->Value} {Sf':Nat->CS} (hII:Sub Im Im') (hsz:w.heap.size<=w'.heap.size) (hfr:Frame w0 w' L) (htop:pl.e=true->top (st.env pl.r)=true)
  (hU1:XY U (ZJ (SO pl.e pl.r) T)) (hU2:∀e r,¬(e=pl.e/\r=pl.r)->XY U (SO e r)) (hU3:XY U Im') (hI1:∀e r,¬(e=pl.e/\r=pl.r)->XY (SO e r) Im') (hI2:XY (ZJ (SO pl.e pl.r) T) Im')
  (hUs:∀g i,U g i->g<w'.heap.size) (hIs:∀g i,Im' g i->g<w'.heap.size) (hUf:∀g i,U g i->L g i\/w0.heap.size<=g) (hIf:∀g i,Im' g i->Im0 g i\/L g i\/w0.heap.size<=g)
  (nd:ZD (if pl.path=[] then(λv a V=>PL (Xi st pl new) tm w' Im' base v (filt kp kr a) V) else Rep w' Im') tm w' l' new U vs' Sf') :
  Xp w0 L Im0 ((Xi st pl new).filt kp kr) tm w' Im' base (own SO pl.e pl.r (un (ZJ (SO pl.e pl.r) T) U)):=by
 have hsI:=o.sameI h k
 have hp:∀(q:Pl) (ad:Addr),kp q=true->Pt st tm w base q ad->Pt ((Xi st pl new).filt kp kr) tm w' base q ad:=λq ad hq hpt=>Xfx.2 (hp0 q ad hq hpt)
 have hr:∀(q:Pl) (z lo n:Nat) (v:Value),kr q=true->Rf st tm w base q z lo n v->Rf ((Xi st pl new).filt kp kr) tm w' base q z lo n v:=λq z lo n v hq hpt=>Xdg.2 (hr0 q z lo n v hq hpt)
 have leaf:∀v a V V',PL st tm w Im base v a V->XN V w w'->Sub V V'->PL ((Xi st pl new).filt kp kr) tm w' Im' base v (filt kp kr a) V':=λv a V V' hl hs hv =>
  (hl.filt kp kr (hp) (hr)).keep hII hsI (λ_ _ h=>h) (λ_ _ _ _ _ h=>h) hv hs
 have hclose:=o.close w' Im' (λv a V=>PL ((Xi st pl new).filt kp kr) tm w' Im' base v (filt kp kr a) V) new U vs' Sf' k.len hII hsI (o.sameD k)
  (by
   by_cases hpath:pl.path=[]
   ·rw[if_pos hpath] at nd ⊢
    exact⟨nd.get,λj a hj=>(nd.sh j a hj).keep (Sub.rfl' _) (XN.refl _ _) (λ_ _ h=>Xfx.2 h) (λ_ _ _ _ _ h=>Xdg.2 h) (Sub.rfl' _) (XN.refl _ _),nd.sub,nd.dis,nd.mem⟩
   ·rw[if_neg hpath] at nd ⊢
    exact nd) hU1 (λv a V hs hv hl=>leaf v a V V hl hs (Sub.rfl' _))
  (λv a V hrp=>(Yy.rep (Pt:=Pt ((Xi st pl new).filt kp kr) tm w' base) (Rf:=Rf ((Xi st pl new).filt kp kr) tm w' base) hrp).filt kp kr (λ_ _ _ h=>h) (λ_ _ _ _ _ _ h=>h))
 have hroot:=Zr (st:=st) o.nav k.len k.na0 k.na
 have hnode:Up (PL ((Xi st pl new).filt kp kr) tm w' Im' base) tm w' (Yn base pl.e pl.r) (XR kp kr (XG (Xa st pl.e pl.r) pl.path new)) (un (ZJ (SO pl.e pl.r) T) U):=by
  obtain⟨vs2,Sf2,c1,c2,c3,c4,c5⟩:=hclose
  refine⟨vs2,Sf2,λj a hj=>?_,λj a hj=>?_,c3,c4,λg oo e j hj=>by have hq:=c5 g oo e j (by simpa[XT] using hj); rwa [<-XT kp kr] at hq⟩
  all_goals
   rw[Yq] at hj
   obtain⟨a',ha',rfl⟩:=Option.map_eq_some_iff.1 hj
  ·exact c1 j a' ha'
  ·exact c2 j a' ha'
 have hown:∀e r,¬(e=pl.e/\r=pl.r)->own SO pl.e pl.r (un (ZJ (SO pl.e pl.r) T) U) e r=SO e r:=λe r hne=>Zp hne
 refine⟨λt=>?_,λr=>?_,?_,?_,hIs,?_,λb i hb=>hII b i (h.imm b i hb),hIf,?_,hfr⟩
 ·by_cases ht:true=pl.e/\t=pl.r
  ·obtain⟨h1,h2⟩:=ht
   subst h2
   rw[h1,YQ,<-h1]
   have henv:((Xi st pl new).filt kp kr).env pl.r=Zs (st.env pl.r) (XR kp kr (XG (Xa st pl.e pl.r) pl.path new)):=by
    simp only[St.filt,Xi,h1.symm,if_true,Zf,Xev]
   rw[henv]
   refine Up.toTop rfl (h.env pl.r) (htop h1.symm) ?_ (by simpa[Yn,h1.symm] using hnode)
   rw[XT]
   have:=UP pl.path o.nav k.len
   rw[this]
   simp[Xa,h1.symm]
  ·rw[hown _ _ ht]
   have henv:((Xi st pl new).filt kp kr).env t=filt kp kr (st.env t):=by
    simp only[St.filt]
    have:=Qr (st:=st) (new:=new) (e:=true) (r:=t) ht
    congr 1
    unfold Xi
    split
    ·rename_i he; simp only; rw[Yr]; exact λe=>ht ⟨he.symm,e⟩
    ·rfl
   rw[henv]
   exact((h.env t).filt kp kr hp hr).keep hII hsI (λ_ _ h=>h) (λ_ _ _ _ _ h=>h) (Sub.rfl' _) (o.sameS h k ht)
 ·by_cases ht:false=pl.e/\r=pl.r
  ·obtain⟨h1,h2⟩:=ht
   subst h2
   rw[h1,YQ,<-h1]
   have hbx:((Xi st pl new).filt kp kr).bx pl.r=XR kp kr (XG (Xa st pl.e pl.r) pl.path new):=by
    simp only[St.filt,Xi,h1.symm,Bool.false_eq_true,if_false,Zf,Xa]
   rw[hbx]
   simpa[Yn,h1.symm] using hnode
  ·rw[hown _ _ ht]
   have hbx:((Xi st pl new).filt kp kr).bx r=XR kp kr (st.bx r):=by
    simp only[St.filt]
    congr 1
    unfold Xi
    split
    ·rfl
    ·rename_i he
     have he':pl.e=false:=by simpa using he
     simp only
     rw[Yr]; exact λe=>ht ⟨he'.symm,e⟩
   rw[hbx]
   have hsS:=o.sameS h k ht
   obtain⟨vs2,Sf2,c1,c2,c3,c4,c5⟩:=h.bx r
   refine⟨vs2,Sf2,λj a hj=>?_,λj a hj=>?_,c3,c4,λg oo e j hj=>?_⟩
   ·rw[Yq] at hj
    obtain⟨a',ha',rfl⟩:=Option.map_eq_some_iff.1 hj
    rw[Yu hsS λg oo e=>(c5 g oo e j (List.getElem?_eq_some_iff.1 ha').1).1]
    exact c1 j a' ha'
   ·rw[Yq] at hj
    obtain⟨a',ha',rfl⟩:=Option.map_eq_some_iff.1 hj
    exact leaf _ _ _ _ (c2 j a' ha') (hsS.mono (c3 j)) (Sub.rfl' _)
   ·obtain⟨k1,k2,k3⟩:=c5 g oo e j (by simpa[XT] using hj)
    exact⟨k1,by rw[XT]; exact k2.to (hsS _ _ k1).2,k3⟩
 ·intro e r e' r' hne
  by_cases c1:e=pl.e/\r=pl.r
  ·obtain⟨rfl,rfl⟩:=c1
   rw[YQ,hown e' r' (λx=>hne ⟨x.1.symm,x.2.symm⟩)]
   have hd:=h.dis pl.e pl.r e' r' hne
   intro b i hb hb'
   rcases hb with hb | hb
   ·exact hd b i hb.1 hb'
   ·exact hU2 e' r' (λx=>hne ⟨x.1.symm,x.2.symm⟩) b i hb hb'
  ·rw[hown e r c1]
   by_cases c2:e'=pl.e/\r'=pl.r
   ·obtain⟨rfl,rfl⟩:=c2
    rw[YQ]
    have hd:=h.dis e r pl.e pl.r hne
    intro b i hb hb'
    rcases hb' with hb' | hb'
    ·exact hd b i hb hb'.1
    ·exact hU2 e r c1 b i hb' hb
   ·rw[hown e' r' c2]; exact h.dis e r e' r' hne
 ·intro e r
  by_cases c1:e=pl.e/\r=pl.r
  ·obtain⟨rfl,rfl⟩:=c1
   rw[YQ]
   intro b i hb hb'
   rcases hb with hb | hb
   ·exact hI2 b i hb hb'
   ·exact hU3 b i hb hb'
  ·rw[hown e r c1]; exact hI1 e r c1
 ·intro e r g i hS
  by_cases c1:e=pl.e/\r=pl.r
  ·obtain⟨rfl,rfl⟩:=c1
   rw[YQ] at hS
   rcases hS with hS | hS
   ·exact Nat.lt_of_lt_of_le (h.inS _ _ g i hS.1) hsz
   ·exact hUs g i hS
  ·rw[hown e r c1] at hS; exact Nat.lt_of_lt_of_le (h.inS _ _ g i hS) hsz
 ·intro e r g i hS
  by_cases c1:e=pl.e/\r=pl.r
  ·obtain⟨rfl,rfl⟩:=c1
   rw[YQ] at hS
   rcases hS with hS | hS
   ·exact h.fromS _ _ g i hS.1
   ·exact hUf g i hS
  ·rw[hown e r c1] at hS; exact h.fromS _ _ g i hS
end Go.Vm
