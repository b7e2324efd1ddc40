/- A part of a reflected evaluator of the program's code, and the proof that what it computes is what the machine does. -/
import Derived.Test.YtpoannkeaajngaaGreatDoorVa
import Derived.Attr
set_option linter.unusedVariables false
set_option linter.unusedSimpArgs false
set_option autoImplicit false
set_option linter.defProp false
namespace Go.Vm
def nr{α:Sort _}{a b:α}(h:a=b):a=b:=h
def E:List (Nat×AV)->Nat->AV
 | [],_=>.u
 | (k,v) :: r,t=>if t=k then v else E r t
def B:List (Nat×List AV)->Nat->List AV
 | [],_=>[]
 | (k,v) :: r,t=>if t=k then v else B r t
def Xqj(t:Nat):E [] t=.u:=nr rfl
def Xbg(k:Nat)(v:AV)(r:List (Nat×AV))(t:Nat):E ((k,v) :: r) t=if t=k then v else E r t:=nr rfl
def Xqk(t:Nat):B [] t=[]:=nr rfl
def Xb4(k:Nat)(v:List AV)(r:List (Nat×List AV))(t:Nat):B ((k,v) :: r) t=if t=k then v else B r t:=nr rfl
def XfB(l:List (Nat×AV))(t:Nat)(v:AV):upd (E l) t v=E ((t,v) :: l):=by funext x; simp[upd,Xbg]
def XmB(l:List (Nat×List AV))(t:Nat)(v:List AV):upd (B l) t v=B ((t,v) :: l):=by funext x; simp[upd,Xb4]
def Xiq(kp kr:Pl->Bool):List (Nat×AV)->List (Nat×AV)
 | []=>[]
 | (k,v) :: r=>(k,filt kp kr v) :: Xiq kp kr r
def Xjq(kp kr:Pl->Bool):List (Nat×List AV)->List (Nat×List AV)
 | []=>[]
 | (k,v) :: r=>(k,X3 kp kr v) :: Xjq kp kr r
def Xb5(l:List (Nat×AV))(m:List (Nat×List AV))(kp kr:Pl->Bool):St.filt ⟨E l,B m⟩ kp kr=⟨E (Xiq kp kr l),B (Xjq kp kr m)⟩:=by
 simp only[St.filt,St.mk.injEq]
 constructor
 ·funext t
  induction l with
  | nil=>rfl
  | cons x r ih=>obtain⟨k,v⟩:=x; simp only[Xiq,Xbg]; split<;>simp_all
 ·funext t
  induction m with
  | nil=>rfl
  | cons x r ih=>obtain⟨k,v⟩:=x; simp only[Xjq,Xb4]; split<;>simp_all
def XgU(f:Nat->AV):List Nat->List (Nat×AV)
 | []=>[]
 | k :: r=>(k,f k) :: XgU f r
def Xkc(f:Nat->List AV):List Nat->List (Nat×List AV)
 | []=>[]
 | k :: r=>(k,f k) :: Xkc f r
def Xir(ks bs:List Nat)(st:St):keep (some (ks,bs)) st=⟨E (XgU (st.filt (within ks bs) (within ks bs)).env ks),B (Xkc (st.filt (within ks bs) (within ks bs)).bx bs)⟩:=by
 simp only[keep,St.mk.injEq]
 generalize st.filt (within ks bs) (within ks bs)=s
 constructor
 ·funext t
  induction ks with
  | nil=>rfl
  | cons k r ih =>
   simp only[XgU,Xbg,List.contains_cons]
   by_cases h:t=k
   ·subst h; simp
   ·simp[h,<-ih]
 ·funext t
  induction bs with
  | nil=>rfl
  | cons k r ih =>
   simp only[Xkc,Xb4,List.contains_cons]
   by_cases h:t=k
   ·subst h; simp
   ·simp[h,<-ih]
def Xis(st:St):keep none st=st:=nr rfl
def XmC(ks:List Nat)(l:List (Nat×AV))(m:List (Nat×List AV)):trim ks ⟨E l,B m⟩=⟨E (XgU (E (Xiq (inE ks) (inE ks) l)) ks),B (Xjq (inE ks) (inE ks) m)⟩:=by
 simp only[trim,Xb5,St.mk.injEq,and_true]
 generalize E (Xiq (inE ks) (inE ks) l)=s
 funext t
 induction ks with
 | nil=>rfl
 | cons k r ih =>
  simp only[XgU,Xbg,List.contains_cons]
  by_cases h:t=k
  ·subst h; simp
  ·simp[h,<-ih]
variable {R : Type}
def Xh{α:Type}(x:Option α)(k:α->Option R):Option R:=match x with
 | some a=>k a
 | none=>none
def Qo{α:Type}(a:α)(k:α->Option R):Xh (some a) k=k a:=nr rfl
def XgV{α:Type}(k:α->Option R):Xh none k=none:=nr rfl
@[congr] def XmD{α:Type}{x y:Option α}{k:α->Option R}(h:x=y):Xh x k=Xh y k:=by rw[h]
def Xit{α:Type}(c:Prop)[Decidable c](x y:Option α)(k:α->Option R):Xh (if c then x else y) k=if c then Xh x k else Xh y k:=by split<;>rfl
def Ys{α β:Type}(x:Option α)(f:α->Option β):Yv x f=Xh x f:=by cases x<;>rfl
@[congr] def Xkd{cx:Cx}{ops:List Oper}{cs:List (Option (List Nat))}{st st':St}{l:List Oper}(h:st=st'):XQ cx ops cs st l=XQ cx ops cs st' l:=by rw[h]
@[congr] def XlF{cx:Cx}{st st':St}{o:Oper}(h:st=st'):Xl cx st o=Xl cx st' o:=by rw[h]
@[congr] def XlG{cx:Cx}{blk:Nat}{c:Code}{st st':St}(h:st=st'):Xs cx blk c st=Xs cx blk c st':=by rw[h]
def upE(st:St)(d:Nat)(v:AV):St:=⟨upd st.env d v,st.bx⟩
def Xgq(st:St)(d:Nat):upE st d (st.env d)=st:=by
 have:upd st.env d (st.env d)=st.env:=by funext x; unfold upd; split<;>simp_all
 simp only[upE,this]
def XlH(a:AV)(x y z xs ys:Option St):Option St:=match a with
 | .b true=>x
 | .b false=>y
 | .no=>z
 | _=>none
def Xet(d:Option Nat)(k:Nat->Option St):Option St:=match d with
 | some d=>k d
 | none=>none
@[congr] def XlI{a a':AV}{x y z xs ys:Option St}(h:a=a'):XlH a x y z xs ys=XlH a' x y z xs ys:=by rw[h]
@[congr] def XlJ{d d':Option Nat}{k:Nat->Option St}(h:d=d'):Xet d k=Xet d' k:=by rw[h]
def Xb6(d:Nat)(k:Nat->Option St):Xet (some d) k=k d:=nr rfl
@[congr] def XmE{l:List Oper}{n:Nat}:Q0 l n=Q0 l n:=rfl
def Xc3(d op t pos aft g r):Q0 (⟨d,op,t,pos,aft,g⟩ :: r) 0=d:=nr rfl
def Xc4(o:Oper)(r:List Oper)(n:Nat):Q0 (o :: r) (n+1)=Q0 r n:=nr rfl
def opS(cx:Cx)(ops:List Oper)(cs:List (Option (List Nat)))(st:St)(o:Oper)(r:List Oper):Option St:=match wanted ops st o with
 | some true=>Xh (Xl cx st o) (λst'=>XQ cx ops cs st' r)
 | some false=>XQ cx ops cs (st.put? o.dst .no) r
 | none=>none
@[congr] def Xo3{cx:Cx}{ops:List Oper}{cs:List (Option (List Nat))}{st st':St}{o:Oper}{r:List Oper}(h:st=st'):opS cx ops cs st o r=opS cx ops cs st' o r:=by rw[h]
def XfC(cx:Cx)(ops:List Oper)(cs:List (Option (List Nat)))(st:St):XQ cx ops cs st []=some st:=by simp only[XQ]
def Xeu(cx:Cx)(ops:List Oper)(c:Option (List Nat))(cs:List (Option (List Nat)))(st:St)(o:Oper)(r:List Oper):XQ cx ops (c :: cs) st (o :: r)=opS cx ops cs (trim? c st) o r:=by
 simp only[XQ,opS,hd?,List.tail_cons,Xh]
 cases wanted ops (trim? c st) o with
 | none=>rfl
 | some b =>
  cases b<;>try rfl
  simp only[]; cases Xl cx (trim? c st) o<;>rfl
def XdL(cx:Cx)(ops:List Oper)(st:St)(o:Oper)(r:List Oper):XQ cx ops [] st (o :: r)=opS cx ops [] st o r:=by
 simp only[XQ,opS,hd?,List.tail_nil,Xh,trim?]
 cases wanted ops st o with
 | none=>rfl
 | some b =>
  cases b<;>try rfl
  simp only[]; cases Xl cx st o<;>rfl
section
variable (cx : Cx) (ops : List Oper) (cs : List (Option (List Nat))) (st : St) (d : Option Nat) (op : Op) (t : TypeId) (pos : String) (aft : Array Edge) (j : Nat) (r : List Oper)
def Xiu:opS cx ops cs st ⟨d,op,t,pos,aft,none⟩ r=Xh (Xl cx st ⟨d,op,t,pos,aft,none⟩) (λst'=>XQ cx ops cs st' r):=nr rfl
def UM(cx:Cx)(ops:List Oper)(cs:List (Option (List Nat)))(st:St)(o:Oper)(r:List Oper)(want:Bool)(g:Nat)(a:AV):Option St:=match a with
 | .b b=>if b=want then Xh (Xl cx st o) (λst'=>XQ cx ops cs st' r) else XQ cx ops cs (st.put? o.dst .no) r
 | .no=>XQ cx ops cs (st.put? o.dst .no) r
 | _=>none
@[congr] def XlK{cx:Cx}{ops:List Oper}{cs:List (Option (List Nat))}{st:St}{o:Oper}{r:List Oper}{want:Bool}{g:Nat}{a a':AV}(h:a=a'):UM cx ops cs st o r want g a=UM cx ops cs st o r want g a':=by rw[h]
def Xiv(want:Bool):opS cx ops cs st ⟨d,op,t,pos,aft,some (j,want)⟩ r=Xet (Q0 ops j) (λg=>UM cx ops cs st ⟨d,op,t,pos,aft,some (j,want)⟩ r want g (st.env g)):=by
 simp only[opS,wanted,Xet]
 cases Q0 ops j with
 | none=>rfl
 | some g =>
  simp only[UM]
  cases st.env g with
  | b b=>cases b<;>cases want<;>rfl
  | _=>rfl
end
section
variable (cx : Cx) (ops : List Oper) (cs : List (Option (List Nat))) (st : St) (o : Oper) (r : List Oper) (g : Nat)
def Xev:UM cx ops cs st o r true g (.b true)=Xh (Xl cx st o) (λst'=>XQ cx ops cs st' r):=nr rfl
def Xew:UM cx ops cs st o r false g (.b false)=Xh (Xl cx st o) (λst'=>XQ cx ops cs st' r):=nr rfl
def Xex:UM cx ops cs st o r true g (.b false)=XQ cx ops cs (st.put? o.dst .no) r:=nr rfl
def Xey:UM cx ops cs st o r false g (.b true)=XQ cx ops cs (st.put? o.dst .no) r:=nr rfl
def Xez(want:Bool):UM cx ops cs st o r want g .no=XQ cx ops cs (st.put? o.dst .no) r:=nr rfl
def opU(cx:Cx)(ops:List Oper)(cs:List (Option (List Nat)))(st:St)(o:Oper)(r:List Oper):Option St:=Xh (Xl cx st o) (λst'=>XQ cx ops cs st' r)
def skU(cx:Cx)(ops:List Oper)(cs:List (Option (List Nat)))(st:St)(o:Oper)(r:List Oper):Option St:=XQ cx ops cs (st.put? o.dst .no) r
@[congr] def Xo4{cx:Cx}{ops:List Oper}{cs:List (Option (List Nat))}{st st':St}{o:Oper}{r:List Oper}(h:st=st'):opU cx ops cs st o r=opU cx ops cs st' o r:=by rw[h]
@[congr] def Xo5{cx:Cx}{ops:List Oper}{cs:List (Option (List Nat))}{st st':St}{o:Oper}{r:List Oper}(h:st=st'):skU cx ops cs st o r=skU cx ops cs st' o r:=by rw[h]
end
def Xke(cx:Cx)(ops:List Oper)(cs:List (Option (List Nat)))(l:List (Nat×AV))(m:List (Nat×List AV))(o:Oper)(r:List Oper)(g:Nat)(want b:Bool)(h:E l g=.b b) :
  UM cx ops cs ⟨E l,B m⟩ o r want g (.b b) =
   if b=true then(if want=true then opU cx ops cs ⟨E ((g,.b true) :: l),B m⟩ o r else skU cx ops cs ⟨E ((g,.b true) :: l),B m⟩ o r)
   else(if want=true then skU cx ops cs ⟨E ((g,.b false) :: l),B m⟩ o r else opU cx ops cs ⟨E ((g,.b false) :: l),B m⟩ o r):=by
 have hs:(⟨E ((g,.b b) :: l),B m⟩:St)=⟨E l,B m⟩:=by
  have:=Xgq ⟨E l,B m⟩ g
  simp only[upE,XfB,h] at this
  exact this
 cases b<;>cases want<;>simp only[UM,opU,skU,hs,if_true,if_false,Bool.false_eq_true,reduceCtorEq]
def jA(c:Prop)[Decidable c](a b:AV):AV:=if c then a else b
section
variable (c : Prop) [Decidable c]
def XmF(a:AV):jA c a a=a:=by unfold jA; split<;>rfl
def Xso(x y:Bool):jA c (.b x) (.b y)=.b (if c then x else y):=by unfold jA; split<;>rfl
def Xsp(k:IntKind)(x y:Int):jA c (.i k x) (.i k y)=.i k (if c then x else y):=by unfold jA; split<;>rfl
def Xsq(x y:ByteArray):jA c (.s x) (.s y)=.s (if c then x else y):=by unfold jA; split<;>rfl
def Xql(t:Tag)(z:Nat)(x y:List (List AV)):jA c (.sl t z x) (.sl t z y)=.sl t z (if c then x else y):=by unfold jA; split<;>rfl
def jL(c:Prop)[Decidable c]:List AV->List AV->List AV
 | a :: l,b :: r=>jA c a b :: jL c l r
 | _,_=>[]
def Uo:List AV->List AV->Bool
 | _ :: l,_ :: r=>Uo l r
 | [],[]=>true
 | _,_=>false
def Xkf:∀(x y:List AV),Uo x y=true->(if c then x else y)=jL c x y
 | [],[],_=>by simp[jL]
 | a :: l,b :: r,h=>by
  have ih:=Xkf l r (by simpa[Uo] using h)
  simp only[jL,jA,<-ih]
  split<;>rfl
 | [],_ :: _,h=>by simp[Uo] at h
 | _ :: _,[],h=>by simp[Uo] at h
def Xo6(x y:List AV)(h:Uo x y=true):jA c (.agg x) (.agg y)=.agg (jL c x y):=by rw[<-Xkf c x y h]; unfold jA; split<;>rfl
def XmG(x:List AV):jL c x x=x:=by
 rw[<-Xkf c x x (by induction x<;>simp_all [Uo])]; simp
def jE(c:Prop)[Decidable c]:List (Nat×AV)->List (Nat×AV)->List (Nat×AV)
 | (k,a) :: l,(_,b) :: r=>(k,jA c a b) :: jE c l r
 | _,_=>[]
def jB(c:Prop)[Decidable c]:List (Nat×List AV)->List (Nat×List AV)->List (Nat×List AV)
 | (k,a) :: l,(_,b) :: r=>(k,jL c a b) :: jB c l r
 | _,_=>[]
def XeA:List (Nat×AV)->List (Nat×AV)->Bool
 | (k,_) :: l,(k',_) :: r=>k==k'&&XeA l r
 | [],[]=>true
 | _,_=>false
def XeB:List (Nat×List AV)->List (Nat×List AV)->Bool
 | (k,a) :: l,(k',b) :: r=>k==k'&&(Uo a b&&XeB l r)
 | [],[]=>true
 | _,_=>false
def XmH:∀(x y:List (Nat×AV)),XeA x y=true->(if c then E x else E y)=E (jE c x y)
 | [],[],_=>by simp[jE]
 | (k,a) :: l,(k',b) :: r,h=>by
  simp only[XeA,Bool.and_eq_true,beq_iff_eq] at h
  obtain⟨rfl,h⟩:=h
  have ih:=XmH l r h
  funext t
  have ih':=congrFun ih t
  simp only[jE,jA]
  rw[Xbg,<-ih']
  split<;>simp only[Xbg]
 | [],_ :: _,h=>by simp[XeA] at h
 | _ :: _,[],h=>by simp[XeA] at h
def XmI:∀(x y:List (Nat×List AV)),XeB x y=true->(if c then B x else B y)=B (jB c x y)
 | [],[],_=>by simp[jB]
 | (k,a) :: l,(k',b) :: r,h=>by
  simp only[XeB,Bool.and_eq_true,beq_iff_eq] at h
  obtain⟨rfl,h1,h⟩:=h
  have ih:=XmI l r h
  funext t
  have ih':=congrFun ih t
  simp only[jB]
  rw[Xb4,<-ih',<-Xkf c a b h1]
  split<;>simp only[Xb4]
 | [],_ :: _,h=>by simp[XeB] at h
 | _ :: _,[],h=>by simp[XeB] at h
def XmJ(x y:List (Nat×AV))(m n:List (Nat×List AV))(h:XeA x y=true)(h':XeB m n=true):(if c then some (⟨E x,B m⟩:St) else some ⟨E y,B n⟩)=some ⟨E (jE c x y),B (jB c m n)⟩:=by
 rw[<-XmH c x y h,<-XmI c m n h']; split<;>rfl
def XmK(e:Ex)(x y:List (Nat×AV))(m n:List (Nat×List AV))(h:XeA x y=true)(h':XeB m n=true):(if c then some (e,(⟨E x,B m⟩:St)) else some (e,⟨E y,B n⟩))=some (e,⟨E (jE c x y),B (jB c m n)⟩):=by
 rw[<-XmH c x y h,<-XmI c m n h']; split<;>rfl
end
def XfD(cx:Cx)(blk:Nat)(st:St):Xs cx blk .skip st=some (.nor,st):=nr rfl
def XfE(cx:Cx)(blk id:Nat)(st:St):Xs cx blk (.exit id) st=some (.ex id,keep (cx.out id) st):=nr rfl
def XgW(cx:Cx)(blk:Nat)(st:St):Xs cx blk .ret st=some (.ret,keep cx.rets st):=nr rfl
def Xkg(x:Option St):Option (Ex×St):=match x with
 | some s=>some (.nor,s)
 | none=>none
def Xiw(s:St):Xkg (some s)=some (.nor,s):=nr rfl
def Xix:Xkg none=none:=nr rfl
def Xkh(c:Prop)[Decidable c](x y:Option St):Xkg (if c then x else y)=if c then Xkg x else Xkg y:=by split<;>rfl
def XdM(cx:Cx)(blk id:Nat)(l:List Oper)(st:St):Xs cx blk (.region id (List.toArray l) false) st=Xkg (Xh (XQ cx l (cx.cuts id) st l) (λs=>weakW (keep (cx.rg id) s) (cx.ws id))):=by
 simp only[Xs,Xh,Xkg,Xn5,Bool.false_eq_true,if_false]
 cases XQ cx l (cx.cuts id) st l<;>rfl
def XfF(cx:Cx)(blk id:Nat)(l:List Oper)(st:St):Xs cx blk (.region id (List.toArray l) true) st=Xkg (Xh (Xh (cx.plan id) (λp=>Yz cx id l p st)) (λs=>weakW s (cx.ws id))):=by
 simp only[Xs,if_true,Xkg,Xn5,Ys]
 cases cx.plan id with
 | none=>rfl
 | some p=>simp only[Xh]; cases Yz cx id l p st<;>rfl
@[congr] def XmL{st st':St}{l l':List (Bool×Nat×Nat)}(h:st=st')(h2:l=l'):weakW st l=weakW st' l':=by rw[h,h2]
def Xiy(st:St):weakW st []=some st:=nr rfl
def XmM(st:St)(r c:Nat)(l:List (Bool×Nat×Nat)):weakW st ((true,r,c) :: l)=Xh (weakArg st (.tmp r)) (λs=>weakW s l):=by simp only[weakW,Ys]
def XgX(st:St)(b c:Nat):Option AV->Option St
 | some (.sl .mut z es)=>weakLeaf st (.rf ⟨false,b,[],c⟩ z 0 es.length)
 | _=>some st
def Xiz(st:St)(b c z:Nat)(es:List (List AV)):XgX st b c (some (.sl .mut z es))=weakLeaf st (.rf ⟨false,b,[],c⟩ z 0 es.length):=nr rfl
def XiA(st:St)(b c z:Nat)(es:List (List AV)):XgX st b c (some (.sl .app z es))=some st:=nr rfl
def Xki(st:St)(b c z:Nat)(es:List (List AV)):XgX st b c (some (.sl .ro z es))=some st:=nr rfl
def XmN(st:St)(b c:Nat):XgX st b c (some .u)=some st:=nr rfl
def XmO(st:St)(r c:Nat)(l:List (Bool×Nat×Nat)):weakW st ((false,r,c) :: l)=Xh (XgX st r c (st.bx r)[c]?) (λs=>weakW s l):=by simp only[weakW,weakAt,XgX,Ys]; rfl
def XfG(cx:Cx)(id:Nat)(ops:List Oper)(st:St):Yz cx id ops .done st=some (keep (cx.rg id) st):=nr rfl
def XfH(cx:Cx)(id:Nat)(ops:List Oper)(i:Nat)(p:Xck)(st:St):Yz cx id ops (.take i p) st=Xh (Ud ops i) (λo=>XbP (Xeb o.op) (Xh (Z9 cx ops st o) (λs=>Yz cx id ops p s))):=by
 simp only[Yz,Ys]
def XgY(cx:Cx)(id:Nat)(ops:List Oper)(i:Nat)(p:Xck)(st:St):Yz cx id ops (.one i p) st=Xh (Ud ops i) (λo=>XbP (UD cx o.op||QZ cx st o.op) (Xh (Z9 cx ops st o) (λs=>Yz cx id ops p s))):=by
 simp only[Yz,Ys]
def XgZ(cx:Cx)(id:Nat)(ops:List Oper)(i:Nat)(p q:Xck)(st:St):Yz cx id ops (.alt i p q) st=XgL (Yz cx id ops (.one i p) st) (Yz cx id ops q st):=nr rfl
def Xg0(o:Oper)(r:List Oper):Ud (o :: r) 0=some o:=nr rfl
def Xg1(o:Oper)(r:List Oper)(n:Nat):Ud (o :: r) (n+1)=Ud r n:=nr rfl
def Xg2(x:Option St):XbP true x=x:=nr rfl
@[congr] def XmP{p p':Bool}{x:Option St}(h:p=p'):XbP p x=XbP p' x:=by rw[h]
def Xg3(x:Option St):XgL x x=x:=by unfold XgL; rw[if_pos rfl]
def XeC(cx:Cx)(ops:List Oper)(st:St)(d:Option Nat)(op:Op)(t:TypeId)(pos:String)(aft:Array Edge):Z9 cx ops st ⟨d,op,t,pos,aft,none⟩=Xl cx st ⟨d,op,t,pos,aft,none⟩:=nr rfl
def Xbm(cx:Cx)(ops:List Oper)(st:St)(o:Oper)(want:Bool)(g:Nat)(a:AV):Option St:=match a with
 | .b b=>if b=want then Xl cx st o else some (st.put? o.dst .no)
 | .no=>some (st.put? o.dst .no)
 | _=>none
@[congr] def XmQ{cx:Cx}{ops:List Oper}{st:St}{o:Oper}{want:Bool}{g:Nat}{a a':AV}(h:a=a'):Xbm cx ops st o want g a=Xbm cx ops st o want g a':=by rw[h]
def XmR(cx:Cx)(ops:List Oper)(st:St)(o:Oper)(want:Bool)(d:Option Nat):Option St:=match d with
 | some d=>Xbm cx ops st o want d (st.env d)
 | none=>none
def Xg4(cx:Cx)(ops:List Oper)(st:St)(o:Oper)(want:Bool)(d:Nat):XmR cx ops st o want (some d)=Xbm cx ops st o want d (st.env d):=nr rfl
def Xkj(cx:Cx)(ops:List Oper)(st:St)(o:Oper)(g:Nat):Xbm cx ops st o true g (.b true)=Xl cx st o:=nr rfl
def Xkk(cx:Cx)(ops:List Oper)(st:St)(o:Oper)(g:Nat):Xbm cx ops st o false g (.b false)=Xl cx st o:=nr rfl
def Xkl(cx:Cx)(ops:List Oper)(st:St)(o:Oper)(g:Nat):Xbm cx ops st o true g (.b false)=some (st.put? o.dst .no):=nr rfl
def Xkm(cx:Cx)(ops:List Oper)(st:St)(o:Oper)(g:Nat):Xbm cx ops st o false g (.b true)=some (st.put? o.dst .no):=nr rfl
def Xkn(cx:Cx)(ops:List Oper)(st:St)(o:Oper)(want:Bool)(g:Nat):Xbm cx ops st o want g .no=some (st.put? o.dst .no):=nr rfl
def stU(cx:Cx)(st:St)(o:Oper):Option St:=Xl cx st o
def skS(st:St)(o:Oper):Option St:=some (st.put? o.dst .no)
@[congr] def Xo7{cx:Cx}{st st':St}{o:Oper}(h:st=st'):stU cx st o=stU cx st' o:=by rw[h]
@[congr] def Xo8{st st':St}{o:Oper}(h:st=st'):skS st o=skS st' o:=by rw[h]
def XmS(cx:Cx)(ops:List Oper)(l:List (Nat×AV))(m:List (Nat×List AV))(o:Oper)(want:Bool)(g:Nat)(b:Bool)(h:E l g=.b b) :
  Xbm cx ops ⟨E l,B m⟩ o want g (.b b) =
   if b=true then(if want=true then stU cx ⟨E ((g,.b true) :: l),B m⟩ o else skS ⟨E ((g,.b true) :: l),B m⟩ o)
   else(if want=true then skS ⟨E ((g,.b false) :: l),B m⟩ o else stU cx ⟨E ((g,.b false) :: l),B m⟩ o):=by
 have hs:(⟨E ((g,.b b) :: l),B m⟩:St)=⟨E l,B m⟩:=by
  have:=Xgq ⟨E l,B m⟩ g
  simp only[upE,XfB,h] at this
  exact this
 cases b<;>cases want<;>simp only[Xbm,stU,skS,hs,if_true,if_false,Bool.false_eq_true,reduceCtorEq]
def XeD(cx:Cx)(ops:List Oper)(st:St)(d:Option Nat)(op:Op)(t:TypeId)(pos:String)(aft:Array Edge)(j:Nat)(want:Bool):Z9 cx ops st ⟨d,op,t,pos,aft,some (j,want)⟩=XmR cx ops st ⟨d,op,t,pos,aft,some (j,want)⟩ want (Q0 ops j):=by
 unfold Z9 wanted XmR Xbm
 simp only
 cases Q0 ops j with
 | none=>rfl
 | some d =>
  simp only
  cases st.env d with
  | b b =>
   cases b<;>cases want<;>rfl
  | _=>rfl
def Xb7(x:Option (Ex×St))(k:St->Option (Ex×St)):Option (Ex×St):=match x with
 | some (.nor,st)=>k st
 | some (.ex j,st)=>some (.ex j,st)
 | some (.ret,st)=>some (.ret,st)
 | none=>none
@[congr] def Xn7{x y:Option (Ex×St)}{k:St->Option (Ex×St)}(h:x=y):Xb7 x k=Xb7 y k:=by rw[h]
def Xgr(st:St)(k:St->Option (Ex×St)):Xb7 (some (.nor,st)) k=k st:=nr rfl
def Xgs(st:St)(k:St->Option (Ex×St)):Xb7 (some (.ret,st)) k=some (.ret,st):=nr rfl
def XiB(j:Nat)(st:St)(k:St->Option (Ex×St)):Xb7 (some (.ex j,st)) k=some (.ex j,st):=nr rfl
def XiC(k:St->Option (Ex×St)):Xb7 none k=none:=nr rfl
def Xko(c:Prop)[Decidable c](x y:Option (Ex×St))(k:St->Option (Ex×St)):Xb7 (if c then x else y) k=if c then Xb7 x k else Xb7 y k:=by split<;>rfl
def Xg5(cx:Cx)(blk:Nat)(a b:Code)(st:St):Xs cx blk (.seq a b) st=Xb7 (Xs cx blk a st) (λs=>Xs cx blk b s):=by
 simp only[Xs]
 cases Xs cx blk a st with
 | none=>rfl
 | some x=>obtain⟨e,s⟩:=x; cases e<;>rfl
def XlL(id:Nat)(x:Option (Ex×St)):Option (Ex×St):=match x with
 | some (.ex j,st)=>if j=id then some (.nor,st) else some (.ex j,st)
 | some (.nor,st)=>some (.nor,st)
 | some (.ret,st)=>some (.ret,st)
 | none=>none
def Xkp(id:Nat)(st:St):XlL id (some (.nor,st))=some (.nor,st):=nr rfl
def Xkq(id:Nat)(st:St):XlL id (some (.ret,st))=some (.ret,st):=nr rfl
def XmT(id j:Nat)(st:St):XlL id (some (.ex j,st))=if j=id then some (.nor,st) else some (.ex j,st):=nr rfl
def XiD(id:Nat):XlL id none=none:=nr rfl
def Xkr(id:Nat)(c:Prop)[Decidable c](x y:Option (Ex×St)):XlL id (if c then x else y)=if c then XlL id x else XlL id y:=by split<;>rfl
def XeE(cx:Cx)(blk id:Nat)(c:Code)(st:St):Xs cx blk (.block id c) st=XlL id (Xs cx id c st):=by
 simp only[Xs]
 cases Xs cx id c st with
 | none=>rfl
 | some x=>obtain⟨e,s⟩:=x; cases e<;>rfl
def XfI(a:AV)(x y:Option (Ex×St)):Option (Ex×St):=match a with
 | .b b=>if b=true then x else y
 | _=>none
@[congr] def XmU{a a':AV}{x y:Option (Ex×St)}(h:a=a'):XfI a x y=XfI a' x y:=by rw[h]
def Xc5(x y:Option (Ex×St)):XfI (.b true) x y=x:=nr rfl
def Xb8(x y:Option (Ex×St)):XfI (.b false) x y=y:=nr rfl
def XmV(b:Bool)(x y:Option (Ex×St)):XfI (.b b) x y=if b=true then x else y:=nr rfl
def XfJ(cx:Cx)(blk:Nat)(c:Operand)(a b:Code)(st:St):Xs cx blk (.cond c a b) st=XfI (view st c) (Xs cx blk a st) (Xs cx blk b st):=by
 simp only[Xs,XfI]
 cases view st c with
 | b x=>cases x<;>rfl
 | _=>rfl
noncomputable def Xbn(cx:Cx)(blk:Nat)(c:Code)(n:Nat)(st:St):Option (Ex×St):=Xlt (λst=>Xs cx blk c (keep (cx.live blk) st)) n st
@[congr] def XmW{cx:Cx}{blk:Nat}{c:Code}{n:Nat}{st st':St}(h:st=st'):Xbn cx blk c n st=Xbn cx blk c n st':=by rw[h]
def XfK(cx:Cx)(blk:Nat)(c:Code)(st:St):Xs cx blk (.loop c) st=Xbn cx blk c cx.rounds st:=nr rfl
def Xa0(cx:Cx)(blk:Nat)(c:Code)(n:Nat)(st:St):Xbn cx blk c (n+1) st=Xb7 (Xs cx blk c (keep (cx.live blk) st)) (λs=>Xbn cx blk c n s):=by
 simp only[Xbn,Xlt]
 cases Xs cx blk c (keep (cx.live blk) st) with
 | none=>rfl
 | some x=>obtain⟨e,s⟩:=x; cases e<;>rfl
def Xjr(cx:Cx)(md:List Md)(rv:List ResultVar)(x:Option (Ex×St)):Option (AV×List AV):=match x with
 | some (.nor,st)=>Qb cx md rv st
 | some (.ret,st)=>Qb cx md rv st
 | _=>none
def Xks(cx:Cx)(md:List Md)(rv:List ResultVar)(st:St):Xjr cx md rv (some (.nor,st))=Qb cx md rv st:=nr rfl
def Xkt(cx:Cx)(md:List Md)(rv:List ResultVar)(st:St):Xjr cx md rv (some (.ret,st))=Qb cx md rv st:=nr rfl
def XiE(cx:Cx)(md:List Md)(rv:List ResultVar):Xjr cx md rv none=none:=nr rfl
def Xku(cx:Cx)(md:List Md)(rv:List ResultVar)(c:Prop)[Decidable c](x y:Option (Ex×St)):Xjr cx md rv (if c then x else y)=if c then Xjr cx md rv x else Xjr cx md rv y:=by split<;>rfl
def XiF(cx:Cx)(md:List Md)(f:Func)(args:List AV)(c:Code)(rv:List ResultVar)(h:f.body=some c)(hr:f.results=rv.toArray)(hz:cx.nz=false):Q1 cx md f args=Xjr cx md rv (Xs cx 0 c (Uw md args)):=by
 simp only[Q1,h,hr,evB,hz,Bool.false_eq_true,if_false]
 cases Xs cx 0 c (Uw md args) with
 | none=>rfl
 | some x=>obtain⟨e,s⟩:=x; cases e<;>rfl
def Xg6(cx:Cx)(md:List Md)(f:Func)(args:List AV)(c:Code)(rv:List ResultVar)(h:f.body=some c)(hr:f.results=rv.toArray)(hz:cx.nz=true):Q1 cx md f args=Xjr cx md rv (evN cx c (λs=>some (.nor,s)) (Uw md args)):=by
 simp only[Q1,h,hr,evB,hz,if_true]
 cases evN cx c (λs=>some (.nor,s)) (Uw md args) with
 | none=>rfl
 | some x=>obtain⟨e,s⟩:=x; cases e<;>rfl
@[congr] def Xo9{cx:Cx}{c:Code}{K:St->Option (Ex×St)}{st st':St}(h:st=st'):evN cx c K st=evN cx c K st':=by rw[h]
def Xkv(cx:Cx)(K:St->Option (Ex×St))(st:St):evN cx .skip K st=K st:=nr rfl
def XmX(cx:Cx)(a b:Code)(K:St->Option (Ex×St))(st:St):evN cx (.seq a b) K st=evN cx a (λs=>evN cx b K s) st:=nr rfl
noncomputable def XmY(a:AV)(x y:Option (Ex×St)):Option (Ex×St):=match a with
 | .b true=>x
 | .b false=>y
 | .ub=>Xfk x y
 | _=>none
@[congr] def Xn8{a a':AV}{x y:Option (Ex×St)}(h:a=a'):XmY a x y=XmY a' x y:=by rw[h]
def XeF(x y:Option (Ex×St)):XmY (.b true) x y=x:=nr rfl
def Xc6(x y:Option (Ex×St)):XmY (.b false) x y=y:=nr rfl
def XmZ(x y:Option (Ex×St)):XmY .ub x y=Xfk x y:=nr rfl
def Xg7(x:Option (Ex×St)):Xfk x x=x:=by unfold Xfk; rw[if_pos rfl]
def Xkw(cx:Cx)(c:Operand)(a b:Code)(K:St->Option (Ex×St))(st:St):evN cx (.cond c a b) K st=XmY (view st c) (evN cx a K st) (evN cx b K st):=by
 simp only[evN,XmY]
 cases view st c with
 | b x=>cases x<;>rfl
 | _=>rfl
def Xm0(cx:Cx)(K:St->Option (Ex×St))(st:St):evN cx .ret K st=some (.ret,keep cx.rets st):=nr rfl
def Xg8(cx:Cx)(id:Nat)(ops:Array Oper)(d:Bool)(K:St->Option (Ex×St))(st:St):evN cx (.region id ops d) K st=Xb7 (Xs cx 0 (.region id ops d) st) (λs=>K s):=by
 simp only[evN,XcL]
 cases Xs cx 0 (.region id ops d) st with
 | none=>rfl
 | some x=>obtain⟨e,s⟩:=x; cases e<;>rfl
def Xqm(md:List Md)(cx:Cx)(rv:List ResultVar)(st:St)(p:List AV×St):Option (AV×List AV):=if(p.1.all XY&&(UE p.2 md 0).all XY&&Qa md (UE p.2 md 0))=true then some (one p.1,UE p.2 md 0) else Xmi cx md rv st
def XpI(cx:Cx)(md:List Md)(rv:List ResultVar)(st:St):Option (List AV)->Option (AV×List AV)
 | some cs=>XoO md st cs
 | none=>Xh (Xav cx st rv) (Xqm md cx rv st)
def Xkx(cx:Cx)(md:List Md)(rv:List ResultVar)(st:St):Qb cx md rv st=XpI cx md rv st (Xcr md st rv):=by
 simp only[Qb,XpI]
 cases Xcr md st rv with
 | some cs=>rfl
 | none =>
  simp only[XpF,Xh]
  cases Xav cx st rv<;>rfl
def XiG(cx:Cx)(md:List Md)(rv:List ResultVar)(st:St)(cs:List AV):XpI cx md rv st (some cs)=XoO md st cs:=nr rfl
def XiH(cx:Cx)(md:List Md)(rv:List ResultVar)(st:St):XpI cx md rv st none=Xh (Xav cx st rv) (Xqm md cx rv st):=nr rfl
def Xm1(md:List Md)(st:St)(cs:List AV):XoO md st cs=if(cs.all XX&&!cs.isEmpty&&(UE st md 0).all XY&&Qa md (UE st md 0))=true then some (.tup [.agg cs],UE st md 0) else none:=nr rfl
def XiI(md:List Md)(st:St):Xcr md st []=none:=nr rfl
def XiJ(md:List Md)(st:St)(t:Nat):Xcr md st [.tmp t]=npP md st (st.env t):=nr rfl
def Xg9(md:List Md)(st:St)(a t:Nat):Xcr md st [.cell a t]=none:=nr rfl
def XiK(md:List Md)(st:St)(a b:ResultVar)(l:List ResultVar):Xcr md st (a :: b :: l)=none:=by cases a<;>rfl
def Xqn(md:List Md)(st:St)(q:Pl):npP md st (.p q)=if(!q.e&&q.path.isEmpty&&q.c==0&&decide (md.length<=q.r))=true then some (st.bx q.r) else none:=nr rfl
def Xm2(md:List Md)(cx:Cx)(rv:List ResultVar)(s0:St)(l:List AV)(st:St):Xqm md cx rv s0 (l,st)=if(l.all XY&&(UE st md 0).all XY&&Qa md (UE st md 0))=true then some (one l,UE st md 0) else Xmi cx md rv s0:=nr rfl
def XpJ(md:List Md)(t:Nat)(p:List AV×St):Option (AV×List AV):=Xh (npP md p.2 (p.2.env t)) (λcs=>if(p.1.all XY&&!p.1.isEmpty&&cs.all XX&&!cs.isEmpty&&(UE p.2 md 0).all XY&&Qa md (UE p.2 md 0))=true then some (.tup [.tup [.agg cs],.tup p.1],UE p.2 md 0) else none)
def Xm3(md:List Md)(t:Nat)(l:List AV)(st:St):XpJ md t (l,st)=Xh (npP md st (st.env t)) (λcs=>if(l.all XY&&!l.isEmpty&&cs.all XX&&!cs.isEmpty&&(UE st md 0).all XY&&Qa md (UE st md 0))=true then some (.tup [.tup [.agg cs],.tup l],UE st md 0) else none):=nr rfl
def Xqo(cx:Cx)(md:List Md)(st:St)(q:List ResultVar×Nat):Option (AV×List AV):=Xh (Xav cx st q.1) (XpJ md q.2)
def Xm4(cx:Cx)(md:List Md)(st:St)(rs:List ResultVar)(t:Nat):Xqo cx md st (rs,t)=Xh (Xav cx st rs) (XpJ md t):=nr rfl
def Xpa(cx:Cx)(md:List Md)(rv:List ResultVar)(st:St):Xmi cx md rv st=Xh (rvQ rv) (Xqo cx md st):=by
 unfold Xmi
 cases rvQ rv with
 | none=>rfl
 | some p =>
  obtain⟨rs,t⟩:=p
  simp only[Xh,Xqo]
  cases Xav cx st rs with
  | none=>rfl
  | some q =>
   simp only[XpJ]
   unfold Xh
   cases npP md q.2 (q.2.env t)<;>rfl
def Xky(cx:Cx)(st:St):Xav cx st []=some ([],st):=nr rfl
def Xqp(v:AV)(p:List AV×St):Option (List AV×St):=some (v :: p.1,p.2)
def Xm5(v:AV)(l:List AV)(st:St):Xqp v (l,st)=some (v :: l,st):=nr rfl
def XiL(cx:Cx)(st:St)(t:Tmp)(r:List ResultVar):Xav cx st (.tmp t :: r)=Xh (take st (.tmp t)) (λp=>Xh (Xav cx p.2 r) (Xqp p.1)):=by
 simp only[Xav,Xh]
 cases take st (.tmp t) with
 | none=>rfl
 | some p=>obtain⟨v,s⟩:=p; simp only; cases Xav cx s r<;>rfl
def XiM(cx:Cx)(st:St)(a t:Nat)(r:List ResultVar):Xav cx st (.cell a t :: r)=Xh (cx.T t) (λti=>Xh (loadAt st ti (view st (.tmp a))) (λv=>Xh (takeVal st v) (λp=>Xh (Xav cx p.2 r) (Xqp p.1)))):=by
 simp only[Xav,Ys,Xh]
 cases cx.T t with
 | none=>rfl
 | some ti =>
  simp only
  cases loadAt st ti (view st (.tmp a)) with
  | none=>rfl
  | some v =>
   simp only
   cases takeVal st v with
   | none=>rfl
   | some p=>obtain⟨v,s⟩:=p; simp only; cases Xav cx s r<;>rfl
def Xm6:List Md->List AV->Nat->List (Nat×AV)
 | .rw _ :: ms,_ :: as,j=>(j,.p ⟨false,j,[],0⟩) :: Xm6 ms as (j+1)
 | .ro _ :: ms,a :: as,j=>(j,a) :: Xm6 ms as (j+1)
 | .mv :: ms,a :: as,j=>(j,a) :: Xm6 ms as (j+1)
 | _,_,_=>[]
def Xm7:List Md->List AV->Nat->List (Nat×List AV)
 | .rw _ :: ms,a :: as,j=>(j,cellsOf a) :: Xm7 ms as (j+1)
 | .ro _ :: ms,_ :: as,j=>Xm7 ms as (j+1)
 | .mv :: ms,_ :: as,j=>Xm7 ms as (j+1)
 | _,_,_=>[]
def Xkz(ms:List Md)(as:List AV):Uw ms as=⟨E (Xm6 ms as 0),B (Xm7 ms as 0)⟩:=by
 have h1:∀(ms:List Md) (as:List AV) (j t:Nat),Y4 ms as j t=E (Xm6 ms as j) t:=by
  intro ms
  induction ms with
  | nil=>intro as j t; cases as<;>rfl
  | cons m ms ih =>
   intro as j t
   cases as with
   | nil=>cases m<;>rfl
   | cons a as=>cases m<;>simp only[Y4,Xm6,Xbg,ih]
 have h2:∀(ms:List Md) (as:List AV) (j t:Nat),YT ms as j t=B (Xm7 ms as j) t:=by
  intro ms
  induction ms with
  | nil=>intro as j t; cases as<;>rfl
  | cons m ms ih =>
   intro as j t
   cases as with
   | nil=>cases m<;>rfl
   | cons a as=>cases m<;>simp only[YT,Xm7,Xb4,ih]
 simp only[Uw,St.mk.injEq]
 exact⟨funext (h1 ms as 0),funext (h2 ms as 0)⟩
section
variable (cx : Cx) (t : TypeId) (pos : String) (aft : Array Edge) (g : Option (Nat × Bool)) (st : St)
def QI(d:Nat)(x:Option AV):XdV st (some d) x=Xh x (λv=>some (st.put d v)):=by cases x<;>rfl
def Xgt(d:Nat)(x:Option (AV×St)):setV (some d) x=Xh x (λy=>some (y.2.put d y.1)):=by cases x<;>rfl
def Xpb(d:Option Nat)(x:Option (AV×St)):Xqd d x=Xh x (λy=>putN d y.2 y.1 (Xai y.1)):=by cases x<;>rfl
def XiN(d:Option Nat)(st:St)(r:AV):putN d st r none=Xn4 d st r (QP r):=nr rfl
def XiO(d:Option Nat)(st:St)(r:AV):Xn4 d st r none=some (st.put? d r):=nr rfl
def XiP(d:Nat)(st:St)(r:AV)(cs l:List AV):Xn4 (some d) st r (some (cs,l))=XoN st d cs l:=nr rfl
def Xpc(st:St)(d:Nat)(cs l:List AV):XoN st d cs l=Xh (YZ st d cs) (λst'=>some (st'.put d (.tup (l++[.p ⟨false,d,[],0⟩])))):=by
 unfold XoN Xh
 cases YZ st d cs<;>rfl
def Xm8(cs l:List AV):QP (.tup [.tup [.agg cs],.tup l])=some (cs,l):=nr rfl
def XiQ(d:Nat)(st:St)(r:AV)(cs:List AV):putN (some d) st r (some cs)=YZ st d cs:=nr rfl
def Xm9(cs:List AV):Xai (.tup [.agg cs])=some cs:=nr rfl
def XkA:Xai (.tup [])=none:=nr rfl
def XkB(a b:AV)(l:List AV):Xai (.tup (a :: b :: l))=none:=by cases a<;>rfl
def Xna(st:St)(t:Nat):AV->Option (AV×St)
 | .tup (v :: vs)=>some (.tup (v :: vs),⟨upd st.env t .u,st.bx⟩)
 | _=>none
def XiR(st:St)(t:Nat)(v:AV)(vs:List AV):Xna st t (.tup (v :: vs))=some (.tup (v :: vs),⟨upd st.env t .u,st.bx⟩):=nr rfl
def XiS(st:St)(t:Nat):Xfj st (.tmp t)=Xna st t (st.env t):=by
 simp only[Xfj,Xna]
 cases st.env t with
 | tup vs=>cases vs<;>rfl
 | _=>rfl
def Xnb(d:Nat)(x:Operand):Xl cx st ⟨some d,.move x,t,pos,aft,g⟩=if cx.al.contains d=true then Xh (Xfj st x) (λy=>some (y.2.put d y.1)) else some (st.put d (fix (zOf cx t) (view st x))):=by
 simp only[Xl,alD,Xgt,St.put?]
def XiT(d:Nat)(x:Operand):Xl cx st ⟨some d,.assign x,t,pos,aft,g⟩ =
  if cx.al.contains d=true then some (st.put d (fix (zOf cx t) (view st x))) else Xh (take st x) (λy=>some (y.2.put d (fix (zOf cx t) y.1))):=by
 simp only[Xl,Ys,Qo]
def XfL(st:St)(d:Nat)(a x y:AV):Option St:=match a with
 | .b b=>if b=true then some (st.put d x) else some (st.put d y)
 | _=>none
@[congr] def Xnc{st:St}{d:Nat}{a a' x y:AV}(h:a=a'):XfL st d a x y=XfL st d a' x y:=by rw[h]
def Xc7(d:Nat)(x y:AV):XfL st d (.b true) x y=some (st.put d x):=nr rfl
def Xb9(d:Nat)(x y:AV):XfL st d (.b false) x y=some (st.put d y):=nr rfl
def Xnd(d:Nat)(b:Bool)(x y:AV):XfL st d (.b b) x y=if b=true then some (st.put d x) else some (st.put d y):=nr rfl
def Xne(d:Nat)(c x y:Operand):Xl cx st ⟨some d,.pick c x y,t,pos,aft,g⟩=XfL st d (view st c) (view st x) (view st y):=by
 simp only[Xl,XfL,St.put?]
 cases view st c with
 | b x=>cases x<;>rfl
 | _=>rfl
def XkC(d:Nat)(t':TypeId):Xl cx st ⟨some d,.alloc t',t,pos,aft,g⟩=Xh (cx.T t') (λti=>YZ st d ti.zero):=Ys _ _
def Xpd(d:Nat)(t':TypeId)(x:Operand):Xl cx st ⟨some d,.box t' x,t,pos,aft,g⟩=Xh (cx.T t') (λti=>if cx.fz.contains d=true then Xh (XgK ti (fix ti.z (view st x))) (λcs=>UC st d cs) else if cx.al.contains d=true then Xh (XgK ti (fix ti.z (view st x))) (λcs=>YZ st d cs) else Xh (take st x) (λy=>Xh (XgK ti (fix ti.z y.1)) λcs=>YZ y.2 d cs)):=by
 simp only[Xl,Ys,Qo]
def Xnf(d:Nat)(t':TypeId)(a:Operand):Xl cx st ⟨some d,.load t' a,t,pos,aft,g⟩=Xh (cx.T t') (λti=>Xh (loadAt st ti (view st a)) (λv=>some (st.put d v))):=by
 simp only[Xl,Ys,QI]
def XkD(t':TypeId)(a x:Operand):Xl cx st ⟨none,.store t' a x,t,pos,aft,g⟩=Xh (cx.T t') (λti=>Xh (take st x) (λy=>storeAt y.2 ti (view y.2 a) y.1)):=by
 simp only[Xl,Ys,Option.isSome_none,Bool.false_eq_true,if_false]
def XfM(d:Nat)(x:Operand):Xl cx st ⟨some d,.nilCheck x,t,pos,aft,g⟩=Xh (Xdv (view st x)) (λv=>some (st.put d v)):=QI st d _
def XeG(d:Nat)(t':TypeId)(x:Operand)(f:Nat):Xl cx st ⟨some d,.fieldAddr t' x f,t,pos,aft,g⟩=Xh (cx.T t') (λti=>Xh (Xau ti f (view st x)) (λv=>some (st.put d v))):=by
 simp only[Xl,Ys,QI]
def XkE(d:Nat)(t':TypeId)(x:Operand)(f:Nat):Xl cx st ⟨some d,.field t' x f,t,pos,aft,g⟩=Xh (cx.T t') (λti=>Xh (Xd9 ti f (view st x)) (λv=>some (st.put d v))):=by
 simp only[Xl,Ys,QI]
def XeH(d:Nat)(t':TypeId)(x ix:Operand):Xl cx st ⟨some d,.indexAddr t' x ix,t,pos,aft,g⟩=Xh (cx.T t') (λti=>Xh (QY st ti (view st x) (view st ix)) (λv=>some (st.put d v))):=by
 simp only[Xl,Ys,QI]
def XkF(d:Nat)(t':TypeId)(x ix:Operand):Xl cx st ⟨some d,.index t' x ix,t,pos,aft,g⟩=Xh (cx.T t') (λti=>Xh (U5 ti (view st x) (view st ix)) (λv=>some (st.put d v))):=by
 simp only[Xl,Ys,QI]
def Xpe(d:Nat)(op:BinOp)(xt:TypeId)(x y:Operand)(yt:TypeId):Xl cx st ⟨some d,.binOp op xt x y yt,t,pos,aft,g⟩=Xh (Xcm (cx.T xt) (cx.eqs xt) op (view st x) (view st y)) (λv=>some (st.put d v)):=QI st d _
def Xqq(d:Nat)(op:UnOp)(xt:TypeId)(x:Operand):Xl cx st ⟨some d,.unOp op xt x,t,pos,aft,g⟩=Xh (unV op (view st x)) (λv=>some (st.put d v)):=QI st d _
def Xha(d:Nat)(a b:TypeId)(x:Operand):Xl cx st ⟨some d,.convert a b x,t,pos,aft,g⟩=Xh (cx.T a) (λta=>Xh (cx.T b) (λtb=>Xh (XgH st ta tb (view st x)) (λv=>some (st.put d v)))):=by
 simp only[Xl,Ys,QI]
def XiU(src:TI)(k:IntKind)(a:AV):XgH st src (.int k) a=Xfh st src (.int k) a:=nr rfl
def XiV(src:TI)(a:AV):XgH st src .str a=Xfh st src .str a:=nr rfl
def XkG(z n:Nat)(zero:List AV)(src:TI)(a:AV):XgH st src (.slice z n zero) a=Xea src z zero a:=nr rfl
def XkH(z:Nat)(zero:List AV)(b:ByteArray):Xea .str z zero (.s b)=if z=1/\XoM zero=true/\b.size<=9223372036854775807 then some (.sl .mut 1 (b.data.toList.map XaO)) else none:=nr rfl
def XkI(d:Nat)(xt:TypeId)(x:Operand)(lo hi:Option Operand):Xl cx st ⟨some d,.slice xt x lo hi none,t,pos,aft,g⟩=Xh (cx.T xt) (λti=>Xh (Xar ti (view st x) (lo.map (view st)) (hi.map (view st))) (λv=>some (st.put d v))):=by
 simp only[Xl,Ys,QI]
def XfN(d f:Nat)(caps:List Operand):Xl cx st ⟨some d,.makeFunc (.func f) (List.toArray []) (List.toArray caps),t,pos,aft,g⟩=if(caps.map (view st)).all Qd=true then some (st.put d (.fn f (caps.map (view st)))) else none:=by
 simp only[Xl,List.isEmpty_toArray,List.isEmpty_nil,Bool.true_and]; rfl
def Xhb(d:Nat)(x:Operand)(j:Nat):Xl cx st ⟨some d,.extract x j,t,pos,aft,g⟩=Xh (Uc st x j) (λy=>some (y.2.put d y.1)):=Xgt d _
def XkJ(d:Nat)(t':TypeId)(parts:List (Nat×Operand)):Xl cx st ⟨some d,.build t' (List.toArray parts),t,pos,aft,g⟩=Xh (cx.T t') (λti=>Xh (XbO ti st parts) (λv=>some (st.put d v))):=by
 simp only[Xl,Ys,QI]
def XdN(d:Nat)(t':TypeId)(len:Nat)(parts:List (Nat×Operand)):Xl cx st ⟨some d,.buildSlice t' len (List.toArray parts),t,pos,aft,g⟩=Xh (cx.T t') (λti=>Xh (ZP ti st len parts) (λy=>some (y.2.put d y.1))):=by
 simp only[Xl,Ys,Xgt,St.put?]
def XeI(d:Nat)(t':TypeId)(l c:Operand):Xl cx st ⟨some d,.makeSlice t' l c,t,pos,aft,g⟩=Xh (cx.T t') (λti=>Xh (XgJ ti (view st l) (view st c)) (λv=>some (st.put d v))):=by
 simp only[Xl,Ys,QI]
def Xpf(d:Nat)(x:Operand)(tx:TypeId)(ts:List TypeId):Xl cx st ⟨some d,.call {callee:=.builtin .len,args:=List.toArray [x],argTypes:=List.toArray (tx :: ts)},t,pos,aft,g⟩=Xh (cx.T tx) (λti=>Xh (Xn3 st ti (view st x)) (λn=>some (st.put d (.i .i64 n)))):=by
 simp only[Xl,YE,Ys]; rfl
def XiW(d:Nat)(x y:Operand)(tx ty:TypeId):Xl cx st ⟨some d,.call {callee:=.builtin .append,args:=List.toArray [x,y],argTypes:=List.toArray [tx,ty]},t,pos,aft,g⟩=Xh (cx.T tx) (λti=>Xh (cx.T ty) (λtj=>if XcJ tj=true then Xh (XaP ti st x y) (λy=>some (y.2.put d y.1)) else Xh (UU ti tj st x (view st y)) (λy=>some (y.2.put d y.1)))):=by
 simp only[Xl,YE,Ys,Xgt]
def XkK(x:Operand)(tx:TypeId):Xl cx st ⟨none,.call {callee:=.builtin .clear,args:=List.toArray [x],argTypes:=List.toArray [tx]},t,pos,aft,g⟩=Xh (cx.T tx) (λti=>Xa5 ti st (view st x)):=by
 simp only[Xl,YE,Ys,noD]
def Xpg(d:Nat)(xs:List Operand)(at_:Array TypeId):Xl cx st ⟨some d,.call {callee:=.builtin .min,args:=List.toArray xs,argTypes:=at_},t,pos,aft,g⟩=Xh (XgI (λa b=>if b<a then b else a) (xs.map (view st))) (λv=>some (st.put d v)):=by
 simp only[Xl,YE,QI]
def Xph(d:Nat)(xs:List Operand)(at_:Array TypeId):Xl cx st ⟨some d,.call {callee:=.builtin .max,args:=List.toArray xs,argTypes:=at_},t,pos,aft,g⟩=Xh (XgI (λa b=>if b>a then b else a) (xs.map (view st))) (λv=>some (st.put d v)):=by
 simp only[Xl,YE,QI]
def Xng(d:Option Nat)(f:Operand)(args:List Operand)(ats:List TypeId):Xl cx st ⟨d,.call {callee:=.value f,args:=List.toArray args,argTypes:=List.toArray ats},t,pos,aft,g⟩ =
  Xh (U4 cx st f ats args) (λy=>putN d y.2 y.1 (Xai y.1)):=by
 simp only[Xl,YE,Xpb]
def XkL(f:Operand)(ts:List TypeId)(xs:List Operand):U4 cx st f ts xs=Xh (Ub cx st f ts xs) (λp=>Xh (cx.fns p.1) (λfs=>XbM cx st p.1 fs f ts xs)):=by
 simp only[U4,Xh]
 cases Ub cx st f ts xs with
 | none=>rfl
 | some p=>obtain⟨g,as⟩:=p; simp only; cases cx.fns g<;>rfl
def Xnh(f:Operand)(ts:List TypeId)(xs:List Operand):Ub cx st f ts xs=fnV (view st f) (XdU cx ts xs (xs.map (view st))):=nr rfl
def XkM(g:Nat)(md:List Md)(F:List AV->Option (AV×List AV))(f:Operand)(ts:List TypeId)(xs:List Operand):XbM cx st g ⟨md,F,false⟩ f ts xs=XbL cx st g ⟨md,F,false⟩ f ts xs:=nr rfl
def XkN(g:Nat)(md:List Md)(F:List AV->Option (AV×List AV))(f:Operand)(ts:List TypeId)(xs:List Operand):XbM cx st g ⟨md,F,true⟩ f ts xs=Xh (weakAll st md xs) (λs=>XbL cx s g ⟨md,F,true⟩ f ts xs):=by
 simp only[XbM,if_true,Xh]
 cases weakAll st md xs<;>rfl
def rwK(cx:Cx)(st:St)(g:Nat)(fs:FS)(f:Operand)(ts:List TypeId)(xs:List Operand):Option (Nat×Nat)->Option (AV×St)
 | some (k,n)=>Xcp cx st g fs k n f ts xs
 | none=>XbK cx st g fs f ts xs
def Xni(g:Nat)(md:List Md)(F:List AV->Option (AV×List AV))(b:Bool)(f:Operand)(ts:List TypeId)(xs:List Operand):XbL cx st g ⟨md,F,b⟩ f ts xs=rwK cx st g ⟨md,F,b⟩ f ts xs (Xcn 0 md):=by
 unfold XbL rwK
 simp only
 cases Xcn 0 md with
 | none=>rfl
 | some p=>rfl
def XkO(g:Nat)(fs:FS)(f:Operand)(ts:List TypeId)(xs:List Operand)(k n:Nat):rwK cx st g fs f ts xs (some (k,n))=Xcp cx st g fs k n f ts xs:=nr rfl
def XkP(g:Nat)(fs:FS)(f:Operand)(ts:List TypeId)(xs:List Operand):rwK cx st g fs f ts xs none=XbK cx st g fs f ts xs:=nr rfl
def XkQ(k:Nat):Xcn k []=none:=nr rfl
def Xnj(k n:Nat)(ms:List Md):Xcn k (.ro n :: ms)=Xcn (k+1) ms:=nr rfl
def Xnk(k:Nat)(ms:List Md):Xcn k (.mv :: ms)=Xcn (k+1) ms:=nr rfl
def Xnl(k n:Nat)(ms:List Md):Xcn k (.rw n :: ms)=some (k,n):=nr rfl
def inO(a:Option AV)(l:Option (List AV)):Option (List AV):=match a,l with
 | some a,some l=>some (a :: l)
 | _,_=>none
def XkR(a:AV)(l:List AV):inO (some a) (some l)=some (a :: l):=nr rfl
def Xhc(own:Bool)(av:Option (Bool×Nat))(ys:List (AV×List (Option (Pl×Bool)))):Y3 own av st [] [] ys=some []:=nr rfl
def XfO(own:Bool)(av:Option (Bool×Nat))(m:Md)(ms:List Md)(a:AV)(as:List AV)(ys:List (AV×List (Option (Pl×Bool)))):Y3 own av st (m :: ms) (a :: as) ys=inO (Xat own av st m a (ys.headD (.u,[]))) (Y3 own av st ms as ys.tail):=by
 simp only[Y3,inO]
 cases Xat own av st m a (ys.headD (.u,[])) with
 | none=>rfl
 | some b=>simp only; cases Y3 own av st ms as ys.tail<;>rfl
def XkS(own:Bool)(av:Option (Bool×Nat))(n:Nat)(a:AV)(y:AV×List (Option (Pl×Bool))):Xat own av st (.ro n) a y=Z4 own av st a:=nr rfl
def XkT(own:Bool)(av:Option (Bool×Nat))(a:AV)(x:AV)(l:List (Option (Pl×Bool))):Xat own av st .mv a (x,l)=some x:=nr rfl
def rwB(n:Nat)(pl:Pl)(w:Bool)(cells:List AV):Option AV:=if(w&&decide (pl.c+n<=cells.length)&&((cells.drop pl.c).take n).all XX)=true then some (.agg ((cells.drop pl.c).take n)) else none
def XkU(own:Bool)(av:Option (Bool×Nat))(n:Nat)(pl:Pl)(y:AV×List (Option (Pl×Bool))):Xat own av st (.rw n) (.p pl) y=Xh (node st pl) (rwB n pl (XL st pl)):=by
 simp only[Xat,Xh,rwB]
 cases node st pl<;>rfl
def rwP(cx:Cx)(st:St)(fs:FS)(as:List AV)(k n:Nat):Option AV->Option (AV×St)
 | some (.p pl)=>XcI cx st fs as k n pl
 | _=>none
def Xqr(fs:FS)(as:List AV)(k n:Nat)(pl:Pl):rwP cx st fs as k n (some (.p pl))=XcI cx st fs as k n pl:=nr rfl
def Xnm(g:Nat)(fs:FS)(k n:Nat)(f:Operand)(ts:List TypeId)(xs:List Operand):Xcp cx st g fs k n f ts xs=Xh (Ub cx st f ts xs) (λp=>if p.1=g/\Xco k fs.md=true then rwP cx st fs p.2 k n p.2[k]? else none):=by
 simp only[Xcp,Xh]
 cases Ub cx st f ts xs with
 | none=>rfl
 | some p =>
  obtain⟨g',as⟩:=p
  simp only
  split
  ·cases as[k]? with
   | none=>rfl
   | some a=>cases a<;>rfl
  ·rfl
def rwA(st:St)(pl:Pl)(n:Nat)(r:AV):Option AV->Option (AV×St)
 | some (.agg cs)=>Xh (node st pl) (λcells=>some (r,(Xo st pl (cells.take pl.c++cs++cells.drop (pl.c+n))).cut pl n))
 | _=>none
def Xnn(pl:Pl)(n:Nat)(r:AV)(cs:List AV):rwA st pl n r (some (.agg cs))=Xh (node st pl) (λcells=>some (r,(Xo st pl (cells.take pl.c++cs++cells.drop (pl.c+n))).cut pl n)):=nr rfl
def rwR(st:St)(pl:Pl)(k n:Nat)(p:AV×List AV):Option (AV×St):=rwA st pl n p.1 p.2[k]?
def Xpi(pl:Pl)(k n:Nat)(r:AV)(os:List AV):rwR st pl k n (r,os)=rwA st pl n r os[k]?:=nr rfl
def XkV(md:List Md)(F:List AV->Option (AV×List AV))(b:Bool)(as:List AV)(k n:Nat)(pl:Pl):XcI cx st ⟨md,F,b⟩ as k n pl=Xh (Y3 (!b) (some (pl.e,pl.r)) st md as []) (λbs=>Xh (F bs) (rwR st pl k n)):=by
 simp only[XcI,Xh,rwR]
 cases Y3 (!b) (some (pl.e,pl.r)) st md as [] with
 | none=>rfl
 | some bs =>
  simp only
  cases F bs with
  | none=>rfl
  | some p =>
   obtain⟨r,os⟩:=p
   simp only[rwA]
   cases os[k]? with
   | none=>rfl
   | some a =>
    cases a<;>try rfl
    simp only[Xh]
    cases node st pl<;>rfl
def Xhd(m:Md)(ms:List Md):Xco 0 (m :: ms)=ms.all Zv:=nr rfl
def Xhe(k n:Nat)(ms:List Md):Xco (k+1) (.ro n :: ms)=Xco k ms:=nr rfl
def XfP(xs:List Operand):weakAll st [] xs=some st:=by cases xs<;>rfl
def Xhf(n:Nat)(ms:List Md)(x:Operand)(xs:List Operand):weakAll st (.ro n :: ms) (x :: xs)=Xh (weakArg st x) (λs=>weakAll s ms xs):=by
 simp only[weakAll,Xh]; cases weakArg st x<;>rfl
def Xhg(n:Nat)(ms:List Md)(x:Operand)(xs:List Operand):weakAll st (.rw n :: ms) (x :: xs)=weakAll st ms xs:=by simp only[weakAll]
def Xhh(ms:List Md)(x:Operand)(xs:List Operand):weakAll st (.mv :: ms) (x :: xs)=weakAll st ms xs:=by simp only[weakAll]
def Uy(st:St)(x:Operand):AV->Option St
 | .agg cs=>Z3 x cs.length 0 st
 | a=>weakLeaf st a
def XiX(x:Operand):weakArg st x=Uy st x (view st x):=by simp only[weakArg,Uy]; cases view st x<;>rfl
def XeJ(x:Operand)(j:Nat):Z3 x 0 j st=some st:=nr rfl
def Xno(x:Operand)(n j:Nat)(st:St):AV->Option St
 | .agg cs=>Xh cs[j]? (λa=>Xh (weakLeaf st a) (λs=>Z3 x n (j+1) s))
 | _=>none
def XiY(x:Operand)(n j:Nat)(cs:List AV):Xno x n j st (.agg cs)=Xh cs[j]? (λa=>Xh (weakLeaf st a) (λs=>Z3 x n (j+1) s)):=nr rfl
def XeK(x:Operand)(n j:Nat):Z3 x (n+1) j st=Xno x n j st (view st x):=by
 simp only[Z3,Xno]
 cases view st x with
 | agg cs =>
  simp only[Xh]
  cases cs[j]? with
  | none=>rfl
  | some a=>simp only; cases weakLeaf st a<;>rfl
 | _=>rfl
def XiZ(st:St)(pl:Pl)(z':Nat)(cells:List AV):Option AV->Option St
 | some (.sl .mut z es)=>if z'=z then(if XL st pl then some ((Xo st pl (cells.set pl.c (.sl .app z (XI es)))).filt (keepP pl.e pl.r pl.path pl.c 1) (keepP pl.e pl.r pl.path pl.c 1)) else none) else none
 | _=>some st
def Xnp(st:St)(pl:Pl)(z':Nat):Option (List AV)->Option St
 | some cells=>XiZ st pl z' cells cells[pl.c]?
 | none=>some st
def XfQ(pl:Pl)(z' lo n:Nat):weakLeaf st (.rf pl z' lo n)=Xnp st pl z' (node st pl):=by
 simp only[weakLeaf,Xnp]
 cases node st pl with
 | none=>rfl
 | some cells=>rfl
def Xhi(pl:Pl)(z':Nat)(cells:List AV):Xnp st pl z' (some cells)=XiZ st pl z' cells cells[pl.c]?:=nr rfl
def Xi0(pl:Pl)(z':Nat)(cells:List AV)(z:Nat)(es:List (List AV)):XiZ st pl z' cells (some (.sl .mut z es))=if z'=z then(if XL st pl=true then some ((Xo st pl (cells.set pl.c (.sl .app z (XI es)))).filt (keepP pl.e pl.r pl.path pl.c 1) (keepP pl.e pl.r pl.path pl.c 1)) else none) else none:=nr rfl
def XkW(pl:Pl)(z':Nat)(cells:List AV)(z:Nat)(es:List (List AV)):XiZ st pl z' cells (some (.sl .ro z es))=some st:=nr rfl
def Xi1(pl:Pl)(z':Nat)(cells:List AV)(z:Nat)(es:List (List AV)):XiZ st pl z' cells (some (.sl .app z es))=some st:=nr rfl
def XpK(ys:List (AV×List (Option (Pl×Bool))))(st:St)(p:AV×List AV):Option (AV×St):=Xh (X5 st p.2 ys) (λs=>some (p.1,s))
def Xi2(g:Nat)(md:List Md)(F:List AV->Option (AV×List AV))(b:Bool)(f:Operand)(ts:List TypeId)(xs:List Operand):XbK cx st g ⟨md,F,b⟩ f ts xs=Xh (X1 cx st md ts xs) (λp=>Xh (Ub cx p.2 f ts xs) (λq=>if q.1=g/\(p.1.all λy=>y.2.all (XhU p.2))=true then Xh (Y3 (!b) none p.2 md q.2 p.1) (λbs=>Xh (F bs) (XpK p.1 p.2)) else none)):=by
 simp only[XbK,Xh,XpK]
 cases X1 cx st md ts xs with
 | none=>rfl
 | some p =>
  obtain⟨ys,s⟩:=p
  simp only
  cases Ub cx s f ts xs with
  | none=>rfl
  | some q =>
   obtain⟨g',as⟩:=q
   simp only[XhW]
   split
   ·cases Y3 (!b) none s md as ys with
    | none=>rfl
    | some bs =>
     simp only
     cases F bs with
     | none=>rfl
     | some r =>
      obtain⟨v,os⟩:=r
      simp only
      cases X5 s os ys<;>rfl
   ·rfl
def XfR(ts:List TypeId)(xs:List Operand):X1 cx st [] ts xs=some ([],st):=by cases ts<;>cases xs<;>rfl
def Xi3(y:AV×List (Option (Pl×Bool)))(q:List (AV×List (Option (Pl×Bool)))×St):Option (List (AV×List (Option (Pl×Bool)))×St):=some (y :: q.1,q.2)
def XkX(y:AV×List (Option (Pl×Bool)))(l:List (AV×List (Option (Pl×Bool))))(s:St):Xi3 y (l,s)=some (y :: l,s):=nr rfl
def Xhj(ms:List Md)(t:TypeId)(ts:List TypeId)(x:Operand)(xs:List Operand):X1 cx st (.mv :: ms) (t :: ts) (x :: xs)=Xh (outArg (zOf cx t) st x) (λp=>Xh (X1 cx p.2 ms ts xs) (Xi3 p.1)):=by
 simp only[X1,Md.isMv,if_true,Xh,Xi3]
 cases outArg (zOf cx t) st x with
 | none=>rfl
 | some p=>obtain⟨y,s⟩:=p; simp only; cases X1 cx s ms ts xs<;>rfl
def Xhk(n:Nat)(ms:List Md)(t:TypeId)(ts:List TypeId)(x:Operand)(xs:List Operand):X1 cx st (.ro n :: ms) (t :: ts) (x :: xs)=Xh (X1 cx st ms ts xs) (Xi3 (.u,[])):=by
 simp only[X1,Md.isMv,Bool.false_eq_true,if_false,Xh,Xi3]
 cases X1 cx st ms ts xs<;>rfl
def Xjs(z:Nat)(st:St)(x:Operand):AV->Option ((AV×List (Option (Pl×Bool)))×St)
 | .agg cs=>match Z8 x cs.length 0 st with
  | some (ys,st')=>some ((.agg ys.1,ys.2),st')
  | none=>none
 | a=>match outLeaf st (fix z a) with
  | some (y,st')=>some ((y.1,[y.2]),st')
  | none=>none
def XkY(z:Nat)(x:Operand):outArg z st x=Xjs z st x (view st x):=by
 simp only[outArg,Xjs]
 cases view st x<;>rfl
def Xnq(p:(List AV×List (Option (Pl×Bool)))×St):Option ((AV×List (Option (Pl×Bool)))×St):=some ((.agg p.1.1,p.1.2),p.2)
def XkZ(l:List AV)(r:List (Option (Pl×Bool)))(s:St):Xnq ((l,r),s)=some ((.agg l,r),s):=nr rfl
def XfS(p:(AV×Option (Pl×Bool))×St):Option ((AV×List (Option (Pl×Bool)))×St):=some ((p.1.1,[p.1.2]),p.2)
def Xk0(a:AV)(r:Option (Pl×Bool))(s:St):XfS ((a,r),s)=some ((a,[r]),s):=nr rfl
def Xk1(z:Nat)(x:Operand)(cs:List AV):Xjs z st x (.agg cs)=Xh (Z8 x cs.length 0 st) Xnq:=by
 simp only[Xjs,Xh,Xnq]
 cases Z8 x cs.length 0 st<;>rfl
def Xnr(z:Nat)(x:Operand)(pl:Pl)(y lo n:Nat):Xjs z st x (.rf pl y lo n)=Xh (outLeaf st (.rf pl y lo n)) XfS:=by
 simp only[Xjs,fix,Xh,XfS]
 cases outLeaf st (.rf pl y lo n)<;>rfl
def Xns(z:Nat)(x:Operand)(t:Tag)(y:Nat)(es:List (List AV)):Xjs z st x (.sl t y es)=Xh (outLeaf st (.sl t y es)) XfS:=by
 simp only[Xjs,fix,Xh,XfS]
 cases outLeaf st (.sl t y es)<;>rfl
def Xk2(z:Nat)(x:Operand):Xjs z st x .nil=Xh (outLeaf st (fix z .nil)) XfS:=by
 simp only[Xjs,Xh,XfS]
 cases outLeaf st (fix z .nil)<;>rfl
def XfT(x:Operand)(j:Nat):Z8 x 0 j st=some (([],[]),st):=nr rfl
def XpL(y:AV×Option (Pl×Bool))(q:(List AV×List (Option (Pl×Bool)))×St):Option ((List AV×List (Option (Pl×Bool)))×St):=some ((y.1 :: q.1.1,y.2 :: q.1.2),q.2)
def Xnt(a:AV)(r:Option (Pl×Bool))(l:List AV)(rs:List (Option (Pl×Bool)))(s:St):XpL (a,r) ((l,rs),s)=some ((a :: l,r :: rs),s):=nr rfl
def Xqs(x:Operand)(n j:Nat)(st:St):AV->Option ((List AV×List (Option (Pl×Bool)))×St)
 | .agg cs=>Xh cs[j]? (λa=>Xh (outLeaf st a) (λp=>Xh (Z8 x n (j+1) p.2) (XpL p.1)))
 | _=>none
def Xk3(x:Operand)(n j:Nat)(cs:List AV):Xqs x n j st (.agg cs)=Xh cs[j]? (λa=>Xh (outLeaf st a) (λp=>Xh (Z8 x n (j+1) p.2) (XpL p.1))):=nr rfl
def XfU(x:Operand)(n j:Nat):Z8 x (n+1) j st=Xqs x n j st (view st x):=by
 simp only[Z8,Xqs]
 cases view st x with
 | agg cs =>
  simp only[Xh,XpL]
  cases cs[j]? with
  | none=>rfl
  | some a =>
   simp only
   cases outLeaf st a with
   | none=>rfl
   | some p=>obtain⟨y,s⟩:=p; simp only; cases Z8 x n (j+1) s<;>rfl
 | _=>rfl
def Xqt(st:St)(pl:Pl)(z' lo n:Nat)(cells:List AV):Option AV->Option ((AV×Option (Pl×Bool))×St)
 | some (.sl .mut z es)=>if(lo=0/\n=es.length)/\z'=z then(if XL st pl=true then some ((.sl .mut z es,some (pl,whole st pl)),(Xo st pl (cells.set pl.c .u)).cut pl 1) else none) else none
 | _=>none
def Xk4(pl:Pl)(z' lo n:Nat)(cells:List AV)(z:Nat)(es:List (List AV)):Xqt st pl z' lo n cells (some (.sl .mut z es))=if(lo=0/\n=es.length)/\z'=z then(if XL st pl=true then some ((.sl .mut z es,some (pl,whole st pl)),(Xo st pl (cells.set pl.c .u)).cut pl 1) else none) else none:=nr rfl
def Xhl(pl:Pl)(z' lo n:Nat):outLeaf st (.rf pl z' lo n)=Xh (node st pl) (λcells=>Xqt st pl z' lo n cells cells[pl.c]?):=by
 simp only[outLeaf,Xh]
 cases node st pl with
 | none=>rfl
 | some cells=>simp only[Xqt]; rfl
def Xqu(st:St)(z:Nat)(pl:Pl)(y lo n:Nat)(cells:List AV):Option AV->Option St
 | some (.sl .mut z' es)=>if((lo+n<=es.length/\z'=z)/\y=z)/\(XL st pl&&XhU ((Xo st pl (cells.set pl.c .u)).cut pl 1) (some (pl,whole st pl)))=true then XN ((Xo st pl (cells.set pl.c .u)).cut pl 1) (.sl .mut z (Zk z lo n es)) (some (pl,whole st pl)) else none
 | _=>none
def Xk5(z:Nat)(pl:Pl)(y lo n:Nat)(cells:List AV)(z':Nat)(es:List (List AV)):Xqu st z pl y lo n cells (some (.sl .mut z' es))=if((lo+n<=es.length/\z'=z)/\y=z)/\(XL st pl&&XhU ((Xo st pl (cells.set pl.c .u)).cut pl 1) (some (pl,whole st pl)))=true then XN ((Xo st pl (cells.set pl.c .u)).cut pl 1) (.sl .mut z (Zk z lo n es)) (some (pl,whole st pl)) else none:=nr rfl
def Xi4(z b:Nat)(ze:List AV)(pl:Pl)(y lo n:Nat):Xa5 (.slice z b ze) st (.rf pl y lo n)=Xh (node st pl) (λcells=>Xqu st z pl y lo n cells cells[pl.c]?):=by
 simp only[Xa5,Xh]
 cases node st pl with
 | none=>rfl
 | some cells=>simp only[Xqu]; rfl
@[congr] def XlM{ti:TI}{a a':AV}(h:a=a'):Xa5 ti st a=Xa5 ti st a':=by rw[h]
def Xi5:XhU st none=true:=nr rfl
def Xi6(pl:Pl):XhU st (some (pl,true))=true:=nr rfl
def okN(c:Nat):Option (List AV)->Bool
 | some cells=>decide (c<cells.length)
 | none=>false
def Xk6(c:Nat)(cells:List AV):okN c (some cells)=decide (c<cells.length):=nr rfl
def Xhm(pl:Pl):XhU st (some (pl,false))=((!pl.e||top (st.env pl.r))&&okN pl.c (node st pl)):=nr rfl
def XfV(ys:List (AV×List (Option (Pl×Bool)))):X5 st [] ys=some st:=by cases ys<;>rfl
def XeL(o:AV)(os:List AV)(a:AV)(ys:List (AV×List (Option (Pl×Bool)))):X5 st (o :: os) ((a,[]) :: ys)=X5 st os ys:=nr rfl
def XeM(os:List AV)(a:AV)(p:Option (Pl×Bool))(ps:List (Option (Pl×Bool)))(ys:List (AV×List (Option (Pl×Bool)))):X5 st (.u :: os) ((a,p :: ps) :: ys)=X5 st os ys:=nr rfl
def XfW(cs os:List AV)(a:AV)(p:Option (Pl×Bool))(ps:List (Option (Pl×Bool)))(ys:List (AV×List (Option (Pl×Bool)))):X5 st (.agg cs :: os) ((a,p :: ps) :: ys)=Xh (Ya st cs (p :: ps)) (λs=>X5 s os ys):=by
 simp only[X5,Xh,XhV,cellsOf]
 cases Ya st cs (p :: ps)<;>rfl
def Xhn(t:Tag)(z:Nat)(es:List (List AV))(os:List AV)(a:AV)(p:Option (Pl×Bool))(ps:List (Option (Pl×Bool)))(ys:List (AV×List (Option (Pl×Bool)))):X5 st (.sl t z es :: os) ((a,p :: ps) :: ys)=Xh (Ya st [.sl t z es] (p :: ps)) (λs=>X5 s os ys):=by
 simp only[X5,Xh,XhV,cellsOf]
 cases Ya st [.sl t z es] (p :: ps)<;>rfl
def XfX(os:List AV):X5 st os []=some st:=by cases os<;>rfl
def Xcu:Ya st [] []=some st:=nr rfl
def Xca(a:AV)(as:List AV)(p:Option (Pl×Bool))(ps:List (Option (Pl×Bool))):Ya st (a :: as) (p :: ps)=Xh (XN st a p) (λs=>Ya s as ps):=by
 simp only[Ya,Xh]
 cases XN st a p<;>rfl
def XdO(a:AV):XN st a none=some st:=nr rfl
def Xnu(st:St)(r:Nat)(a:AV):AV->Option St
 | .u=>some (st.put r a)
 | _=>none
def Xnv(r:Nat)(a:AV):Xnu st r a .u=some (st.put r a):=nr rfl
def XdP(pl:Pl)(t:Tag)(z:Nat)(es:List (List AV)):XN st (.sl t z es) (some (pl,true))=Xnu st pl.r (.sl t z es) (st.env pl.r):=by
 simp only[XN,Xnu]
 cases st.env pl.r<;>rfl
def Xnw(st:St)(pl:Pl)(a:AV)(cells:List AV):Option AV->Option St
 | some .u=>if(XL st pl&&(!pl.e||top (st.env pl.r)))=true then some (Xo st pl (cells.set pl.c a)) else none
 | _=>none
def Xnx(pl:Pl)(a:AV)(cells:List AV):Xnw st pl a cells (some .u)=if(XL st pl&&(!pl.e||top (st.env pl.r)))=true then some (Xo st pl (cells.set pl.c a)) else none:=nr rfl
def Xcv(pl:Pl)(t:Tag)(z:Nat)(es:List (List AV)):XN st (.sl t z es) (some (pl,false))=Xh (node st pl) (λcells=>Xnw st pl (.sl t z es) cells cells[pl.c]?):=by
 simp only[XN,Xh]
 cases node st pl with
 | none=>rfl
 | some cells =>
  simp only[Xnw]
  cases cells[pl.c]? with
  | none=>rfl
  | some a=>cases a<;>rfl
def Xqv(st:St)(p:AV×List AV):Option (AV×St):=some (p.1,st)
def Xny(v:AV)(os:List AV):Xqv st (v,os)=some (v,st):=nr rfl
def Xk7(g:Nat)(md:List Md)(F:List AV->Option (AV×List AV))(b:Bool)(f:Operand)(ts:List TypeId)(xs:List Operand)(h:md.all Zv=true) :
  XbK cx st g ⟨md,F,b⟩ f ts xs=Xh (Ub cx st f ts xs) (λq=>if q.1=g then Xh (Y3 (!b) none st md q.2 []) (λbs=>Xh (F bs) (Xqv st)) else none):=by
 have h1:∀(ms:List Md) (ts:List TypeId) (xs:List Operand),ms.all Zv=true->∃ys,X1 cx st ms ts xs=some (ys,st)/\∀y∈ys,y=(AV.u,[]):=by
  intro ms
  induction ms with
  | nil=>intro ts xs _; exact⟨[],by simp[X1],by simp⟩
  | cons m ms ih =>
   intro ts xs hm
   simp only[List.all_cons,Bool.and_eq_true] at hm
   cases ts with
   | nil=>exact⟨[],by simp[X1],by simp⟩
   | cons t ts =>
    cases xs with
    | nil=>exact⟨[],by simp[X1],by simp⟩
    | cons x xs =>
     obtain⟨ys,e1,e2⟩:=ih ts xs hm.2
     have:m.isMv=false:=by cases m<;>first | rfl | cases hm.1
     exact⟨(.u,[]) :: ys,by simp only[X1,this,Bool.false_eq_true,if_false,e1],by simpa using e2⟩
 obtain⟨ys,e1,e2⟩:=h1 md ts xs h
 have h2:∀(ms:List Md) (as:List AV) (ys:List (AV×List (Option (Pl×Bool)))),ms.all Zv=true->(∀y∈ys,y=(AV.u,[]))->Y3 (!b) none st ms as ys=Y3 (!b) none st ms as []:=by
  intro ms
  induction ms with
  | nil=>intro as ys _ _; cases as<;>rfl
  | cons m ms ih =>
   intro as ys hm hy
   simp only[List.all_cons,Bool.and_eq_true] at hm
   cases as with
   | nil=>rfl
   | cons a as =>
    cases m with
    | ro n =>
     simp only[Y3,Xat,List.tail_nil]
     rw[ih as ys.tail hm.2 (λy hy'=>hy y (List.mem_of_mem_tail hy'))]
    | _=>cases hm.1
 have h3:∀(os:List AV) (ys:List (AV×List (Option (Pl×Bool)))),(∀y∈ys,y=(AV.u,[]))->X5 st os ys=some st:=by
  intro os
  induction os with
  | nil=>intro ys _; cases ys<;>rfl
  | cons o os ih =>
   intro ys hy
   cases ys with
   | nil=>rfl
   | cons y ys =>
    have:=hy y (by simp)
    subst this
    simp only[X5]
    exact ih ys (λy hy'=>hy y (by simp[hy']))
 have h4:(ys.all λy=>y.2.all (XhU st))=true:=by
  rw[List.all_eq_true]
  intro y hy
  rw[e2 y hy]; rfl
 rw[Xi2,e1]
 simp only[Qo,h4,and_true]
 congr 1
 funext q
 split
 ·rw[h2 md q.2 ys h e2]
  congr 1
  funext bs
  congr 1
  funext p
  simp only[XpK,Xqv,h3 p.2 ys e2,Qo]
 ·rfl
end
end Go.Vm
set_option autoImplicit true
set_option relaxedAutoImplicit true
namespace Go.Vm
def k0:XM q .u=.u :=nr rfl
def k1:XM q .no=.no :=nr rfl
def k2:XM q .ub=.ub :=nr rfl
def k3:XM q (.b x)=(.b x) :=nr rfl
def k4:XM q (.i k n)=(.i k n) :=nr rfl
def k5:XM q (.s x)=(.s x) :=nr rfl
def k6:XM q .nil=.nil :=nr rfl
def k7:XM q (.rf pl y lo n)=(.rf pl y lo n) :=nr rfl
def k8:XM q (.p pl)=(.p pl) :=nr rfl
def k9:XM q (.pr cs)=(.pr cs) :=nr rfl
def k10:XM q .pn=.pn :=nr rfl
def k11:XM q (.fn f cs)=(.fn f cs) :=nr rfl
def k12:XM q (.fs cs)=(.fs cs) :=nr rfl
def k13:XM q (.agg cs)=(.agg cs) :=nr rfl
def k14:XM q (.tup cs)=(.tup cs) :=nr rfl
def k15:XM q (.sl .app z es)=.rf q z 0 es.length :=nr rfl
def k16:XM q (.sl .mut z es)=.rf q z 0 es.length :=nr rfl
def k17:XM q (.sl .ro z es)=.sl .ro z es :=nr rfl
def Up(x:Nat)(a:AV):AV :=match a with
  | .agg cs => .agg (Yi ⟨true,x,[],0⟩ 0 cs)
  | .tup _ => .u
  | a => XM ⟨true,x,[],0⟩ a
def k18:view st (.tmp x)=Up x (st.env x) :=nr rfl
def k19:view st (.const v)=XgG v :=nr rfl
def k20:view st (.func f)=.fn f [] :=nr rfl
def k21:Up x .u=.u :=nr rfl
def k22:Up x .no=.no :=nr rfl
def k23:Up x .ub=.ub :=nr rfl
def k24:Up x (.i k n)=(.i k n) :=nr rfl
def k25:Up x .nil=.nil :=nr rfl
def k26:Up x (.rf pl y lo n)=(.rf pl y lo n) :=nr rfl
def k27:Up x (.p pl)=(.p pl) :=nr rfl
def k28:Up x (.pr cs)=(.pr cs) :=nr rfl
def k29:Up x .pn=.pn :=nr rfl
def k30:Up x (.fn f cs)=(.fn f cs) :=nr rfl
def k31:Up x (.fs cs)=(.fs cs) :=nr rfl
def k32:Up x (.agg cs)=.agg (Yi ⟨true,x,[],0⟩ 0 cs) :=nr rfl
def k33:Up x (.tup cs)=.u :=nr rfl
def k34:Up x (.b y)=.b y :=nr rfl
def k35:Up x (.s y)=.s y :=nr rfl
def k36:Up x (.sl .app z es)=.rf ⟨true,x,[],0⟩ z 0 es.length :=nr rfl
def k37:Up x (.sl .mut z es)=.rf ⟨true,x,[],0⟩ z 0 es.length :=nr rfl
def k38:Up x (.sl .ro z es)=.sl .ro z es :=nr rfl
def k39:Yi q j []=[] :=nr rfl
def k40:Yi q j (a :: l)=XM {q with c :=j} a :: Yi q (j+1) l :=nr rfl
def k41:ZX .u=false :=nr rfl
def k42:ZX .no=false :=nr rfl
def k43:ZX .ub=false :=nr rfl
def k44:ZX (.b x)=false :=nr rfl
def k45:ZX (.i k n)=false :=nr rfl
def k46:ZX (.s x)=false :=nr rfl
def k47:ZX .nil=false :=nr rfl
def k48:ZX (.sl t z es)=true :=nr rfl
def k49:ZX (.rf pl y lo n)=false :=nr rfl
def k50:ZX (.p pl)=false :=nr rfl
def k51:ZX (.pr cs)=false :=nr rfl
def k52:ZX .pn=false :=nr rfl
def k53:ZX (.fn f cs)=false :=nr rfl
def k54:ZX (.fs cs)=false :=nr rfl
def k55:ZX (.agg cs)=false :=nr rfl
def k56:ZX (.tup cs)=false :=nr rfl
def k57:Xai .u=none :=nr rfl
def k58:Xai .no=none :=nr rfl
def k59:Xai .ub=none :=nr rfl
def k60:Xai (.b x)=none :=nr rfl
def k61:Xai (.i k n)=none :=nr rfl
def k62:Xai (.s x)=none :=nr rfl
def k63:Xai .nil=none :=nr rfl
def k64:Xai (.sl t z es)=none :=nr rfl
def k65:Xai (.rf pl y lo n)=none :=nr rfl
def k66:Xai (.p pl)=none :=nr rfl
def k67:Xai (.pr cs)=none :=nr rfl
def k68:Xai .pn=none :=nr rfl
def k69:Xai (.fn f cs)=none :=nr rfl
def k70:Xai (.fs cs)=none :=nr rfl
def k71:Xai (.agg cs)=none :=nr rfl
def k72:QP .u=none :=nr rfl
def k73:QP .no=none :=nr rfl
def k74:QP .ub=none :=nr rfl
def k75:QP (.b x)=none :=nr rfl
def k76:QP (.i k n)=none :=nr rfl
def k77:QP (.s x)=none :=nr rfl
def k78:QP .nil=none :=nr rfl
def k79:QP (.sl t z es)=none :=nr rfl
def k80:QP (.rf pl y lo n)=none :=nr rfl
def k81:QP (.p pl)=none :=nr rfl
def k82:QP (.pr cs)=none :=nr rfl
def k83:QP .pn=none :=nr rfl
def k84:QP (.fn f cs)=none :=nr rfl
def k85:QP (.fs cs)=none :=nr rfl
def k86:QP (.agg cs)=none :=nr rfl
def k87:QP (.tup [])=none :=nr rfl
def k88:QP (.tup (.u :: l))=none :=by
  cases l with
  | nil => rfl
  | cons b l => cases l<;>rfl
def k89:QP (.tup (.no :: l))=none :=by
  cases l with
  | nil => rfl
  | cons b l => cases l<;>rfl
def k90:QP (.tup (.ub :: l))=none :=by
  cases l with
  | nil => rfl
  | cons b l => cases l<;>rfl
def k91:QP (.tup ((.b x) :: l))=none :=by
  cases l with
  | nil => rfl
  | cons b l => cases l<;>rfl
def k92:QP (.tup ((.i k n) :: l))=none :=by
  cases l with
  | nil => rfl
  | cons b l => cases l<;>rfl
def k93:QP (.tup ((.s x) :: l))=none :=by
  cases l with
  | nil => rfl
  | cons b l => cases l<;>rfl
def k94:QP (.tup (.nil :: l))=none :=by
  cases l with
  | nil => rfl
  | cons b l => cases l<;>rfl
def k95:QP (.tup ((.sl t z es) :: l))=none :=by
  cases l with
  | nil => rfl
  | cons b l => cases l<;>rfl
def k96:QP (.tup ((.rf pl y lo n) :: l))=none :=by
  cases l with
  | nil => rfl
  | cons b l => cases l<;>rfl
def k97:QP (.tup ((.p pl) :: l))=none :=by
  cases l with
  | nil => rfl
  | cons b l => cases l<;>rfl
def k98:QP (.tup ((.pr cs) :: l))=none :=by
  cases l with
  | nil => rfl
  | cons b l => cases l<;>rfl
def k99:QP (.tup (.pn :: l))=none :=by
  cases l with
  | nil => rfl
  | cons b l => cases l<;>rfl
def Xsr:QP (.tup ((.fn f cs) :: l))=none :=by
  cases l with
  | nil => rfl
  | cons b l => cases l<;>rfl
def Xss:QP (.tup ((.fs cs) :: l))=none :=by
  cases l with
  | nil => rfl
  | cons b l => cases l<;>rfl
def Xst:QP (.tup ((.agg cs) :: l))=none :=by
  cases l with
  | nil => rfl
  | cons b l => cases l<;>rfl
def Xsu:npP md st .u=none :=nr rfl
def Xsv:npP md st .no=none :=nr rfl
def Xsw:npP md st .ub=none :=nr rfl
def Xsx:npP md st (.b x)=none :=nr rfl
def Xsy:npP md st (.i k n)=none :=nr rfl
def Xsz:npP md st (.s x)=none :=nr rfl
def XsA:npP md st .nil=none :=nr rfl
def XsB:npP md st (.sl t z es)=none :=nr rfl
def XsC:npP md st (.rf pl y lo n)=none :=nr rfl
def XsD:npP md st (.pr cs)=none :=nr rfl
def XsE:npP md st .pn=none :=nr rfl
def XsF:npP md st (.fn f cs)=none :=nr rfl
def XsG:npP md st (.fs cs)=none :=nr rfl
def XsH:npP md st (.agg cs)=none :=nr rfl
def XsI:npP md st (.tup cs)=none :=nr rfl
def XsJ:YF .u=false :=nr rfl
def XsK:YF .no=false :=nr rfl
def XsL:YF .ub=false :=nr rfl
def XsM:YF (.b x)=false :=nr rfl
def XsN:YF (.i k n)=false :=nr rfl
def XsO:YF (.s x)=false :=nr rfl
def XsP:YF .nil=false :=nr rfl
def XsQ:YF (.sl t z es)=true :=nr rfl
def XsR:YF (.rf pl y lo n)=false :=nr rfl
def XsS:YF (.p pl)=false :=nr rfl
def XsT:YF (.pr cs)=false :=nr rfl
def XsU:YF .pn=false :=nr rfl
def XsV:YF (.fn f cs)=false :=nr rfl
def XsW:YF (.fs cs)=false :=nr rfl
def XsX:YF (.agg cs)=cs.any ZX :=nr rfl
def XsY:YF (.tup cs)=false :=nr rfl
def XsZ:UB .u=true :=nr rfl
def Xs0:UB .no=false :=nr rfl
def Xs1:UB .ub=true :=nr rfl
def Xs2:UB (.b x)=true :=nr rfl
def Xs3:UB (.i k n)=true :=nr rfl
def Xs4:UB (.s x)=true :=nr rfl
def Xs5:UB .nil=true :=nr rfl
def Xs6:UB (.sl t z es)=true :=nr rfl
def Xs7:UB (.rf pl y lo n)=false :=nr rfl
def Xs8:UB (.p pl)=true :=nr rfl
def Xs9:UB (.pr cs)=true :=nr rfl
def Xta:UB .pn=true :=nr rfl
def Xtb:UB (.fn f cs)=false :=nr rfl
def Xtc:UB (.fs cs)=false :=nr rfl
def Xtd:UB (.agg cs)=false :=nr rfl
def Xte:UB (.tup cs)=false :=nr rfl
def Xtf:XX .u=true :=nr rfl
def Xtg:XX .no=false :=nr rfl
def Xth:XX .ub=true :=nr rfl
def Xti:XX (.b x)=true :=nr rfl
def Xtj:XX (.i k n)=true :=nr rfl
def Xtk:XX (.s x)=true :=nr rfl
def Xtl:XX .nil=true :=nr rfl
def Xtm:XX (.sl t z es)=true :=nr rfl
def Xtn:XX (.rf pl y lo n)=false :=nr rfl
def Xto:XX (.p pl)=false :=nr rfl
def Xtp:XX (.pr cs)=true :=nr rfl
def Xtq:XX .pn=true :=nr rfl
def Xtr:XX (.fn f cs)=false :=nr rfl
def Xts:XX (.fs cs)=false :=nr rfl
def Xtt:XX (.agg cs)=false :=nr rfl
def Xtu:XX (.tup cs)=false :=nr rfl
def Xtv:top .u=false :=nr rfl
def Xtw:top .no=false :=nr rfl
def Xtx:top .ub=true :=nr rfl
def Xty:top (.b x)=true :=nr rfl
def Xtz:top (.i k n)=true :=nr rfl
def XtA:top (.s x)=true :=nr rfl
def XtB:top .nil=true :=nr rfl
def XtC:top (.sl t z es)=true :=nr rfl
def XtD:top (.rf pl y lo n)=true :=nr rfl
def XtE:top (.p pl)=true :=nr rfl
def XtF:top (.pr cs)=true :=nr rfl
def XtG:top .pn=true :=nr rfl
def XtH:top (.fn f cs)=true :=nr rfl
def XtI:top (.fs cs)=true :=nr rfl
def XtJ:top (.agg cs)=true :=nr rfl
def XtK:top (.tup cs)=false :=nr rfl
def XtL:XcK .u=false :=nr rfl
def XtM:XcK .no=false :=nr rfl
def XtN:XcK .ub=false :=nr rfl
def XtO:XcK (.b x)=false :=nr rfl
def XtP:XcK (.i k n)=false :=nr rfl
def XtQ:XcK (.s x)=false :=nr rfl
def XtR:XcK .nil=false :=nr rfl
def XtS:XcK (.sl t z es)=false :=nr rfl
def XtT:XcK (.rf pl y lo n)=false :=nr rfl
def XtU:XcK (.p pl)=false :=nr rfl
def XtV:XcK (.pr cs)=false :=nr rfl
def XtW:XcK .pn=false :=nr rfl
def XtX:XcK (.fn f cs)=true :=nr rfl
def XtY:XcK (.fs cs)=false :=nr rfl
def XtZ:XcK (.agg cs)=false :=nr rfl
def Xt0:XcK (.tup cs)=false :=nr rfl
def Xt1:Qd .u=false :=nr rfl
def Xt2:Qd .no=false :=nr rfl
def Xt3:Qd .ub=true :=nr rfl
def Xt4:Qd (.b x)=true :=nr rfl
def Xt5:Qd (.i k n)=true :=nr rfl
def Xt6:Qd (.s x)=true :=nr rfl
def Xt7:Qd .nil=true :=nr rfl
def Xt8:Qd (.sl t z es)=true :=nr rfl
def Xt9:Qd (.rf pl y lo n)=true :=nr rfl
def Xua:Qd (.p pl)=true :=nr rfl
def Xub:Qd (.pr cs)=true :=nr rfl
def Xuc:Qd .pn=true :=nr rfl
def Xud:Qd (.fn f cs)=true :=nr rfl
def Xue:Qd (.fs cs)=true :=nr rfl
def Xuf:Qd (.agg cs)=false :=nr rfl
def Xug:Qd (.tup cs)=false :=nr rfl
def Xuh:fsV len st i []=if i=len then some [] else none :=nr rfl
def fsK(x:Bool)(a:AV)(r:Option (List AV)):Option (List AV) :=if x then(match r with | some l => some (a :: l) | none => none) else none
def Xui:fsK true a (some l)=some (a :: l) :=nr rfl
def Xuj:fsV len st i ((j,x) :: r)=if i=j then fsK (XcK (view st x)) (view st x) (fsV len st (i+1) r) else none :=by simp only[fsV,fsK]; split<;>rfl
def Xuk:cellsOf .u=[.u] :=nr rfl
def Xul:cellsOf .no=[.no] :=nr rfl
def Xum:cellsOf .ub=[.ub] :=nr rfl
def Xun:cellsOf (.b x)=[(.b x)] :=nr rfl
def Xuo:cellsOf (.i k n)=[(.i k n)] :=nr rfl
def Xup:cellsOf (.s x)=[(.s x)] :=nr rfl
def Xuq:cellsOf .nil=[.nil] :=nr rfl
def Xur:cellsOf (.sl t z es)=[(.sl t z es)] :=nr rfl
def Xus:cellsOf (.rf pl y lo n)=[(.rf pl y lo n)] :=nr rfl
def Xut:cellsOf (.p pl)=[(.p pl)] :=nr rfl
def Xuu:cellsOf (.pr cs)=[(.pr cs)] :=nr rfl
def Xuv:cellsOf .pn=[.pn] :=nr rfl
def Xuw:cellsOf (.fn f cs)=[(.fn f cs)] :=nr rfl
def Xux:cellsOf (.fs cs)=[(.fs cs)] :=nr rfl
def Xuy:cellsOf (.agg cs)=cs :=nr rfl
def Xuz:cellsOf (.tup cs)=[(.tup cs)] :=nr rfl
def XuA:plain .u=false :=nr rfl
def XuB:plain .no=false :=nr rfl
def XuC:plain .ub=false :=nr rfl
def XuD:plain (.b x)=true :=nr rfl
def XuE:plain (.i k n)=true :=nr rfl
def XuF:plain (.s x)=true :=nr rfl
def XuG:plain .nil=false :=nr rfl
def XuH:plain (.rf pl y lo n)=false :=nr rfl
def XuI:plain (.p pl)=false :=nr rfl
def XuJ:plain (.pr cs)=false :=nr rfl
def XuK:plain .pn=true :=nr rfl
def XuL:plain (.fn f cs)=false :=nr rfl
def XuM:plain (.fs cs)=false :=nr rfl
def XuN:plain (.agg cs)=false :=nr rfl
def XuO:plain (.tup cs)=false :=nr rfl
def XuP:plain (.sl .ro z es)=true :=nr rfl
def XuQ:fix m .u=.u :=nr rfl
def XuR:fix m .no=.no :=nr rfl
def XuS:fix m .ub=.ub :=nr rfl
def XuT:fix m (.b x)=(.b x) :=nr rfl
def XuU:fix m (.i k n)=(.i k n) :=nr rfl
def XuV:fix m (.s x)=(.s x) :=nr rfl
def XuW:fix m (.sl t z es)=(.sl t z es) :=nr rfl
def XuX:fix m (.rf pl y lo n)=(.rf pl y lo n) :=nr rfl
def XuY:fix m (.p pl)=(.p pl) :=nr rfl
def XuZ:fix m (.pr cs)=(.pr cs) :=nr rfl
def Xu0:fix m .pn=.pn :=nr rfl
def Xu1:fix m (.fn f cs)=(.fn f cs) :=nr rfl
def Xu2:fix m (.fs cs)=(.fs cs) :=nr rfl
def Xu3:fix m (.agg cs)=(.agg cs) :=nr rfl
def Xu4:fix m (.tup cs)=(.tup cs) :=nr rfl
def Xu5:fix 0 .nil=.nil :=nr rfl
def Xu6:fix (m+1) .nil=.sl .mut (m+1) [] :=nr rfl
def Xu7:fix 1 .nil=.sl .mut 1 [] :=nr rfl
def Xu8:fix 2 .nil=.sl .mut 2 [] :=nr rfl
def Xu9:fix 3 .nil=.sl .mut 3 [] :=nr rfl
def Xva:fix 4 .nil=.sl .mut 4 [] :=nr rfl
def Xvb:fix 5 .nil=.sl .mut 5 [] :=nr rfl
def Xvc:fix 6 .nil=.sl .mut 6 [] :=nr rfl
def Xvd:fix 7 .nil=.sl .mut 7 [] :=nr rfl
def Xve:fix 8 .nil=.sl .mut 8 [] :=nr rfl
def Xvf:fix 9 .nil=.sl .mut 9 [] :=nr rfl
def Xvg:fix 10 .nil=.sl .mut 10 [] :=nr rfl
def Xvh:fix 11 .nil=.sl .mut 11 [] :=nr rfl
def Xvi:filt kp kr .u=.u :=nr rfl
def Xvj:filt kp kr .no=.no :=nr rfl
def Xvk:filt kp kr .ub=.ub :=nr rfl
def Xvl:filt kp kr (.b x)=(.b x) :=nr rfl
def Xvm:filt kp kr (.i k n)=(.i k n) :=nr rfl
def Xvn:filt kp kr (.s x)=(.s x) :=nr rfl
def Xvo:filt kp kr .nil=.nil :=nr rfl
def Xvp:filt kp kr (.sl t z es)=(.sl t z es) :=nr rfl
def Xvq:filt kp kr (.pr cs)=(.pr cs) :=nr rfl
def Xvr:filt kp kr .pn=.pn :=nr rfl
def Xvs:filt kp kr (.fn f cs)=.fn f (X3 kp kr cs) :=nr rfl
def Xvt:filt kp kr (.fs cs)=.fs (X3 kp kr cs) :=nr rfl
def Xvu:filt kp kr (.agg cs)=.agg (X3 kp kr cs) :=nr rfl
def Xvv:filt kp kr (.tup cs)=.tup (X3 kp kr cs) :=nr rfl
def fA(b:Bool)(a:AV):AV :=if b then a else .u
def Xvw:fA true a=a :=nr rfl
def Xvx:fA false a=.u :=nr rfl
def Xvy:filt kp kr (.p q)=fA (kp q) (.p q) :=nr rfl
def Xvz:filt kp kr (.rf q y lo n)=fA (kr q) (.rf q y lo n) :=nr rfl
def XvA:X3 kp kr []=[] :=nr rfl
def XvB:X3 kp kr (a :: l)=filt kp kr a :: X3 kp kr l :=nr rfl
def XvC:Yd st .u=some (.u,st) :=nr rfl
def XvD:Yd st .no=some (.no,st) :=nr rfl
def XvE:Yd st .ub=some (.ub,st) :=nr rfl
def XvF:Yd st (.b x)=some ((.b x),st) :=nr rfl
def XvG:Yd st (.i k n)=some ((.i k n),st) :=nr rfl
def XvH:Yd st (.s x)=some ((.s x),st) :=nr rfl
def XvI:Yd st .nil=some (.nil,st) :=nr rfl
def XvJ:Yd st (.sl t z es)=some ((.sl t z es),st) :=nr rfl
def XvK:Yd st (.rf pl y lo n)=takeRf st pl y lo n :=nr rfl
def XvL:Yd st (.p pl)=some ((.p pl),st) :=nr rfl
def XvM:Yd st (.pr cs)=some ((.pr cs),st) :=nr rfl
def XvN:Yd st .pn=some (.pn,st) :=nr rfl
def XvO:Yd st (.fn f cs)=some ((.fn f cs),st) :=nr rfl
def XvP:Yd st (.fs cs)=some ((.fs cs),st) :=nr rfl
def XvQ:Yd st (.agg cs)=some ((.agg cs),st) :=nr rfl
def XvR:Yd st (.tup cs)=none :=nr rfl
def XvS:takeVal st .u=some (.u,st) :=nr rfl
def XvT:takeVal st .no=some (.no,st) :=nr rfl
def XvU:takeVal st .ub=some (.ub,st) :=nr rfl
def XvV:takeVal st (.b x)=some ((.b x),st) :=nr rfl
def XvW:takeVal st (.i k n)=some ((.i k n),st) :=nr rfl
def XvX:takeVal st (.s x)=some ((.s x),st) :=nr rfl
def XvY:takeVal st .nil=some (.nil,st) :=nr rfl
def XvZ:takeVal st (.sl t z es)=some ((.sl t z es),st) :=nr rfl
def Xv0:takeVal st (.rf pl y lo n)=takeRf st pl y lo n :=nr rfl
def Xv1:takeVal st (.p pl)=some ((.p pl),st) :=nr rfl
def Xv2:takeVal st (.pr cs)=some ((.pr cs),st) :=nr rfl
def Xv3:takeVal st .pn=some (.pn,st) :=nr rfl
def Xv4:takeVal st (.fn f cs)=some ((.fn f cs),st) :=nr rfl
def Xv5:takeVal st (.fs cs)=some ((.fs cs),st) :=nr rfl
def Xv6:takeVal st (.tup cs)=none :=nr rfl
def Xqw(x:Option (List AV×St)):Option (AV×St) :=match x with
  | some (cs,st) => some (.agg cs,st)
  | none => none
def Xv7:takeVal st (.agg cs)=if cs.any XdT then Xqw (takeL st cs) else some (.agg cs,st) :=by simp only[takeVal,Xqw]; split<;>cases takeL st cs<;>rfl
def Xv8:XdT .u=false :=nr rfl
def Xv9:XdT .no=false :=nr rfl
def Xwa:XdT .ub=false :=nr rfl
def Xwb:XdT (.b x)=false :=nr rfl
def Xwc:XdT (.i k n)=false :=nr rfl
def Xwd:XdT (.s x)=false :=nr rfl
def Xwe:XdT .nil=false :=nr rfl
def Xwf:XdT (.sl t z es)=false :=nr rfl
def Xwg:XdT (.rf pl y lo n)=true :=nr rfl
def Xwh:XdT (.p pl)=false :=nr rfl
def Xwi:XdT (.pr cs)=false :=nr rfl
def Xwj:XdT .pn=false :=nr rfl
def Xwk:XdT (.fn f cs)=false :=nr rfl
def Xwl:XdT (.fs cs)=false :=nr rfl
def Xwm:XdT (.agg cs)=false :=nr rfl
def Xwn:XdT (.tup cs)=false :=nr rfl
def Xwo:gone q=false :=nr rfl
def Xwp:Xqw (some (cs,st))=some (.agg cs,st) :=nr rfl
def Xnz(a:AV)(x:Option (List AV×St)):Option (List AV×St) :=match x with
  | some (cs,st) => some (a :: cs,st)
  | none => none
def Xwq:Xnz a (some (cs,st))=some (a :: cs,st) :=nr rfl
def Xwr:takeL st []=some ([],st) :=nr rfl
def Xws:takeL st (a :: l)=Xh (Yd st a) (λy => Xnz (filt gone gone y.1) (takeL y.2 l)) :=by simp only[takeL,Xh,Xnz]; cases Yd st a<;>rfl
def Xho(st:St)(x:Nat)(b:Bool)(a:AV):Option (AV×St) :=if b then takeVal (clear st x) (filt (XB true x) (XB true x) a) else takeVal st a
@[congr] def XnA{st:St}{x:Nat}{b b':Bool}{a:AV}(h:b=b'):Xho st x b a=Xho st x b' a :=by rw[h]
def UN(st:St)(x:Nat)(a:AV):Option (AV×St) :=Xho st x (YF a) a
def Xwt:take st (.tmp x)=UN st x (st.env x) :=nr rfl
def Xwu:UN st x .u=some (.u,st) :=nr rfl
def Xwv:UN st x .no=some (.no,st) :=nr rfl
def Xww:UN st x .ub=some (.ub,st) :=nr rfl
def Xwx:UN st x (.b y)=some (.b y,st) :=nr rfl
def Xwy:UN st x (.i k n)=some ((.i k n),st) :=nr rfl
def Xwz:UN st x (.s y)=some (.s y,st) :=nr rfl
def XwA:UN st x .nil=some (.nil,st) :=nr rfl
def XwB:UN st x (.sl t z es)=some (.sl t z es,clear st x) :=nr rfl
def XwC:UN st x (.rf pl y lo n)=takeRf st pl y lo n :=nr rfl
def XwD:UN st x (.p pl)=some ((.p pl),st) :=nr rfl
def XwE:UN st x (.pr cs)=some ((.pr cs),st) :=nr rfl
def XwF:UN st x .pn=some (.pn,st) :=nr rfl
def XwG:UN st x (.fn f cs)=some ((.fn f cs),st) :=nr rfl
def XwH:UN st x (.fs cs)=some ((.fs cs),st) :=nr rfl
def XwI:UN st x (.agg cs)=Xho st x (cs.any ZX) (.agg cs) :=nr rfl
def XwJ:UN st x (.tup cs)=none :=nr rfl
def XwK:Xho st x true a=takeVal (clear st x) (filt (XB true x) (XB true x) a) :=nr rfl
def XwL:Xho st x false a=takeVal st a :=nr rfl
def XwM:take st (.const v)=some (XgG v,st) :=nr rfl
def XwN:take st (.func f)=some (.fn f [],st) :=nr rfl
def Xn9(b:Bool)(l:List (Nat×AV))(m:List (Nat×List AV))(d:Nat)(v:AV):St :=if b then⟨E ((d,filt (XB true d) (XB true d) v) :: Xiq (XB true d) (XB true d) l),B (Xjq (XB true d) (XB true d) m)⟩ else⟨E ((d,v) :: l),B m⟩
@[congr] def Xoa{b b':Bool}{l:List (Nat×AV)}{m:List (Nat×List AV)}{d:Nat}{v v':AV}(h:b=b')(h':v=v'):Xn9 b l m d v=Xn9 b' l m d v' :=by rw[h,h']
def XwO:St.put ⟨E l,B m⟩ d v=Xn9 (YF (E l d)) l m d v :=by simp only[St.put,Xn9,St.dropRoot,Xb5,XfB]
def XwP:Xn9 false l m d v=⟨E ((d,v) :: l),B m⟩ :=nr rfl
def XwQ:Xn9 true l m d v=⟨E ((d,filt (XB true d) (XB true d) v) :: Xiq (XB true d) (XB true d) l),B (Xjq (XB true d) (XB true d) m)⟩ :=nr rfl
def XwR:St.put? st (some d) v=St.put st d v :=nr rfl
def XwS:St.put? st none v=st :=nr rfl
def isK(t k:Nat):Bool :=t==k
def XwT:isK t k=(t==k) :=nr rfl
def eK(b:Bool)(v x:AV):AV :=if b then v else x
@[congr] def XpM{b b':Bool}{v x:AV}(h:b=b'):eK b v x=eK b' v x :=by rw[h]
def eB(b:Bool)(v x:List AV):List AV :=if b then v else x
@[congr] def XpN{b b':Bool}{v x:List AV}(h:b=b'):eB b v x=eB b' v x :=by rw[h]
def Xrs:eK true v x=v :=nr rfl
def Xrt:eK false v x=x :=nr rfl
def Xru:eB true v x=v :=nr rfl
def Xrv:eB false v x=x :=nr rfl
def XwU:E ((k,v) :: r) t=eK (isK t k) v (E r t) :=by simp only[Xbg,eK,isK,beq_iff_eq]
def XwV:B ((k,v) :: r) t=eB (isK t k) v (B r t) :=by simp only[Xb4,eB,isK,beq_iff_eq]
def XwW:clear ⟨E l,B m⟩ x=⟨E ((x,.u) :: Xiq (XB true x) (XB true x) l),B (Xjq (XB true x) (XB true x) m)⟩ :=by simp only[clear,St.dropRoot,Xb5,XfB]
def XwX:St.env ⟨f,g⟩=f :=nr rfl
def XwY:St.bx ⟨f,g⟩=g :=nr rfl
def Xob(b:Bool)(l:List (Nat×AV))(m:List (Nat×List AV))(d:Nat)(cs:List AV):St :=if b then⟨E ((d,.p ⟨false,d,[],0⟩) :: l),B ((d,cs) :: m)⟩ else⟨E ((d,.p ⟨false,d,[],0⟩) :: Xiq (XB false d) (XB false d) l),B ((d,X3 (XB false d) (XB false d) cs) :: Xjq (XB false d) (XB false d) m)⟩
@[congr] def Xoc{b b':Bool}{l:List (Nat×AV)}{m:List (Nat×List AV)}{d:Nat}{cs cs':List AV}(h:b=b')(h':cs=cs'):Xob b l m d cs=Xob b' l m d cs' :=by rw[h,h']
def XwZ:newBox ⟨E l,B m⟩ d cs=Xob (B m d).isEmpty l m d cs :=by
  cases h:(B m d).isEmpty<;>simp only[newBox,Xob,h,if_true,if_false,Bool.false_eq_true,St.dropRoot,Xb5,XfB,XmB]
def Xw0:YZ st d (c :: cs)=if YF (st.env d)=true then none else some (newBox st d (c :: cs)) :=nr rfl
def Xw1:Xob true l m d cs=⟨E ((d,.p ⟨false,d,[],0⟩) :: l),B ((d,cs) :: m)⟩ :=nr rfl
def Xw2:Xob false l m d cs=⟨E ((d,.p ⟨false,d,[],0⟩) :: Xiq (XB false d) (XB false d) l),B ((d,X3 (XB false d) (XB false d) cs) :: Xjq (XB false d) (XB false d) m)⟩ :=nr rfl
def Xw3:TI.size .bool=1 :=nr rfl
def Xw4:TI.ag .bool=false :=nr rfl
def Xw5:TI.z .bool=0 :=nr rfl
def Xw6:TI.zero .bool=[.b false] :=nr rfl
def Xw7:TI.size (.int k)=1 :=nr rfl
def Xw8:TI.ag (.int k)=false :=nr rfl
def Xw9:TI.z (.int k)=0 :=nr rfl
def Xxa:TI.zero (.int k)=[.i k 0] :=nr rfl
def Xxb:TI.size .str=1 :=nr rfl
def Xxc:TI.ag .str=false :=nr rfl
def Xxd:TI.z .str=0 :=nr rfl
def Xxe:TI.zero .str=[.s ⟨#[]⟩] :=nr rfl
def Xxf:TI.size .ptr=1 :=nr rfl
def Xxg:TI.ag .ptr=false :=nr rfl
def Xxh:TI.z .ptr=0 :=nr rfl
def Xxi:TI.zero .ptr=[.pn] :=nr rfl
def Xxj:TI.size .fn=1 :=nr rfl
def Xxk:TI.ag .fn=false :=nr rfl
def Xxl:TI.z .fn=0 :=nr rfl
def Xxm:TI.zero .fn=[.u] :=nr rfl
def Xxn:TI.size (.slice z b w)=1 :=nr rfl
def Xxo:TI.ag (.slice z b w)=false :=nr rfl
def Xxp:TI.z (.slice z b w)=z :=nr rfl
def Xxq:TI.zero (.slice z b w)=[.sl .mut z []] :=nr rfl
def Xxr:TI.size (.struct n fl w)=n :=nr rfl
def Xxs:TI.ag (.struct n fl w)=true :=nr rfl
def Xxt:TI.z (.struct n fl w)=0 :=nr rfl
def Xxu:TI.zero (.struct n fl w)=w :=nr rfl
def Xxv:TI.size (.array n z ag w)=n*z :=nr rfl
def Xxw:TI.ag (.array n z ag w)=true :=nr rfl
def Xxx:TI.z (.array n z ag w)=0 :=nr rfl
def Xxy:TI.zero (.array n z ag w)=w :=nr rfl
def zK(x:Option TI):Nat :=match x with
  | some ti => ti.z
  | none => 0
def Xxz:zOf cx t=zK (cx.T t) :=nr rfl
def XxA:zK (some ti)=ti.z :=nr rfl
def XxB:zK none=0 :=nr rfl
def Xqx(x:Option (Nat×Nat×Bool×Nat))(a:AV):Option AV :=match x with
  | some (off,_) => match a with
    | .p q => some (.p {q with c :=q.c+off})
    | .pr q => some (.pr (q.drop off))
    | _ => none
  | none => none
def XxC:Xau (.struct n fl w) f a=Xqx (fl[f]?) a :=nr rfl
def XxD:Xqx (some (off,y)) (.p ⟨e,r,path,c⟩)=some (.p ⟨e,r,path,c+off⟩) :=nr rfl
def XxE:Xqx (some (off,y)) (.pr q)=some (.pr (q.drop off)) :=nr rfl
def XxF:List.drop 0 l=l :=nr rfl
def XxG:List.drop (n+1) (a :: l)=List.drop n l :=nr rfl
def XxH:List.take 0 l=[] :=List.take_zero
def XxI:List.take (n+1) (a :: l)=a :: List.take n l :=nr rfl
def XxJ:List.drop n ([]:List AV)=[] :=List.drop_nil
def Xrw(x:Option (Nat×Nat×Bool×Nat))(cs:List AV):Option AV :=match x with
  | some (off,n,ag,_) => if off+n<=cs.length then some (if ag then .agg ((cs.drop off).take n) else cs.getD off .u) else none
  | none => none
def XxK:Xd9 (.struct m fl w) f (.agg cs)=Xrw (fl[f]?) cs :=nr rfl
def XnB(ti:TI)(pl:Pl)(cells:List AV):Option AV :=if pl.c+ti.size<=cells.length then(if ti.ag then some (.agg (Yi pl pl.c ((cells.drop pl.c).take ti.size))) else some (XM pl (cells.getD pl.c .u))) else none
def XxL:loadAt st ti (.p pl)=Xh (node st pl) (XnB ti pl) :=by simp only[loadAt,Xh,XnB]; cases node st pl<;>rfl
def XxM:loadAt st ti (.pr cs)=if ti.size<=cs.length then(if ti.ag then some (.agg (cs.take ti.size)) else some (cs.getD 0 .u)) else none :=nr rfl
def XxN:node st ⟨e,r,path,c⟩=nav (Xc st e r) path :=nr rfl
def XxO:XL st ⟨e,r,path,c⟩=wrt (Xc st e r) path :=nr rfl
def XxP:Xc st true r=cellsOf (st.env r) :=nr rfl
def XxQ:Xc st false r=st.bx r :=nr rfl
def XxR:nav cs []=some cs :=nr rfl
def XxS:wrt cs []=true :=nr rfl
def Xqy(x:Option (Tag×List AV))(ps:List (Nat×Nat×Nat)):Option (List AV) :=match x with
  | some (_,row) => nav row ps
  | none => none
def Xpj(x:Option (Tag×List AV))(ps:List (Nat×Nat×Nat)):Bool :=match x with
  | some (.mut,row) => wrt row ps
  | _ => false
def Xhp(i z:Nat)(a:Option AV):Option (Tag×List AV) :=match a with
  | some (.sl t z' es) => if z'=z then rowK t es[i]? else none
  | _ => none
  where rowK (t:Tag):Option (List AV)->Option (Tag×List AV)
  | some row => some (t,row)
  | none => none
def XxT:nav cs ((c,i,z) :: ps)=Xqy (Y2 cs c i z) ps :=by simp only[nav,Xqy]; cases Y2 cs c i z<;>rfl
def XxU:Xqy (some (t,row)) ps=nav row ps :=nr rfl
def XxV:wrt cs ((c,i,z) :: ps)=Xpj (Y2 cs c i z) ps :=by
  simp only[wrt,Xpj]
  cases Y2 cs c i z with
  | none => rfl
  | some x => obtain⟨t,row⟩ :=x; cases t<;>rfl
def XxW:Xpj (some (.mut,row)) ps=wrt row ps :=nr rfl
def XxX:Xpj (some (.ro,row)) ps=false :=nr rfl
def XxY:Xpj (some (.app,row)) ps=false :=nr rfl
def XxZ:Y2 cs c i z=Xhp i z cs[c]? :=by
  simp only[Y2,Xhp]
  cases cs[c]? with
  | none => rfl
  | some a =>
    cases a<;>rfl
def Xx0:Xhp i z (some (.sl t z es))=Xhp.rowK t es[i]? :=by simp only[Xhp,if_true]
def Xx1:Xhp.rowK t (some row)=some (t,row) :=nr rfl
def Xx2:XS cs [] new=new :=nr rfl
def Xqz(cs:List AV)(c i:Nat)(ps:List (Nat×Nat×Nat))(new:List AV)(a:Option AV):List AV :=match a with
  | some (.sl t z es) => cs.set c (.sl t z (es.set i (XS (es.getD i []) ps new)))
  | _ => cs
def Xx3:XS cs ((c,i,z) :: ps) new=Xqz cs c i ps new cs[c]? :=by
  simp only[XS,Xqz]
  cases cs[c]? with
  | none => rfl
  | some a => cases a<;>rfl
def Xx4:Xqz cs c i ps new (some (.sl t z es))=cs.set c (.sl t z (es.set i (XS (es.getD i []) ps new))) :=nr rfl
def Xx5:List.set (a :: l) 0 b=b :: l :=nr rfl
def Xx6:List.set (a :: l) (n+1) b=a :: List.set l n b :=nr rfl
def Xx7:Xo ⟨E l,B m⟩ ⟨false,r,path,c⟩ new=⟨E l,B ((r,XS (B m r) path new) :: m)⟩ :=by simp only[Xo,XmB,Bool.false_eq_true,if_false]
def Xx8:Xo ⟨E l,B m⟩ ⟨true,r,path,c⟩ new=⟨E ((r,Z1 (E l r) (XS (cellsOf (E l r)) path new)) :: l),B m⟩ :=by simp only[Xo,XfB,if_true,Xc]
def Xx9:Z1 .u new=new.headD .u :=nr rfl
def Xya:Z1 .no new=new.headD .u :=nr rfl
def Xyb:Z1 .ub new=new.headD .u :=nr rfl
def Xyc:Z1 (.b x) new=new.headD .u :=nr rfl
def Xyd:Z1 (.i k n) new=new.headD .u :=nr rfl
def Xye:Z1 (.s x) new=new.headD .u :=nr rfl
def Xyf:Z1 .nil new=new.headD .u :=nr rfl
def Xyg:Z1 (.sl t z es) new=new.headD .u :=nr rfl
def Xyh:Z1 (.rf pl y lo n) new=new.headD .u :=nr rfl
def Xyi:Z1 (.p pl) new=new.headD .u :=nr rfl
def Xyj:Z1 (.pr cs) new=new.headD .u :=nr rfl
def Xyk:Z1 .pn new=new.headD .u :=nr rfl
def Xyl:Z1 (.fn f cs) new=new.headD .u :=nr rfl
def Xym:Z1 (.fs cs) new=new.headD .u :=nr rfl
def Xyn:Z1 (.agg cs) new=.agg new :=nr rfl
def Xyo:Z1 (.tup cs) new=new.headD .u :=nr rfl
def Xyp:List.headD (a :: l) AV.u=a :=nr rfl
def Xyq:QY st (.slice z b w) x (.i k n)=indexAddr st z x n :=nr rfl
def iaR(es:List (List AV)):Option Nat->Option AV
  | some j => some (.pr (es.getD j []))
  | none => none
def iaF(es:List AV):Option Nat->Option AV
  | some j => some (.pr [Vm.filt gone gone (es.getD j .u)])
  | none => none
def iaM(t:Tag)(pl:Pl)(z lo:Nat)(es:List (List AV)):Option Nat->Option AV
  | some j => (match t with
    | .mut => some (.p ⟨pl.e,pl.r,pl.path++[(pl.c,lo+j,z)],0⟩)
    | _ => some (.pr (Yp (es.getD (lo+j) []))))
  | none => none
def iaC(pl:Pl)(z zr lo n:Nat)(i:Int):Option AV->Option AV
  | some (.sl t z' es) => if(z=z'/\zr=z)/\lo+n<=es.length then iaM t pl z lo es (Zg n i) else none
  | _ => none
def ixS(b:ByteArray):Option Nat->Option AV
  | some j => some (.i .u8 (b.data[j]?.getD 0).toNat)
  | none => none
def Xyr:iaR es (some j)=some (.pr (es.getD j [])) :=nr rfl
def Xys:iaF es (some j)=some (.pr [Vm.filt gone gone (es.getD j .u)]) :=nr rfl
def Xyt:iaM .mut pl z lo es (some j)=some (.p ⟨pl.e,pl.r,pl.path++[(pl.c,lo+j,z)],0⟩) :=nr rfl
def Xyu:iaM .ro pl z lo es (some j)=some (.pr (Yp (es.getD (lo+j) []))) :=nr rfl
def Xyv:iaM .app pl z lo es (some j)=some (.pr (Yp (es.getD (lo+j) []))) :=nr rfl
def Xyw:iaC pl z zr lo n i (some (.sl t z' es))=if(z=z'/\zr=z)/\lo+n<=es.length then iaM t pl z lo es (Zg n i) else none :=nr rfl
def Xyx:ixS b (some j)=some (.i .u8 (b.data[j]?.getD 0).toNat) :=nr rfl
def Xyy:indexAddr st z (.sl .ro z' es) i=if z=z' then iaR es (Zg es.length i) else none :=by
  by_cases h:z=z'
  · simp only[indexAddr,if_pos h]; cases Zg es.length i<;>rfl
  · simp only[indexAddr,if_neg h]
def Xyz:indexAddr st z (.fs es) i=if z=1 then iaF es (Zg es.length i) else none :=by
  by_cases h:z=1
  · simp only[indexAddr,if_pos h]; cases Zg es.length i<;>rfl
  · simp only[indexAddr,if_neg h]
def XyA:indexAddr st z (.rf pl zr lo n) i=Xh (node st pl) (λcells => iaC pl z zr lo n i cells[pl.c]?) :=by
  simp only[indexAddr,Xh]
  cases node st pl with
  | none => rfl
  | some cells =>
    simp only
    cases cells[pl.c]? with
    | none => rfl
    | some a =>
      cases a<;>rfl
def XyB:U5 (.array m z ag w) (.agg cs) (.i k n)=if z=1/\ag=false then XhX m cs n else none :=nr rfl
def XyC:XbN 5 1 false=[(0,1,false,0),(1,1,false,0),(2,1,false,0),(3,1,false,0),(4,1,false,0)] :=nr rfl
def XyD:U5 .str (.s b) (.i k n)=ixS b (Zg b.size n) :=by simp only[U5,ixS]; cases Zg b.size n<;>rfl
def XyE:Xdv .u=none :=nr rfl
def XyF:Xdv .no=none :=nr rfl
def XyG:Xdv .ub=none :=nr rfl
def XyH:Xdv (.b x)=none :=nr rfl
def XyI:Xdv (.i k n)=none :=nr rfl
def XyJ:Xdv (.s x)=none :=nr rfl
def XyK:Xdv .nil=none :=nr rfl
def XyL:Xdv (.sl t z es)=none :=nr rfl
def XyM:Xdv (.rf pl y lo n)=none :=nr rfl
def XyN:Xdv (.p pl)=some (.p pl) :=nr rfl
def XyO:Xdv (.pr cs)=some (.pr cs) :=nr rfl
def XyP:Xdv .pn=none :=nr rfl
def XyQ:Xdv (.fn f cs)=none :=nr rfl
def XyR:Xdv (.fs cs)=none :=nr rfl
def XyS:Xdv (.agg cs)=none :=nr rfl
def XyT:Xdv (.tup cs)=none :=nr rfl
def XqA(f:Nat)(cs xs:List AV):fnV (.fn f cs) xs=some (f,xs++cs) :=nr rfl
def XyU:strip .u=.u :=nr rfl
def XyV:strip .no=.u :=nr rfl
def XyW:strip .ub=.ub :=nr rfl
def XyX:strip (.b x)=(.b x) :=nr rfl
def XyY:strip (.i k n)=(.i k n) :=nr rfl
def XyZ:strip (.s x)=(.s x) :=nr rfl
def Xy0:strip .nil=.nil :=nr rfl
def Xy1:strip (.sl t z es)=.sl .ro z (XI es) :=nr rfl
def Xy2:strip (.rf pl y lo n)=.u :=nr rfl
def Xy3:strip (.p pl)=.u :=nr rfl
def Xy4:strip (.pr cs)=(.pr cs) :=nr rfl
def Xy5:strip .pn=.pn :=nr rfl
def Xy6:strip (.fn f cs)=.u :=nr rfl
def Xy7:strip (.fs cs)=.u :=nr rfl
def Xy8:strip (.agg cs)=.u :=nr rfl
def Xy9:strip (.tup cs)=.u :=nr rfl
def Xza:XF .u=false :=nr rfl
def Xzb:XF .no=false :=nr rfl
def Xzc:XF .ub=false :=nr rfl
def Xzd:XF (.b x)=false :=nr rfl
def Xze:XF (.i k n)=false :=nr rfl
def Xzf:XF (.s x)=false :=nr rfl
def Xzg:XF .nil=false :=nr rfl
def Xzh:XF (.rf pl y lo n)=false :=nr rfl
def Xzi:XF (.p pl)=false :=nr rfl
def Xzj:XF (.pr cs)=true :=nr rfl
def Xzk:XF .pn=false :=nr rfl
def Xzl:XF (.fn f cs)=true :=nr rfl
def Xzm:XF (.fs cs)=true :=nr rfl
def Xzn:XF (.agg cs)=XU cs :=nr rfl
def Xzo:XF (.tup cs)=XU cs :=nr rfl
def Xzp:XF (.sl .ro z es)=true :=nr rfl
def Xzq:XF (.sl .app z es)=true :=nr rfl
def Xzr:XF (.sl .mut z es)=XO es :=nr rfl
def Xzs:XU []=false :=nr rfl
def Xzt:XU (a :: l)=(XF a||XU l) :=nr rfl
def Xzu:XY .u=true :=nr rfl
def Xzv:XY .no=false :=nr rfl
def Xzw:XY .ub=true :=nr rfl
def Xzx:XY (.b x)=true :=nr rfl
def Xzy:XY (.i k n)=true :=nr rfl
def Xzz:XY (.s x)=true :=nr rfl
def XzA:XY .nil=true :=nr rfl
def XzB:XY (.sl t z es)=true :=nr rfl
def XzC:XY (.rf pl y lo n)=false :=nr rfl
def XzD:XY (.p pl)=false :=nr rfl
def XzE:XY (.pr cs)=true :=nr rfl
def XzF:XY .pn=true :=nr rfl
def XzG:XY (.fn f cs)=cs.all YY :=nr rfl
def XzH:XY (.fs cs)=false :=nr rfl
def XzI:XY (.agg cs)=cs.all XX :=nr rfl
def XzJ:XY (.tup cs)=false :=nr rfl
def XzK:Xcm ti0 E0 op0 .u a0=bin ti0 op0 .u a0 :=nr rfl
def XzL:Xcm ti0 E0 op0 .no a0=bin ti0 op0 .no a0 :=nr rfl
def XzM:Xcm ti0 E0 op0 .ub a0=bin ti0 op0 .ub a0 :=nr rfl
def XzN:Xcm ti0 E0 op0 (.b x) a0=bin ti0 op0 (.b x) a0 :=nr rfl
def XzO:Xcm ti0 E0 op0 (.i k n) a0=bin ti0 op0 (.i k n) a0 :=nr rfl
def XzP:Xcm ti0 E0 op0 (.s x) a0=bin ti0 op0 (.s x) a0 :=nr rfl
def XzQ:Xcm ti0 E0 op0 .nil a0=bin ti0 op0 .nil a0 :=nr rfl
def XzR:Xcm ti0 E0 op0 (.sl t z es) a0=bin ti0 op0 (.sl t z es) a0 :=nr rfl
def XzS:Xcm ti0 E0 op0 (.rf pl y lo n) a0=bin ti0 op0 (.rf pl y lo n) a0 :=nr rfl
def XzT:Xcm ti0 E0 op0 (.p pl) a0=bin ti0 op0 (.p pl) a0 :=nr rfl
def XzU:Xcm ti0 E0 op0 (.pr cs) a0=bin ti0 op0 (.pr cs) a0 :=nr rfl
def XzV:Xcm ti0 E0 op0 .pn a0=bin ti0 op0 .pn a0 :=nr rfl
def XzW:Xcm ti0 E0 op0 (.fn f cs) a0=bin ti0 op0 (.fn f cs) a0 :=nr rfl
def XzX:Xcm ti0 E0 op0 (.fs cs) a0=bin ti0 op0 (.fs cs) a0 :=nr rfl
def XzY:Xcm ti0 E0 op0 (.tup cs) a0=bin ti0 op0 (.tup cs) a0 :=nr rfl
def eqR(op:BinOp)(e:Option Bool):Option AV :=match e with | some e => eqB op e | none => none
def XzZ:Xcm ti0 (some ks) op0 (.agg a) (.agg b)=eqR op0 (Yj ks a b) :=by simp only[Xcm,XhT,eqR]; cases Yj ks a b<;>rfl
def Xz0:eqR op (some e)=eqB op e :=nr rfl
def XnC(p:Bool)(e:Option Bool):Option Bool :=match e with | some e => some (p&&e) | none => none
def Xz1:XnC p (some e)=some (p&&e) :=nr rfl
def Xz2:Yj [] [] []=some true :=nr rfl
def Xz3:Yj (0 :: ks) (.b x :: a) (.b y :: b)=XnC (x==y) (Yj ks a b) :=by simp only[Yj,XnC]; cases Yj ks a b<;>rfl
def Xz4:Yj (1 :: ks) (.i k x :: a) (.i k y :: b)=XnC (x==y) (Yj ks a b) :=by simp only[Yj,XnC,if_true]; cases Yj ks a b<;>rfl
def Xz5:Yj (2 :: ks) (.s x :: a) (.s y :: b)=XnC (x.toList==y.toList) (Yj ks a b) :=by simp only[Yj,XnC]; cases Yj ks a b<;>rfl
def Xz6:YY .u=false :=nr rfl
def Xz7:YY .no=false :=nr rfl
def Xz8:YY .ub=false :=nr rfl
def Xz9:YY (.b x)=true :=nr rfl
def XAa:YY (.i k n)=true :=nr rfl
def XAb:YY (.s x)=true :=nr rfl
def XAc:YY .nil=false :=nr rfl
def XAd:YY (.rf pl y lo n)=false :=nr rfl
def XAe:YY (.p pl)=false :=nr rfl
def XAf:YY (.pr cs)=true :=nr rfl
def XAg:YY .pn=true :=nr rfl
def XAh:YY (.fn f cs)=false :=nr rfl
def XAi:YY (.fs cs)=false :=nr rfl
def XAj:YY (.agg cs)=false :=nr rfl
def XAk:YY (.tup cs)=false :=nr rfl
def XAl:YY (.sl .ro z es)=true :=nr rfl
def XAm:Ua .u=YY .u :=nr rfl
def XAn:Ua .no=YY .no :=nr rfl
def XAo:Ua .ub=YY .ub :=nr rfl
def XAp:Ua (.b x)=YY (.b x) :=nr rfl
def XAq:Ua (.i k n)=YY (.i k n) :=nr rfl
def XAr:Ua (.s x)=YY (.s x) :=nr rfl
def XAs:Ua .nil=YY .nil :=nr rfl
def XAt:Ua (.sl t z es)=YY (.sl t z es) :=nr rfl
def XAu:Ua (.rf pl y lo n)=YY (.rf pl y lo n) :=nr rfl
def XAv:Ua (.p pl)=YY (.p pl) :=nr rfl
def XAw:Ua (.pr cs)=YY (.pr cs) :=nr rfl
def XAx:Ua .pn=YY .pn :=nr rfl
def XAy:Ua (.fn f cs)=cs.all YY :=nr rfl
def XAz:Ua (.fs cs)=YY (.fs cs) :=nr rfl
def XAA:Ua (.agg cs)=YY (.agg cs) :=nr rfl
def XAB:Ua (.tup cs)=YY (.tup cs) :=nr rfl
def XAC:UC st d cs=if cs.all Ua=true then some (st.put d (.pr cs)) else none :=nr rfl
def XAD:outLeaf st .u=if XX .u=true then some ((.u,none),st) else none :=nr rfl
def XAE:outLeaf st .no=if XX .no=true then some ((.no,none),st) else none :=nr rfl
def XAF:outLeaf st .ub=if XX .ub=true then some ((.ub,none),st) else none :=nr rfl
def XAG:outLeaf st (.b x)=if XX (.b x)=true then some (((.b x),none),st) else none :=nr rfl
def XAH:outLeaf st (.i k n)=if XX (.i k n)=true then some (((.i k n),none),st) else none :=nr rfl
def XAI:outLeaf st (.s x)=if XX (.s x)=true then some (((.s x),none),st) else none :=nr rfl
def XAJ:outLeaf st .nil=if XX .nil=true then some ((.nil,none),st) else none :=nr rfl
def XAK:outLeaf st (.sl t z es)=if XX (.sl t z es)=true then some (((.sl t z es),none),st) else none :=nr rfl
def XAL:outLeaf st (.p pl)=if XX (.p pl)=true then some (((.p pl),none),st) else none :=nr rfl
def XAM:outLeaf st (.pr cs)=if XX (.pr cs)=true then some (((.pr cs),none),st) else none :=nr rfl
def XAN:outLeaf st .pn=if XX .pn=true then some ((.pn,none),st) else none :=nr rfl
def XAO:outLeaf st (.fn f cs)=if XX (.fn f cs)=true then some (((.fn f cs),none),st) else none :=nr rfl
def XAP:outLeaf st (.fs cs)=if XX (.fs cs)=true then some (((.fs cs),none),st) else none :=nr rfl
def XAQ:outLeaf st (.agg cs)=if XX (.agg cs)=true then some (((.agg cs),none),st) else none :=nr rfl
def XAR:outLeaf st (.tup cs)=if XX (.tup cs)=true then some (((.tup cs),none),st) else none :=nr rfl
def XAS:XN st .u (some (pl0,b0))=some st :=nr rfl
def XAT:XN st .no (some (pl0,b0))=some st :=nr rfl
def XAU:XN st .ub (some (pl0,b0))=some st :=nr rfl
def XAV:XN st (.b x) (some (pl0,b0))=some st :=nr rfl
def XAW:XN st (.i k n) (some (pl0,b0))=some st :=nr rfl
def XAX:XN st (.s x) (some (pl0,b0))=some st :=nr rfl
def XAY:XN st .nil (some (pl0,b0))=some st :=nr rfl
def XAZ:XN st (.rf pl y lo n) (some (pl0,b0))=some st :=nr rfl
def XA0:XN st (.p pl) (some (pl0,b0))=some st :=nr rfl
def XA1:XN st (.pr cs) (some (pl0,b0))=some st :=nr rfl
def XA2:XN st .pn (some (pl0,b0))=some st :=nr rfl
def XA3:XN st (.fn f cs) (some (pl0,b0))=some st :=nr rfl
def XA4:XN st (.fs cs) (some (pl0,b0))=some st :=nr rfl
def XA5:XN st (.agg cs) (some (pl0,b0))=some st :=nr rfl
def XA6:XN st (.tup cs) (some (pl0,b0))=some st :=nr rfl
def XA7:weakLeaf st .u=some st :=nr rfl
def XA8:weakLeaf st .no=some st :=nr rfl
def XA9:weakLeaf st .ub=some st :=nr rfl
def XBa:weakLeaf st (.b x)=some st :=nr rfl
def XBb:weakLeaf st (.i k n)=some st :=nr rfl
def XBc:weakLeaf st (.s x)=some st :=nr rfl
def XBd:weakLeaf st .nil=some st :=nr rfl
def XBe:weakLeaf st (.sl t z es)=some st :=nr rfl
def XBf:weakLeaf st (.p pl)=none :=nr rfl
def XBg:weakLeaf st (.pr cs)=some st :=nr rfl
def XBh:weakLeaf st .pn=some st :=nr rfl
def XBi:weakLeaf st (.fn f cs)=none :=nr rfl
def XBj:weakLeaf st (.fs cs)=none :=nr rfl
def XBk:weakLeaf st (.agg cs)=none :=nr rfl
def XBl:weakLeaf st (.tup cs)=none :=nr rfl
def XBm:Uy st x0 .u=weakLeaf st .u :=nr rfl
def XBn:Uy st x0 .no=weakLeaf st .no :=nr rfl
def XBo:Uy st x0 .ub=weakLeaf st .ub :=nr rfl
def XBp:Uy st x0 (.b x)=weakLeaf st (.b x) :=nr rfl
def XBq:Uy st x0 (.i k n)=weakLeaf st (.i k n) :=nr rfl
def XBr:Uy st x0 (.s x)=weakLeaf st (.s x) :=nr rfl
def XBs:Uy st x0 .nil=weakLeaf st .nil :=nr rfl
def XBt:Uy st x0 (.sl t z es)=weakLeaf st (.sl t z es) :=nr rfl
def XBu:Uy st x0 (.rf pl y lo n)=weakLeaf st (.rf pl y lo n) :=nr rfl
def XBv:Uy st x0 (.p pl)=weakLeaf st (.p pl) :=nr rfl
def XBw:Uy st x0 (.pr cs)=weakLeaf st (.pr cs) :=nr rfl
def XBx:Uy st x0 .pn=weakLeaf st .pn :=nr rfl
def XBy:Uy st x0 (.fn f cs)=weakLeaf st (.fn f cs) :=nr rfl
def XBz:Uy st x0 (.fs cs)=weakLeaf st (.fs cs) :=nr rfl
def XBA:Uy st x0 (.agg cs)=Z3 x0 cs.length 0 st :=nr rfl
def XBB:Uy st x0 (.tup cs)=weakLeaf st (.tup cs) :=nr rfl
def XBC:ZK .u=true :=nr rfl
def XBD:ZK .no=true :=nr rfl
def XBE:ZK .ub=true :=nr rfl
def XBF:ZK (.b x)=true :=nr rfl
def XBG:ZK (.i k n)=true :=nr rfl
def XBH:ZK (.s x)=true :=nr rfl
def XBI:ZK .nil=true :=nr rfl
def XBJ:ZK (.sl t z es)=true :=nr rfl
def XBK:ZK (.rf pl y lo n)=true :=nr rfl
def XBL:ZK (.p pl)=true :=nr rfl
def XBM:ZK (.pr cs)=true :=nr rfl
def XBN:ZK .pn=true :=nr rfl
def XBO:ZK (.fn f cs)=true :=nr rfl
def XBP:ZK (.fs cs)=true :=nr rfl
def XBQ:ZK (.agg cs)=false :=nr rfl
def XBR:ZK (.tup cs)=true :=nr rfl
def XBS:XV st z .u=none :=nr rfl
def XBT:XV st z .no=none :=nr rfl
def XBU:XV st z .ub=none :=nr rfl
def XBV:XV st z (.b x)=none :=nr rfl
def XBW:XV st z (.i k n)=none :=nr rfl
def XBX:XV st z (.s x)=none :=nr rfl
def XBY:XV st z .nil=some [] :=nr rfl
def XBZ:XV st z (.p pl)=none :=nr rfl
def XB0:XV st z (.pr cs)=none :=nr rfl
def XB1:XV st z .pn=none :=nr rfl
def XB2:XV st z (.fn f cs)=none :=nr rfl
def XB3:XV st z (.fs cs)=none :=nr rfl
def XB4:XV st z (.agg cs)=none :=nr rfl
def XB5:XV st z (.tup cs)=none :=nr rfl
def XB6:XV st z (.sl t y es)=if y=z then some es else none :=nr rfl
def XB7:XV st z (.rf pl y lo n)=if y=z then XP st (.rf pl y lo n) else none :=nr rfl
def XB8:Xx ow av st d .u=some .u :=by cases d<;>simp only[Xx]
def XB9:Xx ow av st d .no=none :=by cases d<;>simp only[Xx]
def XCa:Xx ow av st d .ub=some .ub :=by cases d<;>simp only[Xx]
def XCb:Xx ow av st d (.b x)=some (.b x) :=by cases d<;>simp only[Xx]
def XCc:Xx ow av st d (.i k n)=some (.i k n) :=by cases d<;>simp only[Xx]
def XCd:Xx ow av st d (.s x)=some (.s x) :=by cases d<;>simp only[Xx]
def XCe:Xx ow av st d .nil=some .nil :=by cases d<;>simp only[Xx]
def XCf:Xx ow av st d (.sl t z es)=some (.sl .ro z (XI es)) :=by cases d<;>simp only[Xx]
def XCg:Xx ow av st d (.pr cs)=some (.pr cs) :=by cases d<;>simp only[Xx]
def XCh:Xx ow av st d .pn=some .pn :=by cases d<;>simp only[Xx]
def XCi:Xx ow av st d (.agg cs)=none :=by cases d<;>simp only[Xx]
def XCj:Xx ow av st d (.tup cs)=none :=by cases d<;>simp only[Xx]
def prO(x:Option (List AV)):Option AV :=match x with
  | some cs => some (.pr cs)
  | none => none
def agO(x:Option (List AV)):Option AV :=match x with
  | some cs => some (.agg cs)
  | none => none
def fnO(f:Nat)(x:Option (List AV)):Option AV :=match x with
  | some cs => some (.fn f cs)
  | none => none
def fsO(x:Option (List AV)):Option AV :=match x with
  | some cs => some (.fs cs)
  | none => none
def coO(a:Option AV)(x:Option (List AV)):Option (List AV) :=match a,x with
  | some a,some l => some (a :: l)
  | _,_ => none
def XCk:Z4 ow av st .u=Xx ow av st 8 .u :=nr rfl
def XCl:Z4 ow av st .no=Xx ow av st 8 .no :=nr rfl
def XCm:Z4 ow av st .ub=Xx ow av st 8 .ub :=nr rfl
def XCn:Z4 ow av st (.b x)=Xx ow av st 8 (.b x) :=nr rfl
def XCo:Z4 ow av st (.i k n)=Xx ow av st 8 (.i k n) :=nr rfl
def XCp:Z4 ow av st (.s x)=Xx ow av st 8 (.s x) :=nr rfl
def XCq:Z4 ow av st .nil=Xx ow av st 8 .nil :=nr rfl
def XCr:Z4 ow av st (.sl t z es)=Xx ow av st 8 (.sl t z es) :=nr rfl
def XCs:Z4 ow av st (.rf pl y lo n)=Xx ow av st 8 (.rf pl y lo n) :=nr rfl
def XCt:Z4 ow av st (.p pl)=Xx ow av st 8 (.p pl) :=nr rfl
def XCu:Z4 ow av st (.pr cs)=Xx ow av st 8 (.pr cs) :=nr rfl
def XCv:Z4 ow av st .pn=Xx ow av st 8 .pn :=nr rfl
def XCw:Z4 ow av st (.fn f cs)=Xx ow av st 8 (.fn f cs) :=nr rfl
def XCx:Z4 ow av st (.fs cs)=Xx ow av st 8 (.fs cs) :=nr rfl
def XCy:Z4 ow av st (.agg cs)=agO (XA ow av st 8 cs) :=by simp only[Z4,agO]; cases XA ow av st 8 cs<;>rfl
def XCz:Z4 ow av st (.tup cs)=Xx ow av st 8 (.tup cs) :=nr rfl
def XCA:prO (some cs)=some (.pr cs) :=nr rfl
def XCB:agO (some cs)=some (.agg cs) :=nr rfl
def XCC:fnO f (some cs)=some (.fn f cs) :=nr rfl
def XCD:fsO (some cs)=some (.fs cs) :=nr rfl
def XCE:coO (some a) (some l)=some (a :: l) :=nr rfl
def XCF:Xx ow av st 1 (.p pl)=if(ow&&Qw av pl&&XL st pl)=true then prO (Xh (node st pl) (λcells => XA ow av st 0 (cells.drop pl.c))) else none :=by
  simp only[Xx,Xh,prO]
  cases node st pl with
  | none => rfl
  | some cells => simp only[]; cases XA ow av st 0 (cells.drop pl.c)<;>rfl
def XCG:Xx ow av st 1 (.fs cs)=fsO (XA ow av st 0 cs) :=by
  simp only[Xx,fsO]; cases XA ow av st 0 cs<;>rfl
def XCH:Xx ow av st 1 (.fn f cs)=fnO f (XA ow av st 0 cs) :=by
  simp only[Xx,fnO]; cases XA ow av st 0 cs<;>rfl
def XCI:Xx ow av st 2 (.p pl)=if(ow&&Qw av pl&&XL st pl)=true then prO (Xh (node st pl) (λcells => XA ow av st 1 (cells.drop pl.c))) else none :=by
  simp only[Xx,Xh,prO]
  cases node st pl with
  | none => rfl
  | some cells => simp only[]; cases XA ow av st 1 (cells.drop pl.c)<;>rfl
def XCJ:Xx ow av st 2 (.fs cs)=fsO (XA ow av st 1 cs) :=by
  simp only[Xx,fsO]; cases XA ow av st 1 cs<;>rfl
def XCK:Xx ow av st 2 (.fn f cs)=fnO f (XA ow av st 1 cs) :=by
  simp only[Xx,fnO]; cases XA ow av st 1 cs<;>rfl
def XCL:Xx ow av st 3 (.p pl)=if(ow&&Qw av pl&&XL st pl)=true then prO (Xh (node st pl) (λcells => XA ow av st 2 (cells.drop pl.c))) else none :=by
  simp only[Xx,Xh,prO]
  cases node st pl with
  | none => rfl
  | some cells => simp only[]; cases XA ow av st 2 (cells.drop pl.c)<;>rfl
def XCM:Xx ow av st 3 (.fs cs)=fsO (XA ow av st 2 cs) :=by
  simp only[Xx,fsO]; cases XA ow av st 2 cs<;>rfl
def XCN:Xx ow av st 3 (.fn f cs)=fnO f (XA ow av st 2 cs) :=by
  simp only[Xx,fnO]; cases XA ow av st 2 cs<;>rfl
def XCO:Xx ow av st 4 (.p pl)=if(ow&&Qw av pl&&XL st pl)=true then prO (Xh (node st pl) (λcells => XA ow av st 3 (cells.drop pl.c))) else none :=by
  simp only[Xx,Xh,prO]
  cases node st pl with
  | none => rfl
  | some cells => simp only[]; cases XA ow av st 3 (cells.drop pl.c)<;>rfl
def XCP:Xx ow av st 4 (.fs cs)=fsO (XA ow av st 3 cs) :=by
  simp only[Xx,fsO]; cases XA ow av st 3 cs<;>rfl
def XCQ:Xx ow av st 4 (.fn f cs)=fnO f (XA ow av st 3 cs) :=by
  simp only[Xx,fnO]; cases XA ow av st 3 cs<;>rfl
def XCR:Xx ow av st 5 (.p pl)=if(ow&&Qw av pl&&XL st pl)=true then prO (Xh (node st pl) (λcells => XA ow av st 4 (cells.drop pl.c))) else none :=by
  simp only[Xx,Xh,prO]
  cases node st pl with
  | none => rfl
  | some cells => simp only[]; cases XA ow av st 4 (cells.drop pl.c)<;>rfl
def XCS:Xx ow av st 5 (.fs cs)=fsO (XA ow av st 4 cs) :=by
  simp only[Xx,fsO]; cases XA ow av st 4 cs<;>rfl
def XCT:Xx ow av st 5 (.fn f cs)=fnO f (XA ow av st 4 cs) :=by
  simp only[Xx,fnO]; cases XA ow av st 4 cs<;>rfl
def XCU:Xx ow av st 6 (.p pl)=if(ow&&Qw av pl&&XL st pl)=true then prO (Xh (node st pl) (λcells => XA ow av st 5 (cells.drop pl.c))) else none :=by
  simp only[Xx,Xh,prO]
  cases node st pl with
  | none => rfl
  | some cells => simp only[]; cases XA ow av st 5 (cells.drop pl.c)<;>rfl
def XCV:Xx ow av st 6 (.fs cs)=fsO (XA ow av st 5 cs) :=by
  simp only[Xx,fsO]; cases XA ow av st 5 cs<;>rfl
def XCW:Xx ow av st 6 (.fn f cs)=fnO f (XA ow av st 5 cs) :=by
  simp only[Xx,fnO]; cases XA ow av st 5 cs<;>rfl
def XCX:Xx ow av st 7 (.p pl)=if(ow&&Qw av pl&&XL st pl)=true then prO (Xh (node st pl) (λcells => XA ow av st 6 (cells.drop pl.c))) else none :=by
  simp only[Xx,Xh,prO]
  cases node st pl with
  | none => rfl
  | some cells => simp only[]; cases XA ow av st 6 (cells.drop pl.c)<;>rfl
def XCY:Xx ow av st 7 (.fs cs)=fsO (XA ow av st 6 cs) :=by
  simp only[Xx,fsO]; cases XA ow av st 6 cs<;>rfl
def XCZ:Xx ow av st 7 (.fn f cs)=fnO f (XA ow av st 6 cs) :=by
  simp only[Xx,fnO]; cases XA ow av st 6 cs<;>rfl
def XC0:Xx ow av st 8 (.p pl)=if(ow&&Qw av pl&&XL st pl)=true then prO (Xh (node st pl) (λcells => XA ow av st 7 (cells.drop pl.c))) else none :=by
  simp only[Xx,Xh,prO]
  cases node st pl with
  | none => rfl
  | some cells => simp only[]; cases XA ow av st 7 (cells.drop pl.c)<;>rfl
def XC1:Xx ow av st 8 (.fs cs)=fsO (XA ow av st 7 cs) :=by
  simp only[Xx,fsO]; cases XA ow av st 7 cs<;>rfl
def XC2:Xx ow av st 8 (.fn f cs)=fnO f (XA ow av st 7 cs) :=by
  simp only[Xx,fnO]; cases XA ow av st 7 cs<;>rfl
def XC3:XA ow av st d []=some [] :=by simp only[XA]
def XC4:XA ow av st d (a :: l)=coO (Xx ow av st d a) (XA ow av st d l) :=by
  simp only[XA,coO]
  cases Xx ow av st d a with
  | none => rfl
  | some a' => simp only[]; cases XA ow av st d l<;>rfl
def Xpk(ow:Bool):Tag->Bool
  | .mut => ow
  | _ => true
def XqB(ow:Bool)(y lo n:Nat)(a:Option AV):Option AV :=match a with
  | some (.sl t z es) => if(lo+n<=es.length/\y=z)/\Xpk ow t=true then some (.sl .ro y (XI ((es.drop lo).take n))) else none
  | _ => none
def XC5:Xpk ow .mut=ow :=nr rfl
def XC6:Xpk ow .ro=true :=nr rfl
def XC7:Xpk ow .app=true :=nr rfl
def XC8:Xx ow av st d (.rf pl y lo n)=if Qw av pl=true then Xh (node st pl) (λcells => XqB ow y lo n cells[pl.c]?) else none :=by
  cases d<;>(simp only[Xx,Xh,XqB]; split<;>(try rfl); cases node st pl with
    | none => rfl
    | some cells => simp only[]; cases cells[pl.c]? with
      | none => rfl
      | some a => cases a<;>(try rfl); rename_i t z es; cases t<;>cases ow<;>simp[Xpk])
def XC9:XP st .u=none :=nr rfl
def XDa:XP st .no=none :=nr rfl
def XDb:XP st .ub=none :=nr rfl
def XDc:XP st (.b x)=none :=nr rfl
def XDd:XP st (.i k n)=none :=nr rfl
def XDe:XP st (.s x)=none :=nr rfl
def XDf:XP st .nil=some [] :=nr rfl
def XDg:XP st (.sl t z es)=some es :=nr rfl
def XDh:XP st (.p pl)=none :=nr rfl
def XDi:XP st (.pr cs)=none :=nr rfl
def XDj:XP st .pn=none :=nr rfl
def XDk:XP st (.fn f cs)=none :=nr rfl
def XDl:XP st (.fs cs)=none :=nr rfl
def XDm:XP st (.agg cs)=none :=nr rfl
def XDn:XP st (.tup cs)=none :=nr rfl
def XDo:Xn3 st .str (.s x)=some x.size :=nr rfl
def XDp:XcJ (.int k)=false :=nr rfl
def XDq:XcJ .str=true :=nr rfl
def XDr:XcJ (.slice z b zero)=true :=nr rfl
def XDs:Xn3 st (.slice z b zero) a=lenOf st a :=nr rfl
def XDt:Xar .str (.s b) lo hi=Z2 (.s b) lo hi :=nr rfl
def XDu:Xar (.slice z b zero) (.sl t z es) lo hi=Z2 (.sl t z es) lo hi :=by simp only[Xar,if_true]
def XDv:Xar (.slice z b zero) (.rf pl z o n) lo hi=Z2 (.rf pl z o n) lo hi :=by simp only[Xar,if_true]
def XDw:lenOf st .u=none :=nr rfl
def XDx:lenOf st .no=none :=nr rfl
def XDy:lenOf st .ub=none :=nr rfl
def XDz:lenOf st (.b x)=none :=nr rfl
def XDA:lenOf st (.i k n)=none :=nr rfl
def XDB:lenOf st (.s x)=none :=nr rfl
def XDC:lenOf st .nil=some 0 :=nr rfl
def XDD:lenOf st (.sl t z es)=some es.length :=nr rfl
def XDE:lenOf st (.p pl)=none :=nr rfl
def XDF:lenOf st (.pr cs)=none :=nr rfl
def XDG:lenOf st .pn=none :=nr rfl
def XDH:lenOf st (.fn f cs)=none :=nr rfl
def XDI:lenOf st (.fs cs)=some cs.length :=nr rfl
def XDJ:lenOf st (.agg cs)=none :=nr rfl
def XDK:lenOf st (.tup cs)=none :=nr rfl
def XqC(y n lo:Nat)(a:Option AV):Option Nat :=match a with
  | some (.sl _ z es) => if lo+n<=es.length/\y=z then some ((es.drop lo).take n).length else none
  | _ => none
def XqD(y n lo:Nat)(a:Option AV):Option (List (List AV)) :=match a with
  | some (.sl _ z es) => if lo+n<=es.length/\y=z then some ((es.drop lo).take n) else none
  | _ => none
def XDL:XP st (.rf pl y lo n)=Xh (node st pl) (λcells => XqD y n lo cells[pl.c]?) :=by simp only[XP,Xh,XqD]; cases node st pl<;>rfl
def XDM:lenOf st (.rf pl y lo n)=Xh (node st pl) (λcells => XqC y n lo cells[pl.c]?) :=by
  simp only[lenOf,XP,Xh,XqC]
  cases node st pl with
  | none => rfl
  | some cells =>
    simp only[]
    cases cells[pl.c]? with
    | none => rfl
    | some a =>
      cases a<;>try rfl
      rename_i t z es
      simp only[]
      by_cases h:lo+n<=es.length/\y=z
      · simp only[if_pos h]
      · simp only[if_neg h]
def XDN:bin ti op (.i k a) (.i k b)=Xfg op k a b :=by simp only[bin,if_true]
def XDO:bin ti op (.s a) (.s b)=Xls op a b :=nr rfl
def XDP:bin (some .bool) op (.b a) (.b b)=eqB op (a==b) :=nr rfl
def XDQ:bin (some .ptr) op (.p q) .pn=eqB op false :=nr rfl
def XDR:bin (some .ptr) op (.pr q) .pn=eqB op false :=nr rfl
def XDS:bin (some .ptr) op .pn .pn=eqB op true :=nr rfl
def XDT:Xfg .add k a b=some (.i k (k.wrap (a+b))) :=nr rfl
def XDU:Xfg .sub k a b=some (.i k (k.wrap (a-b))) :=nr rfl
def XDV:Xfg .mul k a b=some (.i k (k.wrap (a*b))) :=nr rfl
def XDW:Xfg .eql k a b=some (.b (a==b)) :=nr rfl
def XDX:Xfg .neq k a b=some (.b (a !=b)) :=nr rfl
def XDY:Xfg .lss k a b=some (.b (decide (a<b))) :=nr rfl
def XDZ:Xfg .leq k a b=some (.b (decide (a<=b))) :=nr rfl
def XD0:Xfg .gtr k a b=some (.b (decide (a>b))) :=nr rfl
def XD1:Xfg .geq k a b=some (.b (decide (a>=b))) :=nr rfl
def XD2:Xfg .quo k a b=if b=0 then none else some (.i k (k.wrap (a.tdiv b))) :=nr rfl
def XD3:Xfg .rem k a b=if b=0 then none else some (.i k (a.tmod b)) :=nr rfl
def XD4:Xls .eql a b=some (.b (a.toList==b.toList)) :=nr rfl
def XD5:Xls .neq a b=some (.b !(a.toList==b.toList)) :=nr rfl
def XD6:Xls .lss a b=some (.b (Op.bytesLess a.toList b.toList)) :=nr rfl
def XD7:Xls .add a b=if a.size+b.size<=9223372036854775807 then some (.s (a++b)) else none :=nr rfl
def XD8(e:Bool)(x:Option Bool):Option Bool :=match x with
  | some y => some (e&&y)
  | none => none
def XD9:XD8 e (some y)=some (e&&y) :=nr rfl
def XEa:unV .not (.b x)=some (.b !x) :=nr rfl
def XEb:unV .neg (.i k n)=some (.i k (k.wrap (0-n))) :=nr rfl
def XEc:XgG (.bool x)=.b x :=nr rfl
def XEd:XgG (.int k n)=.i k n :=nr rfl
def XEe:XgG (.string x)=.s x :=nr rfl
def XEf:XgG (.slice none 0 0)=.nil :=nr rfl
def XEg:XgG (.pointer none)=.pn :=nr rfl
def XEh:bin T op (.sl t z es) .nil=Xa4 T op es.length :=nr rfl
def XEi:bin T op (.rf q z lo n) .nil=Xa4 T op n :=nr rfl
def XEj:Xa4 (some (.slice z b ze)) .eql n=if 0<n then some (.b false) else some .ub :=nr rfl
def XEk:Xa4 (some (.slice z b ze)) .neq n=if 0<n then some (.b true) else some .ub :=nr rfl
def XpO(f:Nat->AV)(g:Nat->List AV)(t j:Nat)(a:AV):Option (AV×St) :=match a with
  | .tup vs => match vs[j]? with
    | some v => some (v,⟨upd f t (.tup (vs.set j .u)),g⟩)
    | none => none
  | _ => none
def XqE(f:Nat->AV)(g:Nat->List AV)(t j:Nat)(vs:List AV)(x:Option AV):Option (AV×St) :=match x with
  | some v => some (v,⟨upd f t (.tup (vs.set j .u)),g⟩)
  | none => none
def XEl:Uc ⟨f,g⟩ (.tmp t) j=XpO f g t j (f t) :=by simp only[Uc,XpO]; cases f t<;>rfl
def XEm:XpO f g t j (.tup vs)=XqE f g t j vs vs[j]? :=by simp only[XpO,XqE]
def XEn:XqE f g t j vs (some v)=some (v,⟨upd f t (.tup (vs.set j .u)),g⟩) :=nr rfl
attribute [go_sem ↓] Xkv XmX Xkw Xm0 Xg8 XeF Xc6 XfD XfE XgW XdM XfF XfG XfH XgY XgZ Xg5 XeE XfJ XfK XfC Xeu XdL Xiu Xiv Xev Xew Xex Xey Xez Qo Xgr Xgs XiB Xb6 Xc5 Xb8 Xc3 Xc4 Xc7 Xb9 Xnb XiT Xne XkC Xpd Xnf XkD XfM XeG XkE XeH XkF Xpe Xqq Xha XkI XfN Xhb XkJ XdN XeI Xpf XiW XkK Xpg Xph Xng XkL Xnh XkM XkN Xni XkP XkO Xk7 Xrs Xrt Xru Xrv
attribute [go_sem] XiU XiV XkG XkH XoM XiS XiR XiN XiO XiP Xpc Xm8 Xpa Xm4 Xm3 XiQ Xm9 XkA XkB XiG XiH Xm1 XiI XiJ Xg9 XiK Xqn Xiy XmM XmO Xiz XiA Xki XmN XeF Xc6 XmZ Xg7 Xqr Xnm Xnn Xpi XkV Xhd Xhe XfP Xhf Xhg Xhh XiX XeJ XiY XeK XfQ Xhi Xi0 XkW Xi1 XfR XkX Xhj Xhk XkY XkZ Xk0 Xk1 Xnr Xns Xk2 XfT Xnt Xk3 XfU Xk4 Xhl Xk5 Xi4 Xi5 Xi6 Xk6 Xhm XfV XeL XeM XfW Xhn XfX Xcu Xca XdO Xnv XdP Xnx Xcv Xg0 Xg1 Xg2 Xg3 XeC XeD Xg4 Xkj Xkk Xkl Xkm Xkn XmS stU skS XiM Xeb UD QZ XhY Xi2 XkQ Xnj Xnk Xnl Xhc XfO XkS XkT XkU XkR Xny XpK Xkx Xm2 Xky XiL Xm5 trim? XmC inE Xke opU skU Qo XgV Xit Xgr Xgs XiB XiC Xko Xev Xew Xex Xey Xez Xb6 Xc5 Xb8 XmV Xc7 Xb9 Xnd Xiw Xix Xkh Xkp Xkq XmT XiD Xkr Xks Xkt XiE Xku Xc3 Xc4 XmF Xso Xsp Xsq Xql Xo6 XmG jL Uo jE jB XeA XeB XmJ XmK
  k0 k1 k2 k3 k4 k5 k6 k7 k8 k9 k10 k11 k12 k13 k14 k15 k16 k17 k18 k19 k20 k21 k22 k23 k24 k25 k26 k27 k28 k29 k30 k31 k32 k33 k34 k35 k36 k37 k38 k39 k40 k41 k42 k43 k44 k45 k46 k47 k48 k49 k50 k51 k52 k53 k54 k55 k56 k57 k58 k59 k60 k61 k62 k63 k64 k65 k66 k67 k68 k69 k70 k71 k72 k73 k74 k75 k76 k77 k78 k79 k80 k81 k82 k83 k84 k85 k86 k87 rvQ k88 k89 k90 k91 k92 k93 k94 k95 k96 k97 k98 k99 Xsr Xss Xst Xsu Xsv Xsw Xsx Xsy Xsz XsA XsB XsC XsD XsE XsF XsG XsH XsI XsJ XsK XsL XsM XsN XsO XsP XsQ XsR XsS XsT XsU XsV XsW XsX XsY XsZ Xs0 Xs1 Xs2 Xs3 Xs4 Xs5 Xs6 Xs7 Xs8 Xs9 Xta Xtb Xtc Xtd Xte Xtf Xtg Xth Xti Xtj Xtk Xtl Xtm Xtn Xto Xtp Xtq Xtr Xts Xtt Xtu Xtv Xtw Xtx Xty Xtz XtA XtB XtC XtD XtE XtF XtG XtH XtI XtJ XtK XtL XtM XtN XtO XtP XtQ XtR XtS XtT XtU XtV XtW XtX XtY XtZ Xt0 Xt1 Xt2 Xt3 Xt4 Xt5 Xt6 Xt7 Xt8 Xt9 Xua Xub Xuc Xud Xue Xuf Xug Xuh Xui Xuj Xuk Xul Xum Xun Xuo Xup Xuq Xur Xus Xut Xuu Xuv Xuw Xux Xuy Xuz XuA XuB XuC XuD XuE XuF XuG XuH XuI XuJ XuK XuL XuM XuN XuO XuP XuQ XuR XuS XuT XuU XuV XuW XuX XuY XuZ Xu0 Xu1 Xu2 Xu3 Xu4 Xu5 Xu6 Xu7 Xu8 Xu9 Xva Xvb Xvc Xvd Xve Xvf Xvg Xvh Xvi Xvj Xvk Xvl Xvm Xvn Xvo Xvp Xvq Xvr Xvs Xvt Xvu Xvv Xvw Xvx Xvy Xvz XvA XvB XvC XvD XvE XvF XvG XvH XvI XvJ XvK XvL XvM XvN XvO XvP XvQ XvR XvS XvT XvU XvV XvW XvX XvY XvZ Xv0 Xv1 Xv2 Xv3 Xv4 Xv5 Xv6 Xv7 Xv8 Xv9 Xwa Xwb Xwc Xwd Xwe Xwf Xwg Xwh Xwi Xwj Xwk Xwl Xwm Xwn Xwo Xwp Xwq Xwr Xws Xwt Xwu Xwv Xww Xwx Xwy Xwz XwA XwB XwC XwD XwE XwF XwG XwH XwI XwJ XwK XwL XwM XwN XwO XwP XwQ XwR XwS XwT Xrs Xrt Xru Xrv XwU XwV Xqj Xqk XfB XmB Xb5 Xiq Xjq XgU Xkc Xir Xis Xkz Xm6 Xm7 XwW XwX XwY XwZ Xw0 Xw1 Xw2 Xw3 Xw4 Xw5 Xw6 Xw7 Xw8 Xw9 Xxa Xxb Xxc Xxd Xxe Xxf Xxg Xxh Xxi Xxj Xxk Xxl Xxm Xxn Xxo Xxp Xxq Xxr Xxs Xxt Xxu Xxv Xxw Xxx Xxy Xxz XxA XxB XxC XxD XxE XxF XxG XxH XxI XxJ XxK Xrw XxL XxM XnB XxN XxO XxP XxQ XxR XxS XxT XxU XxV XxW XxX XxY XxZ Xx0 Xx1 Xx2 Xx3 Xx4 Xx5 Xx6 Xx7 Xx8 Xx9 Xya Xyb Xyc Xyd Xye Xyf Xyg Xyh Xyi Xyj Xyk Xyl Xym Xyn Xyo Xyp St.cut keepP keepR Xy Zq XB within setCells storeAt takeRf QX Z2 XbO ZP Zj Zw Xcl XgK ZB XaP UU Xfi Xqc Xdu Xgd Xas UT XbJ XgJ Xfh XdU Xrp Qw Zv rwB UE Qa one eqB Yp XI whole Md.isMv Md.isRw Xyq Xyr Xys Xyt Xyu Xyv Xyw Xyx Xyy Xyz XyA XyB XyC XyD XyE XyF XyG XyH XyI XyJ XyK XyL XyM XyN XyO XyP XyQ XyR XyS XyT XqA XyU XyV XyW XyX XyY XyZ Xy0 Xy1 Xy2 Xy3 Xy4 Xy5 Xy6 Xy7 Xy8 Xy9 Xza Xzb Xzc Xzd Xze Xzf Xzg Xzh Xzi Xzj Xzk Xzl Xzm Xzn Xzo Xzp Xzq Xzr Xzs Xzt Xzu Xzv Xzw Xzx Xzy Xzz XzA XzB XzC XzD XzE XzF XzG XzH XzI XzJ XzK XzL XzM XzN XzO XzP XzQ XzR XzS XzT XzU XzV XzW XzX XzY XzZ Xz0 Xz1 Xz2 Xz3 Xz4 Xz5 Xz6 Xz7 Xz8 Xz9 XAa XAb XAc XAd XAe XAf XAg XAh XAi XAj XAk XAl XAm XAn XAo XAp XAq XAr XAs XAt XAu XAv XAw XAx XAy XAz XAA XAB XAC XAD XAE XAF XAG XAH XAI XAJ XAK XAL XAM XAN XAO XAP XAQ XAR XAS XAT XAU XAV XAW XAX XAY XAZ XA0 XA1 XA2 XA3 XA4 XA5 XA6 XA7 XA8 XA9 XBa XBb XBc XBd XBe XBf XBg XBh XBi XBj XBk XBl XBm XBn XBo XBp XBq XBr XBs XBt XBu XBv XBw XBx XBy XBz XBA XBB XBC XBD XBE XBF XBG XBH XBI XBJ XBK XBL XBM XBN XBO XBP XBQ XBR XBS XBT XBU XBV XBW XBX XBY XBZ XB0 XB1 XB2 XB3 XB4 XB5 XB6 XB7 XB8 XB9 XCa XCb XCc XCd XCe XCf XCg XCh XCi XCj XCk XCl XCm XCn XCo XCp XCq XCr XCs XCt XCu XCv XCw XCx XCy XCz XCA XCB XCC XCD XCE XCF XCG XCH XCI XCJ XCK XCL XCM XCN XCO XCP XCQ XCR XCS XCT XCU XCV XCW XCX XCY XCZ XC0 XC1 XC2 XC3 XC4 XC5 XC6 XC7 XC8 XqB XC9 XDa XDb XDc XDd XDe XDf XDg XDh XDi XDj XDk XDl XDm XDn XDo XDp XDq XDr XDs XDt XDu XDv XDw XDx XDy XDz XDA XDB XDC XDD XDE XDF XDG XDH XDI XDJ XDK XDL XDM XqC XqD XDN XDO XDP XDQ XDR XDS XDT XDU XDV XDW XDX XDY XDZ XD0 XD1 XD2 XD3 XD4 XD5 XD6 XD7 XD9 XEa XEb XEc XEd XEe XEf XEg XEh XEi XEj XEk XEl XEm XEn
end Go.Vm
