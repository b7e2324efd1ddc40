/- A part of a reflected evaluator of the program's code, and the proof that what it computes is what the machine does. -/
import Derived.Test.YtebnbhjcfanddaaDoorVa
import Derived.Attr
set_option linter.unusedVariables false
set_option linter.unusedSimpArgs false
set_option autoImplicit false
set_option linter.defProp false
namespace Go.Vm
def nr{α:Sort _}{a b:α}(h:a=b):a=b:=h
def E:List (Nat×AV)->Nat->AV
 | [],_=>.u
 | (k,v) :: r,t=>if t=k then v else E r t
def B:List (Nat×List AV)->Nat->List AV
 | [],_=>[]
 | (k,v) :: r,t=>if t=k then v else B r t
def XnG(t:Nat):E [] t=.u:=nr rfl
def XaA(k:Nat)(v:AV)(r:List (Nat×AV))(t:Nat):E ((k,v) :: r) t=if t=k then v else E r t:=nr rfl
def XnH(t:Nat):B [] t=[]:=nr rfl
def Xbd(k:Nat)(v:List AV)(r:List (Nat×List AV))(t:Nat):B ((k,v) :: r) t=if t=k then v else B r t:=nr rfl
def Xeb(l:List (Nat×AV))(t:Nat)(v:AV):upd (E l) t v=E ((t,v) :: l):=by funext x; simp[upd,XaA]
def Xkn(l:List (Nat×List AV))(t:Nat)(v:List AV):upd (B l) t v=B ((t,v) :: l):=by funext x; simp[upd,Xbd]
def XgN(kp kr:Pl->Bool):List (Nat×AV)->List (Nat×AV)
 | []=>[]
 | (k,v) :: r=>(k,filt kp kr v) :: XgN kp kr r
def XhM(kp kr:Pl->Bool):List (Nat×List AV)->List (Nat×List AV)
 | []=>[]
 | (k,v) :: r=>(k,XU kp kr v) :: XhM kp kr r
def Xbe(l:List (Nat×AV))(m:List (Nat×List AV))(kp kr:Pl->Bool):St.filt ⟨E l,B m⟩ kp kr=⟨E (XgN kp kr l),B (XhM kp kr m)⟩:=by
 simp only[St.filt,St.mk.injEq]
 constructor
 ·funext t
  induction l with
  | nil=>rfl
  | cons x r ih=>obtain⟨k,v⟩:=x; simp only[XgN,XaA]; split<;>simp_all
 ·funext t
  induction m with
  | nil=>rfl
  | cons x r ih=>obtain⟨k,v⟩:=x; simp only[XhM,Xbd]; split<;>simp_all
def Xfr(f:Nat->AV):List Nat->List (Nat×AV)
 | []=>[]
 | k :: r=>(k,f k) :: Xfr f r
def Xin(f:Nat->List AV):List Nat->List (Nat×List AV)
 | []=>[]
 | k :: r=>(k,f k) :: Xin f r
def XgO(ks bs:List Nat)(st:St):keep (some (ks,bs)) st=⟨E (Xfr (st.filt (within ks bs) (within ks bs)).env ks),B (Xin (st.filt (within ks bs) (within ks bs)).bx bs)⟩:=by
 simp only[keep,St.mk.injEq]
 generalize st.filt (within ks bs) (within ks bs)=s
 constructor
 ·funext t
  induction ks with
  | nil=>rfl
  | cons k r ih =>
   simp only[Xfr,XaA,List.contains_cons]
   by_cases h:t=k
   ·subst h; simp
   ·simp[h,<-ih]
 ·funext t
  induction bs with
  | nil=>rfl
  | cons k r ih =>
   simp only[Xin,Xbd,List.contains_cons]
   by_cases h:t=k
   ·subst h; simp
   ·simp[h,<-ih]
def XgP(st:St):keep none st=st:=nr rfl
def Xko(ks:List Nat)(l:List (Nat×AV))(m:List (Nat×List AV)):trim ks ⟨E l,B m⟩=⟨E (Xfr (E (XgN (inE ks) (inE ks) l)) ks),B (XhM (inE ks) (inE ks) m)⟩:=by
 simp only[trim,Xbe,St.mk.injEq,and_true]
 generalize E (XgN (inE ks) (inE ks) l)=s
 funext t
 induction ks with
 | nil=>rfl
 | cons k r ih =>
  simp only[Xfr,XaA,List.contains_cons]
  by_cases h:t=k
  ·subst h; simp
  ·simp[h,<-ih]
variable {R : Type}
def Xc{α:Type}(x:Option α)(k:α->Option R):Option R:=match x with
 | some a=>k a
 | none=>none
def ZW{α:Type}(a:α)(k:α->Option R):Xc (some a) k=k a:=nr rfl
def Xfs{α:Type}(k:α->Option R):Xc none k=none:=nr rfl
@[congr] def Xkp{α:Type}{x y:Option α}{k:α->Option R}(h:x=y):Xc x k=Xc y k:=by rw[h]
def XgQ{α:Type}(c:Prop)[Decidable c](x y:Option α)(k:α->Option R):Xc (if c then x else y) k=if c then Xc x k else Xc y k:=by split<;>rfl
def Yf{α β:Type}(x:Option α)(f:α->Option β):Yh x f=Xc x f:=by cases x<;>rfl
@[congr] def Xio{cx:Cx}{ops:List Oper}{cs:List (Option (List Nat))}{st st':St}{l:List Oper}(h:st=st'):XI cx ops cs st l=XI cx ops cs st' l:=by rw[h]
@[congr] def XjJ{cx:Cx}{st st':St}{o:Oper}(h:st=st'):Xg cx st o=Xg cx st' o:=by rw[h]
@[congr] def XjK{cx:Cx}{blk:Nat}{c:Code}{st st':St}(h:st=st'):Xl cx blk c st=Xl cx blk c st':=by rw[h]
def upE(st:St)(d:Nat)(v:AV):St:=⟨upd st.env d v,st.bx⟩
def XeW(st:St)(d:Nat):upE st d (st.env d)=st:=by
 have:upd st.env d (st.env d)=st.env:=by funext x; unfold upd; split<;>simp_all
 simp only[upE,this]
def XjL(a:AV)(x y z xs ys:Option St):Option St:=match a with
 | .b true=>x
 | .b false=>y
 | .no=>z
 | _=>none
def Xdc(d:Option Nat)(k:Nat->Option St):Option St:=match d with
 | some d=>k d
 | none=>none
@[congr] def XjM{a a':AV}{x y z xs ys:Option St}(h:a=a'):XjL a x y z xs ys=XjL a' x y z xs ys:=by rw[h]
@[congr] def XjN{d d':Option Nat}{k:Nat->Option St}(h:d=d'):Xdc d k=Xdc d' k:=by rw[h]
def Xbf(d:Nat)(k:Nat->Option St):Xdc (some d) k=k d:=nr rfl
@[congr] def Xkq{l:List Oper}{n:Nat}:Ql l n=Ql l n:=rfl
def XbZ(d op t pos aft g r):Ql (⟨d,op,t,pos,aft,g⟩ :: r) 0=d:=nr rfl
def Xb0(o:Oper)(r:List Oper)(n:Nat):Ql (o :: r) (n+1)=Ql r n:=nr rfl
def opS(cx:Cx)(ops:List Oper)(cs:List (Option (List Nat)))(st:St)(o:Oper)(r:List Oper):Option St:=match wanted ops st o with
 | some true=>Xc (Xg cx st o) (λst'=>XI cx ops cs st' r)
 | some false=>XI cx ops cs (st.put? o.dst .no) r
 | none=>none
@[congr] def Xmr{cx:Cx}{ops:List Oper}{cs:List (Option (List Nat))}{st st':St}{o:Oper}{r:List Oper}(h:st=st'):opS cx ops cs st o r=opS cx ops cs st' o r:=by rw[h]
def Xec(cx:Cx)(ops:List Oper)(cs:List (Option (List Nat)))(st:St):XI cx ops cs st []=some st:=by simp only[XI]
def Xdd(cx:Cx)(ops:List Oper)(c:Option (List Nat))(cs:List (Option (List Nat)))(st:St)(o:Oper)(r:List Oper):XI cx ops (c :: cs) st (o :: r)=opS cx ops cs (trim? c st) o r:=by
 simp only[XI,opS,hd?,List.tail_cons,Xc]
 cases wanted ops (trim? c st) o with
 | none=>rfl
 | some b =>
  cases b<;>try rfl
  simp only[]; cases Xg cx (trim? c st) o<;>rfl
def Xcv(cx:Cx)(ops:List Oper)(st:St)(o:Oper)(r:List Oper):XI cx ops [] st (o :: r)=opS cx ops [] st o r:=by
 simp only[XI,opS,hd?,List.tail_nil,Xc,trim?]
 cases wanted ops st o with
 | none=>rfl
 | some b =>
  cases b<;>try rfl
  simp only[]; cases Xg cx st o<;>rfl
section
variable (cx : Cx) (ops : List Oper) (cs : List (Option (List Nat))) (st : St) (d : Option Nat) (op : Op) (t : TypeId) (pos : String) (aft : Array Edge) (j : Nat) (r : List Oper)
def XgR:opS cx ops cs st ⟨d,op,t,pos,aft,none⟩ r=Xc (Xg cx st ⟨d,op,t,pos,aft,none⟩) (λst'=>XI cx ops cs st' r):=nr rfl
def QX(cx:Cx)(ops:List Oper)(cs:List (Option (List Nat)))(st:St)(o:Oper)(r:List Oper)(want:Bool)(g:Nat)(a:AV):Option St:=match a with
 | .b b=>if b=want then Xc (Xg cx st o) (λst'=>XI cx ops cs st' r) else XI cx ops cs (st.put? o.dst .no) r
 | .no=>XI cx ops cs (st.put? o.dst .no) r
 | _=>none
@[congr] def XjO{cx:Cx}{ops:List Oper}{cs:List (Option (List Nat))}{st:St}{o:Oper}{r:List Oper}{want:Bool}{g:Nat}{a a':AV}(h:a=a'):QX cx ops cs st o r want g a=QX cx ops cs st o r want g a':=by rw[h]
def XgS(want:Bool):opS cx ops cs st ⟨d,op,t,pos,aft,some (j,want)⟩ r=Xdc (Ql ops j) (λg=>QX cx ops cs st ⟨d,op,t,pos,aft,some (j,want)⟩ r want g (st.env g)):=by
 simp only[opS,wanted,Xdc]
 cases Ql ops j with
 | none=>rfl
 | some g =>
  simp only[QX]
  cases st.env g with
  | b b=>cases b<;>cases want<;>rfl
  | _=>rfl
end
section
variable (cx : Cx) (ops : List Oper) (cs : List (Option (List Nat))) (st : St) (o : Oper) (r : List Oper) (g : Nat)
def Xde:QX cx ops cs st o r true g (.b true)=Xc (Xg cx st o) (λst'=>XI cx ops cs st' r):=nr rfl
def Xdf:QX cx ops cs st o r false g (.b false)=Xc (Xg cx st o) (λst'=>XI cx ops cs st' r):=nr rfl
def Xdg:QX cx ops cs st o r true g (.b false)=XI cx ops cs (st.put? o.dst .no) r:=nr rfl
def Xdh:QX cx ops cs st o r false g (.b true)=XI cx ops cs (st.put? o.dst .no) r:=nr rfl
def Xdi(want:Bool):QX cx ops cs st o r want g .no=XI cx ops cs (st.put? o.dst .no) r:=nr rfl
def opU(cx:Cx)(ops:List Oper)(cs:List (Option (List Nat)))(st:St)(o:Oper)(r:List Oper):Option St:=Xc (Xg cx st o) (λst'=>XI cx ops cs st' r)
def skU(cx:Cx)(ops:List Oper)(cs:List (Option (List Nat)))(st:St)(o:Oper)(r:List Oper):Option St:=XI cx ops cs (st.put? o.dst .no) r
@[congr] def Xms{cx:Cx}{ops:List Oper}{cs:List (Option (List Nat))}{st st':St}{o:Oper}{r:List Oper}(h:st=st'):opU cx ops cs st o r=opU cx ops cs st' o r:=by rw[h]
@[congr] def Xmt{cx:Cx}{ops:List Oper}{cs:List (Option (List Nat))}{st st':St}{o:Oper}{r:List Oper}(h:st=st'):skU cx ops cs st o r=skU cx ops cs st' o r:=by rw[h]
end
def Xip(cx:Cx)(ops:List Oper)(cs:List (Option (List Nat)))(l:List (Nat×AV))(m:List (Nat×List AV))(o:Oper)(r:List Oper)(g:Nat)(want b:Bool)(h:E l g=.b b) :
  QX cx ops cs ⟨E l,B m⟩ o r want g (.b b) =
   if b=true then(if want=true then opU cx ops cs ⟨E ((g,.b true) :: l),B m⟩ o r else skU cx ops cs ⟨E ((g,.b true) :: l),B m⟩ o r)
   else(if want=true then skU cx ops cs ⟨E ((g,.b false) :: l),B m⟩ o r else opU cx ops cs ⟨E ((g,.b false) :: l),B m⟩ o r):=by
 have hs:(⟨E ((g,.b b) :: l),B m⟩:St)=⟨E l,B m⟩:=by
  have:=XeW ⟨E l,B m⟩ g
  simp only[upE,Xeb,h] at this
  exact this
 cases b<;>cases want<;>simp only[QX,opU,skU,hs,if_true,if_false,Bool.false_eq_true,reduceCtorEq]
def jA(c:Prop)[Decidable c](a b:AV):AV:=if c then a else b
section
variable (c : Prop) [Decidable c]
def Xkr(a:AV):jA c a a=a:=by unfold jA; split<;>rfl
def Xpp(x y:Bool):jA c (.b x) (.b y)=.b (if c then x else y):=by unfold jA; split<;>rfl
def Xpq(k:IntKind)(x y:Int):jA c (.i k x) (.i k y)=.i k (if c then x else y):=by unfold jA; split<;>rfl
def Xpr(x y:ByteArray):jA c (.s x) (.s y)=.s (if c then x else y):=by unfold jA; split<;>rfl
def XnI(t:Tag)(z:Nat)(x y:List (List AV)):jA c (.sl t z x) (.sl t z y)=.sl t z (if c then x else y):=by unfold jA; split<;>rfl
def jL(c:Prop)[Decidable c]:List AV->List AV->List AV
 | a :: l,b :: r=>jA c a b :: jL c l r
 | _,_=>[]
def QF:List AV->List AV->Bool
 | _ :: l,_ :: r=>QF l r
 | [],[]=>true
 | _,_=>false
def Xiq:∀(x y:List AV),QF x y=true->(if c then x else y)=jL c x y
 | [],[],_=>by simp[jL]
 | a :: l,b :: r,h=>by
  have ih:=Xiq l r (by simpa[QF] using h)
  simp only[jL,jA,<-ih]
  split<;>rfl
 | [],_ :: _,h=>by simp[QF] at h
 | _ :: _,[],h=>by simp[QF] at h
def Xmu(x y:List AV)(h:QF x y=true):jA c (.agg x) (.agg y)=.agg (jL c x y):=by rw[<-Xiq c x y h]; unfold jA; split<;>rfl
def Xks(x:List AV):jL c x x=x:=by
 rw[<-Xiq c x x (by induction x<;>simp_all [QF])]; simp
def jE(c:Prop)[Decidable c]:List (Nat×AV)->List (Nat×AV)->List (Nat×AV)
 | (k,a) :: l,(_,b) :: r=>(k,jA c a b) :: jE c l r
 | _,_=>[]
def jB(c:Prop)[Decidable c]:List (Nat×List AV)->List (Nat×List AV)->List (Nat×List AV)
 | (k,a) :: l,(_,b) :: r=>(k,jL c a b) :: jB c l r
 | _,_=>[]
def Xdj:List (Nat×AV)->List (Nat×AV)->Bool
 | (k,_) :: l,(k',_) :: r=>k==k'&&Xdj l r
 | [],[]=>true
 | _,_=>false
def Xdk:List (Nat×List AV)->List (Nat×List AV)->Bool
 | (k,a) :: l,(k',b) :: r=>k==k'&&(QF a b&&Xdk l r)
 | [],[]=>true
 | _,_=>false
def Xkt:∀(x y:List (Nat×AV)),Xdj x y=true->(if c then E x else E y)=E (jE c x y)
 | [],[],_=>by simp[jE]
 | (k,a) :: l,(k',b) :: r,h=>by
  simp only[Xdj,Bool.and_eq_true,beq_iff_eq] at h
  obtain⟨rfl,h⟩:=h
  have ih:=Xkt l r h
  funext t
  have ih':=congrFun ih t
  simp only[jE,jA]
  rw[XaA,<-ih']
  split<;>simp only[XaA]
 | [],_ :: _,h=>by simp[Xdj] at h
 | _ :: _,[],h=>by simp[Xdj] at h
def Xku:∀(x y:List (Nat×List AV)),Xdk x y=true->(if c then B x else B y)=B (jB c x y)
 | [],[],_=>by simp[jB]
 | (k,a) :: l,(k',b) :: r,h=>by
  simp only[Xdk,Bool.and_eq_true,beq_iff_eq] at h
  obtain⟨rfl,h1,h⟩:=h
  have ih:=Xku l r h
  funext t
  have ih':=congrFun ih t
  simp only[jB]
  rw[Xbd,<-ih',<-Xiq c a b h1]
  split<;>simp only[Xbd]
 | [],_ :: _,h=>by simp[Xdk] at h
 | _ :: _,[],h=>by simp[Xdk] at h
def Xkv(x y:List (Nat×AV))(m n:List (Nat×List AV))(h:Xdj x y=true)(h':Xdk m n=true):(if c then some (⟨E x,B m⟩:St) else some ⟨E y,B n⟩)=some ⟨E (jE c x y),B (jB c m n)⟩:=by
 rw[<-Xkt c x y h,<-Xku c m n h']; split<;>rfl
def Xkw(e:Ex)(x y:List (Nat×AV))(m n:List (Nat×List AV))(h:Xdj x y=true)(h':Xdk m n=true):(if c then some (e,(⟨E x,B m⟩:St)) else some (e,⟨E y,B n⟩))=some (e,⟨E (jE c x y),B (jB c m n)⟩):=by
 rw[<-Xkt c x y h,<-Xku c m n h']; split<;>rfl
end
def Xed(cx:Cx)(blk:Nat)(st:St):Xl cx blk .skip st=some (.nor,st):=nr rfl
def Xee(cx:Cx)(blk id:Nat)(st:St):Xl cx blk (.exit id) st=some (.ex id,keep (cx.out id) st):=nr rfl
def Xft(cx:Cx)(blk:Nat)(st:St):Xl cx blk .ret st=some (.ret,keep cx.rets st):=nr rfl
def Xir(x:Option St):Option (Ex×St):=match x with
 | some s=>some (.nor,s)
 | none=>none
def XgT(s:St):Xir (some s)=some (.nor,s):=nr rfl
def XgU:Xir none=none:=nr rfl
def Xis(c:Prop)[Decidable c](x y:Option St):Xir (if c then x else y)=if c then Xir x else Xir y:=by split<;>rfl
def Xcw(cx:Cx)(blk id:Nat)(l:List Oper)(st:St):Xl cx blk (.region id (List.toArray l) false) st=Xir (Xc (XI cx l (cx.cuts id) st l) (λs=>weakW (keep (cx.rg id) s) (cx.ws id))):=by
 simp only[Xl,Xc,Xir,XlE,Bool.false_eq_true,if_false]
 cases XI cx l (cx.cuts id) st l<;>rfl
def Xef(cx:Cx)(blk id:Nat)(l:List Oper)(st:St):Xl cx blk (.region id (List.toArray l) true) st=Xir (Xc (Xc (cx.plan id) (λp=>Yj cx id l p st)) (λs=>weakW s (cx.ws id))):=by
 simp only[Xl,if_true,Xir,XlE,Yf]
 cases cx.plan id with
 | none=>rfl
 | some p=>simp only[Xc]; cases Yj cx id l p st<;>rfl
@[congr] def Xkx{st st':St}{l l':List (Bool×Nat×Nat)}(h:st=st')(h2:l=l'):weakW st l=weakW st' l':=by rw[h,h2]
def XgV(st:St):weakW st []=some st:=nr rfl
def Xky(st:St)(r c:Nat)(l:List (Bool×Nat×Nat)):weakW st ((true,r,c) :: l)=Xc (weakArg st (.tmp r)) (λs=>weakW s l):=by simp only[weakW,Yf]
def Xfu(st:St)(b c:Nat):Option AV->Option St
 | some (.sl .mut z es)=>weakLeaf st (.rf ⟨false,b,[],c⟩ z 0 es.length)
 | _=>some st
def XgW(st:St)(b c z:Nat)(es:List (List AV)):Xfu st b c (some (.sl .mut z es))=weakLeaf st (.rf ⟨false,b,[],c⟩ z 0 es.length):=nr rfl
def XgX(st:St)(b c z:Nat)(es:List (List AV)):Xfu st b c (some (.sl .app z es))=some st:=nr rfl
def Xit(st:St)(b c z:Nat)(es:List (List AV)):Xfu st b c (some (.sl .ro z es))=some st:=nr rfl
def Xkz(st:St)(b c:Nat):Xfu st b c (some .u)=some st:=nr rfl
def XkA(st:St)(r c:Nat)(l:List (Bool×Nat×Nat)):weakW st ((false,r,c) :: l)=Xc (Xfu st r c (st.bx r)[c]?) (λs=>weakW s l):=by simp only[weakW,weakAt,Xfu,Yf]; rfl
def Xeg(cx:Cx)(id:Nat)(ops:List Oper)(st:St):Yj cx id ops .done st=some (keep (cx.rg id) st):=nr rfl
def Xeh(cx:Cx)(id:Nat)(ops:List Oper)(i:Nat)(p:Xbs)(st:St):Yj cx id ops (.take i p) st=Xc (Qv ops i) (λo=>XaZ (XcT o.op) (Xc (ZH cx ops st o) (λs=>Yj cx id ops p s))):=by
 simp only[Yj,Yf]
def Xfv(cx:Cx)(id:Nat)(ops:List Oper)(i:Nat)(p:Xbs)(st:St):Yj cx id ops (.one i p) st=Xc (Qv ops i) (λo=>XaZ (QR cx o.op||Qk cx st o.op) (Xc (ZH cx ops st o) (λs=>Yj cx id ops p s))):=by
 simp only[Yj,Yf]
def Xfw(cx:Cx)(id:Nat)(ops:List Oper)(i:Nat)(p q:Xbs)(st:St):Yj cx id ops (.alt i p q) st=Xfj (Yj cx id ops (.one i p) st) (Yj cx id ops q st):=nr rfl
def Xfx(o:Oper)(r:List Oper):Qv (o :: r) 0=some o:=nr rfl
def Xfy(o:Oper)(r:List Oper)(n:Nat):Qv (o :: r) (n+1)=Qv r n:=nr rfl
def Xfz(x:Option St):XaZ true x=x:=nr rfl
@[congr] def XkB{p p':Bool}{x:Option St}(h:p=p'):XaZ p x=XaZ p' x:=by rw[h]
def XfA(x:Option St):Xfj x x=x:=by unfold Xfj; rw[if_pos rfl]
def Xdl(cx:Cx)(ops:List Oper)(st:St)(d:Option Nat)(op:Op)(t:TypeId)(pos:String)(aft:Array Edge):ZH cx ops st ⟨d,op,t,pos,aft,none⟩=Xg cx st ⟨d,op,t,pos,aft,none⟩:=nr rfl
def XaD(cx:Cx)(ops:List Oper)(st:St)(o:Oper)(want:Bool)(g:Nat)(a:AV):Option St:=match a with
 | .b b=>if b=want then Xg cx st o else some (st.put? o.dst .no)
 | .no=>some (st.put? o.dst .no)
 | _=>none
@[congr] def XkC{cx:Cx}{ops:List Oper}{st:St}{o:Oper}{want:Bool}{g:Nat}{a a':AV}(h:a=a'):XaD cx ops st o want g a=XaD cx ops st o want g a':=by rw[h]
def XkD(cx:Cx)(ops:List Oper)(st:St)(o:Oper)(want:Bool)(d:Option Nat):Option St:=match d with
 | some d=>XaD cx ops st o want d (st.env d)
 | none=>none
def XfB(cx:Cx)(ops:List Oper)(st:St)(o:Oper)(want:Bool)(d:Nat):XkD cx ops st o want (some d)=XaD cx ops st o want d (st.env d):=nr rfl
def Xiu(cx:Cx)(ops:List Oper)(st:St)(o:Oper)(g:Nat):XaD cx ops st o true g (.b true)=Xg cx st o:=nr rfl
def Xiv(cx:Cx)(ops:List Oper)(st:St)(o:Oper)(g:Nat):XaD cx ops st o false g (.b false)=Xg cx st o:=nr rfl
def Xiw(cx:Cx)(ops:List Oper)(st:St)(o:Oper)(g:Nat):XaD cx ops st o true g (.b false)=some (st.put? o.dst .no):=nr rfl
def Xix(cx:Cx)(ops:List Oper)(st:St)(o:Oper)(g:Nat):XaD cx ops st o false g (.b true)=some (st.put? o.dst .no):=nr rfl
def Xiy(cx:Cx)(ops:List Oper)(st:St)(o:Oper)(want:Bool)(g:Nat):XaD cx ops st o want g .no=some (st.put? o.dst .no):=nr rfl
def stU(cx:Cx)(st:St)(o:Oper):Option St:=Xg cx st o
def skS(st:St)(o:Oper):Option St:=some (st.put? o.dst .no)
@[congr] def Xmv{cx:Cx}{st st':St}{o:Oper}(h:st=st'):stU cx st o=stU cx st' o:=by rw[h]
@[congr] def Xmw{st st':St}{o:Oper}(h:st=st'):skS st o=skS st' o:=by rw[h]
def XkE(cx:Cx)(ops:List Oper)(l:List (Nat×AV))(m:List (Nat×List AV))(o:Oper)(want:Bool)(g:Nat)(b:Bool)(h:E l g=.b b) :
  XaD cx ops ⟨E l,B m⟩ o want g (.b b) =
   if b=true then(if want=true then stU cx ⟨E ((g,.b true) :: l),B m⟩ o else skS ⟨E ((g,.b true) :: l),B m⟩ o)
   else(if want=true then skS ⟨E ((g,.b false) :: l),B m⟩ o else stU cx ⟨E ((g,.b false) :: l),B m⟩ o):=by
 have hs:(⟨E ((g,.b b) :: l),B m⟩:St)=⟨E l,B m⟩:=by
  have:=XeW ⟨E l,B m⟩ g
  simp only[upE,Xeb,h] at this
  exact this
 cases b<;>cases want<;>simp only[XaD,stU,skS,hs,if_true,if_false,Bool.false_eq_true,reduceCtorEq]
def Xdm(cx:Cx)(ops:List Oper)(st:St)(d:Option Nat)(op:Op)(t:TypeId)(pos:String)(aft:Array Edge)(j:Nat)(want:Bool):ZH cx ops st ⟨d,op,t,pos,aft,some (j,want)⟩=XkD cx ops st ⟨d,op,t,pos,aft,some (j,want)⟩ want (Ql ops j):=by
 unfold ZH wanted XkD XaD
 simp only
 cases Ql ops j with
 | none=>rfl
 | some d =>
  simp only
  cases st.env d with
  | b b =>
   cases b<;>cases want<;>rfl
  | _=>rfl
def Xbg(x:Option (Ex×St))(k:St->Option (Ex×St)):Option (Ex×St):=match x with
 | some (.nor,st)=>k st
 | some (.ex j,st)=>some (.ex j,st)
 | some (.ret,st)=>some (.ret,st)
 | none=>none
@[congr] def XlG{x y:Option (Ex×St)}{k:St->Option (Ex×St)}(h:x=y):Xbg x k=Xbg y k:=by rw[h]
def XeX(st:St)(k:St->Option (Ex×St)):Xbg (some (.nor,st)) k=k st:=nr rfl
def XeY(st:St)(k:St->Option (Ex×St)):Xbg (some (.ret,st)) k=some (.ret,st):=nr rfl
def XgY(j:Nat)(st:St)(k:St->Option (Ex×St)):Xbg (some (.ex j,st)) k=some (.ex j,st):=nr rfl
def XgZ(k:St->Option (Ex×St)):Xbg none k=none:=nr rfl
def Xiz(c:Prop)[Decidable c](x y:Option (Ex×St))(k:St->Option (Ex×St)):Xbg (if c then x else y) k=if c then Xbg x k else Xbg y k:=by split<;>rfl
def XfC(cx:Cx)(blk:Nat)(a b:Code)(st:St):Xl cx blk (.seq a b) st=Xbg (Xl cx blk a st) (λs=>Xl cx blk b s):=by
 simp only[Xl]
 cases Xl cx blk a st with
 | none=>rfl
 | some x=>obtain⟨e,s⟩:=x; cases e<;>rfl
def XjP(id:Nat)(x:Option (Ex×St)):Option (Ex×St):=match x with
 | some (.ex j,st)=>if j=id then some (.nor,st) else some (.ex j,st)
 | some (.nor,st)=>some (.nor,st)
 | some (.ret,st)=>some (.ret,st)
 | none=>none
def XiA(id:Nat)(st:St):XjP id (some (.nor,st))=some (.nor,st):=nr rfl
def XiB(id:Nat)(st:St):XjP id (some (.ret,st))=some (.ret,st):=nr rfl
def XkF(id j:Nat)(st:St):XjP id (some (.ex j,st))=if j=id then some (.nor,st) else some (.ex j,st):=nr rfl
def Xg0(id:Nat):XjP id none=none:=nr rfl
def XiC(id:Nat)(c:Prop)[Decidable c](x y:Option (Ex×St)):XjP id (if c then x else y)=if c then XjP id x else XjP id y:=by split<;>rfl
def Xdn(cx:Cx)(blk id:Nat)(c:Code)(st:St):Xl cx blk (.block id c) st=XjP id (Xl cx id c st):=by
 simp only[Xl]
 cases Xl cx id c st with
 | none=>rfl
 | some x=>obtain⟨e,s⟩:=x; cases e<;>rfl
def Xei(a:AV)(x y:Option (Ex×St)):Option (Ex×St):=match a with
 | .b b=>if b=true then x else y
 | _=>none
@[congr] def XkG{a a':AV}{x y:Option (Ex×St)}(h:a=a'):Xei a x y=Xei a' x y:=by rw[h]
def Xb1(x y:Option (Ex×St)):Xei (.b true) x y=x:=nr rfl
def Xbh(x y:Option (Ex×St)):Xei (.b false) x y=y:=nr rfl
def XkH(b:Bool)(x y:Option (Ex×St)):Xei (.b b) x y=if b=true then x else y:=nr rfl
def Xej(cx:Cx)(blk:Nat)(c:Operand)(a b:Code)(st:St):Xl cx blk (.cond c a b) st=Xei (view st c) (Xl cx blk a st) (Xl cx blk b st):=by
 simp only[Xl,Xei]
 cases view st c with
 | b x=>cases x<;>rfl
 | _=>rfl
noncomputable def XaE(cx:Cx)(blk:Nat)(c:Code)(n:Nat)(st:St):Option (Ex×St):=XjA (λst=>Xl cx blk c (keep (cx.live blk) st)) n st
@[congr] def XkI{cx:Cx}{blk:Nat}{c:Code}{n:Nat}{st st':St}(h:st=st'):XaE cx blk c n st=XaE cx blk c n st':=by rw[h]
def Xek(cx:Cx)(blk:Nat)(c:Code)(st:St):Xl cx blk (.loop c) st=XaE cx blk c cx.rounds st:=nr rfl
def Xaj(cx:Cx)(blk:Nat)(c:Code)(n:Nat)(st:St):XaE cx blk c (n+1) st=Xbg (Xl cx blk c (keep (cx.live blk) st)) (λs=>XaE cx blk c n s):=by
 simp only[XaE,XjA]
 cases Xl cx blk c (keep (cx.live blk) st) with
 | none=>rfl
 | some x=>obtain⟨e,s⟩:=x; cases e<;>rfl
def XhN(cx:Cx)(md:List Md)(rv:List ResultVar)(x:Option (Ex×St)):Option (AV×List AV):=match x with
 | some (.nor,st)=>ZI cx md rv st
 | some (.ret,st)=>ZI cx md rv st
 | _=>none
def XiD(cx:Cx)(md:List Md)(rv:List ResultVar)(st:St):XhN cx md rv (some (.nor,st))=ZI cx md rv st:=nr rfl
def XiE(cx:Cx)(md:List Md)(rv:List ResultVar)(st:St):XhN cx md rv (some (.ret,st))=ZI cx md rv st:=nr rfl
def Xg1(cx:Cx)(md:List Md)(rv:List ResultVar):XhN cx md rv none=none:=nr rfl
def XiF(cx:Cx)(md:List Md)(rv:List ResultVar)(c:Prop)[Decidable c](x y:Option (Ex×St)):XhN cx md rv (if c then x else y)=if c then XhN cx md rv x else XhN cx md rv y:=by split<;>rfl
def Xg2(cx:Cx)(md:List Md)(f:Func)(args:List AV)(c:Code)(rv:List ResultVar)(h:f.body=some c)(hr:f.results=rv.toArray)(hz:cx.nz=false):Qm cx md f args=XhN cx md rv (Xl cx 0 c (QM md args)):=by
 simp only[Qm,h,hr,evB,hz,Bool.false_eq_true,if_false]
 cases Xl cx 0 c (QM md args) with
 | none=>rfl
 | some x=>obtain⟨e,s⟩:=x; cases e<;>rfl
def XfD(cx:Cx)(md:List Md)(f:Func)(args:List AV)(c:Code)(rv:List ResultVar)(h:f.body=some c)(hr:f.results=rv.toArray)(hz:cx.nz=true):Qm cx md f args=XhN cx md rv (evN cx c (λs=>some (.nor,s)) (QM md args)):=by
 simp only[Qm,h,hr,evB,hz,if_true]
 cases evN cx c (λs=>some (.nor,s)) (QM md args) with
 | none=>rfl
 | some x=>obtain⟨e,s⟩:=x; cases e<;>rfl
@[congr] def Xmx{cx:Cx}{c:Code}{K:St->Option (Ex×St)}{st st':St}(h:st=st'):evN cx c K st=evN cx c K st':=by rw[h]
def XiG(cx:Cx)(K:St->Option (Ex×St))(st:St):evN cx .skip K st=K st:=nr rfl
def XkJ(cx:Cx)(a b:Code)(K:St->Option (Ex×St))(st:St):evN cx (.seq a b) K st=evN cx a (λs=>evN cx b K s) st:=nr rfl
noncomputable def XkK(a:AV)(x y:Option (Ex×St)):Option (Ex×St):=match a with
 | .b true=>x
 | .b false=>y
 | .ub=>XdU x y
 | _=>none
@[congr] def XlH{a a':AV}{x y:Option (Ex×St)}(h:a=a'):XkK a x y=XkK a' x y:=by rw[h]
def Xdo(x y:Option (Ex×St)):XkK (.b true) x y=x:=nr rfl
def Xb2(x y:Option (Ex×St)):XkK (.b false) x y=y:=nr rfl
def XkL(x y:Option (Ex×St)):XkK .ub x y=XdU x y:=nr rfl
def XfE(x:Option (Ex×St)):XdU x x=x:=by unfold XdU; rw[if_pos rfl]
def XiH(cx:Cx)(c:Operand)(a b:Code)(K:St->Option (Ex×St))(st:St):evN cx (.cond c a b) K st=XkK (view st c) (evN cx a K st) (evN cx b K st):=by
 simp only[evN,XkK]
 cases view st c with
 | b x=>cases x<;>rfl
 | _=>rfl
def XkM(cx:Cx)(K:St->Option (Ex×St))(st:St):evN cx .ret K st=some (.ret,keep cx.rets st):=nr rfl
def XfF(cx:Cx)(id:Nat)(ops:Array Oper)(d:Bool)(K:St->Option (Ex×St))(st:St):evN cx (.region id ops d) K st=Xbg (Xl cx 0 (.region id ops d) st) (λs=>K s):=by
 simp only[evN,XbJ]
 cases Xl cx 0 (.region id ops d) st with
 | none=>rfl
 | some x=>obtain⟨e,s⟩:=x; cases e<;>rfl
def XnJ(md:List Md)(p:List AV×St):Option (AV×List AV):=if(p.1.all X8&&(Xa0 p.2 md 0).all X8&&QJ md (Xa0 p.2 md 0))=true then some (one p.1,Xa0 p.2 md 0) else none
def Xm9(cx:Cx)(md:List Md)(rv:List ResultVar)(st:St):Option (List AV)->Option (AV×List AV)
 | some cs=>Xmf md st cs
 | none=>Xc (XaC cx st rv) (XnJ md)
def XiI(cx:Cx)(md:List Md)(rv:List ResultVar)(st:St):ZI cx md rv st=Xm9 cx md rv st (Xby md st rv):=by
 simp only[ZI,Xm9]
 cases Xby md st rv with
 | some cs=>rfl
 | none =>
  simp only[Xm7,Xc]
  cases XaC cx st rv<;>rfl
def Xg3(cx:Cx)(md:List Md)(rv:List ResultVar)(st:St)(cs:List AV):Xm9 cx md rv st (some cs)=Xmf md st cs:=nr rfl
def Xg4(cx:Cx)(md:List Md)(rv:List ResultVar)(st:St):Xm9 cx md rv st none=Xc (XaC cx st rv) (XnJ md):=nr rfl
def XkN(md:List Md)(st:St)(cs:List AV):Xmf md st cs=if(cs.all XP&&!cs.isEmpty&&(Xa0 st md 0).all X8&&QJ md (Xa0 st md 0))=true then some (.tup [.agg cs],Xa0 st md 0) else none:=nr rfl
def Xg5(md:List Md)(st:St):Xby md st []=none:=nr rfl
def Xg6(md:List Md)(st:St)(t:Nat):Xby md st [.tmp t]=npP md st (st.env t):=nr rfl
def XfG(md:List Md)(st:St)(a t:Nat):Xby md st [.cell a t]=none:=nr rfl
def Xg7(md:List Md)(st:St)(a b:ResultVar)(l:List ResultVar):Xby md st (a :: b :: l)=none:=by cases a<;>rfl
def XnK(md:List Md)(st:St)(q:Pl):npP md st (.p q)=if(!q.e&&q.path.isEmpty&&q.c==0&&decide (md.length<=q.r))=true then some (st.bx q.r) else none:=nr rfl
def XkO(md:List Md)(l:List AV)(st:St):XnJ md (l,st)=if(l.all X8&&(Xa0 st md 0).all X8&&QJ md (Xa0 st md 0))=true then some (one l,Xa0 st md 0) else none:=nr rfl
def XiJ(cx:Cx)(st:St):XaC cx st []=some ([],st):=nr rfl
def XnL(v:AV)(p:List AV×St):Option (List AV×St):=some (v :: p.1,p.2)
def XkP(v:AV)(l:List AV)(st:St):XnL v (l,st)=some (v :: l,st):=nr rfl
def Xg8(cx:Cx)(st:St)(t:Tmp)(r:List ResultVar):XaC cx st (.tmp t :: r)=Xc (take st (.tmp t)) (λp=>Xc (XaC cx p.2 r) (XnL p.1)):=by
 simp only[XaC,Xc]
 cases take st (.tmp t) with
 | none=>rfl
 | some p=>obtain⟨v,s⟩:=p; simp only; cases XaC cx s r<;>rfl
def Xg9(cx:Cx)(st:St)(a t:Nat)(r:List ResultVar):XaC cx st (.cell a t :: r)=Xc (cx.T t) (λti=>Xc (loadAt st ti (view st (.tmp a))) (λv=>Xc (takeVal st v) (λp=>Xc (XaC cx p.2 r) (XnL p.1)))):=by
 simp only[XaC,Yf,Xc]
 cases cx.T t with
 | none=>rfl
 | some ti =>
  simp only
  cases loadAt st ti (view st (.tmp a)) with
  | none=>rfl
  | some v =>
   simp only
   cases takeVal st v with
   | none=>rfl
   | some p=>obtain⟨v,s⟩:=p; simp only; cases XaC cx s r<;>rfl
def XkQ:List Md->List AV->Nat->List (Nat×AV)
 | .rw _ :: ms,_ :: as,j=>(j,.p ⟨false,j,[],0⟩) :: XkQ ms as (j+1)
 | .ro _ :: ms,a :: as,j=>(j,a) :: XkQ ms as (j+1)
 | .mv :: ms,a :: as,j=>(j,a) :: XkQ ms as (j+1)
 | _,_,_=>[]
def XkR:List Md->List AV->Nat->List (Nat×List AV)
 | .rw _ :: ms,a :: as,j=>(j,cellsOf a) :: XkR ms as (j+1)
 | .ro _ :: ms,_ :: as,j=>XkR ms as (j+1)
 | .mv :: ms,_ :: as,j=>XkR ms as (j+1)
 | _,_,_=>[]
def XiK(ms:List Md)(as:List AV):QM ms as=⟨E (XkQ ms as 0),B (XkR ms as 0)⟩:=by
 have h1:∀(ms:List Md) (as:List AV) (j t:Nat),YJ ms as j t=E (XkQ ms as j) t:=by
  intro ms
  induction ms with
  | nil=>intro as j t; cases as<;>rfl
  | cons m ms ih =>
   intro as j t
   cases as with
   | nil=>cases m<;>rfl
   | cons a as=>cases m<;>simp only[YJ,XkQ,XaA,ih]
 have h2:∀(ms:List Md) (as:List AV) (j t:Nat),Yz ms as j t=B (XkR ms as j) t:=by
  intro ms
  induction ms with
  | nil=>intro as j t; cases as<;>rfl
  | cons m ms ih =>
   intro as j t
   cases as with
   | nil=>cases m<;>rfl
   | cons a as=>cases m<;>simp only[Yz,XkR,Xbd,ih]
 simp only[QM,St.mk.injEq]
 exact⟨funext (h1 ms as 0),funext (h2 ms as 0)⟩
section
variable (cx : Cx) (t : TypeId) (pos : String) (aft : Array Edge) (g : Option (Nat × Bool)) (st : St)
def Qa(d:Nat)(x:Option AV):XcJ st (some d) x=Xc x (λv=>some (st.put d v)):=by cases x<;>rfl
def XeZ(d:Nat)(x:Option (AV×St)):setV (some d) x=Xc x (λy=>some (y.2.put d y.1)):=by cases x<;>rfl
def Xmy(d:Option Nat)(x:Option (AV×St)):Xnz d x=Xc x (λy=>putN d y.2 y.1 (UA y.1)):=by cases x<;>rfl
def Xha(d:Option Nat)(st:St)(r:AV):putN d st r none=some (st.put? d r):=nr rfl
def Xhb(d:Nat)(st:St)(r:AV)(cs:List AV):putN (some d) st r (some cs)=Y9 st d cs:=nr rfl
def XkS(cs:List AV):UA (.tup [.agg cs])=some cs:=nr rfl
def XiL:UA (.tup [])=none:=nr rfl
def XiM(a b:AV)(l:List AV):UA (.tup (a :: b :: l))=none:=by cases a<;>rfl
def XkT(st:St)(t:Nat):AV->Option (AV×St)
 | .tup (v :: vs)=>some (.tup (v :: vs),⟨upd st.env t .u,st.bx⟩)
 | _=>none
def Xhc(st:St)(t:Nat)(v:AV)(vs:List AV):XkT st t (.tup (v :: vs))=some (.tup (v :: vs),⟨upd st.env t .u,st.bx⟩):=nr rfl
def Xhd(st:St)(t:Nat):XdT st (.tmp t)=XkT st t (st.env t):=by
 simp only[XdT,XkT]
 cases st.env t with
 | tup vs=>cases vs<;>rfl
 | _=>rfl
def XkU(d:Nat)(x:Operand):Xg cx st ⟨some d,.move x,t,pos,aft,g⟩=if cx.al.contains d=true then Xc (XdT st x) (λy=>some (y.2.put d y.1)) else some (st.put d (fix (zOf cx t) (view st x))):=by
 simp only[Xg,alD,XeZ,St.put?]
def Xhe(d:Nat)(x:Operand):Xg cx st ⟨some d,.assign x,t,pos,aft,g⟩ =
  if cx.al.contains d=true then some (st.put d (fix (zOf cx t) (view st x))) else Xc (take st x) (λy=>some (y.2.put d (fix (zOf cx t) y.1))):=by
 simp only[Xg,Yf,ZW]
def Xel(st:St)(d:Nat)(a x y:AV):Option St:=match a with
 | .b b=>if b=true then some (st.put d x) else some (st.put d y)
 | _=>none
@[congr] def XkV{st:St}{d:Nat}{a a' x y:AV}(h:a=a'):Xel st d a x y=Xel st d a' x y:=by rw[h]
def Xb3(d:Nat)(x y:AV):Xel st d (.b true) x y=some (st.put d x):=nr rfl
def Xbi(d:Nat)(x y:AV):Xel st d (.b false) x y=some (st.put d y):=nr rfl
def XkW(d:Nat)(b:Bool)(x y:AV):Xel st d (.b b) x y=if b=true then some (st.put d x) else some (st.put d y):=nr rfl
def XkX(d:Nat)(c x y:Operand):Xg cx st ⟨some d,.pick c x y,t,pos,aft,g⟩=Xel st d (view st c) (view st x) (view st y):=by
 simp only[Xg,Xel,St.put?]
 cases view st c with
 | b x=>cases x<;>rfl
 | _=>rfl
def XiN(d:Nat)(t':TypeId):Xg cx st ⟨some d,.alloc t',t,pos,aft,g⟩=Xc (cx.T t') (λti=>Y9 st d ti.zero):=Yf _ _
def Xmz(d:Nat)(t':TypeId)(x:Operand):Xg cx st ⟨some d,.box t' x,t,pos,aft,g⟩=Xc (cx.T t') (λti=>if cx.fz.contains d=true then Xc (Xfi ti (fix ti.z (view st x))) (λcs=>QQ st d cs) else if cx.al.contains d=true then Xc (Xfi ti (fix ti.z (view st x))) (λcs=>Y9 st d cs) else Xc (take st x) (λy=>Xc (Xfi ti (fix ti.z y.1)) λcs=>Y9 y.2 d cs)):=by
 simp only[Xg,Yf,ZW]
def XkY(d:Nat)(t':TypeId)(a:Operand):Xg cx st ⟨some d,.load t' a,t,pos,aft,g⟩=Xc (cx.T t') (λti=>Xc (loadAt st ti (view st a)) (λv=>some (st.put d v))):=by
 simp only[Xg,Yf,Qa]
def XiO(t':TypeId)(a x:Operand):Xg cx st ⟨none,.store t' a x,t,pos,aft,g⟩=Xc (cx.T t') (λti=>Xc (take st x) (λy=>storeAt y.2 ti (view y.2 a) y.1)):=by
 simp only[Xg,Yf,Option.isSome_none,Bool.false_eq_true,if_false]
def Xem(d:Nat)(x:Operand):Xg cx st ⟨some d,.nilCheck x,t,pos,aft,g⟩=Xc (Xcf (view st x)) (λv=>some (st.put d v)):=Qa st d _
def Xdp(d:Nat)(t':TypeId)(x:Operand)(f:Nat):Xg cx st ⟨some d,.fieldAddr t' x f,t,pos,aft,g⟩=Xc (cx.T t') (λti=>Xc (UI ti f (view st x)) (λv=>some (st.put d v))):=by
 simp only[Xg,Yf,Qa]
def XiP(d:Nat)(t':TypeId)(x:Operand)(f:Nat):Xg cx st ⟨some d,.field t' x f,t,pos,aft,g⟩=Xc (cx.T t') (λti=>Xc (XcQ ti f (view st x)) (λv=>some (st.put d v))):=by
 simp only[Xg,Yf,Qa]
def Xdq(d:Nat)(t':TypeId)(x ix:Operand):Xg cx st ⟨some d,.indexAddr t' x ix,t,pos,aft,g⟩=Xc (cx.T t') (λti=>Xc (Qj st ti (view st x) (view st ix)) (λv=>some (st.put d v))):=by
 simp only[Xg,Yf,Qa]
def XiQ(d:Nat)(t':TypeId)(x ix:Operand):Xg cx st ⟨some d,.index t' x ix,t,pos,aft,g⟩=Xc (cx.T t') (λti=>Xc (Um ti (view st x) (view st ix)) (λv=>some (st.put d v))):=by
 simp only[Xg,Yf,Qa]
def XmA(d:Nat)(op:BinOp)(xt:TypeId)(x y:Operand)(yt:TypeId):Xg cx st ⟨some d,.binOp op xt x y yt,t,pos,aft,g⟩=Xc (Xbu (cx.T xt) (cx.eqs xt) op (view st x) (view st y)) (λv=>some (st.put d v)):=Qa st d _
def XnM(d:Nat)(op:UnOp)(xt:TypeId)(x:Operand):Xg cx st ⟨some d,.unOp op xt x,t,pos,aft,g⟩=Xc (unV op (view st x)) (λv=>some (st.put d v)):=Qa st d _
def XfH(d:Nat)(a b:TypeId)(x:Operand):Xg cx st ⟨some d,.convert a b x,t,pos,aft,g⟩=Xc (cx.T a) (λta=>Xc (cx.T b) (λtb=>Xc (Xff st ta tb (view st x)) (λv=>some (st.put d v)))):=by
 simp only[Xg,Yf,Qa]
def Xhf(src:TI)(k:IntKind)(a:AV):Xff st src (.int k) a=XdS st src (.int k) a:=nr rfl
def Xhg(src:TI)(a:AV):Xff st src .str a=XdS st src .str a:=nr rfl
def XiR(z n:Nat)(zero:List AV)(src:TI)(a:AV):Xff st src (.slice z n zero) a=XcR src z zero a:=nr rfl
def XiS(z:Nat)(zero:List AV)(b:ByteArray):XcR .str z zero (.s b)=if z=1/\Xme zero=true/\b.size<=9223372036854775807 then some (.sl .mut 1 (b.data.toList.map U5)) else none:=nr rfl
def XiT(d:Nat)(xt:TypeId)(x:Operand)(lo hi:Option Operand):Xg cx st ⟨some d,.slice xt x lo hi none,t,pos,aft,g⟩=Xc (cx.T xt) (λti=>Xc (UF ti (view st x) (lo.map (view st)) (hi.map (view st))) (λv=>some (st.put d v))):=by
 simp only[Xg,Yf,Qa]
def Xen(d f:Nat)(caps:List Operand):Xg cx st ⟨some d,.makeFunc (.func f) (List.toArray []) (List.toArray caps),t,pos,aft,g⟩=if(caps.map (view st)).all ZL=true then some (st.put d (.fn f (caps.map (view st)))) else none:=by
 simp only[Xg,List.isEmpty_toArray,List.isEmpty_nil,Bool.true_and]; rfl
def XfI(d:Nat)(x:Operand)(j:Nat):Xg cx st ⟨some d,.extract x j,t,pos,aft,g⟩=Xc (Qu st x j) (λy=>some (y.2.put d y.1)):=XeZ d _
def XiU(d:Nat)(t':TypeId)(parts:List (Nat×Operand)):Xg cx st ⟨some d,.build t' (List.toArray parts),t,pos,aft,g⟩=Xc (cx.T t') (λti=>Xc (XaY ti st parts) (λv=>some (st.put d v))):=by
 simp only[Xg,Yf,Qa]
def Xcx(d:Nat)(t':TypeId)(len:Nat)(parts:List (Nat×Operand)):Xg cx st ⟨some d,.buildSlice t' len (List.toArray parts),t,pos,aft,g⟩=Xc (cx.T t') (λti=>Xc (Zj ti st len parts) (λy=>some (y.2.put d y.1))):=by
 simp only[Xg,Yf,XeZ,St.put?]
def Xdr(d:Nat)(t':TypeId)(l c:Operand):Xg cx st ⟨some d,.makeSlice t' l c,t,pos,aft,g⟩=Xc (cx.T t') (λti=>Xc (Xfh ti (view st l) (view st c)) (λv=>some (st.put d v))):=by
 simp only[Xg,Yf,Qa]
def XmB(d:Nat)(x:Operand)(tx:TypeId)(ts:List TypeId):Xg cx st ⟨some d,.call {callee:=.builtin .len,args:=List.toArray [x],argTypes:=List.toArray (tx :: ts)},t,pos,aft,g⟩=Xc (cx.T tx) (λti=>Xc (XlD st ti (view st x)) (λn=>some (st.put d (.i .i64 n)))):=by
 simp only[Xg,Yn,Yf]; rfl
def Xhh(d:Nat)(x y:Operand)(tx ty:TypeId):Xg cx st ⟨some d,.call {callee:=.builtin .append,args:=List.toArray [x,y],argTypes:=List.toArray [tx,ty]},t,pos,aft,g⟩=Xc (cx.T tx) (λti=>Xc (cx.T ty) (λtj=>if XcS tj=true then Xc (U6 ti st x y) (λy=>some (y.2.put d y.1)) else none)):=by
 simp only[Xg,Yn,Yf,XeZ]
def XiV(x:Operand)(tx:TypeId):Xg cx st ⟨none,.call {callee:=.builtin .clear,args:=List.toArray [x],argTypes:=List.toArray [tx]},t,pos,aft,g⟩=Xc (cx.T tx) (λti=>Xap ti st (view st x)):=by
 simp only[Xg,Yn,Yf,noD]
def XmC(d:Nat)(xs:List Operand)(at_:Array TypeId):Xg cx st ⟨some d,.call {callee:=.builtin .min,args:=List.toArray xs,argTypes:=at_},t,pos,aft,g⟩=Xc (Xfg (λa b=>if b<a then b else a) (xs.map (view st))) (λv=>some (st.put d v)):=by
 simp only[Xg,Yn,Qa]
def XmD(d:Nat)(xs:List Operand)(at_:Array TypeId):Xg cx st ⟨some d,.call {callee:=.builtin .max,args:=List.toArray xs,argTypes:=at_},t,pos,aft,g⟩=Xc (Xfg (λa b=>if b>a then b else a) (xs.map (view st))) (λv=>some (st.put d v)):=by
 simp only[Xg,Yn,Qa]
def XkZ(d:Option Nat)(f:Operand)(args:List Operand)(ats:List TypeId):Xg cx st ⟨d,.call {callee:=.value f,args:=List.toArray args,argTypes:=List.toArray ats},t,pos,aft,g⟩ =
  Xc (Ul cx st f ats args) (λy=>putN d y.2 y.1 (UA y.1)):=by
 simp only[Xg,Yn,Xmy]
def XiW(f:Operand)(ts:List TypeId)(xs:List Operand):Ul cx st f ts xs=Xc (Qt cx st f ts xs) (λp=>Xc (cx.fns p.1) (λfs=>XaV cx st p.1 fs f ts xs)):=by
 simp only[Ul,Xc]
 cases Qt cx st f ts xs with
 | none=>rfl
 | some p=>obtain⟨g,as⟩:=p; simp only; cases cx.fns g<;>rfl
def Xk0(f:Operand)(ts:List TypeId)(xs:List Operand):Qt cx st f ts xs=fnV (view st f) (XcI cx ts xs (xs.map (view st))):=nr rfl
def XiX(g:Nat)(md:List Md)(F:List AV->Option (AV×List AV))(f:Operand)(ts:List TypeId)(xs:List Operand):XaV cx st g ⟨md,F,false⟩ f ts xs=XaU cx st g ⟨md,F,false⟩ f ts xs:=nr rfl
def XiY(g:Nat)(md:List Md)(F:List AV->Option (AV×List AV))(f:Operand)(ts:List TypeId)(xs:List Operand):XaV cx st g ⟨md,F,true⟩ f ts xs=Xc (weakAll st md xs) (λs=>XaU cx s g ⟨md,F,true⟩ f ts xs):=by
 simp only[XaV,if_true,Xc]
 cases weakAll st md xs<;>rfl
def rwK(cx:Cx)(st:St)(g:Nat)(fs:FS)(f:Operand)(ts:List TypeId)(xs:List Operand):Option (Nat×Nat)->Option (AV×St)
 | some (k,n)=>Xbx cx st g fs k n f ts xs
 | none=>XaT cx st g fs f ts xs
def Xk1(g:Nat)(md:List Md)(F:List AV->Option (AV×List AV))(b:Bool)(f:Operand)(ts:List TypeId)(xs:List Operand):XaU cx st g ⟨md,F,b⟩ f ts xs=rwK cx st g ⟨md,F,b⟩ f ts xs (Xbv 0 md):=by
 unfold XaU rwK
 simp only
 cases Xbv 0 md with
 | none=>rfl
 | some p=>rfl
def XiZ(g:Nat)(fs:FS)(f:Operand)(ts:List TypeId)(xs:List Operand)(k n:Nat):rwK cx st g fs f ts xs (some (k,n))=Xbx cx st g fs k n f ts xs:=nr rfl
def Xi0(g:Nat)(fs:FS)(f:Operand)(ts:List TypeId)(xs:List Operand):rwK cx st g fs f ts xs none=XaT cx st g fs f ts xs:=nr rfl
def Xi1(k:Nat):Xbv k []=none:=nr rfl
def Xk2(k n:Nat)(ms:List Md):Xbv k (.ro n :: ms)=Xbv (k+1) ms:=nr rfl
def Xk3(k:Nat)(ms:List Md):Xbv k (.mv :: ms)=Xbv (k+1) ms:=nr rfl
def Xk4(k n:Nat)(ms:List Md):Xbv k (.rw n :: ms)=some (k,n):=nr rfl
def inO(a:Option AV)(l:Option (List AV)):Option (List AV):=match a,l with
 | some a,some l=>some (a :: l)
 | _,_=>none
def Xi2(a:AV)(l:List AV):inO (some a) (some l)=some (a :: l):=nr rfl
def XfJ(own:Bool)(av:Option (Bool×Nat))(ys:List (AV×List (Option (Pl×Bool)))):YI own av st [] [] ys=some []:=nr rfl
def Xeo(own:Bool)(av:Option (Bool×Nat))(m:Md)(ms:List Md)(a:AV)(as:List AV)(ys:List (AV×List (Option (Pl×Bool)))):YI own av st (m :: ms) (a :: as) ys=inO (UH own av st m a (ys.headD (.u,[]))) (YI own av st ms as ys.tail):=by
 simp only[YI,inO]
 cases UH own av st m a (ys.headD (.u,[])) with
 | none=>rfl
 | some b=>simp only; cases YI own av st ms as ys.tail<;>rfl
def Xi3(own:Bool)(av:Option (Bool×Nat))(n:Nat)(a:AV)(y:AV×List (Option (Pl×Bool))):UH own av st (.ro n) a y=ZD own av st a:=nr rfl
def Xi4(own:Bool)(av:Option (Bool×Nat))(a:AV)(x:AV)(l:List (Option (Pl×Bool))):UH own av st .mv a (x,l)=some x:=nr rfl
def rwB(n:Nat)(pl:Pl)(w:Bool)(cells:List AV):Option AV:=if(w&&decide (pl.c+n<=cells.length)&&((cells.drop pl.c).take n).all XP)=true then some (.agg ((cells.drop pl.c).take n)) else none
def Xi5(own:Bool)(av:Option (Bool×Nat))(n:Nat)(pl:Pl)(y:AV×List (Option (Pl×Bool))):UH own av st (.rw n) (.p pl) y=Xc (node st pl) (rwB n pl (XD st pl)):=by
 simp only[UH,Xc,rwB]
 cases node st pl<;>rfl
def rwP(cx:Cx)(st:St)(fs:FS)(as:List AV)(k n:Nat):Option AV->Option (AV×St)
 | some (.p pl)=>XbH cx st fs as k n pl
 | _=>none
def XnN(fs:FS)(as:List AV)(k n:Nat)(pl:Pl):rwP cx st fs as k n (some (.p pl))=XbH cx st fs as k n pl:=nr rfl
def Xk5(g:Nat)(fs:FS)(k n:Nat)(f:Operand)(ts:List TypeId)(xs:List Operand):Xbx cx st g fs k n f ts xs=Xc (Qt cx st f ts xs) (λp=>if p.1=g/\Xbw k fs.md=true then rwP cx st fs p.2 k n p.2[k]? else none):=by
 simp only[Xbx,Xc]
 cases Qt cx st f ts xs with
 | none=>rfl
 | some p =>
  obtain⟨g',as⟩:=p
  simp only
  split
  ·cases as[k]? with
   | none=>rfl
   | some a=>cases a<;>rfl
  ·rfl
def rwA(st:St)(pl:Pl)(n:Nat)(r:AV):Option AV->Option (AV×St)
 | some (.agg cs)=>Xc (node st pl) (λcells=>some (r,(Xi st pl (cells.take pl.c++cs++cells.drop (pl.c+n))).cut pl n))
 | _=>none
def Xk6(pl:Pl)(n:Nat)(r:AV)(cs:List AV):rwA st pl n r (some (.agg cs))=Xc (node st pl) (λcells=>some (r,(Xi st pl (cells.take pl.c++cs++cells.drop (pl.c+n))).cut pl n)):=nr rfl
def rwR(st:St)(pl:Pl)(k n:Nat)(p:AV×List AV):Option (AV×St):=rwA st pl n p.1 p.2[k]?
def XmE(pl:Pl)(k n:Nat)(r:AV)(os:List AV):rwR st pl k n (r,os)=rwA st pl n r os[k]?:=nr rfl
def Xi6(md:List Md)(F:List AV->Option (AV×List AV))(b:Bool)(as:List AV)(k n:Nat)(pl:Pl):XbH cx st ⟨md,F,b⟩ as k n pl=Xc (YI (!b) (some (pl.e,pl.r)) st md as []) (λbs=>Xc (F bs) (rwR st pl k n)):=by
 simp only[XbH,Xc,rwR]
 cases YI (!b) (some (pl.e,pl.r)) st md as [] with
 | none=>rfl
 | some bs =>
  simp only
  cases F bs with
  | none=>rfl
  | some p =>
   obtain⟨r,os⟩:=p
   simp only[rwA]
   cases os[k]? with
   | none=>rfl
   | some a =>
    cases a<;>try rfl
    simp only[Xc]
    cases node st pl<;>rfl
def XfK(m:Md)(ms:List Md):Xbw 0 (m :: ms)=ms.all Y4:=nr rfl
def XfL(k n:Nat)(ms:List Md):Xbw (k+1) (.ro n :: ms)=Xbw k ms:=nr rfl
def Xep(xs:List Operand):weakAll st [] xs=some st:=by cases xs<;>rfl
def XfM(n:Nat)(ms:List Md)(x:Operand)(xs:List Operand):weakAll st (.ro n :: ms) (x :: xs)=Xc (weakArg st x) (λs=>weakAll s ms xs):=by
 simp only[weakAll,Xc]; cases weakArg st x<;>rfl
def XfN(n:Nat)(ms:List Md)(x:Operand)(xs:List Operand):weakAll st (.rw n :: ms) (x :: xs)=weakAll st ms xs:=by simp only[weakAll]
def XfO(ms:List Md)(x:Operand)(xs:List Operand):weakAll st (.mv :: ms) (x :: xs)=weakAll st ms xs:=by simp only[weakAll]
def QO(st:St)(x:Operand):AV->Option St
 | .agg cs=>ZC x cs.length 0 st
 | a=>weakLeaf st a
def Xhi(x:Operand):weakArg st x=QO st x (view st x):=by simp only[weakArg,QO]; cases view st x<;>rfl
def Xds(x:Operand)(j:Nat):ZC x 0 j st=some st:=nr rfl
def Xk7(x:Operand)(n j:Nat)(st:St):AV->Option St
 | .agg cs=>Xc cs[j]? (λa=>Xc (weakLeaf st a) (λs=>ZC x n (j+1) s))
 | _=>none
def Xhj(x:Operand)(n j:Nat)(cs:List AV):Xk7 x n j st (.agg cs)=Xc cs[j]? (λa=>Xc (weakLeaf st a) (λs=>ZC x n (j+1) s)):=nr rfl
def Xdt(x:Operand)(n j:Nat):ZC x (n+1) j st=Xk7 x n j st (view st x):=by
 simp only[ZC,Xk7]
 cases view st x with
 | agg cs =>
  simp only[Xc]
  cases cs[j]? with
  | none=>rfl
  | some a=>simp only; cases weakLeaf st a<;>rfl
 | _=>rfl
def Xhk(st:St)(pl:Pl)(z':Nat)(cells:List AV):Option AV->Option St
 | some (.sl .mut z es)=>if z'=z then(if XD st pl then some ((Xi st pl (cells.set pl.c (.sl .app z (XK es)))).filt (keepP pl.e pl.r pl.path pl.c 1) (keepP pl.e pl.r pl.path pl.c 1)) else none) else none
 | _=>some st
def Xk8(st:St)(pl:Pl)(z':Nat):Option (List AV)->Option St
 | some cells=>Xhk st pl z' cells cells[pl.c]?
 | none=>some st
def Xeq(pl:Pl)(z' lo n:Nat):weakLeaf st (.rf pl z' lo n)=Xk8 st pl z' (node st pl):=by
 simp only[weakLeaf,Xk8]
 cases node st pl with
 | none=>rfl
 | some cells=>rfl
def XfP(pl:Pl)(z':Nat)(cells:List AV):Xk8 st pl z' (some cells)=Xhk st pl z' cells cells[pl.c]?:=nr rfl
def Xhl(pl:Pl)(z':Nat)(cells:List AV)(z:Nat)(es:List (List AV)):Xhk st pl z' cells (some (.sl .mut z es))=if z'=z then(if XD st pl=true then some ((Xi st pl (cells.set pl.c (.sl .app z (XK es)))).filt (keepP pl.e pl.r pl.path pl.c 1) (keepP pl.e pl.r pl.path pl.c 1)) else none) else none:=nr rfl
def Xi7(pl:Pl)(z':Nat)(cells:List AV)(z:Nat)(es:List (List AV)):Xhk st pl z' cells (some (.sl .ro z es))=some st:=nr rfl
def Xhm(pl:Pl)(z':Nat)(cells:List AV)(z:Nat)(es:List (List AV)):Xhk st pl z' cells (some (.sl .app z es))=some st:=nr rfl
def Xna(ys:List (AV×List (Option (Pl×Bool))))(st:St)(p:AV×List AV):Option (AV×St):=Xc (XX st p.2 ys) (λs=>some (p.1,s))
def Xhn(g:Nat)(md:List Md)(F:List AV->Option (AV×List AV))(b:Bool)(f:Operand)(ts:List TypeId)(xs:List Operand):XaT cx st g ⟨md,F,b⟩ f ts xs=Xc (XQ cx st md ts xs) (λp=>Xc (Qt cx p.2 f ts xs) (λq=>if q.1=g/\(p.1.all λy=>y.2.all (Xgi p.2))=true then Xc (YI (!b) none p.2 md q.2 p.1) (λbs=>Xc (F bs) (Xna p.1 p.2)) else none)):=by
 simp only[XaT,Xc,Xna]
 cases XQ cx st md ts xs with
 | none=>rfl
 | some p =>
  obtain⟨ys,s⟩:=p
  simp only
  cases Qt cx s f ts xs with
  | none=>rfl
  | some q =>
   obtain⟨g',as⟩:=q
   simp only[Xgk]
   split
   ·cases YI (!b) none s md as ys with
    | none=>rfl
    | some bs =>
     simp only
     cases F bs with
     | none=>rfl
     | some r =>
      obtain⟨v,os⟩:=r
      simp only
      cases XX s os ys<;>rfl
   ·rfl
def Xer(ts:List TypeId)(xs:List Operand):XQ cx st [] ts xs=some ([],st):=by cases ts<;>cases xs<;>rfl
def Xho(y:AV×List (Option (Pl×Bool)))(q:List (AV×List (Option (Pl×Bool)))×St):Option (List (AV×List (Option (Pl×Bool)))×St):=some (y :: q.1,q.2)
def Xi8(y:AV×List (Option (Pl×Bool)))(l:List (AV×List (Option (Pl×Bool))))(s:St):Xho y (l,s)=some (y :: l,s):=nr rfl
def XfQ(ms:List Md)(t:TypeId)(ts:List TypeId)(x:Operand)(xs:List Operand):XQ cx st (.mv :: ms) (t :: ts) (x :: xs)=Xc (outArg (zOf cx t) st x) (λp=>Xc (XQ cx p.2 ms ts xs) (Xho p.1)):=by
 simp only[XQ,Md.isMv,if_true,Xc,Xho]
 cases outArg (zOf cx t) st x with
 | none=>rfl
 | some p=>obtain⟨y,s⟩:=p; simp only; cases XQ cx s ms ts xs<;>rfl
def XfR(n:Nat)(ms:List Md)(t:TypeId)(ts:List TypeId)(x:Operand)(xs:List Operand):XQ cx st (.ro n :: ms) (t :: ts) (x :: xs)=Xc (XQ cx st ms ts xs) (Xho (.u,[])):=by
 simp only[XQ,Md.isMv,Bool.false_eq_true,if_false,Xc,Xho]
 cases XQ cx st ms ts xs<;>rfl
def XhO(z:Nat)(st:St)(x:Operand):AV->Option ((AV×List (Option (Pl×Bool)))×St)
 | .agg cs=>match ZG x cs.length 0 st with
  | some (ys,st')=>some ((.agg ys.1,ys.2),st')
  | none=>none
 | a=>match outLeaf st (fix z a) with
  | some (y,st')=>some ((y.1,[y.2]),st')
  | none=>none
def Xi9(z:Nat)(x:Operand):outArg z st x=XhO z st x (view st x):=by
 simp only[outArg,XhO]
 cases view st x<;>rfl
def Xk9(p:(List AV×List (Option (Pl×Bool)))×St):Option ((AV×List (Option (Pl×Bool)))×St):=some ((.agg p.1.1,p.1.2),p.2)
def Xja(l:List AV)(r:List (Option (Pl×Bool)))(s:St):Xk9 ((l,r),s)=some ((.agg l,r),s):=nr rfl
def Xes(p:(AV×Option (Pl×Bool))×St):Option ((AV×List (Option (Pl×Bool)))×St):=some ((p.1.1,[p.1.2]),p.2)
def Xjb(a:AV)(r:Option (Pl×Bool))(s:St):Xes ((a,r),s)=some ((a,[r]),s):=nr rfl
def Xjc(z:Nat)(x:Operand)(cs:List AV):XhO z st x (.agg cs)=Xc (ZG x cs.length 0 st) Xk9:=by
 simp only[XhO,Xc,Xk9]
 cases ZG x cs.length 0 st<;>rfl
def Xla(z:Nat)(x:Operand)(pl:Pl)(y lo n:Nat):XhO z st x (.rf pl y lo n)=Xc (outLeaf st (.rf pl y lo n)) Xes:=by
 simp only[XhO,fix,Xc,Xes]
 cases outLeaf st (.rf pl y lo n)<;>rfl
def Xlb(z:Nat)(x:Operand)(t:Tag)(y:Nat)(es:List (List AV)):XhO z st x (.sl t y es)=Xc (outLeaf st (.sl t y es)) Xes:=by
 simp only[XhO,fix,Xc,Xes]
 cases outLeaf st (.sl t y es)<;>rfl
def Xjd(z:Nat)(x:Operand):XhO z st x .nil=Xc (outLeaf st (fix z .nil)) Xes:=by
 simp only[XhO,Xc,Xes]
 cases outLeaf st (fix z .nil)<;>rfl
def Xet(x:Operand)(j:Nat):ZG x 0 j st=some (([],[]),st):=nr rfl
def Xnb(y:AV×Option (Pl×Bool))(q:(List AV×List (Option (Pl×Bool)))×St):Option ((List AV×List (Option (Pl×Bool)))×St):=some ((y.1 :: q.1.1,y.2 :: q.1.2),q.2)
def Xlc(a:AV)(r:Option (Pl×Bool))(l:List AV)(rs:List (Option (Pl×Bool)))(s:St):Xnb (a,r) ((l,rs),s)=some ((a :: l,r :: rs),s):=nr rfl
def XnO(x:Operand)(n j:Nat)(st:St):AV->Option ((List AV×List (Option (Pl×Bool)))×St)
 | .agg cs=>Xc cs[j]? (λa=>Xc (outLeaf st a) (λp=>Xc (ZG x n (j+1) p.2) (Xnb p.1)))
 | _=>none
def Xje(x:Operand)(n j:Nat)(cs:List AV):XnO x n j st (.agg cs)=Xc cs[j]? (λa=>Xc (outLeaf st a) (λp=>Xc (ZG x n (j+1) p.2) (Xnb p.1))):=nr rfl
def Xeu(x:Operand)(n j:Nat):ZG x (n+1) j st=XnO x n j st (view st x):=by
 simp only[ZG,XnO]
 cases view st x with
 | agg cs =>
  simp only[Xc,Xnb]
  cases cs[j]? with
  | none=>rfl
  | some a =>
   simp only
   cases outLeaf st a with
   | none=>rfl
   | some p=>obtain⟨y,s⟩:=p; simp only; cases ZG x n (j+1) s<;>rfl
 | _=>rfl
def XnP(st:St)(pl:Pl)(z' lo n:Nat)(cells:List AV):Option AV->Option ((AV×Option (Pl×Bool))×St)
 | some (.sl .mut z es)=>if(lo=0/\n=es.length)/\z'=z then(if XD st pl=true then some ((.sl .mut z es,some (pl,whole st pl)),(Xi st pl (cells.set pl.c .u)).cut pl 1) else none) else none
 | _=>none
def Xjf(pl:Pl)(z' lo n:Nat)(cells:List AV)(z:Nat)(es:List (List AV)):XnP st pl z' lo n cells (some (.sl .mut z es))=if(lo=0/\n=es.length)/\z'=z then(if XD st pl=true then some ((.sl .mut z es,some (pl,whole st pl)),(Xi st pl (cells.set pl.c .u)).cut pl 1) else none) else none:=nr rfl
def XfS(pl:Pl)(z' lo n:Nat):outLeaf st (.rf pl z' lo n)=Xc (node st pl) (λcells=>XnP st pl z' lo n cells cells[pl.c]?):=by
 simp only[outLeaf,Xc]
 cases node st pl with
 | none=>rfl
 | some cells=>simp only[XnP]; rfl
def XnQ(st:St)(z:Nat)(pl:Pl)(y lo n:Nat)(cells:List AV):Option AV->Option St
 | some (.sl .mut z' es)=>if((lo+n<=es.length/\z'=z)/\y=z)/\(XD st pl&&Xgi ((Xi st pl (cells.set pl.c .u)).cut pl 1) (some (pl,whole st pl)))=true then XF ((Xi st pl (cells.set pl.c .u)).cut pl 1) (.sl .mut z (YV z lo n es)) (some (pl,whole st pl)) else none
 | _=>none
def Xjg(z:Nat)(pl:Pl)(y lo n:Nat)(cells:List AV)(z':Nat)(es:List (List AV)):XnQ st z pl y lo n cells (some (.sl .mut z' es))=if((lo+n<=es.length/\z'=z)/\y=z)/\(XD st pl&&Xgi ((Xi st pl (cells.set pl.c .u)).cut pl 1) (some (pl,whole st pl)))=true then XF ((Xi st pl (cells.set pl.c .u)).cut pl 1) (.sl .mut z (YV z lo n es)) (some (pl,whole st pl)) else none:=nr rfl
def Xhp(z b:Nat)(ze:List AV)(pl:Pl)(y lo n:Nat):Xap (.slice z b ze) st (.rf pl y lo n)=Xc (node st pl) (λcells=>XnQ st z pl y lo n cells cells[pl.c]?):=by
 simp only[Xap,Xc]
 cases node st pl with
 | none=>rfl
 | some cells=>simp only[XnQ]; rfl
@[congr] def XjQ{ti:TI}{a a':AV}(h:a=a'):Xap ti st a=Xap ti st a':=by rw[h]
def Xhq:Xgi st none=true:=nr rfl
def Xhr(pl:Pl):Xgi st (some (pl,true))=true:=nr rfl
def okN(c:Nat):Option (List AV)->Bool
 | some cells=>decide (c<cells.length)
 | none=>false
def Xjh(c:Nat)(cells:List AV):okN c (some cells)=decide (c<cells.length):=nr rfl
def XfT(pl:Pl):Xgi st (some (pl,false))=((!pl.e||top (st.env pl.r))&&okN pl.c (node st pl)):=nr rfl
def Xev(ys:List (AV×List (Option (Pl×Bool)))):XX st [] ys=some st:=by cases ys<;>rfl
def Xdu(o:AV)(os:List AV)(a:AV)(ys:List (AV×List (Option (Pl×Bool)))):XX st (o :: os) ((a,[]) :: ys)=XX st os ys:=nr rfl
def Xdv(os:List AV)(a:AV)(p:Option (Pl×Bool))(ps:List (Option (Pl×Bool)))(ys:List (AV×List (Option (Pl×Bool)))):XX st (.u :: os) ((a,p :: ps) :: ys)=XX st os ys:=nr rfl
def Xew(cs os:List AV)(a:AV)(p:Option (Pl×Bool))(ps:List (Option (Pl×Bool)))(ys:List (AV×List (Option (Pl×Bool)))):XX st (.agg cs :: os) ((a,p :: ps) :: ys)=Xc (X0 st cs (p :: ps)) (λs=>XX s os ys):=by
 simp only[XX,Xc,Xgj,cellsOf]
 cases X0 st cs (p :: ps)<;>rfl
def XfU(t:Tag)(z:Nat)(es:List (List AV))(os:List AV)(a:AV)(p:Option (Pl×Bool))(ps:List (Option (Pl×Bool)))(ys:List (AV×List (Option (Pl×Bool)))):XX st (.sl t z es :: os) ((a,p :: ps) :: ys)=Xc (X0 st [.sl t z es] (p :: ps)) (λs=>XX s os ys):=by
 simp only[XX,Xc,Xgj,cellsOf]
 cases X0 st [.sl t z es] (p :: ps)<;>rfl
def Xex(os:List AV):XX st os []=some st:=by cases os<;>rfl
def XbA:X0 st [] []=some st:=nr rfl
def Xbj(a:AV)(as:List AV)(p:Option (Pl×Bool))(ps:List (Option (Pl×Bool))):X0 st (a :: as) (p :: ps)=Xc (XF st a p) (λs=>X0 s as ps):=by
 simp only[X0,Xc]
 cases XF st a p<;>rfl
def Xcy(a:AV):XF st a none=some st:=nr rfl
def Xld(st:St)(r:Nat)(a:AV):AV->Option St
 | .u=>some (st.put r a)
 | _=>none
def Xle(r:Nat)(a:AV):Xld st r a .u=some (st.put r a):=nr rfl
def Xcz(pl:Pl)(t:Tag)(z:Nat)(es:List (List AV)):XF st (.sl t z es) (some (pl,true))=Xld st pl.r (.sl t z es) (st.env pl.r):=by
 simp only[XF,Xld]
 cases st.env pl.r<;>rfl
def Xlf(st:St)(pl:Pl)(a:AV)(cells:List AV):Option AV->Option St
 | some .u=>if(XD st pl&&(!pl.e||top (st.env pl.r)))=true then some (Xi st pl (cells.set pl.c a)) else none
 | _=>none
def Xlg(pl:Pl)(a:AV)(cells:List AV):Xlf st pl a cells (some .u)=if(XD st pl&&(!pl.e||top (st.env pl.r)))=true then some (Xi st pl (cells.set pl.c a)) else none:=nr rfl
def XbB(pl:Pl)(t:Tag)(z:Nat)(es:List (List AV)):XF st (.sl t z es) (some (pl,false))=Xc (node st pl) (λcells=>Xlf st pl (.sl t z es) cells cells[pl.c]?):=by
 simp only[XF,Xc]
 cases node st pl with
 | none=>rfl
 | some cells =>
  simp only[Xlf]
  cases cells[pl.c]? with
  | none=>rfl
  | some a=>cases a<;>rfl
def XnR(st:St)(p:AV×List AV):Option (AV×St):=some (p.1,st)
def Xlh(v:AV)(os:List AV):XnR st (v,os)=some (v,st):=nr rfl
def Xji(g:Nat)(md:List Md)(F:List AV->Option (AV×List AV))(b:Bool)(f:Operand)(ts:List TypeId)(xs:List Operand)(h:md.all Y4=true) :
  XaT cx st g ⟨md,F,b⟩ f ts xs=Xc (Qt cx st f ts xs) (λq=>if q.1=g then Xc (YI (!b) none st md q.2 []) (λbs=>Xc (F bs) (XnR st)) else none):=by
 have h1:∀(ms:List Md) (ts:List TypeId) (xs:List Operand),ms.all Y4=true->∃ys,XQ cx st ms ts xs=some (ys,st)/\∀y∈ys,y=(AV.u,[]):=by
  intro ms
  induction ms with
  | nil=>intro ts xs _; exact⟨[],by simp[XQ],by simp⟩
  | cons m ms ih =>
   intro ts xs hm
   simp only[List.all_cons,Bool.and_eq_true] at hm
   cases ts with
   | nil=>exact⟨[],by simp[XQ],by simp⟩
   | cons t ts =>
    cases xs with
    | nil=>exact⟨[],by simp[XQ],by simp⟩
    | cons x xs =>
     obtain⟨ys,e1,e2⟩:=ih ts xs hm.2
     have:m.isMv=false:=by cases m<;>first | rfl | cases hm.1
     exact⟨(.u,[]) :: ys,by simp only[XQ,this,Bool.false_eq_true,if_false,e1],by simpa using e2⟩
 obtain⟨ys,e1,e2⟩:=h1 md ts xs h
 have h2:∀(ms:List Md) (as:List AV) (ys:List (AV×List (Option (Pl×Bool)))),ms.all Y4=true->(∀y∈ys,y=(AV.u,[]))->YI (!b) none st ms as ys=YI (!b) none st ms as []:=by
  intro ms
  induction ms with
  | nil=>intro as ys _ _; cases as<;>rfl
  | cons m ms ih =>
   intro as ys hm hy
   simp only[List.all_cons,Bool.and_eq_true] at hm
   cases as with
   | nil=>rfl
   | cons a as =>
    cases m with
    | ro n =>
     simp only[YI,UH,List.tail_nil]
     rw[ih as ys.tail hm.2 (λy hy'=>hy y (List.mem_of_mem_tail hy'))]
    | _=>cases hm.1
 have h3:∀(os:List AV) (ys:List (AV×List (Option (Pl×Bool)))),(∀y∈ys,y=(AV.u,[]))->XX st os ys=some st:=by
  intro os
  induction os with
  | nil=>intro ys _; cases ys<;>rfl
  | cons o os ih =>
   intro ys hy
   cases ys with
   | nil=>rfl
   | cons y ys =>
    have:=hy y (by simp)
    subst this
    simp only[XX]
    exact ih ys (λy hy'=>hy y (by simp[hy']))
 have h4:(ys.all λy=>y.2.all (Xgi st))=true:=by
  rw[List.all_eq_true]
  intro y hy
  rw[e2 y hy]; rfl
 rw[Xhn,e1]
 simp only[ZW,h4,and_true]
 congr 1
 funext q
 split
 ·rw[h2 md q.2 ys h e2]
  congr 1
  funext bs
  congr 1
  funext p
  simp only[Xna,XnR,h3 p.2 ys e2,ZW]
 ·rfl
end
end Go.Vm
set_option autoImplicit true
set_option relaxedAutoImplicit true
namespace Go.Vm
def k0:XE q .u=.u :=nr rfl
def k1:XE q .no=.no :=nr rfl
def k2:XE q .ub=.ub :=nr rfl
def k3:XE q (.b x)=(.b x) :=nr rfl
def k4:XE q (.i k n)=(.i k n) :=nr rfl
def k5:XE q (.s x)=(.s x) :=nr rfl
def k6:XE q .nil=.nil :=nr rfl
def k7:XE q (.rf pl y lo n)=(.rf pl y lo n) :=nr rfl
def k8:XE q (.p pl)=(.p pl) :=nr rfl
def k9:XE q (.pr cs)=(.pr cs) :=nr rfl
def k10:XE q .pn=.pn :=nr rfl
def k11:XE q (.fn f cs)=(.fn f cs) :=nr rfl
def k12:XE q (.fs cs)=(.fs cs) :=nr rfl
def k13:XE q (.agg cs)=(.agg cs) :=nr rfl
def k14:XE q (.tup cs)=(.tup cs) :=nr rfl
def k15:XE q (.sl .app z es)=.rf q z 0 es.length :=nr rfl
def k16:XE q (.sl .mut z es)=.rf q z 0 es.length :=nr rfl
def k17:XE q (.sl .ro z es)=.sl .ro z es :=nr rfl
def QG(x:Nat)(a:AV):AV :=match a with
  | .agg cs => .agg (Yc ⟨true,x,[],0⟩ 0 cs)
  | .tup _ => .u
  | a => XE ⟨true,x,[],0⟩ a
def k18:view st (.tmp x)=QG x (st.env x) :=nr rfl
def k19:view st (.const v)=Xfe v :=nr rfl
def k20:view st (.func f)=.fn f [] :=nr rfl
def k21:QG x .u=.u :=nr rfl
def k22:QG x .no=.no :=nr rfl
def k23:QG x .ub=.ub :=nr rfl
def k24:QG x (.i k n)=(.i k n) :=nr rfl
def k25:QG x .nil=.nil :=nr rfl
def k26:QG x (.rf pl y lo n)=(.rf pl y lo n) :=nr rfl
def k27:QG x (.p pl)=(.p pl) :=nr rfl
def k28:QG x (.pr cs)=(.pr cs) :=nr rfl
def k29:QG x .pn=.pn :=nr rfl
def k30:QG x (.fn f cs)=(.fn f cs) :=nr rfl
def k31:QG x (.fs cs)=(.fs cs) :=nr rfl
def k32:QG x (.agg cs)=.agg (Yc ⟨true,x,[],0⟩ 0 cs) :=nr rfl
def k33:QG x (.tup cs)=.u :=nr rfl
def k34:QG x (.b y)=.b y :=nr rfl
def k35:QG x (.s y)=.s y :=nr rfl
def k36:QG x (.sl .app z es)=.rf ⟨true,x,[],0⟩ z 0 es.length :=nr rfl
def k37:QG x (.sl .mut z es)=.rf ⟨true,x,[],0⟩ z 0 es.length :=nr rfl
def k38:QG x (.sl .ro z es)=.sl .ro z es :=nr rfl
def k39:Yc q j []=[] :=nr rfl
def k40:Yc q j (a :: l)=XE {q with c :=j} a :: Yc q (j+1) l :=nr rfl
def k41:Zr .u=false :=nr rfl
def k42:Zr .no=false :=nr rfl
def k43:Zr .ub=false :=nr rfl
def k44:Zr (.b x)=false :=nr rfl
def k45:Zr (.i k n)=false :=nr rfl
def k46:Zr (.s x)=false :=nr rfl
def k47:Zr .nil=false :=nr rfl
def k48:Zr (.sl t z es)=true :=nr rfl
def k49:Zr (.rf pl y lo n)=false :=nr rfl
def k50:Zr (.p pl)=false :=nr rfl
def k51:Zr (.pr cs)=false :=nr rfl
def k52:Zr .pn=false :=nr rfl
def k53:Zr (.fn f cs)=false :=nr rfl
def k54:Zr (.fs cs)=false :=nr rfl
def k55:Zr (.agg cs)=false :=nr rfl
def k56:Zr (.tup cs)=false :=nr rfl
def k57:UA .u=none :=nr rfl
def k58:UA .no=none :=nr rfl
def k59:UA .ub=none :=nr rfl
def k60:UA (.b x)=none :=nr rfl
def k61:UA (.i k n)=none :=nr rfl
def k62:UA (.s x)=none :=nr rfl
def k63:UA .nil=none :=nr rfl
def k64:UA (.sl t z es)=none :=nr rfl
def k65:UA (.rf pl y lo n)=none :=nr rfl
def k66:UA (.p pl)=none :=nr rfl
def k67:UA (.pr cs)=none :=nr rfl
def k68:UA .pn=none :=nr rfl
def k69:UA (.fn f cs)=none :=nr rfl
def k70:UA (.fs cs)=none :=nr rfl
def k71:UA (.agg cs)=none :=nr rfl
def k72:npP md st .u=none :=nr rfl
def k73:npP md st .no=none :=nr rfl
def k74:npP md st .ub=none :=nr rfl
def k75:npP md st (.b x)=none :=nr rfl
def k76:npP md st (.i k n)=none :=nr rfl
def k77:npP md st (.s x)=none :=nr rfl
def k78:npP md st .nil=none :=nr rfl
def k79:npP md st (.sl t z es)=none :=nr rfl
def k80:npP md st (.rf pl y lo n)=none :=nr rfl
def k81:npP md st (.pr cs)=none :=nr rfl
def k82:npP md st .pn=none :=nr rfl
def k83:npP md st (.fn f cs)=none :=nr rfl
def k84:npP md st (.fs cs)=none :=nr rfl
def k85:npP md st (.agg cs)=none :=nr rfl
def k86:npP md st (.tup cs)=none :=nr rfl
def k87:Yo .u=false :=nr rfl
def k88:Yo .no=false :=nr rfl
def k89:Yo .ub=false :=nr rfl
def k90:Yo (.b x)=false :=nr rfl
def k91:Yo (.i k n)=false :=nr rfl
def k92:Yo (.s x)=false :=nr rfl
def k93:Yo .nil=false :=nr rfl
def k94:Yo (.sl t z es)=true :=nr rfl
def k95:Yo (.rf pl y lo n)=false :=nr rfl
def k96:Yo (.p pl)=false :=nr rfl
def k97:Yo (.pr cs)=false :=nr rfl
def k98:Yo .pn=false :=nr rfl
def k99:Yo (.fn f cs)=false :=nr rfl
def Xps:Yo (.fs cs)=false :=nr rfl
def Xpt:Yo (.agg cs)=cs.any Zr :=nr rfl
def Xpu:Yo (.tup cs)=false :=nr rfl
def Xpv:QP .u=true :=nr rfl
def Xpw:QP .no=false :=nr rfl
def Xpx:QP .ub=true :=nr rfl
def Xpy:QP (.b x)=true :=nr rfl
def Xpz:QP (.i k n)=true :=nr rfl
def XpA:QP (.s x)=true :=nr rfl
def XpB:QP .nil=true :=nr rfl
def XpC:QP (.sl t z es)=true :=nr rfl
def XpD:QP (.rf pl y lo n)=false :=nr rfl
def XpE:QP (.p pl)=true :=nr rfl
def XpF:QP (.pr cs)=true :=nr rfl
def XpG:QP .pn=true :=nr rfl
def XpH:QP (.fn f cs)=false :=nr rfl
def XpI:QP (.fs cs)=false :=nr rfl
def XpJ:QP (.agg cs)=false :=nr rfl
def XpK:QP (.tup cs)=false :=nr rfl
def XpL:XP .u=true :=nr rfl
def XpM:XP .no=false :=nr rfl
def XpN:XP .ub=true :=nr rfl
def XpO:XP (.b x)=true :=nr rfl
def XpP:XP (.i k n)=true :=nr rfl
def XpQ:XP (.s x)=true :=nr rfl
def XpR:XP .nil=true :=nr rfl
def XpS:XP (.sl t z es)=true :=nr rfl
def XpT:XP (.rf pl y lo n)=false :=nr rfl
def XpU:XP (.p pl)=false :=nr rfl
def XpV:XP (.pr cs)=true :=nr rfl
def XpW:XP .pn=true :=nr rfl
def XpX:XP (.fn f cs)=false :=nr rfl
def XpY:XP (.fs cs)=false :=nr rfl
def XpZ:XP (.agg cs)=false :=nr rfl
def Xp0:XP (.tup cs)=false :=nr rfl
def Xp1:top .u=false :=nr rfl
def Xp2:top .no=false :=nr rfl
def Xp3:top .ub=true :=nr rfl
def Xp4:top (.b x)=true :=nr rfl
def Xp5:top (.i k n)=true :=nr rfl
def Xp6:top (.s x)=true :=nr rfl
def Xp7:top .nil=true :=nr rfl
def Xp8:top (.sl t z es)=true :=nr rfl
def Xp9:top (.rf pl y lo n)=true :=nr rfl
def Xqa:top (.p pl)=true :=nr rfl
def Xqb:top (.pr cs)=true :=nr rfl
def Xqc:top .pn=true :=nr rfl
def Xqd:top (.fn f cs)=true :=nr rfl
def Xqe:top (.fs cs)=true :=nr rfl
def Xqf:top (.agg cs)=true :=nr rfl
def Xqg:top (.tup cs)=false :=nr rfl
def Xqh:XbI .u=false :=nr rfl
def Xqi:XbI .no=false :=nr rfl
def Xqj:XbI .ub=false :=nr rfl
def Xqk:XbI (.b x)=false :=nr rfl
def Xql:XbI (.i k n)=false :=nr rfl
def Xqm:XbI (.s x)=false :=nr rfl
def Xqn:XbI .nil=false :=nr rfl
def Xqo:XbI (.sl t z es)=false :=nr rfl
def Xqp:XbI (.rf pl y lo n)=false :=nr rfl
def Xqq:XbI (.p pl)=false :=nr rfl
def Xqr:XbI (.pr cs)=false :=nr rfl
def Xqs:XbI .pn=false :=nr rfl
def Xqt:XbI (.fn f cs)=true :=nr rfl
def Xqu:XbI (.fs cs)=false :=nr rfl
def Xqv:XbI (.agg cs)=false :=nr rfl
def Xqw:XbI (.tup cs)=false :=nr rfl
def Xqx:ZL .u=false :=nr rfl
def Xqy:ZL .no=false :=nr rfl
def Xqz:ZL .ub=true :=nr rfl
def XqA:ZL (.b x)=true :=nr rfl
def XqB:ZL (.i k n)=true :=nr rfl
def XqC:ZL (.s x)=true :=nr rfl
def XqD:ZL .nil=true :=nr rfl
def XqE:ZL (.sl t z es)=true :=nr rfl
def XqF:ZL (.rf pl y lo n)=true :=nr rfl
def XqG:ZL (.p pl)=true :=nr rfl
def XqH:ZL (.pr cs)=true :=nr rfl
def XqI:ZL .pn=true :=nr rfl
def XqJ:ZL (.fn f cs)=true :=nr rfl
def XqK:ZL (.fs cs)=true :=nr rfl
def XqL:ZL (.agg cs)=false :=nr rfl
def XqM:ZL (.tup cs)=false :=nr rfl
def XqN:fsV len st i []=if i=len then some [] else none :=nr rfl
def fsK(x:Bool)(a:AV)(r:Option (List AV)):Option (List AV) :=if x then(match r with | some l => some (a :: l) | none => none) else none
def XqO:fsK true a (some l)=some (a :: l) :=nr rfl
def XqP:fsV len st i ((j,x) :: r)=if i=j then fsK (XbI (view st x)) (view st x) (fsV len st (i+1) r) else none :=by simp only[fsV,fsK]; split<;>rfl
def XqQ:cellsOf .u=[.u] :=nr rfl
def XqR:cellsOf .no=[.no] :=nr rfl
def XqS:cellsOf .ub=[.ub] :=nr rfl
def XqT:cellsOf (.b x)=[(.b x)] :=nr rfl
def XqU:cellsOf (.i k n)=[(.i k n)] :=nr rfl
def XqV:cellsOf (.s x)=[(.s x)] :=nr rfl
def XqW:cellsOf .nil=[.nil] :=nr rfl
def XqX:cellsOf (.sl t z es)=[(.sl t z es)] :=nr rfl
def XqY:cellsOf (.rf pl y lo n)=[(.rf pl y lo n)] :=nr rfl
def XqZ:cellsOf (.p pl)=[(.p pl)] :=nr rfl
def Xq0:cellsOf (.pr cs)=[(.pr cs)] :=nr rfl
def Xq1:cellsOf .pn=[.pn] :=nr rfl
def Xq2:cellsOf (.fn f cs)=[(.fn f cs)] :=nr rfl
def Xq3:cellsOf (.fs cs)=[(.fs cs)] :=nr rfl
def Xq4:cellsOf (.agg cs)=cs :=nr rfl
def Xq5:cellsOf (.tup cs)=[(.tup cs)] :=nr rfl
def Xq6:plain .u=false :=nr rfl
def Xq7:plain .no=false :=nr rfl
def Xq8:plain .ub=false :=nr rfl
def Xq9:plain (.b x)=true :=nr rfl
def Xra:plain (.i k n)=true :=nr rfl
def Xrb:plain (.s x)=true :=nr rfl
def Xrc:plain .nil=false :=nr rfl
def Xrd:plain (.rf pl y lo n)=false :=nr rfl
def Xre:plain (.p pl)=false :=nr rfl
def Xrf:plain (.pr cs)=false :=nr rfl
def Xrg:plain .pn=true :=nr rfl
def Xrh:plain (.fn f cs)=false :=nr rfl
def Xri:plain (.fs cs)=false :=nr rfl
def Xrj:plain (.agg cs)=false :=nr rfl
def Xrk:plain (.tup cs)=false :=nr rfl
def Xrl:plain (.sl .ro z es)=true :=nr rfl
def Xrm:fix m .u=.u :=nr rfl
def Xrn:fix m .no=.no :=nr rfl
def Xro:fix m .ub=.ub :=nr rfl
def Xrp:fix m (.b x)=(.b x) :=nr rfl
def Xrq:fix m (.i k n)=(.i k n) :=nr rfl
def Xrr:fix m (.s x)=(.s x) :=nr rfl
def Xrs:fix m (.sl t z es)=(.sl t z es) :=nr rfl
def Xrt:fix m (.rf pl y lo n)=(.rf pl y lo n) :=nr rfl
def Xru:fix m (.p pl)=(.p pl) :=nr rfl
def Xrv:fix m (.pr cs)=(.pr cs) :=nr rfl
def Xrw:fix m .pn=.pn :=nr rfl
def Xrx:fix m (.fn f cs)=(.fn f cs) :=nr rfl
def Xry:fix m (.fs cs)=(.fs cs) :=nr rfl
def Xrz:fix m (.agg cs)=(.agg cs) :=nr rfl
def XrA:fix m (.tup cs)=(.tup cs) :=nr rfl
def XrB:fix 0 .nil=.nil :=nr rfl
def XrC:fix (m+1) .nil=.sl .mut (m+1) [] :=nr rfl
def XrD:fix 1 .nil=.sl .mut 1 [] :=nr rfl
def XrE:fix 2 .nil=.sl .mut 2 [] :=nr rfl
def XrF:fix 3 .nil=.sl .mut 3 [] :=nr rfl
def XrG:fix 4 .nil=.sl .mut 4 [] :=nr rfl
def XrH:fix 5 .nil=.sl .mut 5 [] :=nr rfl
def XrI:fix 6 .nil=.sl .mut 6 [] :=nr rfl
def XrJ:fix 7 .nil=.sl .mut 7 [] :=nr rfl
def XrK:fix 8 .nil=.sl .mut 8 [] :=nr rfl
def XrL:fix 9 .nil=.sl .mut 9 [] :=nr rfl
def XrM:fix 10 .nil=.sl .mut 10 [] :=nr rfl
def XrN:fix 11 .nil=.sl .mut 11 [] :=nr rfl
def XrO:filt kp kr .u=.u :=nr rfl
def XrP:filt kp kr .no=.no :=nr rfl
def XrQ:filt kp kr .ub=.ub :=nr rfl
def XrR:filt kp kr (.b x)=(.b x) :=nr rfl
def XrS:filt kp kr (.i k n)=(.i k n) :=nr rfl
def XrT:filt kp kr (.s x)=(.s x) :=nr rfl
def XrU:filt kp kr .nil=.nil :=nr rfl
def XrV:filt kp kr (.sl t z es)=(.sl t z es) :=nr rfl
def XrW:filt kp kr (.pr cs)=(.pr cs) :=nr rfl
def XrX:filt kp kr .pn=.pn :=nr rfl
def XrY:filt kp kr (.fn f cs)=.fn f (XU kp kr cs) :=nr rfl
def XrZ:filt kp kr (.fs cs)=.fs (XU kp kr cs) :=nr rfl
def Xr0:filt kp kr (.agg cs)=.agg (XU kp kr cs) :=nr rfl
def Xr1:filt kp kr (.tup cs)=.tup (XU kp kr cs) :=nr rfl
def fA(b:Bool)(a:AV):AV :=if b then a else .u
def Xr2:fA true a=a :=nr rfl
def Xr3:fA false a=.u :=nr rfl
def Xr4:filt kp kr (.p q)=fA (kp q) (.p q) :=nr rfl
def Xr5:filt kp kr (.rf q y lo n)=fA (kr q) (.rf q y lo n) :=nr rfl
def Xr6:XU kp kr []=[] :=nr rfl
def Xr7:XU kp kr (a :: l)=filt kp kr a :: XU kp kr l :=nr rfl
def Xr8:X1 st .u=some (.u,st) :=nr rfl
def Xr9:X1 st .no=some (.no,st) :=nr rfl
def Xsa:X1 st .ub=some (.ub,st) :=nr rfl
def Xsb:X1 st (.b x)=some ((.b x),st) :=nr rfl
def Xsc:X1 st (.i k n)=some ((.i k n),st) :=nr rfl
def Xsd:X1 st (.s x)=some ((.s x),st) :=nr rfl
def Xse:X1 st .nil=some (.nil,st) :=nr rfl
def Xsf:X1 st (.sl t z es)=some ((.sl t z es),st) :=nr rfl
def Xsg:X1 st (.rf pl y lo n)=takeRf st pl y lo n :=nr rfl
def Xsh:X1 st (.p pl)=some ((.p pl),st) :=nr rfl
def Xsi:X1 st (.pr cs)=some ((.pr cs),st) :=nr rfl
def Xsj:X1 st .pn=some (.pn,st) :=nr rfl
def Xsk:X1 st (.fn f cs)=some ((.fn f cs),st) :=nr rfl
def Xsl:X1 st (.fs cs)=some ((.fs cs),st) :=nr rfl
def Xsm:X1 st (.agg cs)=some ((.agg cs),st) :=nr rfl
def Xsn:X1 st (.tup cs)=none :=nr rfl
def Xso:takeVal st .u=some (.u,st) :=nr rfl
def Xsp:takeVal st .no=some (.no,st) :=nr rfl
def Xsq:takeVal st .ub=some (.ub,st) :=nr rfl
def Xsr:takeVal st (.b x)=some ((.b x),st) :=nr rfl
def Xss:takeVal st (.i k n)=some ((.i k n),st) :=nr rfl
def Xst:takeVal st (.s x)=some ((.s x),st) :=nr rfl
def Xsu:takeVal st .nil=some (.nil,st) :=nr rfl
def Xsv:takeVal st (.sl t z es)=some ((.sl t z es),st) :=nr rfl
def Xsw:takeVal st (.rf pl y lo n)=takeRf st pl y lo n :=nr rfl
def Xsx:takeVal st (.p pl)=some ((.p pl),st) :=nr rfl
def Xsy:takeVal st (.pr cs)=some ((.pr cs),st) :=nr rfl
def Xsz:takeVal st .pn=some (.pn,st) :=nr rfl
def XsA:takeVal st (.fn f cs)=some ((.fn f cs),st) :=nr rfl
def XsB:takeVal st (.fs cs)=some ((.fs cs),st) :=nr rfl
def XsC:takeVal st (.tup cs)=none :=nr rfl
def XnS(x:Option (List AV×St)):Option (AV×St) :=match x with
  | some (cs,st) => some (.agg cs,st)
  | none => none
def XsD:takeVal st (.agg cs)=if cs.any XcH then XnS (takeL st cs) else some (.agg cs,st) :=by simp only[takeVal,XnS]; split<;>cases takeL st cs<;>rfl
def XsE:XcH .u=false :=nr rfl
def XsF:XcH .no=false :=nr rfl
def XsG:XcH .ub=false :=nr rfl
def XsH:XcH (.b x)=false :=nr rfl
def XsI:XcH (.i k n)=false :=nr rfl
def XsJ:XcH (.s x)=false :=nr rfl
def XsK:XcH .nil=false :=nr rfl
def XsL:XcH (.sl t z es)=false :=nr rfl
def XsM:XcH (.rf pl y lo n)=true :=nr rfl
def XsN:XcH (.p pl)=false :=nr rfl
def XsO:XcH (.pr cs)=false :=nr rfl
def XsP:XcH .pn=false :=nr rfl
def XsQ:XcH (.fn f cs)=false :=nr rfl
def XsR:XcH (.fs cs)=false :=nr rfl
def XsS:XcH (.agg cs)=false :=nr rfl
def XsT:XcH (.tup cs)=false :=nr rfl
def XsU:gone q=false :=nr rfl
def XsV:XnS (some (cs,st))=some (.agg cs,st) :=nr rfl
def Xli(a:AV)(x:Option (List AV×St)):Option (List AV×St) :=match x with
  | some (cs,st) => some (a :: cs,st)
  | none => none
def XsW:Xli a (some (cs,st))=some (a :: cs,st) :=nr rfl
def XsX:takeL st []=some ([],st) :=nr rfl
def XsY:takeL st (a :: l)=Xc (X1 st a) (λy => Xli (filt gone gone y.1) (takeL y.2 l)) :=by simp only[takeL,Xc,Xli]; cases X1 st a<;>rfl
def XfV(st:St)(x:Nat)(b:Bool)(a:AV):Option (AV×St) :=if b then takeVal (clear st x) (filt (Xu true x) (Xu true x) a) else takeVal st a
@[congr] def Xlj{st:St}{x:Nat}{b b':Bool}{a:AV}(h:b=b'):XfV st x b a=XfV st x b' a :=by rw[h]
def QY(st:St)(x:Nat)(a:AV):Option (AV×St) :=XfV st x (Yo a) a
def XsZ:take st (.tmp x)=QY st x (st.env x) :=nr rfl
def Xs0:QY st x .u=some (.u,st) :=nr rfl
def Xs1:QY st x .no=some (.no,st) :=nr rfl
def Xs2:QY st x .ub=some (.ub,st) :=nr rfl
def Xs3:QY st x (.b y)=some (.b y,st) :=nr rfl
def Xs4:QY st x (.i k n)=some ((.i k n),st) :=nr rfl
def Xs5:QY st x (.s y)=some (.s y,st) :=nr rfl
def Xs6:QY st x .nil=some (.nil,st) :=nr rfl
def Xs7:QY st x (.sl t z es)=some (.sl t z es,clear st x) :=nr rfl
def Xs8:QY st x (.rf pl y lo n)=takeRf st pl y lo n :=nr rfl
def Xs9:QY st x (.p pl)=some ((.p pl),st) :=nr rfl
def Xta:QY st x (.pr cs)=some ((.pr cs),st) :=nr rfl
def Xtb:QY st x .pn=some (.pn,st) :=nr rfl
def Xtc:QY st x (.fn f cs)=some ((.fn f cs),st) :=nr rfl
def Xtd:QY st x (.fs cs)=some ((.fs cs),st) :=nr rfl
def Xte:QY st x (.agg cs)=XfV st x (cs.any Zr) (.agg cs) :=nr rfl
def Xtf:QY st x (.tup cs)=none :=nr rfl
def Xtg:XfV st x true a=takeVal (clear st x) (filt (Xu true x) (Xu true x) a) :=nr rfl
def Xth:XfV st x false a=takeVal st a :=nr rfl
def Xti:take st (.const v)=some (Xfe v,st) :=nr rfl
def Xtj:take st (.func f)=some (.fn f [],st) :=nr rfl
def XlI(b:Bool)(l:List (Nat×AV))(m:List (Nat×List AV))(d:Nat)(v:AV):St :=if b then⟨E ((d,filt (Xu true d) (Xu true d) v) :: XgN (Xu true d) (Xu true d) l),B (XhM (Xu true d) (Xu true d) m)⟩ else⟨E ((d,v) :: l),B m⟩
@[congr] def XlJ{b b':Bool}{l:List (Nat×AV)}{m:List (Nat×List AV)}{d:Nat}{v v':AV}(h:b=b')(h':v=v'):XlI b l m d v=XlI b' l m d v' :=by rw[h,h']
def Xtk:St.put ⟨E l,B m⟩ d v=XlI (Yo (E l d)) l m d v :=by simp only[St.put,XlI,St.dropRoot,Xbe,Xeb]
def Xtl:XlI false l m d v=⟨E ((d,v) :: l),B m⟩ :=nr rfl
def Xtm:XlI true l m d v=⟨E ((d,filt (Xu true d) (Xu true d) v) :: XgN (Xu true d) (Xu true d) l),B (XhM (Xu true d) (Xu true d) m)⟩ :=nr rfl
def Xtn:St.put? st (some d) v=St.put st d v :=nr rfl
def Xto:St.put? st none v=st :=nr rfl
def isK(t k:Nat):Bool :=t==k
def Xtp:isK t k=(t==k) :=nr rfl
def eK(b:Bool)(v x:AV):AV :=if b then v else x
@[congr] def Xnc{b b':Bool}{v x:AV}(h:b=b'):eK b v x=eK b' v x :=by rw[h]
def eB(b:Bool)(v x:List AV):List AV :=if b then v else x
@[congr] def Xnd{b b':Bool}{v x:List AV}(h:b=b'):eB b v x=eB b' v x :=by rw[h]
def XoN:eK true v x=v :=nr rfl
def XoO:eK false v x=x :=nr rfl
def XoP:eB true v x=v :=nr rfl
def XoQ:eB false v x=x :=nr rfl
def Xtq:E ((k,v) :: r) t=eK (isK t k) v (E r t) :=by simp only[XaA,eK,isK,beq_iff_eq]
def Xtr:B ((k,v) :: r) t=eB (isK t k) v (B r t) :=by simp only[Xbd,eB,isK,beq_iff_eq]
def Xts:clear ⟨E l,B m⟩ x=⟨E ((x,.u) :: XgN (Xu true x) (Xu true x) l),B (XhM (Xu true x) (Xu true x) m)⟩ :=by simp only[clear,St.dropRoot,Xbe,Xeb]
def Xtt:St.env ⟨f,g⟩=f :=nr rfl
def Xtu:St.bx ⟨f,g⟩=g :=nr rfl
def XlK(b:Bool)(l:List (Nat×AV))(m:List (Nat×List AV))(d:Nat)(cs:List AV):St :=if b then⟨E ((d,.p ⟨false,d,[],0⟩) :: l),B ((d,cs) :: m)⟩ else⟨E ((d,.p ⟨false,d,[],0⟩) :: XgN (Xu false d) (Xu false d) l),B ((d,XU (Xu false d) (Xu false d) cs) :: XhM (Xu false d) (Xu false d) m)⟩
@[congr] def XlL{b b':Bool}{l:List (Nat×AV)}{m:List (Nat×List AV)}{d:Nat}{cs cs':List AV}(h:b=b')(h':cs=cs'):XlK b l m d cs=XlK b' l m d cs' :=by rw[h,h']
def Xtv:newBox ⟨E l,B m⟩ d cs=XlK (B m d).isEmpty l m d cs :=by
  cases h:(B m d).isEmpty<;>simp only[newBox,XlK,h,if_true,if_false,Bool.false_eq_true,St.dropRoot,Xbe,Xeb,Xkn]
def Xtw:Y9 st d (c :: cs)=if Yo (st.env d)=true then none else some (newBox st d (c :: cs)) :=nr rfl
def Xtx:XlK true l m d cs=⟨E ((d,.p ⟨false,d,[],0⟩) :: l),B ((d,cs) :: m)⟩ :=nr rfl
def Xty:XlK false l m d cs=⟨E ((d,.p ⟨false,d,[],0⟩) :: XgN (Xu false d) (Xu false d) l),B ((d,XU (Xu false d) (Xu false d) cs) :: XhM (Xu false d) (Xu false d) m)⟩ :=nr rfl
def Xtz:TI.size .bool=1 :=nr rfl
def XtA:TI.ag .bool=false :=nr rfl
def XtB:TI.z .bool=0 :=nr rfl
def XtC:TI.zero .bool=[.b false] :=nr rfl
def XtD:TI.size (.int k)=1 :=nr rfl
def XtE:TI.ag (.int k)=false :=nr rfl
def XtF:TI.z (.int k)=0 :=nr rfl
def XtG:TI.zero (.int k)=[.i k 0] :=nr rfl
def XtH:TI.size .str=1 :=nr rfl
def XtI:TI.ag .str=false :=nr rfl
def XtJ:TI.z .str=0 :=nr rfl
def XtK:TI.zero .str=[.s ⟨#[]⟩] :=nr rfl
def XtL:TI.size .ptr=1 :=nr rfl
def XtM:TI.ag .ptr=false :=nr rfl
def XtN:TI.z .ptr=0 :=nr rfl
def XtO:TI.zero .ptr=[.pn] :=nr rfl
def XtP:TI.size .fn=1 :=nr rfl
def XtQ:TI.ag .fn=false :=nr rfl
def XtR:TI.z .fn=0 :=nr rfl
def XtS:TI.zero .fn=[.u] :=nr rfl
def XtT:TI.size (.slice z b w)=1 :=nr rfl
def XtU:TI.ag (.slice z b w)=false :=nr rfl
def XtV:TI.z (.slice z b w)=z :=nr rfl
def XtW:TI.zero (.slice z b w)=[.sl .mut z []] :=nr rfl
def XtX:TI.size (.struct n fl w)=n :=nr rfl
def XtY:TI.ag (.struct n fl w)=true :=nr rfl
def XtZ:TI.z (.struct n fl w)=0 :=nr rfl
def Xt0:TI.zero (.struct n fl w)=w :=nr rfl
def Xt1:TI.size (.array n z ag w)=n*z :=nr rfl
def Xt2:TI.ag (.array n z ag w)=true :=nr rfl
def Xt3:TI.z (.array n z ag w)=0 :=nr rfl
def Xt4:TI.zero (.array n z ag w)=w :=nr rfl
def zK(x:Option TI):Nat :=match x with
  | some ti => ti.z
  | none => 0
def Xt5:zOf cx t=zK (cx.T t) :=nr rfl
def Xt6:zK (some ti)=ti.z :=nr rfl
def Xt7:zK none=0 :=nr rfl
def XnT(x:Option (Nat×Nat×Bool×Nat))(a:AV):Option AV :=match x with
  | some (off,_) => match a with
    | .p q => some (.p {q with c :=q.c+off})
    | .pr q => some (.pr (q.drop off))
    | _ => none
  | none => none
def Xt8:UI (.struct n fl w) f a=XnT (fl[f]?) a :=nr rfl
def Xt9:XnT (some (off,y)) (.p ⟨e,r,path,c⟩)=some (.p ⟨e,r,path,c+off⟩) :=nr rfl
def Xua:XnT (some (off,y)) (.pr q)=some (.pr (q.drop off)) :=nr rfl
def Xub:List.drop 0 l=l :=nr rfl
def Xuc:List.drop (n+1) (a :: l)=List.drop n l :=nr rfl
def Xud:List.take 0 l=[] :=List.take_zero
def Xue:List.take (n+1) (a :: l)=a :: List.take n l :=nr rfl
def Xuf:List.drop n ([]:List AV)=[] :=List.drop_nil
def XoR(x:Option (Nat×Nat×Bool×Nat))(cs:List AV):Option AV :=match x with
  | some (off,n,ag,_) => if off+n<=cs.length then some (if ag then .agg ((cs.drop off).take n) else cs.getD off .u) else none
  | none => none
def Xug:XcQ (.struct m fl w) f (.agg cs)=XoR (fl[f]?) cs :=nr rfl
def Xlk(ti:TI)(pl:Pl)(cells:List AV):Option AV :=if pl.c+ti.size<=cells.length then(if ti.ag then some (.agg (Yc pl pl.c ((cells.drop pl.c).take ti.size))) else some (XE pl (cells.getD pl.c .u))) else none
def Xuh:loadAt st ti (.p pl)=Xc (node st pl) (Xlk ti pl) :=by simp only[loadAt,Xc,Xlk]; cases node st pl<;>rfl
def Xui:loadAt st ti (.pr cs)=if ti.size<=cs.length then(if ti.ag then some (.agg (cs.take ti.size)) else some (cs.getD 0 .u)) else none :=nr rfl
def Xuj:node st ⟨e,r,path,c⟩=nav (Xa st e r) path :=nr rfl
def Xuk:XD st ⟨e,r,path,c⟩=wrt (Xa st e r) path :=nr rfl
def Xul:Xa st true r=cellsOf (st.env r) :=nr rfl
def Xum:Xa st false r=st.bx r :=nr rfl
def Xun:nav cs []=some cs :=nr rfl
def Xuo:wrt cs []=true :=nr rfl
def XnU(x:Option (Tag×List AV))(ps:List (Nat×Nat×Nat)):Option (List AV) :=match x with
  | some (_,row) => nav row ps
  | none => none
def XmF(x:Option (Tag×List AV))(ps:List (Nat×Nat×Nat)):Bool :=match x with
  | some (.mut,row) => wrt row ps
  | _ => false
def XfW(i z:Nat)(a:Option AV):Option (Tag×List AV) :=match a with
  | some (.sl t z' es) => if z'=z then rowK t es[i]? else none
  | _ => none
  where rowK (t:Tag):Option (List AV)->Option (Tag×List AV)
  | some row => some (t,row)
  | none => none
def Xup:nav cs ((c,i,z) :: ps)=XnU (YH cs c i z) ps :=by simp only[nav,XnU]; cases YH cs c i z<;>rfl
def Xuq:XnU (some (t,row)) ps=nav row ps :=nr rfl
def Xur:wrt cs ((c,i,z) :: ps)=XmF (YH cs c i z) ps :=by
  simp only[wrt,XmF]
  cases YH cs c i z with
  | none => rfl
  | some x => obtain⟨t,row⟩ :=x; cases t<;>rfl
def Xus:XmF (some (.mut,row)) ps=wrt row ps :=nr rfl
def Xut:XmF (some (.ro,row)) ps=false :=nr rfl
def Xuu:XmF (some (.app,row)) ps=false :=nr rfl
def Xuv:YH cs c i z=XfW i z cs[c]? :=by
  simp only[YH,XfW]
  cases cs[c]? with
  | none => rfl
  | some a =>
    cases a<;>rfl
def Xuw:XfW i z (some (.sl t z es))=XfW.rowK t es[i]? :=by simp only[XfW,if_true]
def Xux:XfW.rowK t (some row)=some (t,row) :=nr rfl
def Xuy:XL cs [] new=new :=nr rfl
def XnV(cs:List AV)(c i:Nat)(ps:List (Nat×Nat×Nat))(new:List AV)(a:Option AV):List AV :=match a with
  | some (.sl t z es) => cs.set c (.sl t z (es.set i (XL (es.getD i []) ps new)))
  | _ => cs
def Xuz:XL cs ((c,i,z) :: ps) new=XnV cs c i ps new cs[c]? :=by
  simp only[XL,XnV]
  cases cs[c]? with
  | none => rfl
  | some a => cases a<;>rfl
def XuA:XnV cs c i ps new (some (.sl t z es))=cs.set c (.sl t z (es.set i (XL (es.getD i []) ps new))) :=nr rfl
def XuB:List.set (a :: l) 0 b=b :: l :=nr rfl
def XuC:List.set (a :: l) (n+1) b=a :: List.set l n b :=nr rfl
def XuD:Xi ⟨E l,B m⟩ ⟨false,r,path,c⟩ new=⟨E l,B ((r,XL (B m r) path new) :: m)⟩ :=by simp only[Xi,Xkn,Bool.false_eq_true,if_false]
def XuE:Xi ⟨E l,B m⟩ ⟨true,r,path,c⟩ new=⟨E ((r,ZA (E l r) (XL (cellsOf (E l r)) path new)) :: l),B m⟩ :=by simp only[Xi,Xeb,if_true,Xa]
def XuF:ZA .u new=new.headD .u :=nr rfl
def XuG:ZA .no new=new.headD .u :=nr rfl
def XuH:ZA .ub new=new.headD .u :=nr rfl
def XuI:ZA (.b x) new=new.headD .u :=nr rfl
def XuJ:ZA (.i k n) new=new.headD .u :=nr rfl
def XuK:ZA (.s x) new=new.headD .u :=nr rfl
def XuL:ZA .nil new=new.headD .u :=nr rfl
def XuM:ZA (.sl t z es) new=new.headD .u :=nr rfl
def XuN:ZA (.rf pl y lo n) new=new.headD .u :=nr rfl
def XuO:ZA (.p pl) new=new.headD .u :=nr rfl
def XuP:ZA (.pr cs) new=new.headD .u :=nr rfl
def XuQ:ZA .pn new=new.headD .u :=nr rfl
def XuR:ZA (.fn f cs) new=new.headD .u :=nr rfl
def XuS:ZA (.fs cs) new=new.headD .u :=nr rfl
def XuT:ZA (.agg cs) new=.agg new :=nr rfl
def XuU:ZA (.tup cs) new=new.headD .u :=nr rfl
def XuV:List.headD (a :: l) AV.u=a :=nr rfl
def XuW:Qj st (.slice z b w) x (.i k n)=indexAddr st z x n :=nr rfl
def iaR(es:List (List AV)):Option Nat->Option AV
  | some j => some (.pr (es.getD j []))
  | none => none
def iaF(es:List AV):Option Nat->Option AV
  | some j => some (.pr [Vm.filt gone gone (es.getD j .u)])
  | none => none
def iaM(t:Tag)(pl:Pl)(z lo:Nat)(es:List (List AV)):Option Nat->Option AV
  | some j => (match t with
    | .mut => some (.p ⟨pl.e,pl.r,pl.path++[(pl.c,lo+j,z)],0⟩)
    | _ => some (.pr (Ys (es.getD (lo+j) []))))
  | none => none
def iaC(pl:Pl)(z zr lo n:Nat)(i:Int):Option AV->Option AV
  | some (.sl t z' es) => if(z=z'/\zr=z)/\lo+n<=es.length then iaM t pl z lo es (Y3 n i) else none
  | _ => none
def ixS(b:ByteArray):Option Nat->Option AV
  | some j => some (.i .u8 (b.data[j]?.getD 0).toNat)
  | none => none
def XuX:iaR es (some j)=some (.pr (es.getD j [])) :=nr rfl
def XuY:iaF es (some j)=some (.pr [Vm.filt gone gone (es.getD j .u)]) :=nr rfl
def XuZ:iaM .mut pl z lo es (some j)=some (.p ⟨pl.e,pl.r,pl.path++[(pl.c,lo+j,z)],0⟩) :=nr rfl
def Xu0:iaM .ro pl z lo es (some j)=some (.pr (Ys (es.getD (lo+j) []))) :=nr rfl
def Xu1:iaM .app pl z lo es (some j)=some (.pr (Ys (es.getD (lo+j) []))) :=nr rfl
def Xu2:iaC pl z zr lo n i (some (.sl t z' es))=if(z=z'/\zr=z)/\lo+n<=es.length then iaM t pl z lo es (Y3 n i) else none :=nr rfl
def Xu3:ixS b (some j)=some (.i .u8 (b.data[j]?.getD 0).toNat) :=nr rfl
def Xu4:indexAddr st z (.sl .ro z' es) i=if z=z' then iaR es (Y3 es.length i) else none :=by
  by_cases h:z=z'
  · simp only[indexAddr,if_pos h]; cases Y3 es.length i<;>rfl
  · simp only[indexAddr,if_neg h]
def Xu5:indexAddr st z (.fs es) i=if z=1 then iaF es (Y3 es.length i) else none :=by
  by_cases h:z=1
  · simp only[indexAddr,if_pos h]; cases Y3 es.length i<;>rfl
  · simp only[indexAddr,if_neg h]
def Xu6:indexAddr st z (.rf pl zr lo n) i=Xc (node st pl) (λcells => iaC pl z zr lo n i cells[pl.c]?) :=by
  simp only[indexAddr,Xc]
  cases node st pl with
  | none => rfl
  | some cells =>
    simp only
    cases cells[pl.c]? with
    | none => rfl
    | some a =>
      cases a<;>rfl
def Xu7:Um (.array m z ag w) (.agg cs) (.i k n)=if z=1/\ag=false then Xj3 m cs n else none :=nr rfl
def Xu8:XaW 5 1 false=[(0,1,false,0),(1,1,false,0),(2,1,false,0),(3,1,false,0),(4,1,false,0)] :=nr rfl
def Xu9:Um .str (.s b) (.i k n)=ixS b (Y3 b.size n) :=by simp only[Um,ixS]; cases Y3 b.size n<;>rfl
def Xva:Xcf .u=none :=nr rfl
def Xvb:Xcf .no=none :=nr rfl
def Xvc:Xcf .ub=none :=nr rfl
def Xvd:Xcf (.b x)=none :=nr rfl
def Xve:Xcf (.i k n)=none :=nr rfl
def Xvf:Xcf (.s x)=none :=nr rfl
def Xvg:Xcf .nil=none :=nr rfl
def Xvh:Xcf (.sl t z es)=none :=nr rfl
def Xvi:Xcf (.rf pl y lo n)=none :=nr rfl
def Xvj:Xcf (.p pl)=some (.p pl) :=nr rfl
def Xvk:Xcf (.pr cs)=some (.pr cs) :=nr rfl
def Xvl:Xcf .pn=none :=nr rfl
def Xvm:Xcf (.fn f cs)=none :=nr rfl
def Xvn:Xcf (.fs cs)=none :=nr rfl
def Xvo:Xcf (.agg cs)=none :=nr rfl
def Xvp:Xcf (.tup cs)=none :=nr rfl
def XnW(f:Nat)(cs xs:List AV):fnV (.fn f cs) xs=some (f,xs++cs) :=nr rfl
def Xvq:strip .u=.u :=nr rfl
def Xvr:strip .no=.u :=nr rfl
def Xvs:strip .ub=.ub :=nr rfl
def Xvt:strip (.b x)=(.b x) :=nr rfl
def Xvu:strip (.i k n)=(.i k n) :=nr rfl
def Xvv:strip (.s x)=(.s x) :=nr rfl
def Xvw:strip .nil=.nil :=nr rfl
def Xvx:strip (.sl t z es)=.sl .ro z (XK es) :=nr rfl
def Xvy:strip (.rf pl y lo n)=.u :=nr rfl
def Xvz:strip (.p pl)=.u :=nr rfl
def XvA:strip (.pr cs)=(.pr cs) :=nr rfl
def XvB:strip .pn=.pn :=nr rfl
def XvC:strip (.fn f cs)=.u :=nr rfl
def XvD:strip (.fs cs)=.u :=nr rfl
def XvE:strip (.agg cs)=.u :=nr rfl
def XvF:strip (.tup cs)=.u :=nr rfl
def XvG:XG .u=false :=nr rfl
def XvH:XG .no=false :=nr rfl
def XvI:XG .ub=false :=nr rfl
def XvJ:XG (.b x)=false :=nr rfl
def XvK:XG (.i k n)=false :=nr rfl
def XvL:XG (.s x)=false :=nr rfl
def XvM:XG .nil=false :=nr rfl
def XvN:XG (.rf pl y lo n)=false :=nr rfl
def XvO:XG (.p pl)=false :=nr rfl
def XvP:XG (.pr cs)=true :=nr rfl
def XvQ:XG .pn=false :=nr rfl
def XvR:XG (.fn f cs)=true :=nr rfl
def XvS:XG (.fs cs)=true :=nr rfl
def XvT:XG (.agg cs)=X7 cs :=nr rfl
def XvU:XG (.tup cs)=X7 cs :=nr rfl
def XvV:XG (.sl .ro z es)=true :=nr rfl
def XvW:XG (.sl .app z es)=true :=nr rfl
def XvX:XG (.sl .mut z es)=Yp es :=nr rfl
def XvY:X7 []=false :=nr rfl
def XvZ:X7 (a :: l)=(XG a||X7 l) :=nr rfl
def Xv0:X8 .u=true :=nr rfl
def Xv1:X8 .no=false :=nr rfl
def Xv2:X8 .ub=true :=nr rfl
def Xv3:X8 (.b x)=true :=nr rfl
def Xv4:X8 (.i k n)=true :=nr rfl
def Xv5:X8 (.s x)=true :=nr rfl
def Xv6:X8 .nil=true :=nr rfl
def Xv7:X8 (.sl t z es)=true :=nr rfl
def Xv8:X8 (.rf pl y lo n)=false :=nr rfl
def Xv9:X8 (.p pl)=false :=nr rfl
def Xwa:X8 (.pr cs)=true :=nr rfl
def Xwb:X8 .pn=true :=nr rfl
def Xwc:X8 (.fn f cs)=cs.all YG :=nr rfl
def Xwd:X8 (.fs cs)=false :=nr rfl
def Xwe:X8 (.agg cs)=cs.all XP :=nr rfl
def Xwf:X8 (.tup cs)=false :=nr rfl
def Xwg:Xbu ti0 E0 op0 .u a0=bin ti0 op0 .u a0 :=nr rfl
def Xwh:Xbu ti0 E0 op0 .no a0=bin ti0 op0 .no a0 :=nr rfl
def Xwi:Xbu ti0 E0 op0 .ub a0=bin ti0 op0 .ub a0 :=nr rfl
def Xwj:Xbu ti0 E0 op0 (.b x) a0=bin ti0 op0 (.b x) a0 :=nr rfl
def Xwk:Xbu ti0 E0 op0 (.i k n) a0=bin ti0 op0 (.i k n) a0 :=nr rfl
def Xwl:Xbu ti0 E0 op0 (.s x) a0=bin ti0 op0 (.s x) a0 :=nr rfl
def Xwm:Xbu ti0 E0 op0 .nil a0=bin ti0 op0 .nil a0 :=nr rfl
def Xwn:Xbu ti0 E0 op0 (.sl t z es) a0=bin ti0 op0 (.sl t z es) a0 :=nr rfl
def Xwo:Xbu ti0 E0 op0 (.rf pl y lo n) a0=bin ti0 op0 (.rf pl y lo n) a0 :=nr rfl
def Xwp:Xbu ti0 E0 op0 (.p pl) a0=bin ti0 op0 (.p pl) a0 :=nr rfl
def Xwq:Xbu ti0 E0 op0 (.pr cs) a0=bin ti0 op0 (.pr cs) a0 :=nr rfl
def Xwr:Xbu ti0 E0 op0 .pn a0=bin ti0 op0 .pn a0 :=nr rfl
def Xws:Xbu ti0 E0 op0 (.fn f cs) a0=bin ti0 op0 (.fn f cs) a0 :=nr rfl
def Xwt:Xbu ti0 E0 op0 (.fs cs) a0=bin ti0 op0 (.fs cs) a0 :=nr rfl
def Xwu:Xbu ti0 E0 op0 (.tup cs) a0=bin ti0 op0 (.tup cs) a0 :=nr rfl
def eqR(op:BinOp)(e:Option Bool):Option AV :=match e with | some e => eqB op e | none => none
def Xwv:Xbu ti0 (some ks) op0 (.agg a) (.agg b)=eqR op0 (X6 ks a b) :=by simp only[Xbu,Xgh,eqR]; cases X6 ks a b<;>rfl
def Xww:eqR op (some e)=eqB op e :=nr rfl
def Xll(p:Bool)(e:Option Bool):Option Bool :=match e with | some e => some (p&&e) | none => none
def Xwx:Xll p (some e)=some (p&&e) :=nr rfl
def Xwy:X6 [] [] []=some true :=nr rfl
def Xwz:X6 (0 :: ks) (.b x :: a) (.b y :: b)=Xll (x==y) (X6 ks a b) :=by simp only[X6,Xll]; cases X6 ks a b<;>rfl
def XwA:X6 (1 :: ks) (.i k x :: a) (.i k y :: b)=Xll (x==y) (X6 ks a b) :=by simp only[X6,Xll,if_true]; cases X6 ks a b<;>rfl
def XwB:X6 (2 :: ks) (.s x :: a) (.s y :: b)=Xll (x.toList==y.toList) (X6 ks a b) :=by simp only[X6,Xll]; cases X6 ks a b<;>rfl
def XwC:YG .u=false :=nr rfl
def XwD:YG .no=false :=nr rfl
def XwE:YG .ub=false :=nr rfl
def XwF:YG (.b x)=true :=nr rfl
def XwG:YG (.i k n)=true :=nr rfl
def XwH:YG (.s x)=true :=nr rfl
def XwI:YG .nil=false :=nr rfl
def XwJ:YG (.rf pl y lo n)=false :=nr rfl
def XwK:YG (.p pl)=false :=nr rfl
def XwL:YG (.pr cs)=true :=nr rfl
def XwM:YG .pn=true :=nr rfl
def XwN:YG (.fn f cs)=false :=nr rfl
def XwO:YG (.fs cs)=false :=nr rfl
def XwP:YG (.agg cs)=false :=nr rfl
def XwQ:YG (.tup cs)=false :=nr rfl
def XwR:YG (.sl .ro z es)=true :=nr rfl
def XwS:Qs .u=YG .u :=nr rfl
def XwT:Qs .no=YG .no :=nr rfl
def XwU:Qs .ub=YG .ub :=nr rfl
def XwV:Qs (.b x)=YG (.b x) :=nr rfl
def XwW:Qs (.i k n)=YG (.i k n) :=nr rfl
def XwX:Qs (.s x)=YG (.s x) :=nr rfl
def XwY:Qs .nil=YG .nil :=nr rfl
def XwZ:Qs (.sl t z es)=YG (.sl t z es) :=nr rfl
def Xw0:Qs (.rf pl y lo n)=YG (.rf pl y lo n) :=nr rfl
def Xw1:Qs (.p pl)=YG (.p pl) :=nr rfl
def Xw2:Qs (.pr cs)=YG (.pr cs) :=nr rfl
def Xw3:Qs .pn=YG .pn :=nr rfl
def Xw4:Qs (.fn f cs)=cs.all YG :=nr rfl
def Xw5:Qs (.fs cs)=YG (.fs cs) :=nr rfl
def Xw6:Qs (.agg cs)=YG (.agg cs) :=nr rfl
def Xw7:Qs (.tup cs)=YG (.tup cs) :=nr rfl
def Xw8:QQ st d cs=if cs.all Qs=true then some (st.put d (.pr cs)) else none :=nr rfl
def Xw9:outLeaf st .u=if XP .u=true then some ((.u,none),st) else none :=nr rfl
def Xxa:outLeaf st .no=if XP .no=true then some ((.no,none),st) else none :=nr rfl
def Xxb:outLeaf st .ub=if XP .ub=true then some ((.ub,none),st) else none :=nr rfl
def Xxc:outLeaf st (.b x)=if XP (.b x)=true then some (((.b x),none),st) else none :=nr rfl
def Xxd:outLeaf st (.i k n)=if XP (.i k n)=true then some (((.i k n),none),st) else none :=nr rfl
def Xxe:outLeaf st (.s x)=if XP (.s x)=true then some (((.s x),none),st) else none :=nr rfl
def Xxf:outLeaf st .nil=if XP .nil=true then some ((.nil,none),st) else none :=nr rfl
def Xxg:outLeaf st (.sl t z es)=if XP (.sl t z es)=true then some (((.sl t z es),none),st) else none :=nr rfl
def Xxh:outLeaf st (.p pl)=if XP (.p pl)=true then some (((.p pl),none),st) else none :=nr rfl
def Xxi:outLeaf st (.pr cs)=if XP (.pr cs)=true then some (((.pr cs),none),st) else none :=nr rfl
def Xxj:outLeaf st .pn=if XP .pn=true then some ((.pn,none),st) else none :=nr rfl
def Xxk:outLeaf st (.fn f cs)=if XP (.fn f cs)=true then some (((.fn f cs),none),st) else none :=nr rfl
def Xxl:outLeaf st (.fs cs)=if XP (.fs cs)=true then some (((.fs cs),none),st) else none :=nr rfl
def Xxm:outLeaf st (.agg cs)=if XP (.agg cs)=true then some (((.agg cs),none),st) else none :=nr rfl
def Xxn:outLeaf st (.tup cs)=if XP (.tup cs)=true then some (((.tup cs),none),st) else none :=nr rfl
def Xxo:XF st .u (some (pl0,b0))=some st :=nr rfl
def Xxp:XF st .no (some (pl0,b0))=some st :=nr rfl
def Xxq:XF st .ub (some (pl0,b0))=some st :=nr rfl
def Xxr:XF st (.b x) (some (pl0,b0))=some st :=nr rfl
def Xxs:XF st (.i k n) (some (pl0,b0))=some st :=nr rfl
def Xxt:XF st (.s x) (some (pl0,b0))=some st :=nr rfl
def Xxu:XF st .nil (some (pl0,b0))=some st :=nr rfl
def Xxv:XF st (.rf pl y lo n) (some (pl0,b0))=some st :=nr rfl
def Xxw:XF st (.p pl) (some (pl0,b0))=some st :=nr rfl
def Xxx:XF st (.pr cs) (some (pl0,b0))=some st :=nr rfl
def Xxy:XF st .pn (some (pl0,b0))=some st :=nr rfl
def Xxz:XF st (.fn f cs) (some (pl0,b0))=some st :=nr rfl
def XxA:XF st (.fs cs) (some (pl0,b0))=some st :=nr rfl
def XxB:XF st (.agg cs) (some (pl0,b0))=some st :=nr rfl
def XxC:XF st (.tup cs) (some (pl0,b0))=some st :=nr rfl
def XxD:weakLeaf st .u=some st :=nr rfl
def XxE:weakLeaf st .no=some st :=nr rfl
def XxF:weakLeaf st .ub=some st :=nr rfl
def XxG:weakLeaf st (.b x)=some st :=nr rfl
def XxH:weakLeaf st (.i k n)=some st :=nr rfl
def XxI:weakLeaf st (.s x)=some st :=nr rfl
def XxJ:weakLeaf st .nil=some st :=nr rfl
def XxK:weakLeaf st (.sl t z es)=some st :=nr rfl
def XxL:weakLeaf st (.p pl)=none :=nr rfl
def XxM:weakLeaf st (.pr cs)=some st :=nr rfl
def XxN:weakLeaf st .pn=some st :=nr rfl
def XxO:weakLeaf st (.fn f cs)=none :=nr rfl
def XxP:weakLeaf st (.fs cs)=none :=nr rfl
def XxQ:weakLeaf st (.agg cs)=none :=nr rfl
def XxR:weakLeaf st (.tup cs)=none :=nr rfl
def XxS:QO st x0 .u=weakLeaf st .u :=nr rfl
def XxT:QO st x0 .no=weakLeaf st .no :=nr rfl
def XxU:QO st x0 .ub=weakLeaf st .ub :=nr rfl
def XxV:QO st x0 (.b x)=weakLeaf st (.b x) :=nr rfl
def XxW:QO st x0 (.i k n)=weakLeaf st (.i k n) :=nr rfl
def XxX:QO st x0 (.s x)=weakLeaf st (.s x) :=nr rfl
def XxY:QO st x0 .nil=weakLeaf st .nil :=nr rfl
def XxZ:QO st x0 (.sl t z es)=weakLeaf st (.sl t z es) :=nr rfl
def Xx0:QO st x0 (.rf pl y lo n)=weakLeaf st (.rf pl y lo n) :=nr rfl
def Xx1:QO st x0 (.p pl)=weakLeaf st (.p pl) :=nr rfl
def Xx2:QO st x0 (.pr cs)=weakLeaf st (.pr cs) :=nr rfl
def Xx3:QO st x0 .pn=weakLeaf st .pn :=nr rfl
def Xx4:QO st x0 (.fn f cs)=weakLeaf st (.fn f cs) :=nr rfl
def Xx5:QO st x0 (.fs cs)=weakLeaf st (.fs cs) :=nr rfl
def Xx6:QO st x0 (.agg cs)=ZC x0 cs.length 0 st :=nr rfl
def Xx7:QO st x0 (.tup cs)=weakLeaf st (.tup cs) :=nr rfl
def Xx8:Zf .u=true :=nr rfl
def Xx9:Zf .no=true :=nr rfl
def Xya:Zf .ub=true :=nr rfl
def Xyb:Zf (.b x)=true :=nr rfl
def Xyc:Zf (.i k n)=true :=nr rfl
def Xyd:Zf (.s x)=true :=nr rfl
def Xye:Zf .nil=true :=nr rfl
def Xyf:Zf (.sl t z es)=true :=nr rfl
def Xyg:Zf (.rf pl y lo n)=true :=nr rfl
def Xyh:Zf (.p pl)=true :=nr rfl
def Xyi:Zf (.pr cs)=true :=nr rfl
def Xyj:Zf .pn=true :=nr rfl
def Xyk:Zf (.fn f cs)=true :=nr rfl
def Xyl:Zf (.fs cs)=true :=nr rfl
def Xym:Zf (.agg cs)=false :=nr rfl
def Xyn:Zf (.tup cs)=true :=nr rfl
def Xyo:XM st z .u=none :=nr rfl
def Xyp:XM st z .no=none :=nr rfl
def Xyq:XM st z .ub=none :=nr rfl
def Xyr:XM st z (.b x)=none :=nr rfl
def Xys:XM st z (.i k n)=none :=nr rfl
def Xyt:XM st z (.s x)=none :=nr rfl
def Xyu:XM st z .nil=some [] :=nr rfl
def Xyv:XM st z (.p pl)=none :=nr rfl
def Xyw:XM st z (.pr cs)=none :=nr rfl
def Xyx:XM st z .pn=none :=nr rfl
def Xyy:XM st z (.fn f cs)=none :=nr rfl
def Xyz:XM st z (.fs cs)=none :=nr rfl
def XyA:XM st z (.agg cs)=none :=nr rfl
def XyB:XM st z (.tup cs)=none :=nr rfl
def XyC:XM st z (.sl t y es)=if y=z then some es else none :=nr rfl
def XyD:XM st z (.rf pl y lo n)=if y=z then XH st (.rf pl y lo n) else none :=nr rfl
def XyE:Xn ow av st d .u=some .u :=by cases d<;>simp only[Xn]
def XyF:Xn ow av st d .no=none :=by cases d<;>simp only[Xn]
def XyG:Xn ow av st d .ub=some .ub :=by cases d<;>simp only[Xn]
def XyH:Xn ow av st d (.b x)=some (.b x) :=by cases d<;>simp only[Xn]
def XyI:Xn ow av st d (.i k n)=some (.i k n) :=by cases d<;>simp only[Xn]
def XyJ:Xn ow av st d (.s x)=some (.s x) :=by cases d<;>simp only[Xn]
def XyK:Xn ow av st d .nil=some .nil :=by cases d<;>simp only[Xn]
def XyL:Xn ow av st d (.sl t z es)=some (.sl .ro z (XK es)) :=by cases d<;>simp only[Xn]
def XyM:Xn ow av st d (.pr cs)=some (.pr cs) :=by cases d<;>simp only[Xn]
def XyN:Xn ow av st d .pn=some .pn :=by cases d<;>simp only[Xn]
def XyO:Xn ow av st d (.agg cs)=none :=by cases d<;>simp only[Xn]
def XyP:Xn ow av st d (.tup cs)=none :=by cases d<;>simp only[Xn]
def prO(x:Option (List AV)):Option AV :=match x with
  | some cs => some (.pr cs)
  | none => none
def agO(x:Option (List AV)):Option AV :=match x with
  | some cs => some (.agg cs)
  | none => none
def fnO(f:Nat)(x:Option (List AV)):Option AV :=match x with
  | some cs => some (.fn f cs)
  | none => none
def fsO(x:Option (List AV)):Option AV :=match x with
  | some cs => some (.fs cs)
  | none => none
def coO(a:Option AV)(x:Option (List AV)):Option (List AV) :=match a,x with
  | some a,some l => some (a :: l)
  | _,_ => none
def XyQ:ZD ow av st .u=Xn ow av st 8 .u :=nr rfl
def XyR:ZD ow av st .no=Xn ow av st 8 .no :=nr rfl
def XyS:ZD ow av st .ub=Xn ow av st 8 .ub :=nr rfl
def XyT:ZD ow av st (.b x)=Xn ow av st 8 (.b x) :=nr rfl
def XyU:ZD ow av st (.i k n)=Xn ow av st 8 (.i k n) :=nr rfl
def XyV:ZD ow av st (.s x)=Xn ow av st 8 (.s x) :=nr rfl
def XyW:ZD ow av st .nil=Xn ow av st 8 .nil :=nr rfl
def XyX:ZD ow av st (.sl t z es)=Xn ow av st 8 (.sl t z es) :=nr rfl
def XyY:ZD ow av st (.rf pl y lo n)=Xn ow av st 8 (.rf pl y lo n) :=nr rfl
def XyZ:ZD ow av st (.p pl)=Xn ow av st 8 (.p pl) :=nr rfl
def Xy0:ZD ow av st (.pr cs)=Xn ow av st 8 (.pr cs) :=nr rfl
def Xy1:ZD ow av st .pn=Xn ow av st 8 .pn :=nr rfl
def Xy2:ZD ow av st (.fn f cs)=Xn ow av st 8 (.fn f cs) :=nr rfl
def Xy3:ZD ow av st (.fs cs)=Xn ow av st 8 (.fs cs) :=nr rfl
def Xy4:ZD ow av st (.agg cs)=agO (Xq ow av st 8 cs) :=by simp only[ZD,agO]; cases Xq ow av st 8 cs<;>rfl
def Xy5:ZD ow av st (.tup cs)=Xn ow av st 8 (.tup cs) :=nr rfl
def Xy6:prO (some cs)=some (.pr cs) :=nr rfl
def Xy7:agO (some cs)=some (.agg cs) :=nr rfl
def Xy8:fnO f (some cs)=some (.fn f cs) :=nr rfl
def Xy9:fsO (some cs)=some (.fs cs) :=nr rfl
def Xza:coO (some a) (some l)=some (a :: l) :=nr rfl
def Xzb:Xn ow av st 1 (.p pl)=if(ow&&ZZ av pl&&XD st pl)=true then prO (Xc (node st pl) (λcells => Xq ow av st 0 (cells.drop pl.c))) else none :=by
  simp only[Xn,Xc,prO]
  cases node st pl with
  | none => rfl
  | some cells => simp only[]; cases Xq ow av st 0 (cells.drop pl.c)<;>rfl
def Xzc:Xn ow av st 1 (.fs cs)=fsO (Xq ow av st 0 cs) :=by
  simp only[Xn,fsO]; cases Xq ow av st 0 cs<;>rfl
def Xzd:Xn ow av st 1 (.fn f cs)=fnO f (Xq ow av st 0 cs) :=by
  simp only[Xn,fnO]; cases Xq ow av st 0 cs<;>rfl
def Xze:Xn ow av st 2 (.p pl)=if(ow&&ZZ av pl&&XD st pl)=true then prO (Xc (node st pl) (λcells => Xq ow av st 1 (cells.drop pl.c))) else none :=by
  simp only[Xn,Xc,prO]
  cases node st pl with
  | none => rfl
  | some cells => simp only[]; cases Xq ow av st 1 (cells.drop pl.c)<;>rfl
def Xzf:Xn ow av st 2 (.fs cs)=fsO (Xq ow av st 1 cs) :=by
  simp only[Xn,fsO]; cases Xq ow av st 1 cs<;>rfl
def Xzg:Xn ow av st 2 (.fn f cs)=fnO f (Xq ow av st 1 cs) :=by
  simp only[Xn,fnO]; cases Xq ow av st 1 cs<;>rfl
def Xzh:Xn ow av st 3 (.p pl)=if(ow&&ZZ av pl&&XD st pl)=true then prO (Xc (node st pl) (λcells => Xq ow av st 2 (cells.drop pl.c))) else none :=by
  simp only[Xn,Xc,prO]
  cases node st pl with
  | none => rfl
  | some cells => simp only[]; cases Xq ow av st 2 (cells.drop pl.c)<;>rfl
def Xzi:Xn ow av st 3 (.fs cs)=fsO (Xq ow av st 2 cs) :=by
  simp only[Xn,fsO]; cases Xq ow av st 2 cs<;>rfl
def Xzj:Xn ow av st 3 (.fn f cs)=fnO f (Xq ow av st 2 cs) :=by
  simp only[Xn,fnO]; cases Xq ow av st 2 cs<;>rfl
def Xzk:Xn ow av st 4 (.p pl)=if(ow&&ZZ av pl&&XD st pl)=true then prO (Xc (node st pl) (λcells => Xq ow av st 3 (cells.drop pl.c))) else none :=by
  simp only[Xn,Xc,prO]
  cases node st pl with
  | none => rfl
  | some cells => simp only[]; cases Xq ow av st 3 (cells.drop pl.c)<;>rfl
def Xzl:Xn ow av st 4 (.fs cs)=fsO (Xq ow av st 3 cs) :=by
  simp only[Xn,fsO]; cases Xq ow av st 3 cs<;>rfl
def Xzm:Xn ow av st 4 (.fn f cs)=fnO f (Xq ow av st 3 cs) :=by
  simp only[Xn,fnO]; cases Xq ow av st 3 cs<;>rfl
def Xzn:Xn ow av st 5 (.p pl)=if(ow&&ZZ av pl&&XD st pl)=true then prO (Xc (node st pl) (λcells => Xq ow av st 4 (cells.drop pl.c))) else none :=by
  simp only[Xn,Xc,prO]
  cases node st pl with
  | none => rfl
  | some cells => simp only[]; cases Xq ow av st 4 (cells.drop pl.c)<;>rfl
def Xzo:Xn ow av st 5 (.fs cs)=fsO (Xq ow av st 4 cs) :=by
  simp only[Xn,fsO]; cases Xq ow av st 4 cs<;>rfl
def Xzp:Xn ow av st 5 (.fn f cs)=fnO f (Xq ow av st 4 cs) :=by
  simp only[Xn,fnO]; cases Xq ow av st 4 cs<;>rfl
def Xzq:Xn ow av st 6 (.p pl)=if(ow&&ZZ av pl&&XD st pl)=true then prO (Xc (node st pl) (λcells => Xq ow av st 5 (cells.drop pl.c))) else none :=by
  simp only[Xn,Xc,prO]
  cases node st pl with
  | none => rfl
  | some cells => simp only[]; cases Xq ow av st 5 (cells.drop pl.c)<;>rfl
def Xzr:Xn ow av st 6 (.fs cs)=fsO (Xq ow av st 5 cs) :=by
  simp only[Xn,fsO]; cases Xq ow av st 5 cs<;>rfl
def Xzs:Xn ow av st 6 (.fn f cs)=fnO f (Xq ow av st 5 cs) :=by
  simp only[Xn,fnO]; cases Xq ow av st 5 cs<;>rfl
def Xzt:Xn ow av st 7 (.p pl)=if(ow&&ZZ av pl&&XD st pl)=true then prO (Xc (node st pl) (λcells => Xq ow av st 6 (cells.drop pl.c))) else none :=by
  simp only[Xn,Xc,prO]
  cases node st pl with
  | none => rfl
  | some cells => simp only[]; cases Xq ow av st 6 (cells.drop pl.c)<;>rfl
def Xzu:Xn ow av st 7 (.fs cs)=fsO (Xq ow av st 6 cs) :=by
  simp only[Xn,fsO]; cases Xq ow av st 6 cs<;>rfl
def Xzv:Xn ow av st 7 (.fn f cs)=fnO f (Xq ow av st 6 cs) :=by
  simp only[Xn,fnO]; cases Xq ow av st 6 cs<;>rfl
def Xzw:Xn ow av st 8 (.p pl)=if(ow&&ZZ av pl&&XD st pl)=true then prO (Xc (node st pl) (λcells => Xq ow av st 7 (cells.drop pl.c))) else none :=by
  simp only[Xn,Xc,prO]
  cases node st pl with
  | none => rfl
  | some cells => simp only[]; cases Xq ow av st 7 (cells.drop pl.c)<;>rfl
def Xzx:Xn ow av st 8 (.fs cs)=fsO (Xq ow av st 7 cs) :=by
  simp only[Xn,fsO]; cases Xq ow av st 7 cs<;>rfl
def Xzy:Xn ow av st 8 (.fn f cs)=fnO f (Xq ow av st 7 cs) :=by
  simp only[Xn,fnO]; cases Xq ow av st 7 cs<;>rfl
def Xzz:Xq ow av st d []=some [] :=by simp only[Xq]
def XzA:Xq ow av st d (a :: l)=coO (Xn ow av st d a) (Xq ow av st d l) :=by
  simp only[Xq,coO]
  cases Xn ow av st d a with
  | none => rfl
  | some a' => simp only[]; cases Xq ow av st d l<;>rfl
def XmG(ow:Bool):Tag->Bool
  | .mut => ow
  | _ => true
def XnX(ow:Bool)(y lo n:Nat)(a:Option AV):Option AV :=match a with
  | some (.sl t z es) => if(lo+n<=es.length/\y=z)/\XmG ow t=true then some (.sl .ro y (XK ((es.drop lo).take n))) else none
  | _ => none
def XzB:XmG ow .mut=ow :=nr rfl
def XzC:XmG ow .ro=true :=nr rfl
def XzD:XmG ow .app=true :=nr rfl
def XzE:Xn ow av st d (.rf pl y lo n)=if ZZ av pl=true then Xc (node st pl) (λcells => XnX ow y lo n cells[pl.c]?) else none :=by
  cases d<;>(simp only[Xn,Xc,XnX]; split<;>(try rfl); cases node st pl with
    | none => rfl
    | some cells => simp only[]; cases cells[pl.c]? with
      | none => rfl
      | some a => cases a<;>(try rfl); rename_i t z es; cases t<;>cases ow<;>simp[XmG])
def XzF:XH st .u=none :=nr rfl
def XzG:XH st .no=none :=nr rfl
def XzH:XH st .ub=none :=nr rfl
def XzI:XH st (.b x)=none :=nr rfl
def XzJ:XH st (.i k n)=none :=nr rfl
def XzK:XH st (.s x)=none :=nr rfl
def XzL:XH st .nil=some [] :=nr rfl
def XzM:XH st (.sl t z es)=some es :=nr rfl
def XzN:XH st (.p pl)=none :=nr rfl
def XzO:XH st (.pr cs)=none :=nr rfl
def XzP:XH st .pn=none :=nr rfl
def XzQ:XH st (.fn f cs)=none :=nr rfl
def XzR:XH st (.fs cs)=none :=nr rfl
def XzS:XH st (.agg cs)=none :=nr rfl
def XzT:XH st (.tup cs)=none :=nr rfl
def XzU:XlD st .str (.s x)=some x.size :=nr rfl
def XzV:XcS .str=true :=nr rfl
def XzW:XcS (.slice z b zero)=true :=nr rfl
def XzX:XlD st (.slice z b zero) a=lenOf st a :=nr rfl
def XzY:UF .str (.s b) lo hi=ZB (.s b) lo hi :=nr rfl
def XzZ:UF (.slice z b zero) (.sl t z es) lo hi=ZB (.sl t z es) lo hi :=by simp only[UF,if_true]
def Xz0:UF (.slice z b zero) (.rf pl z o n) lo hi=ZB (.rf pl z o n) lo hi :=by simp only[UF,if_true]
def Xz1:lenOf st .u=none :=nr rfl
def Xz2:lenOf st .no=none :=nr rfl
def Xz3:lenOf st .ub=none :=nr rfl
def Xz4:lenOf st (.b x)=none :=nr rfl
def Xz5:lenOf st (.i k n)=none :=nr rfl
def Xz6:lenOf st (.s x)=none :=nr rfl
def Xz7:lenOf st .nil=some 0 :=nr rfl
def Xz8:lenOf st (.sl t z es)=some es.length :=nr rfl
def Xz9:lenOf st (.p pl)=none :=nr rfl
def XAa:lenOf st (.pr cs)=none :=nr rfl
def XAb:lenOf st .pn=none :=nr rfl
def XAc:lenOf st (.fn f cs)=none :=nr rfl
def XAd:lenOf st (.fs cs)=some cs.length :=nr rfl
def XAe:lenOf st (.agg cs)=none :=nr rfl
def XAf:lenOf st (.tup cs)=none :=nr rfl
def XnY(y n lo:Nat)(a:Option AV):Option Nat :=match a with
  | some (.sl _ z es) => if lo+n<=es.length/\y=z then some ((es.drop lo).take n).length else none
  | _ => none
def XnZ(y n lo:Nat)(a:Option AV):Option (List (List AV)) :=match a with
  | some (.sl _ z es) => if lo+n<=es.length/\y=z then some ((es.drop lo).take n) else none
  | _ => none
def XAg:XH st (.rf pl y lo n)=Xc (node st pl) (λcells => XnZ y n lo cells[pl.c]?) :=by simp only[XH,Xc,XnZ]; cases node st pl<;>rfl
def XAh:lenOf st (.rf pl y lo n)=Xc (node st pl) (λcells => XnY y n lo cells[pl.c]?) :=by
  simp only[lenOf,XH,Xc,XnY]
  cases node st pl with
  | none => rfl
  | some cells =>
    simp only[]
    cases cells[pl.c]? with
    | none => rfl
    | some a =>
      cases a<;>try rfl
      rename_i t z es
      simp only[]
      by_cases h:lo+n<=es.length/\y=z
      · simp only[if_pos h]
      · simp only[if_neg h]
def XAi:bin ti op (.i k a) (.i k b)=XdR op k a b :=by simp only[bin,if_true]
def XAj:bin ti op (.s a) (.s b)=Xjz op a b :=nr rfl
def XAk:bin (some .bool) op (.b a) (.b b)=eqB op (a==b) :=nr rfl
def XAl:bin (some .ptr) op (.p q) .pn=eqB op false :=nr rfl
def XAm:bin (some .ptr) op (.pr q) .pn=eqB op false :=nr rfl
def XAn:bin (some .ptr) op .pn .pn=eqB op true :=nr rfl
def XAo:XdR .add k a b=some (.i k (k.wrap (a+b))) :=nr rfl
def XAp:XdR .sub k a b=some (.i k (k.wrap (a-b))) :=nr rfl
def XAq:XdR .mul k a b=some (.i k (k.wrap (a*b))) :=nr rfl
def XAr:XdR .eql k a b=some (.b (a==b)) :=nr rfl
def XAs:XdR .neq k a b=some (.b (a !=b)) :=nr rfl
def XAt:XdR .lss k a b=some (.b (decide (a<b))) :=nr rfl
def XAu:XdR .leq k a b=some (.b (decide (a<=b))) :=nr rfl
def XAv:XdR .gtr k a b=some (.b (decide (a>b))) :=nr rfl
def XAw:XdR .geq k a b=some (.b (decide (a>=b))) :=nr rfl
def XAx:XdR .quo k a b=if b=0 then none else some (.i k (k.wrap (a.tdiv b))) :=nr rfl
def XAy:XdR .rem k a b=if b=0 then none else some (.i k (a.tmod b)) :=nr rfl
def XAz:Xjz .eql a b=some (.b (a.toList==b.toList)) :=nr rfl
def XAA:Xjz .neq a b=some (.b !(a.toList==b.toList)) :=nr rfl
def XAB:Xjz .lss a b=some (.b (Op.bytesLess a.toList b.toList)) :=nr rfl
def XAC:Xjz .add a b=if a.size+b.size<=9223372036854775807 then some (.s (a++b)) else none :=nr rfl
def XAD(e:Bool)(x:Option Bool):Option Bool :=match x with
  | some y => some (e&&y)
  | none => none
def XAE:XAD e (some y)=some (e&&y) :=nr rfl
def XAF:unV .not (.b x)=some (.b !x) :=nr rfl
def XAG:unV .neg (.i k n)=some (.i k (k.wrap (0-n))) :=nr rfl
def XAH:Xfe (.bool x)=.b x :=nr rfl
def XAI:Xfe (.int k n)=.i k n :=nr rfl
def XAJ:Xfe (.string x)=.s x :=nr rfl
def XAK:Xfe (.slice none 0 0)=.nil :=nr rfl
def XAL:Xfe (.pointer none)=.pn :=nr rfl
def XAM:bin T op (.sl t z es) .nil=Xao T op es.length :=nr rfl
def XAN:bin T op (.rf q z lo n) .nil=Xao T op n :=nr rfl
def XAO:Xao (some (.slice z b ze)) .eql n=if 0<n then some (.b false) else some .ub :=nr rfl
def XAP:Xao (some (.slice z b ze)) .neq n=if 0<n then some (.b true) else some .ub :=nr rfl
def Xne(f:Nat->AV)(g:Nat->List AV)(t j:Nat)(a:AV):Option (AV×St) :=match a with
  | .tup vs => match vs[j]? with
    | some v => some (v,⟨upd f t (.tup (vs.set j .u)),g⟩)
    | none => none
  | _ => none
def Xn0(f:Nat->AV)(g:Nat->List AV)(t j:Nat)(vs:List AV)(x:Option AV):Option (AV×St) :=match x with
  | some v => some (v,⟨upd f t (.tup (vs.set j .u)),g⟩)
  | none => none
def XAQ:Qu ⟨f,g⟩ (.tmp t) j=Xne f g t j (f t) :=by simp only[Qu,Xne]; cases f t<;>rfl
def XAR:Xne f g t j (.tup vs)=Xn0 f g t j vs vs[j]? :=by simp only[Xne,Xn0]
def XAS:Xn0 f g t j vs (some v)=some (v,⟨upd f t (.tup (vs.set j .u)),g⟩) :=nr rfl
attribute [go_sem ↓] XiG XkJ XiH XkM XfF Xdo Xb2 Xed Xee Xft Xcw Xef Xeg Xeh Xfv Xfw XfC Xdn Xej Xek Xec Xdd Xcv XgR XgS Xde Xdf Xdg Xdh Xdi ZW XeX XeY XgY Xbf Xb1 Xbh XbZ Xb0 Xb3 Xbi XkU Xhe XkX XiN Xmz XkY XiO Xem Xdp XiP Xdq XiQ XmA XnM XfH XiT Xen XfI XiU Xcx Xdr XmB Xhh XiV XmC XmD XkZ XiW Xk0 XiX XiY Xk1 Xi0 XiZ Xji XoN XoO XoP XoQ
attribute [go_sem] Xhf Xhg XiR XiS Xme Xhd Xhc Xha Xhb XkS XiL XiM Xg3 Xg4 XkN Xg5 Xg6 XfG Xg7 XnK XgV Xky XkA XgW XgX Xit Xkz Xdo Xb2 XkL XfE XnN Xk5 Xk6 XmE Xi6 XfK XfL Xep XfM XfN XfO Xhi Xds Xhj Xdt Xeq XfP Xhl Xi7 Xhm Xer Xi8 XfQ XfR Xi9 Xja Xjb Xjc Xla Xlb Xjd Xet Xlc Xje Xeu Xjf XfS Xjg Xhp Xhq Xhr Xjh XfT Xev Xdu Xdv Xew XfU Xex XbA Xbj Xcy Xle Xcz Xlg XbB Xfx Xfy Xfz XfA Xdl Xdm XfB Xiu Xiv Xiw Xix Xiy XkE stU skS Xg9 XcT QR Qk Xgl Xhn Xi1 Xk2 Xk3 Xk4 XfJ Xeo Xi3 Xi4 Xi5 Xi2 Xlh Xna XiI XkO XiJ Xg8 XkP trim? Xko inE Xip opU skU ZW Xfs XgQ XeX XeY XgY XgZ Xiz Xde Xdf Xdg Xdh Xdi Xbf Xb1 Xbh XkH Xb3 Xbi XkW XgT XgU Xis XiA XiB XkF Xg0 XiC XiD XiE Xg1 XiF XbZ Xb0 Xkr Xpp Xpq Xpr XnI Xmu Xks jL QF jE jB Xdj Xdk Xkv Xkw
  k0 k1 k2 k3 k4 k5 k6 k7 k8 k9 k10 k11 k12 k13 k14 k15 k16 k17 k18 k19 k20 k21 k22 k23 k24 k25 k26 k27 k28 k29 k30 k31 k32 k33 k34 k35 k36 k37 k38 k39 k40 k41 k42 k43 k44 k45 k46 k47 k48 k49 k50 k51 k52 k53 k54 k55 k56 k57 k58 k59 k60 k61 k62 k63 k64 k65 k66 k67 k68 k69 k70 k71 k72 k73 k74 k75 k76 k77 k78 k79 k80 k81 k82 k83 k84 k85 k86 k87 k88 k89 k90 k91 k92 k93 k94 k95 k96 k97 k98 k99 Xps Xpt Xpu Xpv Xpw Xpx Xpy Xpz XpA XpB XpC XpD XpE XpF XpG XpH XpI XpJ XpK XpL XpM XpN XpO XpP XpQ XpR XpS XpT XpU XpV XpW XpX XpY XpZ Xp0 Xp1 Xp2 Xp3 Xp4 Xp5 Xp6 Xp7 Xp8 Xp9 Xqa Xqb Xqc Xqd Xqe Xqf Xqg Xqh Xqi Xqj Xqk Xql Xqm Xqn Xqo Xqp Xqq Xqr Xqs Xqt Xqu Xqv Xqw Xqx Xqy Xqz XqA XqB XqC XqD XqE XqF XqG XqH XqI XqJ XqK XqL XqM XqN XqO XqP XqQ XqR XqS XqT XqU XqV XqW XqX XqY XqZ Xq0 Xq1 Xq2 Xq3 Xq4 Xq5 Xq6 Xq7 Xq8 Xq9 Xra Xrb Xrc Xrd Xre Xrf Xrg Xrh Xri Xrj Xrk Xrl Xrm Xrn Xro Xrp Xrq Xrr Xrs Xrt Xru Xrv Xrw Xrx Xry Xrz XrA XrB XrC XrD XrE XrF XrG XrH XrI XrJ XrK XrL XrM XrN XrO XrP XrQ XrR XrS XrT XrU XrV XrW XrX XrY XrZ Xr0 Xr1 Xr2 Xr3 Xr4 Xr5 Xr6 Xr7 Xr8 Xr9 Xsa Xsb Xsc Xsd Xse Xsf Xsg Xsh Xsi Xsj Xsk Xsl Xsm Xsn Xso Xsp Xsq Xsr Xss Xst Xsu Xsv Xsw Xsx Xsy Xsz XsA XsB XsC XsD XsE XsF XsG XsH XsI XsJ XsK XsL XsM XsN XsO XsP XsQ XsR XsS XsT XsU XsV XsW XsX XsY XsZ Xs0 Xs1 Xs2 Xs3 Xs4 Xs5 Xs6 Xs7 Xs8 Xs9 Xta Xtb Xtc Xtd Xte Xtf Xtg Xth Xti Xtj Xtk Xtl Xtm Xtn Xto Xtp XoN XoO XoP XoQ Xtq Xtr XnG XnH Xeb Xkn Xbe XgN XhM Xfr Xin XgO XgP XiK XkQ XkR Xts Xtt Xtu Xtv Xtw Xtx Xty Xtz XtA XtB XtC XtD XtE XtF XtG XtH XtI XtJ XtK XtL XtM XtN XtO XtP XtQ XtR XtS XtT XtU XtV XtW XtX XtY XtZ Xt0 Xt1 Xt2 Xt3 Xt4 Xt5 Xt6 Xt7 Xt8 Xt9 Xua Xub Xuc Xud Xue Xuf Xug XoR Xuh Xui Xlk Xuj Xuk Xul Xum Xun Xuo Xup Xuq Xur Xus Xut Xuu Xuv Xuw Xux Xuy Xuz XuA XuB XuC XuD XuE XuF XuG XuH XuI XuJ XuK XuL XuM XuN XuO XuP XuQ XuR XuS XuT XuU XuV St.cut keepP keepR Xp YZ Xu within setCells storeAt takeRf Qi ZB XaY Zj YU Y5 Xbt Xfi ZK U6 Xce XeK UG Q7 XaS Xfh XdS XcI XoK ZZ Y4 rwB Xa0 QJ one eqB Ys XK whole Md.isMv Md.isRw XuW XuX XuY XuZ Xu0 Xu1 Xu2 Xu3 Xu4 Xu5 Xu6 Xu7 Xu8 Xu9 Xva Xvb Xvc Xvd Xve Xvf Xvg Xvh Xvi Xvj Xvk Xvl Xvm Xvn Xvo Xvp XnW Xvq Xvr Xvs Xvt Xvu Xvv Xvw Xvx Xvy Xvz XvA XvB XvC XvD XvE XvF XvG XvH XvI XvJ XvK XvL XvM XvN XvO XvP XvQ XvR XvS XvT XvU XvV XvW XvX XvY XvZ Xv0 Xv1 Xv2 Xv3 Xv4 Xv5 Xv6 Xv7 Xv8 Xv9 Xwa Xwb Xwc Xwd Xwe Xwf Xwg Xwh Xwi Xwj Xwk Xwl Xwm Xwn Xwo Xwp Xwq Xwr Xws Xwt Xwu Xwv Xww Xwx Xwy Xwz XwA XwB XwC XwD XwE XwF XwG XwH XwI XwJ XwK XwL XwM XwN XwO XwP XwQ XwR XwS XwT XwU XwV XwW XwX XwY XwZ Xw0 Xw1 Xw2 Xw3 Xw4 Xw5 Xw6 Xw7 Xw8 Xw9 Xxa Xxb Xxc Xxd Xxe Xxf Xxg Xxh Xxi Xxj Xxk Xxl Xxm Xxn Xxo Xxp Xxq Xxr Xxs Xxt Xxu Xxv Xxw Xxx Xxy Xxz XxA XxB XxC XxD XxE XxF XxG XxH XxI XxJ XxK XxL XxM XxN XxO XxP XxQ XxR XxS XxT XxU XxV XxW XxX XxY XxZ Xx0 Xx1 Xx2 Xx3 Xx4 Xx5 Xx6 Xx7 Xx8 Xx9 Xya Xyb Xyc Xyd Xye Xyf Xyg Xyh Xyi Xyj Xyk Xyl Xym Xyn Xyo Xyp Xyq Xyr Xys Xyt Xyu Xyv Xyw Xyx Xyy Xyz XyA XyB XyC XyD XyE XyF XyG XyH XyI XyJ XyK XyL XyM XyN XyO XyP XyQ XyR XyS XyT XyU XyV XyW XyX XyY XyZ Xy0 Xy1 Xy2 Xy3 Xy4 Xy5 Xy6 Xy7 Xy8 Xy9 Xza Xzb Xzc Xzd Xze Xzf Xzg Xzh Xzi Xzj Xzk Xzl Xzm Xzn Xzo Xzp Xzq Xzr Xzs Xzt Xzu Xzv Xzw Xzx Xzy Xzz XzA XzB XzC XzD XzE XnX XzF XzG XzH XzI XzJ XzK XzL XzM XzN XzO XzP XzQ XzR XzS XzT XzU XzV XzW XzX XzY XzZ Xz0 Xz1 Xz2 Xz3 Xz4 Xz5 Xz6 Xz7 Xz8 Xz9 XAa XAb XAc XAd XAe XAf XAg XAh XnY XnZ XAi XAj XAk XAl XAm XAn XAo XAp XAq XAr XAs XAt XAu XAv XAw XAx XAy XAz XAA XAB XAC XAE XAF XAG XAH XAI XAJ XAK XAL XAM XAN XAO XAP XAQ XAR XAS
end Go.Vm
