/- A part of a reflected evaluator of the program's code, and the proof that what it computes is what the machine does. -/
import Derived.Test.YtpoannkeaajngaaGreatDoorVa
import Derived.Attr
set_option linter.unusedVariables false
set_option linter.unusedSimpArgs false
set_option autoImplicit false
set_option linter.defProp false
namespace Go.Vm
def nr{α:Sort _}{a b:α}(h:a=b):a=b:=h
def E:List (Nat×AV)->Nat->AV
 | [],_=>.u
 | (k,v) :: r,t=>if t=k then v else E r t
def B:List (Nat×List AV)->Nat->List AV
 | [],_=>[]
 | (k,v) :: r,t=>if t=k then v else B r t
def XrY(t:Nat):E [] t=.u:=nr rfl
def XbF(k:Nat)(v:AV)(r:List (Nat×AV))(t:Nat):E ((k,v) :: r) t=if t=k then v else E r t:=nr rfl
def XrZ(t:Nat):B [] t=[]:=nr rfl
def Xcu(k:Nat)(v:List AV)(r:List (Nat×List AV))(t:Nat):B ((k,v) :: r) t=if t=k then v else B r t:=nr rfl
def Xgg(l:List (Nat×AV))(t:Nat)(v:AV):upd (E l) t v=E ((t,v) :: l):=by funext x; simp[upd,XbF]
def Xnq(l:List (Nat×List AV))(t:Nat)(v:List AV):upd (B l) t v=B ((t,v) :: l):=by funext x; simp[upd,Xcu]
def Xi7(kp kr:Pl->Bool):List (Nat×AV)->List (Nat×AV)
 | []=>[]
 | (k,v) :: r=>(k,filt kp kr v) :: Xi7 kp kr r
def Xkc(kp kr:Pl->Bool):List (Nat×List AV)->List (Nat×List AV)
 | []=>[]
 | (k,v) :: r=>(k,X6 kp kr v) :: Xkc kp kr r
def Xcv(l:List (Nat×AV))(m:List (Nat×List AV))(kp kr:Pl->Bool):St.filt ⟨E l,B m⟩ kp kr=⟨E (Xi7 kp kr l),B (Xkc kp kr m)⟩:=by
 simp only[St.filt,St.mk.injEq]
 constructor
 ·funext t
  induction l with
  | nil=>rfl
  | cons x r ih=>obtain⟨k,v⟩:=x; simp only[Xi7,XbF]; split<;>simp_all
 ·funext t
  induction m with
  | nil=>rfl
  | cons x r ih=>obtain⟨k,v⟩:=x; simp only[Xkc,Xcu]; split<;>simp_all
def XhC(f:Nat->AV):List Nat->List (Nat×AV)
 | []=>[]
 | k :: r=>(k,f k) :: XhC f r
def Xk6(f:Nat->List AV):List Nat->List (Nat×List AV)
 | []=>[]
 | k :: r=>(k,f k) :: Xk6 f r
def Xi8(ks bs:List Nat)(st:St):keep (some (ks,bs)) st=⟨E (XhC (st.filt (within ks bs) (within ks bs)).env ks),B (Xk6 (st.filt (within ks bs) (within ks bs)).bx bs)⟩:=by
 simp only[keep,St.mk.injEq]
 generalize st.filt (within ks bs) (within ks bs)=s
 constructor
 ·funext t
  induction ks with
  | nil=>rfl
  | cons k r ih =>
   simp only[XhC,XbF,List.contains_cons]
   by_cases h:t=k
   ·subst h; simp
   ·simp[h,<-ih]
 ·funext t
  induction bs with
  | nil=>rfl
  | cons k r ih =>
   simp only[Xk6,Xcu,List.contains_cons]
   by_cases h:t=k
   ·subst h; simp
   ·simp[h,<-ih]
def Xi9(st:St):keep none st=st:=nr rfl
def Xnr(ks:List Nat)(l:List (Nat×AV))(m:List (Nat×List AV)):trim ks ⟨E l,B m⟩=⟨E (XhC (E (Xi7 (inE ks) (inE ks) l)) ks),B (Xkc (inE ks) (inE ks) m)⟩:=by
 simp only[trim,Xcv,St.mk.injEq,and_true]
 generalize E (Xi7 (inE ks) (inE ks) l)=s
 funext t
 induction ks with
 | nil=>rfl
 | cons k r ih =>
  simp only[XhC,XbF,List.contains_cons]
  by_cases h:t=k
  ·subst h; simp
  ·simp[h,<-ih]
variable {R : Type}
def Xf{α:Type}(x:Option α)(k:α->Option R):Option R:=match x with
 | some a=>k a
 | none=>none
def QJ{α:Type}(a:α)(k:α->Option R):Xf (some a) k=k a:=nr rfl
def XhD{α:Type}(k:α->Option R):Xf none k=none:=nr rfl
@[congr] def Xns{α:Type}{x y:Option α}{k:α->Option R}(h:x=y):Xf x k=Xf y k:=by rw[h]
def Xja{α:Type}(c:Prop)[Decidable c](x y:Option α)(k:α->Option R):Xf (if c then x else y) k=if c then Xf x k else Xf y k:=by split<;>rfl
def Yy{α β:Type}(x:Option α)(f:α->Option β):YB x f=Xf x f:=by cases x<;>rfl
@[congr] def Xk7{cx:Cx}{ops:List Oper}{cs:List (Option (List Nat))}{st st':St}{l:List Oper}(h:st=st'):XV cx ops cs st l=XV cx ops cs st' l:=by rw[h]
@[congr] def Xmv{cx:Cx}{st st':St}{o:Oper}(h:st=st'):Xn cx st o=Xn cx st' o:=by rw[h]
@[congr] def Xmw{cx:Cx}{blk:Nat}{c:Code}{st st':St}(h:st=st'):Xq cx blk c st=Xq cx blk c st':=by rw[h]
def upE(st:St)(d:Nat)(v:AV):St:=⟨upd st.env d v,st.bx⟩
def Xg6(st:St)(d:Nat):upE st d (st.env d)=st:=by
 have:upd st.env d (st.env d)=st.env:=by funext x; unfold upd; split<;>simp_all
 simp only[upE,this]
def Xmx(a:AV)(x y z xs ys:Option St):Option St:=match a with
 | .b true=>x
 | .b false=>y
 | .no=>z
 | _=>none
def Xe3(d:Option Nat)(k:Nat->Option St):Option St:=match d with
 | some d=>k d
 | none=>none
@[congr] def Xmy{a a':AV}{x y z xs ys:Option St}(h:a=a'):Xmx a x y z xs ys=Xmx a' x y z xs ys:=by rw[h]
@[congr] def Xmz{d d':Option Nat}{k:Nat->Option St}(h:d=d'):Xe3 d k=Xe3 d' k:=by rw[h]
def Xcw(d:Nat)(k:Nat->Option St):Xe3 (some d) k=k d:=nr rfl
@[congr] def Xnt{l:List Oper}{n:Nat}:Q9 l n=Q9 l n:=rfl
def XdE(d op t pos aft g r):Q9 (⟨d,op,t,pos,aft,g⟩ :: r) 0=d:=nr rfl
def XdF(o:Oper)(r:List Oper)(n:Nat):Q9 (o :: r) (n+1)=Q9 r n:=nr rfl
def opS(cx:Cx)(ops:List Oper)(cs:List (Option (List Nat)))(st:St)(o:Oper)(r:List Oper):Option St:=match wanted ops st o with
 | some true=>Xf (Xn cx st o) (λst'=>XV cx ops cs st' r)
 | some false=>XV cx ops cs (st.put? o.dst .no) r
 | none=>none
@[congr] def XqB{cx:Cx}{ops:List Oper}{cs:List (Option (List Nat))}{st st':St}{o:Oper}{r:List Oper}(h:st=st'):opS cx ops cs st o r=opS cx ops cs st' o r:=by rw[h]
def Xgh(cx:Cx)(ops:List Oper)(cs:List (Option (List Nat)))(st:St):XV cx ops cs st []=some st:=by simp only[XV]
def Xe4(cx:Cx)(ops:List Oper)(c:Option (List Nat))(cs:List (Option (List Nat)))(st:St)(o:Oper)(r:List Oper):XV cx ops (c :: cs) st (o :: r)=opS cx ops cs (trim? c st) o r:=by
 simp only[XV,opS,hd?,List.tail_cons,Xf]
 cases wanted ops (trim? c st) o with
 | none=>rfl
 | some b =>
  cases b<;>try rfl
  simp only[]; cases Xn cx (trim? c st) o<;>rfl
def Xec(cx:Cx)(ops:List Oper)(st:St)(o:Oper)(r:List Oper):XV cx ops [] st (o :: r)=opS cx ops [] st o r:=by
 simp only[XV,opS,hd?,List.tail_nil,Xf,trim?]
 cases wanted ops st o with
 | none=>rfl
 | some b =>
  cases b<;>try rfl
  simp only[]; cases Xn cx st o<;>rfl
section
variable (cx : Cx) (ops : List Oper) (cs : List (Option (List Nat))) (st : St) (d : Option Nat) (op : Op) (t : TypeId) (pos : String) (aft : Array Edge) (j : Nat) (r : List Oper)
def Xjb:opS cx ops cs st ⟨d,op,t,pos,aft,none⟩ r=Xf (Xn cx st ⟨d,op,t,pos,aft,none⟩) (λst'=>XV cx ops cs st' r):=nr rfl
def U7(cx:Cx)(ops:List Oper)(cs:List (Option (List Nat)))(st:St)(o:Oper)(r:List Oper)(want:Bool)(g:Nat)(a:AV):Option St:=match a with
 | .b b=>if b=want then Xf (Xn cx st o) (λst'=>XV cx ops cs st' r) else XV cx ops cs (st.put? o.dst .no) r
 | .no=>XV cx ops cs (st.put? o.dst .no) r
 | _=>none
@[congr] def XmA{cx:Cx}{ops:List Oper}{cs:List (Option (List Nat))}{st:St}{o:Oper}{r:List Oper}{want:Bool}{g:Nat}{a a':AV}(h:a=a'):U7 cx ops cs st o r want g a=U7 cx ops cs st o r want g a':=by rw[h]
def Xjc(want:Bool):opS cx ops cs st ⟨d,op,t,pos,aft,some (j,want)⟩ r=Xe3 (Q9 ops j) (λg=>U7 cx ops cs st ⟨d,op,t,pos,aft,some (j,want)⟩ r want g (st.env g)):=by
 simp only[opS,wanted,Xe3]
 cases Q9 ops j with
 | none=>rfl
 | some g =>
  simp only[U7]
  cases st.env g with
  | b b=>cases b<;>cases want<;>rfl
  | _=>rfl
end
section
variable (cx : Cx) (ops : List Oper) (cs : List (Option (List Nat))) (st : St) (o : Oper) (r : List Oper) (g : Nat)
def Xe5:U7 cx ops cs st o r true g (.b true)=Xf (Xn cx st o) (λst'=>XV cx ops cs st' r):=nr rfl
def Xe6:U7 cx ops cs st o r false g (.b false)=Xf (Xn cx st o) (λst'=>XV cx ops cs st' r):=nr rfl
def Xe7:U7 cx ops cs st o r true g (.b false)=XV cx ops cs (st.put? o.dst .no) r:=nr rfl
def Xe8:U7 cx ops cs st o r false g (.b true)=XV cx ops cs (st.put? o.dst .no) r:=nr rfl
def Xe9(want:Bool):U7 cx ops cs st o r want g .no=XV cx ops cs (st.put? o.dst .no) r:=nr rfl
def opU(cx:Cx)(ops:List Oper)(cs:List (Option (List Nat)))(st:St)(o:Oper)(r:List Oper):Option St:=Xf (Xn cx st o) (λst'=>XV cx ops cs st' r)
def skU(cx:Cx)(ops:List Oper)(cs:List (Option (List Nat)))(st:St)(o:Oper)(r:List Oper):Option St:=XV cx ops cs (st.put? o.dst .no) r
@[congr] def XqC{cx:Cx}{ops:List Oper}{cs:List (Option (List Nat))}{st st':St}{o:Oper}{r:List Oper}(h:st=st'):opU cx ops cs st o r=opU cx ops cs st' o r:=by rw[h]
@[congr] def XqD{cx:Cx}{ops:List Oper}{cs:List (Option (List Nat))}{st st':St}{o:Oper}{r:List Oper}(h:st=st'):skU cx ops cs st o r=skU cx ops cs st' o r:=by rw[h]
end
def Xk8(cx:Cx)(ops:List Oper)(cs:List (Option (List Nat)))(l:List (Nat×AV))(m:List (Nat×List AV))(o:Oper)(r:List Oper)(g:Nat)(want b:Bool)(h:E l g=.b b) :
  U7 cx ops cs ⟨E l,B m⟩ o r want g (.b b) =
   if b=true then(if want=true then opU cx ops cs ⟨E ((g,.b true) :: l),B m⟩ o r else skU cx ops cs ⟨E ((g,.b true) :: l),B m⟩ o r)
   else(if want=true then skU cx ops cs ⟨E ((g,.b false) :: l),B m⟩ o r else opU cx ops cs ⟨E ((g,.b false) :: l),B m⟩ o r):=by
 have hs:(⟨E ((g,.b b) :: l),B m⟩:St)=⟨E l,B m⟩:=by
  have:=Xg6 ⟨E l,B m⟩ g
  simp only[upE,Xgg,h] at this
  exact this
 cases b<;>cases want<;>simp only[U7,opU,skU,hs,if_true,if_false,Bool.false_eq_true,reduceCtorEq]
def jA(c:Prop)[Decidable c](a b:AV):AV:=if c then a else b
section
variable (c : Prop) [Decidable c]
def Xnu(a:AV):jA c a a=a:=by unfold jA; split<;>rfl
def Xt1(x y:Bool):jA c (.b x) (.b y)=.b (if c then x else y):=by unfold jA; split<;>rfl
def Xt2(k:IntKind)(x y:Int):jA c (.i k x) (.i k y)=.i k (if c then x else y):=by unfold jA; split<;>rfl
def Xt3(x y:ByteArray):jA c (.s x) (.s y)=.s (if c then x else y):=by unfold jA; split<;>rfl
def Xr0(t:Tag)(z:Nat)(x y:List (List AV)):jA c (.sl t z x) (.sl t z y)=.sl t z (if c then x else y):=by unfold jA; split<;>rfl
def jL(c:Prop)[Decidable c]:List AV->List AV->List AV
 | a :: l,b :: r=>jA c a b :: jL c l r
 | _,_=>[]
def Ux:List AV->List AV->Bool
 | _ :: l,_ :: r=>Ux l r
 | [],[]=>true
 | _,_=>false
def Xk9:∀(x y:List AV),Ux x y=true->(if c then x else y)=jL c x y
 | [],[],_=>by simp[jL]
 | a :: l,b :: r,h=>by
  have ih:=Xk9 l r (by simpa[Ux] using h)
  simp only[jL,jA,<-ih]
  split<;>rfl
 | [],_ :: _,h=>by simp[Ux] at h
 | _ :: _,[],h=>by simp[Ux] at h
def XqE(x y:List AV)(h:Ux x y=true):jA c (.agg x) (.agg y)=.agg (jL c x y):=by rw[<-Xk9 c x y h]; unfold jA; split<;>rfl
def Xnv(x:List AV):jL c x x=x:=by
 rw[<-Xk9 c x x (by induction x<;>simp_all [Ux])]; simp
def jE(c:Prop)[Decidable c]:List (Nat×AV)->List (Nat×AV)->List (Nat×AV)
 | (k,a) :: l,(_,b) :: r=>(k,jA c a b) :: jE c l r
 | _,_=>[]
def jB(c:Prop)[Decidable c]:List (Nat×List AV)->List (Nat×List AV)->List (Nat×List AV)
 | (k,a) :: l,(_,b) :: r=>(k,jL c a b) :: jB c l r
 | _,_=>[]
def Xfa:List (Nat×AV)->List (Nat×AV)->Bool
 | (k,_) :: l,(k',_) :: r=>k==k'&&Xfa l r
 | [],[]=>true
 | _,_=>false
def Xfb:List (Nat×List AV)->List (Nat×List AV)->Bool
 | (k,a) :: l,(k',b) :: r=>k==k'&&(Ux a b&&Xfb l r)
 | [],[]=>true
 | _,_=>false
def Xnw:∀(x y:List (Nat×AV)),Xfa x y=true->(if c then E x else E y)=E (jE c x y)
 | [],[],_=>by simp[jE]
 | (k,a) :: l,(k',b) :: r,h=>by
  simp only[Xfa,Bool.and_eq_true,beq_iff_eq] at h
  obtain⟨rfl,h⟩:=h
  have ih:=Xnw l r h
  funext t
  have ih':=congrFun ih t
  simp only[jE,jA]
  rw[XbF,<-ih']
  split<;>simp only[XbF]
 | [],_ :: _,h=>by simp[Xfa] at h
 | _ :: _,[],h=>by simp[Xfa] at h
def Xnx:∀(x y:List (Nat×List AV)),Xfb x y=true->(if c then B x else B y)=B (jB c x y)
 | [],[],_=>by simp[jB]
 | (k,a) :: l,(k',b) :: r,h=>by
  simp only[Xfb,Bool.and_eq_true,beq_iff_eq] at h
  obtain⟨rfl,h1,h⟩:=h
  have ih:=Xnx l r h
  funext t
  have ih':=congrFun ih t
  simp only[jB]
  rw[Xcu,<-ih',<-Xk9 c a b h1]
  split<;>simp only[Xcu]
 | [],_ :: _,h=>by simp[Xfb] at h
 | _ :: _,[],h=>by simp[Xfb] at h
def Xny(x y:List (Nat×AV))(m n:List (Nat×List AV))(h:Xfa x y=true)(h':Xfb m n=true):(if c then some (⟨E x,B m⟩:St) else some ⟨E y,B n⟩)=some ⟨E (jE c x y),B (jB c m n)⟩:=by
 rw[<-Xnw c x y h,<-Xnx c m n h']; split<;>rfl
def Xnz(e:Ex)(x y:List (Nat×AV))(m n:List (Nat×List AV))(h:Xfa x y=true)(h':Xfb m n=true):(if c then some (e,(⟨E x,B m⟩:St)) else some (e,⟨E y,B n⟩))=some (e,⟨E (jE c x y),B (jB c m n)⟩):=by
 rw[<-Xnw c x y h,<-Xnx c m n h']; split<;>rfl
end
def Xgi(cx:Cx)(blk:Nat)(st:St):Xq cx blk .skip st=some (.nor,st):=nr rfl
def Xgj(cx:Cx)(blk id:Nat)(st:St):Xq cx blk (.exit id) st=some (.ex id,keep (cx.out id) st):=nr rfl
def XhE(cx:Cx)(blk:Nat)(st:St):Xq cx blk .ret st=some (.ret,keep cx.rets st):=nr rfl
def Xla(x:Option St):Option (Ex×St):=match x with
 | some s=>some (.nor,s)
 | none=>none
def Xjd(s:St):Xla (some s)=some (.nor,s):=nr rfl
def Xje:Xla none=none:=nr rfl
def Xlb(c:Prop)[Decidable c](x y:Option St):Xla (if c then x else y)=if c then Xla x else Xla y:=by split<;>rfl
def Xed(cx:Cx)(blk id:Nat)(l:List Oper)(st:St):Xq cx blk (.region id (List.toArray l) false) st=Xla (Xf (XV cx l (cx.cuts id) st l) (λs=>weakW (keep (cx.rg id) s) (cx.ws id))):=by
 simp only[Xq,Xf,Xla,Xpa,Bool.false_eq_true,if_false]
 cases XV cx l (cx.cuts id) st l<;>rfl
def Xgk(cx:Cx)(blk id:Nat)(l:List Oper)(st:St):Xq cx blk (.region id (List.toArray l) true) st=Xla (Xf (Xf (cx.plan id) (λp=>YE cx id l p st)) (λs=>weakW s (cx.ws id))):=by
 simp only[Xq,if_true,Xla,Xpa,Yy]
 cases cx.plan id with
 | none=>rfl
 | some p=>simp only[Xf]; cases YE cx id l p st<;>rfl
@[congr] def XnA{st st':St}{l l':List (Bool×Nat×Nat)}(h:st=st')(h2:l=l'):weakW st l=weakW st' l':=by rw[h,h2]
def Xjf(st:St):weakW st []=some st:=nr rfl
def XnB(st:St)(r c:Nat)(l:List (Bool×Nat×Nat)):weakW st ((true,r,c) :: l)=Xf (weakArg st (.tmp r)) (λs=>weakW s l):=by simp only[weakW,Yy]
def XhF(st:St)(b c:Nat):Option AV->Option St
 | some (.sl .mut z es)=>weakLeaf st (.rf ⟨false,b,[],c⟩ z 0 es.length)
 | _=>some st
def Xjg(st:St)(b c z:Nat)(es:List (List AV)):XhF st b c (some (.sl .mut z es))=weakLeaf st (.rf ⟨false,b,[],c⟩ z 0 es.length):=nr rfl
def Xjh(st:St)(b c z:Nat)(es:List (List AV)):XhF st b c (some (.sl .app z es))=some st:=nr rfl
def Xlc(st:St)(b c z:Nat)(es:List (List AV)):XhF st b c (some (.sl .ro z es))=some st:=nr rfl
def XnC(st:St)(b c:Nat):XhF st b c (some .u)=some st:=nr rfl
def XnD(st:St)(r c:Nat)(l:List (Bool×Nat×Nat)):weakW st ((false,r,c) :: l)=Xf (XhF st r c (st.bx r)[c]?) (λs=>weakW s l):=by simp only[weakW,weakAt,XhF,Yy]; rfl
def Xgl(cx:Cx)(id:Nat)(ops:List Oper)(st:St):YE cx id ops .done st=some (keep (cx.rg id) st):=nr rfl
def Xgm(cx:Cx)(id:Nat)(ops:List Oper)(i:Nat)(p:XcP)(st:St):YE cx id ops (.take i p) st=Xf (Um ops i) (λo=>Xce (XeL o.op) (Xf (Qx cx ops st o) (λs=>YE cx id ops p s))):=by
 simp only[YE,Yy]
def XhG(cx:Cx)(id:Nat)(ops:List Oper)(i:Nat)(p:XcP)(st:St):YE cx id ops (.one i p) st=Xf (Um ops i) (λo=>Xce (UX cx o.op||Q8 cx st o.op) (Xf (Qx cx ops st o) (λs=>YE cx id ops p s))):=by
 simp only[YE,Yy]
def XhH(cx:Cx)(id:Nat)(ops:List Oper)(i:Nat)(p q:XcP)(st:St):YE cx id ops (.alt i p q) st=Xht (YE cx id ops (.one i p) st) (YE cx id ops q st):=nr rfl
def XhI(o:Oper)(r:List Oper):Um (o :: r) 0=some o:=nr rfl
def XhJ(o:Oper)(r:List Oper)(n:Nat):Um (o :: r) (n+1)=Um r n:=nr rfl
def XhK(x:Option St):Xce true x=x:=nr rfl
@[congr] def XnE{p p':Bool}{x:Option St}(h:p=p'):Xce p x=Xce p' x:=by rw[h]
def XhL(x:Option St):Xht x x=x:=by unfold Xht; rw[if_pos rfl]
def Xfc(cx:Cx)(ops:List Oper)(st:St)(d:Option Nat)(op:Op)(t:TypeId)(pos:String)(aft:Array Edge):Qx cx ops st ⟨d,op,t,pos,aft,none⟩=Xn cx st ⟨d,op,t,pos,aft,none⟩:=nr rfl
def XbK(cx:Cx)(ops:List Oper)(st:St)(o:Oper)(want:Bool)(g:Nat)(a:AV):Option St:=match a with
 | .b b=>if b=want then Xn cx st o else some (st.put? o.dst .no)
 | .no=>some (st.put? o.dst .no)
 | _=>none
@[congr] def XnF{cx:Cx}{ops:List Oper}{st:St}{o:Oper}{want:Bool}{g:Nat}{a a':AV}(h:a=a'):XbK cx ops st o want g a=XbK cx ops st o want g a':=by rw[h]
def XnG(cx:Cx)(ops:List Oper)(st:St)(o:Oper)(want:Bool)(d:Option Nat):Option St:=match d with
 | some d=>XbK cx ops st o want d (st.env d)
 | none=>none
def XhM(cx:Cx)(ops:List Oper)(st:St)(o:Oper)(want:Bool)(d:Nat):XnG cx ops st o want (some d)=XbK cx ops st o want d (st.env d):=nr rfl
def Xld(cx:Cx)(ops:List Oper)(st:St)(o:Oper)(g:Nat):XbK cx ops st o true g (.b true)=Xn cx st o:=nr rfl
def Xle(cx:Cx)(ops:List Oper)(st:St)(o:Oper)(g:Nat):XbK cx ops st o false g (.b false)=Xn cx st o:=nr rfl
def Xlf(cx:Cx)(ops:List Oper)(st:St)(o:Oper)(g:Nat):XbK cx ops st o true g (.b false)=some (st.put? o.dst .no):=nr rfl
def Xlg(cx:Cx)(ops:List Oper)(st:St)(o:Oper)(g:Nat):XbK cx ops st o false g (.b true)=some (st.put? o.dst .no):=nr rfl
def Xlh(cx:Cx)(ops:List Oper)(st:St)(o:Oper)(want:Bool)(g:Nat):XbK cx ops st o want g .no=some (st.put? o.dst .no):=nr rfl
def stU(cx:Cx)(st:St)(o:Oper):Option St:=Xn cx st o
def skS(st:St)(o:Oper):Option St:=some (st.put? o.dst .no)
@[congr] def XqF{cx:Cx}{st st':St}{o:Oper}(h:st=st'):stU cx st o=stU cx st' o:=by rw[h]
@[congr] def XqG{st st':St}{o:Oper}(h:st=st'):skS st o=skS st' o:=by rw[h]
def XnH(cx:Cx)(ops:List Oper)(l:List (Nat×AV))(m:List (Nat×List AV))(o:Oper)(want:Bool)(g:Nat)(b:Bool)(h:E l g=.b b) :
  XbK cx ops ⟨E l,B m⟩ o want g (.b b) =
   if b=true then(if want=true then stU cx ⟨E ((g,.b true) :: l),B m⟩ o else skS ⟨E ((g,.b true) :: l),B m⟩ o)
   else(if want=true then skS ⟨E ((g,.b false) :: l),B m⟩ o else stU cx ⟨E ((g,.b false) :: l),B m⟩ o):=by
 have hs:(⟨E ((g,.b b) :: l),B m⟩:St)=⟨E l,B m⟩:=by
  have:=Xg6 ⟨E l,B m⟩ g
  simp only[upE,Xgg,h] at this
  exact this
 cases b<;>cases want<;>simp only[XbK,stU,skS,hs,if_true,if_false,Bool.false_eq_true,reduceCtorEq]
def Xfd(cx:Cx)(ops:List Oper)(st:St)(d:Option Nat)(op:Op)(t:TypeId)(pos:String)(aft:Array Edge)(j:Nat)(want:Bool):Qx cx ops st ⟨d,op,t,pos,aft,some (j,want)⟩=XnG cx ops st ⟨d,op,t,pos,aft,some (j,want)⟩ want (Q9 ops j):=by
 unfold Qx wanted XnG XbK
 simp only
 cases Q9 ops j with
 | none=>rfl
 | some d =>
  simp only
  cases st.env d with
  | b b =>
   cases b<;>cases want<;>rfl
  | _=>rfl
def XaF(x:Option (Ex×St))(k:St->Option (Ex×St)):Option (Ex×St):=match x with
 | some (.nor,st)=>k st
 | some (.ex j,st)=>some (.ex j,st)
 | some (.ret,st)=>some (.ret,st)
 | none=>none
@[congr] def Xpc{x y:Option (Ex×St)}{k:St->Option (Ex×St)}(h:x=y):XaF x k=XaF y k:=by rw[h]
def Xg7(st:St)(k:St->Option (Ex×St)):XaF (some (.nor,st)) k=k st:=nr rfl
def Xg8(st:St)(k:St->Option (Ex×St)):XaF (some (.ret,st)) k=some (.ret,st):=nr rfl
def Xji(j:Nat)(st:St)(k:St->Option (Ex×St)):XaF (some (.ex j,st)) k=some (.ex j,st):=nr rfl
def Xjj(k:St->Option (Ex×St)):XaF none k=none:=nr rfl
def Xli(c:Prop)[Decidable c](x y:Option (Ex×St))(k:St->Option (Ex×St)):XaF (if c then x else y) k=if c then XaF x k else XaF y k:=by split<;>rfl
def XhN(cx:Cx)(blk:Nat)(a b:Code)(st:St):Xq cx blk (.seq a b) st=XaF (Xq cx blk a st) (λs=>Xq cx blk b s):=by
 simp only[Xq]
 cases Xq cx blk a st with
 | none=>rfl
 | some x=>obtain⟨e,s⟩:=x; cases e<;>rfl
def XmB(id:Nat)(x:Option (Ex×St)):Option (Ex×St):=match x with
 | some (.ex j,st)=>if j=id then some (.nor,st) else some (.ex j,st)
 | some (.nor,st)=>some (.nor,st)
 | some (.ret,st)=>some (.ret,st)
 | none=>none
def Xlj(id:Nat)(st:St):XmB id (some (.nor,st))=some (.nor,st):=nr rfl
def Xlk(id:Nat)(st:St):XmB id (some (.ret,st))=some (.ret,st):=nr rfl
def XnI(id j:Nat)(st:St):XmB id (some (.ex j,st))=if j=id then some (.nor,st) else some (.ex j,st):=nr rfl
def Xjk(id:Nat):XmB id none=none:=nr rfl
def Xll(id:Nat)(c:Prop)[Decidable c](x y:Option (Ex×St)):XmB id (if c then x else y)=if c then XmB id x else XmB id y:=by split<;>rfl
def Xfe(cx:Cx)(blk id:Nat)(c:Code)(st:St):Xq cx blk (.block id c) st=XmB id (Xq cx id c st):=by
 simp only[Xq]
 cases Xq cx id c st with
 | none=>rfl
 | some x=>obtain⟨e,s⟩:=x; cases e<;>rfl
def Xgn(a:AV)(x y:Option (Ex×St)):Option (Ex×St):=match a with
 | .b b=>if b=true then x else y
 | _=>none
@[congr] def XnJ{a a':AV}{x y:Option (Ex×St)}(h:a=a'):Xgn a x y=Xgn a' x y:=by rw[h]
def XdG(x y:Option (Ex×St)):Xgn (.b true) x y=x:=nr rfl
def Xcx(x y:Option (Ex×St)):Xgn (.b false) x y=y:=nr rfl
def XnK(b:Bool)(x y:Option (Ex×St)):Xgn (.b b) x y=if b=true then x else y:=nr rfl
def Xgo(cx:Cx)(blk:Nat)(c:Operand)(a b:Code)(st:St):Xq cx blk (.cond c a b) st=Xgn (view st c) (Xq cx blk a st) (Xq cx blk b st):=by
 simp only[Xq,Xgn]
 cases view st c with
 | b x=>cases x<;>rfl
 | _=>rfl
noncomputable def Qn(cx:Cx)(blk:Nat)(c:Code)(n:Nat)(st:St):Option (Ex×St):=Xmk (λst=>Xq cx blk c (keep (cx.live blk) st)) n st
@[congr] def XnL{cx:Cx}{blk:Nat}{c:Code}{n:Nat}{st st':St}(h:st=st'):Qn cx blk c n st=Qn cx blk c n st':=by rw[h]
def Xgp(cx:Cx)(blk:Nat)(c:Code)(st:St):Xq cx blk (.loop c) st=Qn cx blk c cx.rounds st:=nr rfl
def Zb(cx:Cx)(blk:Nat)(c:Code)(n:Nat)(st:St):Qn cx blk c (n+1) st=XaF (Xq cx blk c (keep (cx.live blk) st)) (λs=>Qn cx blk c n s):=by
 simp only[Qn,Xmk]
 cases Xq cx blk c (keep (cx.live blk) st) with
 | none=>rfl
 | some x=>obtain⟨e,s⟩:=x; cases e<;>rfl
def XmC(cx:Cx)(md:List Md)(rv:List ResultVar)(x:Option (Ex×St)):Option (AV×List AV):=match x with
 | some (.nor,st)=>Qz cx md rv st
 | some (.ret,st)=>Qz cx md rv st
 | _=>none
def Xlm(cx:Cx)(md:List Md)(rv:List ResultVar)(st:St):XmC cx md rv (some (.nor,st))=Qz cx md rv st:=nr rfl
def Xln(cx:Cx)(md:List Md)(rv:List ResultVar)(st:St):XmC cx md rv (some (.ret,st))=Qz cx md rv st:=nr rfl
def Xjl(cx:Cx)(md:List Md)(rv:List ResultVar):XmC cx md rv none=none:=nr rfl
def Xlo(cx:Cx)(md:List Md)(rv:List ResultVar)(c:Prop)[Decidable c](x y:Option (Ex×St)):XmC cx md rv (if c then x else y)=if c then XmC cx md rv x else XmC cx md rv y:=by split<;>rfl
def Xjm(cx:Cx)(md:List Md)(f:Func)(args:List AV)(c:Code)(rv:List ResultVar)(h:f.body=some c)(hr:f.results=rv.toArray)(hz:cx.nz=false):UZ cx md f args=XmC cx md rv (Xq cx 0 c (Xav md args)):=by
 simp only[UZ,h,hr,evB,hz,Bool.false_eq_true,if_false]
 cases Xq cx 0 c (Xav md args) with
 | none=>rfl
 | some x=>obtain⟨e,s⟩:=x; cases e<;>rfl
@[congr] def XqH{cx:Cx}{c:Code}{K:St->Option (Ex×St)}{st st':St}(h:st=st'):evN cx c K st=evN cx c K st':=by rw[h]
def Xlp(cx:Cx)(K:St->Option (Ex×St))(st:St):evN cx .skip K st=K st:=nr rfl
def XnM(cx:Cx)(a b:Code)(K:St->Option (Ex×St))(st:St):evN cx (.seq a b) K st=evN cx a (λs=>evN cx b K s) st:=nr rfl
noncomputable def XnN(a:AV)(x y:Option (Ex×St)):Option (Ex×St):=match a with
 | .b true=>x
 | .b false=>y
 | .ub=>XfZ x y
 | _=>none
@[congr] def Xpd{a a':AV}{x y:Option (Ex×St)}(h:a=a'):XnN a x y=XnN a' x y:=by rw[h]
def Xff(x y:Option (Ex×St)):XnN (.b true) x y=x:=nr rfl
def XdH(x y:Option (Ex×St)):XnN (.b false) x y=y:=nr rfl
def XnO(x y:Option (Ex×St)):XnN .ub x y=XfZ x y:=nr rfl
def XhO(x:Option (Ex×St)):XfZ x x=x:=by unfold XfZ; rw[if_pos rfl]
def Xlq(cx:Cx)(c:Operand)(a b:Code)(K:St->Option (Ex×St))(st:St):evN cx (.cond c a b) K st=XnN (view st c) (evN cx a K st) (evN cx b K st):=by
 simp only[evN,XnN]
 cases view st c with
 | b x=>cases x<;>rfl
 | _=>rfl
def XnP(cx:Cx)(K:St->Option (Ex×St))(st:St):evN cx .ret K st=some (.ret,keep cx.rets st):=nr rfl
def XhP(cx:Cx)(id:Nat)(ops:Array Oper)(d:Bool)(K:St->Option (Ex×St))(st:St):evN cx (.region id ops d) K st=XaF (Xq cx 0 (.region id ops d) st) (λs=>K s):=by
 simp only[evN,Xdm]
 cases Xq cx 0 (.region id ops d) st with
 | none=>rfl
 | some x=>obtain⟨e,s⟩:=x; cases e<;>rfl
def Xr1(md:List Md)(cx:Cx)(rv:List ResultVar)(st:St)(p:List AV×St):Option (AV×List AV):=if(p.1.all X3&&(UY p.2 md 0).all X3&&Qy md (UY p.2 md 0))=true then some (one p.1,UY p.2 md 0) else Xm7 cx md rv st
def Xrk(cx:Cx)(md:List Md)(rv:List ResultVar)(st:St):Option (List AV)->Option (AV×List AV)
 | some cs=>Xql md st cs
 | none=>Xf (XaQ cx st rv) (Xr1 md cx rv st)
def Xlr(cx:Cx)(md:List Md)(rv:List ResultVar)(st:St):Qz cx md rv st=Xrk cx md rv st (XcV md st rv):=by
 simp only[Qz,Xrk]
 cases XcV md st rv with
 | some cs=>rfl
 | none =>
  simp only[Xrj,Xf]
  cases XaQ cx st rv<;>rfl
def Xjn(cx:Cx)(md:List Md)(rv:List ResultVar)(st:St)(cs:List AV):Xrk cx md rv st (some cs)=Xql md st cs:=nr rfl
def Xjo(cx:Cx)(md:List Md)(rv:List ResultVar)(st:St):Xrk cx md rv st none=Xf (XaQ cx st rv) (Xr1 md cx rv st):=nr rfl
def XnQ(md:List Md)(st:St)(cs:List AV):Xql md st cs=if(cs.all X1&&!cs.isEmpty&&(UY st md 0).all X3&&Qy md (UY st md 0))=true then some (.tup [.agg cs],UY st md 0) else none:=nr rfl
def Xjp(md:List Md)(st:St):XcV md st []=none:=nr rfl
def Xjq(md:List Md)(st:St)(t:Nat):XcV md st [.tmp t]=npP md st (st.env t):=nr rfl
def XhQ(md:List Md)(st:St)(a t:Nat):XcV md st [.cell a t]=none:=nr rfl
def Xjr(md:List Md)(st:St)(a b:ResultVar)(l:List ResultVar):XcV md st (a :: b :: l)=none:=by cases a<;>rfl
def Xr2(md:List Md)(st:St)(q:Pl):npP md st (.p q)=if(!q.e&&q.path.isEmpty&&q.c==0&&decide (md.length<=q.r))=true then some (st.bx q.r) else none:=nr rfl
def XnR(md:List Md)(cx:Cx)(rv:List ResultVar)(s0:St)(l:List AV)(st:St):Xr1 md cx rv s0 (l,st)=if(l.all X3&&(UY st md 0).all X3&&Qy md (UY st md 0))=true then some (one l,UY st md 0) else Xm7 cx md rv s0:=nr rfl
def Xrl(md:List Md)(t:Nat)(p:List AV×St):Option (AV×List AV):=Xf (npP md p.2 (p.2.env t)) (λcs=>if(p.1.all X3&&!p.1.isEmpty&&cs.all X1&&!cs.isEmpty&&(UY p.2 md 0).all X3&&Qy md (UY p.2 md 0))=true then some (.tup [.tup [.agg cs],.tup p.1],UY p.2 md 0) else none)
def XnS(md:List Md)(t:Nat)(l:List AV)(st:St):Xrl md t (l,st)=Xf (npP md st (st.env t)) (λcs=>if(l.all X3&&!l.isEmpty&&cs.all X1&&!cs.isEmpty&&(UY st md 0).all X3&&Qy md (UY st md 0))=true then some (.tup [.tup [.agg cs],.tup l],UY st md 0) else none):=nr rfl
def Xr3(cx:Cx)(md:List Md)(st:St)(q:List ResultVar×Nat):Option (AV×List AV):=Xf (XaQ cx st q.1) (Xrl md q.2)
def XnT(cx:Cx)(md:List Md)(st:St)(rs:List ResultVar)(t:Nat):Xr3 cx md st (rs,t)=Xf (XaQ cx st rs) (Xrl md t):=nr rfl
def XqI(cx:Cx)(md:List Md)(rv:List ResultVar)(st:St):Xm7 cx md rv st=Xf (rvQ rv) (Xr3 cx md st):=by
 unfold Xm7
 cases rvQ rv with
 | none=>rfl
 | some p =>
  obtain⟨rs,t⟩:=p
  simp only[Xf,Xr3]
  cases XaQ cx st rs with
  | none=>rfl
  | some q =>
   simp only[Xrl]
   unfold Xf
   cases npP md q.2 (q.2.env t)<;>rfl
def Xls(cx:Cx)(st:St):XaQ cx st []=some ([],st):=nr rfl
def Xr4(v:AV)(p:List AV×St):Option (List AV×St):=some (v :: p.1,p.2)
def XnU(v:AV)(l:List AV)(st:St):Xr4 v (l,st)=some (v :: l,st):=nr rfl
def Xjs(cx:Cx)(st:St)(t:Tmp)(r:List ResultVar):XaQ cx st (.tmp t :: r)=Xf (take st (.tmp t)) (λp=>Xf (XaQ cx p.2 r) (Xr4 p.1)):=by
 simp only[XaQ,Xf]
 cases take st (.tmp t) with
 | none=>rfl
 | some p=>obtain⟨v,s⟩:=p; simp only; cases XaQ cx s r<;>rfl
def Xjt(cx:Cx)(st:St)(a t:Nat)(r:List ResultVar):XaQ cx st (.cell a t :: r)=Xf (cx.T t) (λti=>Xf (loadAt st ti (view st (.tmp a))) (λv=>Xf (takeVal st v) (λp=>Xf (XaQ cx p.2 r) (Xr4 p.1)))):=by
 simp only[XaQ,Yy,Xf]
 cases cx.T t with
 | none=>rfl
 | some ti =>
  simp only
  cases loadAt st ti (view st (.tmp a)) with
  | none=>rfl
  | some v =>
   simp only
   cases takeVal st v with
   | none=>rfl
   | some p=>obtain⟨v,s⟩:=p; simp only; cases XaQ cx s r<;>rfl
def XnV:List Md->List AV->Nat->List (Nat×AV)
 | .rw _ :: ms,_ :: as,j=>(j,.p ⟨false,j,[],0⟩) :: XnV ms as (j+1)
 | .ro _ :: ms,a :: as,j=>(j,a) :: XnV ms as (j+1)
 | .mv :: ms,a :: as,j=>(j,a) :: XnV ms as (j+1)
 | _,_,_=>[]
def XnW:List Md->List AV->Nat->List (Nat×List AV)
 | .rw _ :: ms,a :: as,j=>(j,cellsOf a) :: XnW ms as (j+1)
 | .ro _ :: ms,_ :: as,j=>XnW ms as (j+1)
 | .mv :: ms,_ :: as,j=>XnW ms as (j+1)
 | _,_,_=>[]
def Xlt(ms:List Md)(as:List AV):Xav ms as=⟨E (XnV ms as 0),B (XnW ms as 0)⟩:=by
 have h1:∀(ms:List Md) (as:List AV) (j t:Nat),Zk ms as j t=E (XnV ms as j) t:=by
  intro ms
  induction ms with
  | nil=>intro as j t; cases as<;>rfl
  | cons m ms ih =>
   intro as j t
   cases as with
   | nil=>cases m<;>rfl
   | cons a as=>cases m<;>simp only[Zk,XnV,XbF,ih]
 have h2:∀(ms:List Md) (as:List AV) (j t:Nat),Y3 ms as j t=B (XnW ms as j) t:=by
  intro ms
  induction ms with
  | nil=>intro as j t; cases as<;>rfl
  | cons m ms ih =>
   intro as j t
   cases as with
   | nil=>cases m<;>rfl
   | cons a as=>cases m<;>simp only[Y3,XnW,Xcu,ih]
 simp only[Xav,St.mk.injEq]
 exact⟨funext (h1 ms as 0),funext (h2 ms as 0)⟩
section
variable (cx : Cx) (t : TypeId) (pos : String) (aft : Array Edge) (g : Option (Nat × Bool)) (st : St)
def QX(d:Nat)(x:Option AV):Xez st (some d) x=Xf x (λv=>some (st.put d v)):=by cases x<;>rfl
def Xg9(d:Nat)(x:Option (AV×St)):Xo8 (some d) x=Xf x (λy=>some (y.2.put d y.1)):=by cases x<;>rfl
def XqJ(d:Option Nat)(x:Option (AV×St)):XrR d x=Xf x (λy=>putN d y.2 y.1 (XaD y.1)):=by cases x<;>rfl
def Xju(d:Option Nat)(st:St)(r:AV):putN d st r none=Xo9 d st r (Q0 r):=nr rfl
def Xjv(d:Option Nat)(st:St)(r:AV):Xo9 d st r none=some (st.put? d r):=nr rfl
def Xjw(d:Nat)(st:St)(r:AV)(cs l:List AV):Xo9 (some d) st r (some (cs,l))=Xqk st d cs l:=nr rfl
def XqK(st:St)(d:Nat)(cs l:List AV):Xqk st d cs l=Xf (Zg st d cs) (λst'=>some (st'.put d (.tup (l++[.p ⟨false,d,[],0⟩])))):=by
 unfold Xqk Xf
 cases Zg st d cs<;>rfl
def XnX(cs l:List AV):Q0 (.tup [.tup [.agg cs],.tup l])=some (cs,l):=nr rfl
def Xjx(d:Nat)(st:St)(r:AV)(cs:List AV):putN (some d) st r (some cs)=Zg st d cs:=nr rfl
def XnY(cs:List AV):XaD (.tup [.agg cs])=some cs:=nr rfl
def Xlu:XaD (.tup [])=none:=nr rfl
def Xlv(a b:AV)(l:List AV):XaD (.tup (a :: b :: l))=none:=by cases a<;>rfl
def XnZ(st:St)(t:Nat):AV->Option (AV×St)
 | .tup (v :: vs)=>some (.tup (v :: vs),⟨upd st.env t .u,st.bx⟩)
 | _=>none
def Xjy(st:St)(t:Nat)(v:AV)(vs:List AV):XnZ st t (.tup (v :: vs))=some (.tup (v :: vs),⟨upd st.env t .u,st.bx⟩):=nr rfl
def Xjz(st:St)(t:Nat):XfY st (.tmp t)=XnZ st t (st.env t):=by
 simp only[XfY,XnZ]
 cases st.env t with
 | tup vs=>cases vs<;>rfl
 | _=>rfl
def Xn0(d:Nat)(x:Operand):Xn cx st ⟨some d,.move x,t,pos,aft,g⟩=if cx.al.contains d=true then Xf (XfY st x) (λy=>some (y.2.put d y.1)) else some (st.put d (fix (zOf cx t) (view st x))):=by
 simp only[Xn,alD,Xg9,St.put?]
def XjA(d:Nat)(x:Operand):Xn cx st ⟨some d,.assign x,t,pos,aft,g⟩ =
  if cx.al.contains d=true then some (st.put d (fix (zOf cx t) (view st x))) else Xf (take st x) (λy=>some (y.2.put d (fix (zOf cx t) y.1))):=by
 simp only[Xn,Yy,QJ]
def Xgq(st:St)(d:Nat)(a x y:AV):Option St:=match a with
 | .b b=>if b=true then some (st.put d x) else some (st.put d y)
 | _=>none
@[congr] def Xn1{st:St}{d:Nat}{a a' x y:AV}(h:a=a'):Xgq st d a x y=Xgq st d a' x y:=by rw[h]
def XdI(d:Nat)(x y:AV):Xgq st d (.b true) x y=some (st.put d x):=nr rfl
def Xcy(d:Nat)(x y:AV):Xgq st d (.b false) x y=some (st.put d y):=nr rfl
def Xn2(d:Nat)(b:Bool)(x y:AV):Xgq st d (.b b) x y=if b=true then some (st.put d x) else some (st.put d y):=nr rfl
def Xn3(d:Nat)(c x y:Operand):Xn cx st ⟨some d,.pick c x y,t,pos,aft,g⟩=Xgq st d (view st c) (view st x) (view st y):=by
 simp only[Xn,Xgq,St.put?]
 cases view st c with
 | b x=>cases x<;>rfl
 | _=>rfl
def Xlw(d:Nat)(t':TypeId):Xn cx st ⟨some d,.alloc t',t,pos,aft,g⟩=Xf (cx.T t') (λti=>Zg st d ti.zero):=Yy _ _
def XqL(d:Nat)(t':TypeId)(x:Operand):Xn cx st ⟨some d,.box t' x,t,pos,aft,g⟩=Xf (cx.T t') (λti=>if cx.fz.contains d=true then Xf (Xhs ti (fix ti.z (view st x))) (λcs=>UW st d cs) else if cx.al.contains d=true then Xf (Xhs ti (fix ti.z (view st x))) (λcs=>Zg st d cs) else Xf (take st x) (λy=>Xf (Xhs ti (fix ti.z y.1)) λcs=>Zg y.2 d cs)):=by
 simp only[Xn,Yy,QJ]
def Xn4(d:Nat)(t':TypeId)(a:Operand):Xn cx st ⟨some d,.load t' a,t,pos,aft,g⟩=Xf (cx.T t') (λti=>Xf (loadAt st ti (view st a)) (λv=>some (st.put d v))):=by
 simp only[Xn,Yy,QX]
def Xlx(t':TypeId)(a x:Operand):Xn cx st ⟨none,.store t' a x,t,pos,aft,g⟩=Xf (cx.T t') (λti=>Xf (take st x) (λy=>storeAt y.2 ti (view y.2 a) y.1)):=by
 simp only[Xn,Yy,Option.isSome_none,Bool.false_eq_true,if_false]
def Xgr(d:Nat)(x:Operand):Xn cx st ⟨some d,.nilCheck x,t,pos,aft,g⟩=Xf (XdY (view st x)) (λv=>some (st.put d v)):=QX st d _
def Xfg(d:Nat)(t':TypeId)(x:Operand)(f:Nat):Xn cx st ⟨some d,.fieldAddr t' x f,t,pos,aft,g⟩=Xf (cx.T t') (λti=>Xf (XaP ti f (view st x)) (λv=>some (st.put d v))):=by
 simp only[Xn,Yy,QX]
def Xly(d:Nat)(t':TypeId)(x:Operand)(f:Nat):Xn cx st ⟨some d,.field t' x f,t,pos,aft,g⟩=Xf (cx.T t') (λti=>Xf (XeJ ti f (view st x)) (λv=>some (st.put d v))):=by
 simp only[Xn,Yy,QX]
def Xfh(d:Nat)(t':TypeId)(x ix:Operand):Xn cx st ⟨some d,.indexAddr t' x ix,t,pos,aft,g⟩=Xf (cx.T t') (λti=>Xf (Q7 st ti (view st x) (view st ix)) (λv=>some (st.put d v))):=by
 simp only[Xn,Yy,QX]
def Xlz(d:Nat)(t':TypeId)(x ix:Operand):Xn cx st ⟨some d,.index t' x ix,t,pos,aft,g⟩=Xf (cx.T t') (λti=>Xf (Xap ti (view st x) (view st ix)) (λv=>some (st.put d v))):=by
 simp only[Xn,Yy,QX]
def XqM(d:Nat)(op:BinOp)(xt:TypeId)(x y:Operand)(yt:TypeId):Xn cx st ⟨some d,.binOp op xt x y yt,t,pos,aft,g⟩=Xf (XcR (cx.T xt) (cx.eqs xt) op (view st x) (view st y)) (λv=>some (st.put d v)):=QX st d _
def Xr5(d:Nat)(op:UnOp)(xt:TypeId)(x:Operand):Xn cx st ⟨some d,.unOp op xt x,t,pos,aft,g⟩=Xf (unV op (view st x)) (λv=>some (st.put d v)):=QX st d _
def XhR(d:Nat)(a b:TypeId)(x:Operand):Xn cx st ⟨some d,.convert a b x,t,pos,aft,g⟩=Xf (cx.T a) (λta=>Xf (cx.T b) (λtb=>Xf (Xhq st ta tb (view st x)) (λv=>some (st.put d v)))):=by
 simp only[Xn,Yy,QX]
def XjB(src:TI)(k:IntKind)(a:AV):Xhq st src (.int k) a=XfW st src (.int k) a:=nr rfl
def XjC(src:TI)(a:AV):Xhq st src .str a=XfW st src .str a:=nr rfl
def XlA(z n:Nat)(zero:List AV)(src:TI)(a:AV):Xhq st src (.slice z n zero) a=XeK src z zero a:=nr rfl
def XlB(z:Nat)(zero:List AV)(b:ByteArray):XeK .str z zero (.s b)=if z=1/\Xqj zero=true/\b.size<=9223372036854775807 then some (.sl .mut 1 (b.data.toList.map UV)) else none:=nr rfl
def XlC(d:Nat)(xt:TypeId)(x:Operand)(lo hi:Option Operand):Xn cx st ⟨some d,.slice xt x lo hi none,t,pos,aft,g⟩=Xf (cx.T xt) (λti=>Xf (XaM ti (view st x) (lo.map (view st)) (hi.map (view st))) (λv=>some (st.put d v))):=by
 simp only[Xn,Yy,QX]
def Xgs(d f:Nat)(caps:List Operand):Xn cx st ⟨some d,.makeFunc (.func f) (List.toArray []) (List.toArray caps),t,pos,aft,g⟩=if(caps.map (view st)).all QA=true then some (st.put d (.fn f (caps.map (view st)))) else none:=by
 simp only[Xn,List.isEmpty_toArray,List.isEmpty_nil,Bool.true_and]; rfl
def XhS(d:Nat)(x:Operand)(j:Nat):Xn cx st ⟨some d,.extract x j,t,pos,aft,g⟩=Xf (Ul st x j) (λy=>some (y.2.put d y.1)):=Xg9 d _
def XlD(d:Nat)(t':TypeId)(parts:List (Nat×Operand)):Xn cx st ⟨some d,.build t' (List.toArray parts),t,pos,aft,g⟩=Xf (cx.T t') (λti=>Xf (Xcd ti st parts) (λv=>some (st.put d v))):=by
 simp only[Xn,Yy,QX]
def Xee(d:Nat)(t':TypeId)(len:Nat)(parts:List (Nat×Operand)):Xn cx st ⟨some d,.buildSlice t' len (List.toArray parts),t,pos,aft,g⟩=Xf (cx.T t') (λti=>Xf (Z7 ti st len parts) (λy=>some (y.2.put d y.1))):=by
 simp only[Xn,Yy,Xg9,St.put?]
def Xfi(d:Nat)(t':TypeId)(l c:Operand):Xn cx st ⟨some d,.makeSlice t' l c,t,pos,aft,g⟩=Xf (cx.T t') (λti=>Xf (Xhr ti (view st l) (view st c)) (λv=>some (st.put d v))):=by
 simp only[Xn,Yy,QX]
def XqN(d:Nat)(x:Operand)(tx:TypeId)(ts:List TypeId):Xn cx st ⟨some d,.call {callee:=.builtin .len,args:=List.toArray [x],argTypes:=List.toArray (tx :: ts)},t,pos,aft,g⟩=Xf (cx.T tx) (λti=>Xf (Xo7 st ti (view st x)) (λn=>some (st.put d (.i .i64 n)))):=by
 simp only[Xn,YO,Yy]; rfl
def XjD(d:Nat)(x y:Operand)(tx ty:TypeId):Xn cx st ⟨some d,.call {callee:=.builtin .append,args:=List.toArray [x,y],argTypes:=List.toArray [tx,ty]},t,pos,aft,g⟩=Xf (cx.T tx) (λti=>Xf (cx.T ty) (λtj=>if Xdk tj=true then Xf (Xbb ti st x y) (λy=>some (y.2.put d y.1)) else Xf (Xae ti tj st x (view st y)) (λy=>some (y.2.put d y.1)))):=by
 simp only[Xn,YO,Yy,Xg9]
def XlE(x:Operand)(tx:TypeId):Xn cx st ⟨none,.call {callee:=.builtin .clear,args:=List.toArray [x],argTypes:=List.toArray [tx]},t,pos,aft,g⟩=Xf (cx.T tx) (λti=>Xbu ti st (view st x)):=by
 simp only[Xn,YO,Yy,noD]
def XqO(d:Nat)(xs:List Operand)(at_:Array TypeId):Xn cx st ⟨some d,.call {callee:=.builtin .min,args:=List.toArray xs,argTypes:=at_},t,pos,aft,g⟩=Xf (XgS (λa b=>if b<a then b else a) (xs.map (view st))) (λv=>some (st.put d v)):=by
 simp only[Xn,YO,QX]
def XqP(d:Nat)(xs:List Operand)(at_:Array TypeId):Xn cx st ⟨some d,.call {callee:=.builtin .max,args:=List.toArray xs,argTypes:=at_},t,pos,aft,g⟩=Xf (XgS (λa b=>if b>a then b else a) (xs.map (view st))) (λv=>some (st.put d v)):=by
 simp only[Xn,YO,QX]
def Xn5(d:Option Nat)(f:Operand)(args:List Operand)(ats:List TypeId):Xn cx st ⟨d,.call {callee:=.value f,args:=List.toArray args,argTypes:=List.toArray ats},t,pos,aft,g⟩ =
  Xf (Xao cx st f ats args) (λy=>putN d y.2 y.1 (XaD y.1)):=by
 simp only[Xn,YO,XqJ]
def XlF(f:Operand)(ts:List TypeId)(xs:List Operand):Xao cx st f ts xs=Xf (Uk cx st f ts xs) (λp=>Xf (cx.fns p.1) (λfs=>Xca cx st p.1 fs f ts xs)):=by
 simp only[Xao,Xf]
 cases Uk cx st f ts xs with
 | none=>rfl
 | some p=>obtain⟨g,as⟩:=p; simp only; cases cx.fns g<;>rfl
def Xn6(f:Operand)(ts:List TypeId)(xs:List Operand):Uk cx st f ts xs=fnV (view st f) (Xey cx ts xs (xs.map (view st))):=nr rfl
def XlG(g:Nat)(md:List Md)(F:List AV->Option (AV×List AV))(f:Operand)(ts:List TypeId)(xs:List Operand):Xca cx st g ⟨md,F,false⟩ f ts xs=Xb9 cx st g ⟨md,F,false⟩ f ts xs:=nr rfl
def XlH(g:Nat)(md:List Md)(F:List AV->Option (AV×List AV))(f:Operand)(ts:List TypeId)(xs:List Operand):Xca cx st g ⟨md,F,true⟩ f ts xs=Xf (weakAll st md xs) (λs=>Xb9 cx s g ⟨md,F,true⟩ f ts xs):=by
 simp only[Xca,if_true,Xf]
 cases weakAll st md xs<;>rfl
def rwK(cx:Cx)(st:St)(g:Nat)(fs:FS)(f:Operand)(ts:List TypeId)(xs:List Operand):Option (Nat×Nat)->Option (AV×St)
 | some (k,n)=>XcU cx st g fs k n f ts xs
 | none=>Xb8 cx st g fs f ts xs
def Xn7(g:Nat)(md:List Md)(F:List AV->Option (AV×List AV))(b:Bool)(f:Operand)(ts:List TypeId)(xs:List Operand):Xb9 cx st g ⟨md,F,b⟩ f ts xs=rwK cx st g ⟨md,F,b⟩ f ts xs (XcS 0 md):=by
 unfold Xb9 rwK
 simp only
 cases XcS 0 md with
 | none=>rfl
 | some p=>rfl
def XlI(g:Nat)(fs:FS)(f:Operand)(ts:List TypeId)(xs:List Operand)(k n:Nat):rwK cx st g fs f ts xs (some (k,n))=XcU cx st g fs k n f ts xs:=nr rfl
def XlJ(g:Nat)(fs:FS)(f:Operand)(ts:List TypeId)(xs:List Operand):rwK cx st g fs f ts xs none=Xb8 cx st g fs f ts xs:=nr rfl
def XlK(k:Nat):XcS k []=none:=nr rfl
def Xn8(k n:Nat)(ms:List Md):XcS k (.ro n :: ms)=XcS (k+1) ms:=nr rfl
def Xn9(k:Nat)(ms:List Md):XcS k (.mv :: ms)=XcS (k+1) ms:=nr rfl
def Xoa(k n:Nat)(ms:List Md):XcS k (.rw n :: ms)=some (k,n):=nr rfl
def inO(a:Option AV)(l:Option (List AV)):Option (List AV):=match a,l with
 | some a,some l=>some (a :: l)
 | _,_=>none
def XlL(a:AV)(l:List AV):inO (some a) (some l)=some (a :: l):=nr rfl
def XhT(own:Bool)(av:Option (Bool×Nat))(ys:List (AV×List (Option (Pl×Bool)))):Zj own av st [] [] ys=some []:=nr rfl
def Xgt(own:Bool)(av:Option (Bool×Nat))(m:Md)(ms:List Md)(a:AV)(as:List AV)(ys:List (AV×List (Option (Pl×Bool)))):Zj own av st (m :: ms) (a :: as) ys=inO (XaO own av st m a (ys.headD (.u,[]))) (Zj own av st ms as ys.tail):=by
 simp only[Zj,inO]
 cases XaO own av st m a (ys.headD (.u,[])) with
 | none=>rfl
 | some b=>simp only; cases Zj own av st ms as ys.tail<;>rfl
def XlM(own:Bool)(av:Option (Bool×Nat))(n:Nat)(a:AV)(y:AV×List (Option (Pl×Bool))):XaO own av st (.ro n) a y=Qu own av st a:=nr rfl
def XlN(own:Bool)(av:Option (Bool×Nat))(a:AV)(x:AV)(l:List (Option (Pl×Bool))):XaO own av st .mv a (x,l)=some x:=nr rfl
def rwB(n:Nat)(pl:Pl)(w:Bool)(cells:List AV):Option AV:=if(w&&decide (pl.c+n<=cells.length)&&((cells.drop pl.c).take n).all X1)=true then some (.agg ((cells.drop pl.c).take n)) else none
def XlO(own:Bool)(av:Option (Bool×Nat))(n:Nat)(pl:Pl)(y:AV×List (Option (Pl×Bool))):XaO own av st (.rw n) (.p pl) y=Xf (node st pl) (rwB n pl (XO st pl)):=by
 simp only[XaO,Xf,rwB]
 cases node st pl<;>rfl
def rwP(cx:Cx)(st:St)(fs:FS)(as:List AV)(k n:Nat):Option AV->Option (AV×St)
 | some (.p pl)=>Xdj cx st fs as k n pl
 | _=>none
def Xr6(fs:FS)(as:List AV)(k n:Nat)(pl:Pl):rwP cx st fs as k n (some (.p pl))=Xdj cx st fs as k n pl:=nr rfl
def Xob(g:Nat)(fs:FS)(k n:Nat)(f:Operand)(ts:List TypeId)(xs:List Operand):XcU cx st g fs k n f ts xs=Xf (Uk cx st f ts xs) (λp=>if p.1=g/\XcT k fs.md=true then rwP cx st fs p.2 k n p.2[k]? else none):=by
 simp only[XcU,Xf]
 cases Uk cx st f ts xs with
 | none=>rfl
 | some p =>
  obtain⟨g',as⟩:=p
  simp only
  split
  ·cases as[k]? with
   | none=>rfl
   | some a=>cases a<;>rfl
  ·rfl
def rwA(st:St)(pl:Pl)(n:Nat)(r:AV):Option AV->Option (AV×St)
 | some (.agg cs)=>Xf (node st pl) (λcells=>some (r,(Xo st pl (cells.take pl.c++cs++cells.drop (pl.c+n))).cut pl n))
 | _=>none
def Xoc(pl:Pl)(n:Nat)(r:AV)(cs:List AV):rwA st pl n r (some (.agg cs))=Xf (node st pl) (λcells=>some (r,(Xo st pl (cells.take pl.c++cs++cells.drop (pl.c+n))).cut pl n)):=nr rfl
def rwR(st:St)(pl:Pl)(k n:Nat)(p:AV×List AV):Option (AV×St):=rwA st pl n p.1 p.2[k]?
def XqQ(pl:Pl)(k n:Nat)(r:AV)(os:List AV):rwR st pl k n (r,os)=rwA st pl n r os[k]?:=nr rfl
def XlP(md:List Md)(F:List AV->Option (AV×List AV))(b:Bool)(as:List AV)(k n:Nat)(pl:Pl):Xdj cx st ⟨md,F,b⟩ as k n pl=Xf (Zj (!b) (some (pl.e,pl.r)) st md as []) (λbs=>Xf (F bs) (rwR st pl k n)):=by
 simp only[Xdj,Xf,rwR]
 cases Zj (!b) (some (pl.e,pl.r)) st md as [] with
 | none=>rfl
 | some bs =>
  simp only
  cases F bs with
  | none=>rfl
  | some p =>
   obtain⟨r,os⟩:=p
   simp only[rwA]
   cases os[k]? with
   | none=>rfl
   | some a =>
    cases a<;>try rfl
    simp only[Xf]
    cases node st pl<;>rfl
def XhU(m:Md)(ms:List Md):XcT 0 (m :: ms)=ms.all Zx:=nr rfl
def XhV(k n:Nat)(ms:List Md):XcT (k+1) (.ro n :: ms)=XcT k ms:=nr rfl
def Xgu(xs:List Operand):weakAll st [] xs=some st:=by cases xs<;>rfl
def XhW(n:Nat)(ms:List Md)(x:Operand)(xs:List Operand):weakAll st (.ro n :: ms) (x :: xs)=Xf (weakArg st x) (λs=>weakAll s ms xs):=by
 simp only[weakAll,Xf]; cases weakArg st x<;>rfl
def XhX(n:Nat)(ms:List Md)(x:Operand)(xs:List Operand):weakAll st (.rw n :: ms) (x :: xs)=weakAll st ms xs:=by simp only[weakAll]
def XhY(ms:List Md)(x:Operand)(xs:List Operand):weakAll st (.mv :: ms) (x :: xs)=weakAll st ms xs:=by simp only[weakAll]
def UQ(st:St)(x:Operand):AV->Option St
 | .agg cs=>Qt x cs.length 0 st
 | a=>weakLeaf st a
def XjE(x:Operand):weakArg st x=UQ st x (view st x):=by simp only[weakArg,UQ]; cases view st x<;>rfl
def Xfj(x:Operand)(j:Nat):Qt x 0 j st=some st:=nr rfl
def Xod(x:Operand)(n j:Nat)(st:St):AV->Option St
 | .agg cs=>Xf cs[j]? (λa=>Xf (weakLeaf st a) (λs=>Qt x n (j+1) s))
 | _=>none
def XjF(x:Operand)(n j:Nat)(cs:List AV):Xod x n j st (.agg cs)=Xf cs[j]? (λa=>Xf (weakLeaf st a) (λs=>Qt x n (j+1) s)):=nr rfl
def Xfk(x:Operand)(n j:Nat):Qt x (n+1) j st=Xod x n j st (view st x):=by
 simp only[Qt,Xod]
 cases view st x with
 | agg cs =>
  simp only[Xf]
  cases cs[j]? with
  | none=>rfl
  | some a=>simp only; cases weakLeaf st a<;>rfl
 | _=>rfl
def XjG(st:St)(pl:Pl)(z':Nat)(cells:List AV):Option AV->Option St
 | some (.sl .mut z es)=>if z'=z then(if XO st pl then some ((Xo st pl (cells.set pl.c (.sl .app z (XL es)))).filt (keepP pl.e pl.r pl.path pl.c 1) (keepP pl.e pl.r pl.path pl.c 1)) else none) else none
 | _=>some st
def Xoe(st:St)(pl:Pl)(z':Nat):Option (List AV)->Option St
 | some cells=>XjG st pl z' cells cells[pl.c]?
 | none=>some st
def Xgv(pl:Pl)(z' lo n:Nat):weakLeaf st (.rf pl z' lo n)=Xoe st pl z' (node st pl):=by
 simp only[weakLeaf,Xoe]
 cases node st pl with
 | none=>rfl
 | some cells=>rfl
def XhZ(pl:Pl)(z':Nat)(cells:List AV):Xoe st pl z' (some cells)=XjG st pl z' cells cells[pl.c]?:=nr rfl
def XjH(pl:Pl)(z':Nat)(cells:List AV)(z:Nat)(es:List (List AV)):XjG st pl z' cells (some (.sl .mut z es))=if z'=z then(if XO st pl=true then some ((Xo st pl (cells.set pl.c (.sl .app z (XL es)))).filt (keepP pl.e pl.r pl.path pl.c 1) (keepP pl.e pl.r pl.path pl.c 1)) else none) else none:=nr rfl
def XlQ(pl:Pl)(z':Nat)(cells:List AV)(z:Nat)(es:List (List AV)):XjG st pl z' cells (some (.sl .ro z es))=some st:=nr rfl
def XjI(pl:Pl)(z':Nat)(cells:List AV)(z:Nat)(es:List (List AV)):XjG st pl z' cells (some (.sl .app z es))=some st:=nr rfl
def Xrm(ys:List (AV×List (Option (Pl×Bool))))(st:St)(p:AV×List AV):Option (AV×St):=Xf (Yb st p.2 ys) (λs=>some (p.1,s))
def XjJ(g:Nat)(md:List Md)(F:List AV->Option (AV×List AV))(b:Bool)(f:Operand)(ts:List TypeId)(xs:List Operand):Xb8 cx st g ⟨md,F,b⟩ f ts xs=Xf (X5 cx st md ts xs) (λp=>Xf (Uk cx p.2 f ts xs) (λq=>if q.1=g/\(p.1.all λy=>y.2.all (XiC p.2))=true then Xf (Zj (!b) none p.2 md q.2 p.1) (λbs=>Xf (F bs) (Xrm p.1 p.2)) else none)):=by
 simp only[Xb8,Xf,Xrm]
 cases X5 cx st md ts xs with
 | none=>rfl
 | some p =>
  obtain⟨ys,s⟩:=p
  simp only
  cases Uk cx s f ts xs with
  | none=>rfl
  | some q =>
   obtain⟨g',as⟩:=q
   simp only[XiE]
   split
   ·cases Zj (!b) none s md as ys with
    | none=>rfl
    | some bs =>
     simp only
     cases F bs with
     | none=>rfl
     | some r =>
      obtain⟨v,os⟩:=r
      simp only
      cases Yb s os ys<;>rfl
   ·rfl
def Xgw(ts:List TypeId)(xs:List Operand):X5 cx st [] ts xs=some ([],st):=by cases ts<;>cases xs<;>rfl
def XjK(y:AV×List (Option (Pl×Bool)))(q:List (AV×List (Option (Pl×Bool)))×St):Option (List (AV×List (Option (Pl×Bool)))×St):=some (y :: q.1,q.2)
def XlR(y:AV×List (Option (Pl×Bool)))(l:List (AV×List (Option (Pl×Bool))))(s:St):XjK y (l,s)=some (y :: l,s):=nr rfl
def Xh0(ms:List Md)(t:TypeId)(ts:List TypeId)(x:Operand)(xs:List Operand):X5 cx st (.mv :: ms) (t :: ts) (x :: xs)=Xf (outArg (zOf cx t) st x) (λp=>Xf (X5 cx p.2 ms ts xs) (XjK p.1)):=by
 simp only[X5,Md.isMv,if_true,Xf,XjK]
 cases outArg (zOf cx t) st x with
 | none=>rfl
 | some p=>obtain⟨y,s⟩:=p; simp only; cases X5 cx s ms ts xs<;>rfl
def Xh1(n:Nat)(ms:List Md)(t:TypeId)(ts:List TypeId)(x:Operand)(xs:List Operand):X5 cx st (.ro n :: ms) (t :: ts) (x :: xs)=Xf (X5 cx st ms ts xs) (XjK (.u,[])):=by
 simp only[X5,Md.isMv,Bool.false_eq_true,if_false,Xf,XjK]
 cases X5 cx st ms ts xs<;>rfl
def Xkd(z:Nat)(st:St)(x:Operand):AV->Option ((AV×List (Option (Pl×Bool)))×St)
 | .agg cs=>match Qw x cs.length 0 st with
  | some (ys,st')=>some ((.agg ys.1,ys.2),st')
  | none=>none
 | a=>match outLeaf st (fix z a) with
  | some (y,st')=>some ((y.1,[y.2]),st')
  | none=>none
def XlS(z:Nat)(x:Operand):outArg z st x=Xkd z st x (view st x):=by
 simp only[outArg,Xkd]
 cases view st x<;>rfl
def Xof(p:(List AV×List (Option (Pl×Bool)))×St):Option ((AV×List (Option (Pl×Bool)))×St):=some ((.agg p.1.1,p.1.2),p.2)
def XlT(l:List AV)(r:List (Option (Pl×Bool)))(s:St):Xof ((l,r),s)=some ((.agg l,r),s):=nr rfl
def Xgx(p:(AV×Option (Pl×Bool))×St):Option ((AV×List (Option (Pl×Bool)))×St):=some ((p.1.1,[p.1.2]),p.2)
def XlU(a:AV)(r:Option (Pl×Bool))(s:St):Xgx ((a,r),s)=some ((a,[r]),s):=nr rfl
def XlV(z:Nat)(x:Operand)(cs:List AV):Xkd z st x (.agg cs)=Xf (Qw x cs.length 0 st) Xof:=by
 simp only[Xkd,Xf,Xof]
 cases Qw x cs.length 0 st<;>rfl
def Xog(z:Nat)(x:Operand)(pl:Pl)(y lo n:Nat):Xkd z st x (.rf pl y lo n)=Xf (outLeaf st (.rf pl y lo n)) Xgx:=by
 simp only[Xkd,fix,Xf,Xgx]
 cases outLeaf st (.rf pl y lo n)<;>rfl
def Xoh(z:Nat)(x:Operand)(t:Tag)(y:Nat)(es:List (List AV)):Xkd z st x (.sl t y es)=Xf (outLeaf st (.sl t y es)) Xgx:=by
 simp only[Xkd,fix,Xf,Xgx]
 cases outLeaf st (.sl t y es)<;>rfl
def XlW(z:Nat)(x:Operand):Xkd z st x .nil=Xf (outLeaf st (fix z .nil)) Xgx:=by
 simp only[Xkd,Xf,Xgx]
 cases outLeaf st (fix z .nil)<;>rfl
def Xgy(x:Operand)(j:Nat):Qw x 0 j st=some (([],[]),st):=nr rfl
def Xrn(y:AV×Option (Pl×Bool))(q:(List AV×List (Option (Pl×Bool)))×St):Option ((List AV×List (Option (Pl×Bool)))×St):=some ((y.1 :: q.1.1,y.2 :: q.1.2),q.2)
def Xoi(a:AV)(r:Option (Pl×Bool))(l:List AV)(rs:List (Option (Pl×Bool)))(s:St):Xrn (a,r) ((l,rs),s)=some ((a :: l,r :: rs),s):=nr rfl
def Xr7(x:Operand)(n j:Nat)(st:St):AV->Option ((List AV×List (Option (Pl×Bool)))×St)
 | .agg cs=>Xf cs[j]? (λa=>Xf (outLeaf st a) (λp=>Xf (Qw x n (j+1) p.2) (Xrn p.1)))
 | _=>none
def XlX(x:Operand)(n j:Nat)(cs:List AV):Xr7 x n j st (.agg cs)=Xf cs[j]? (λa=>Xf (outLeaf st a) (λp=>Xf (Qw x n (j+1) p.2) (Xrn p.1))):=nr rfl
def Xgz(x:Operand)(n j:Nat):Qw x (n+1) j st=Xr7 x n j st (view st x):=by
 simp only[Qw,Xr7]
 cases view st x with
 | agg cs =>
  simp only[Xf,Xrn]
  cases cs[j]? with
  | none=>rfl
  | some a =>
   simp only
   cases outLeaf st a with
   | none=>rfl
   | some p=>obtain⟨y,s⟩:=p; simp only; cases Qw x n (j+1) s<;>rfl
 | _=>rfl
def Xr8(st:St)(pl:Pl)(z' lo n:Nat)(cells:List AV):Option AV->Option ((AV×Option (Pl×Bool))×St)
 | some (.sl .mut z es)=>if(lo=0/\n=es.length)/\z'=z then(if XO st pl=true then some ((.sl .mut z es,some (pl,whole st pl)),(Xo st pl (cells.set pl.c .u)).cut pl 1) else none) else none
 | _=>none
def XlY(pl:Pl)(z' lo n:Nat)(cells:List AV)(z:Nat)(es:List (List AV)):Xr8 st pl z' lo n cells (some (.sl .mut z es))=if(lo=0/\n=es.length)/\z'=z then(if XO st pl=true then some ((.sl .mut z es,some (pl,whole st pl)),(Xo st pl (cells.set pl.c .u)).cut pl 1) else none) else none:=nr rfl
def Xh2(pl:Pl)(z' lo n:Nat):outLeaf st (.rf pl z' lo n)=Xf (node st pl) (λcells=>Xr8 st pl z' lo n cells cells[pl.c]?):=by
 simp only[outLeaf,Xf]
 cases node st pl with
 | none=>rfl
 | some cells=>simp only[Xr8]; rfl
def Xr9(st:St)(z:Nat)(pl:Pl)(y lo n:Nat)(cells:List AV):Option AV->Option St
 | some (.sl .mut z' es)=>if((lo+n<=es.length/\z'=z)/\y=z)/\(XO st pl&&XiC ((Xo st pl (cells.set pl.c .u)).cut pl 1) (some (pl,whole st pl)))=true then XR ((Xo st pl (cells.set pl.c .u)).cut pl 1) (.sl .mut z (YD z lo n es)) (some (pl,whole st pl)) else none
 | _=>none
def XlZ(z:Nat)(pl:Pl)(y lo n:Nat)(cells:List AV)(z':Nat)(es:List (List AV)):Xr9 st z pl y lo n cells (some (.sl .mut z' es))=if((lo+n<=es.length/\z'=z)/\y=z)/\(XO st pl&&XiC ((Xo st pl (cells.set pl.c .u)).cut pl 1) (some (pl,whole st pl)))=true then XR ((Xo st pl (cells.set pl.c .u)).cut pl 1) (.sl .mut z (YD z lo n es)) (some (pl,whole st pl)) else none:=nr rfl
def XjL(z b:Nat)(ze:List AV)(pl:Pl)(y lo n:Nat):Xbu (.slice z b ze) st (.rf pl y lo n)=Xf (node st pl) (λcells=>Xr9 st z pl y lo n cells cells[pl.c]?):=by
 simp only[Xbu,Xf]
 cases node st pl with
 | none=>rfl
 | some cells=>simp only[Xr9]; rfl
@[congr] def XmD{ti:TI}{a a':AV}(h:a=a'):Xbu ti st a=Xbu ti st a':=by rw[h]
def XjM:XiC st none=true:=nr rfl
def XjN(pl:Pl):XiC st (some (pl,true))=true:=nr rfl
def okN(c:Nat):Option (List AV)->Bool
 | some cells=>decide (c<cells.length)
 | none=>false
def Xl0(c:Nat)(cells:List AV):okN c (some cells)=decide (c<cells.length):=nr rfl
def Xh3(pl:Pl):XiC st (some (pl,false))=((!pl.e||top (st.env pl.r))&&okN pl.c (node st pl)):=nr rfl
def XgA(ys:List (AV×List (Option (Pl×Bool)))):Yb st [] ys=some st:=by cases ys<;>rfl
def Xfl(o:AV)(os:List AV)(a:AV)(ys:List (AV×List (Option (Pl×Bool)))):Yb st (o :: os) ((a,[]) :: ys)=Yb st os ys:=nr rfl
def Xfm(os:List AV)(a:AV)(p:Option (Pl×Bool))(ps:List (Option (Pl×Bool)))(ys:List (AV×List (Option (Pl×Bool)))):Yb st (.u :: os) ((a,p :: ps) :: ys)=Yb st os ys:=nr rfl
def XgB(cs os:List AV)(a:AV)(p:Option (Pl×Bool))(ps:List (Option (Pl×Bool)))(ys:List (AV×List (Option (Pl×Bool)))):Yb st (.agg cs :: os) ((a,p :: ps) :: ys)=Xf (Yg st cs (p :: ps)) (λs=>Yb s os ys):=by
 simp only[Yb,Xf,XiD,cellsOf]
 cases Yg st cs (p :: ps)<;>rfl
def Xh4(t:Tag)(z:Nat)(es:List (List AV))(os:List AV)(a:AV)(p:Option (Pl×Bool))(ps:List (Option (Pl×Bool)))(ys:List (AV×List (Option (Pl×Bool)))):Yb st (.sl t z es :: os) ((a,p :: ps) :: ys)=Xf (Yg st [.sl t z es] (p :: ps)) (λs=>Yb s os ys):=by
 simp only[Yb,Xf,XiD,cellsOf]
 cases Yg st [.sl t z es] (p :: ps)<;>rfl
def XgC(os:List AV):Yb st os []=some st:=by cases os<;>rfl
def Xc0:Yg st [] []=some st:=nr rfl
def Xcz(a:AV)(as:List AV)(p:Option (Pl×Bool))(ps:List (Option (Pl×Bool))):Yg st (a :: as) (p :: ps)=Xf (XR st a p) (λs=>Yg s as ps):=by
 simp only[Yg,Xf]
 cases XR st a p<;>rfl
def Xef(a:AV):XR st a none=some st:=nr rfl
def Xoj(st:St)(r:Nat)(a:AV):AV->Option St
 | .u=>some (st.put r a)
 | _=>none
def Xok(r:Nat)(a:AV):Xoj st r a .u=some (st.put r a):=nr rfl
def Xeg(pl:Pl)(t:Tag)(z:Nat)(es:List (List AV)):XR st (.sl t z es) (some (pl,true))=Xoj st pl.r (.sl t z es) (st.env pl.r):=by
 simp only[XR,Xoj]
 cases st.env pl.r<;>rfl
def Xol(st:St)(pl:Pl)(a:AV)(cells:List AV):Option AV->Option St
 | some .u=>if(XO st pl&&(!pl.e||top (st.env pl.r)))=true then some (Xo st pl (cells.set pl.c a)) else none
 | _=>none
def Xom(pl:Pl)(a:AV)(cells:List AV):Xol st pl a cells (some .u)=if(XO st pl&&(!pl.e||top (st.env pl.r)))=true then some (Xo st pl (cells.set pl.c a)) else none:=nr rfl
def Xc1(pl:Pl)(t:Tag)(z:Nat)(es:List (List AV)):XR st (.sl t z es) (some (pl,false))=Xf (node st pl) (λcells=>Xol st pl (.sl t z es) cells cells[pl.c]?):=by
 simp only[XR,Xf]
 cases node st pl with
 | none=>rfl
 | some cells =>
  simp only[Xol]
  cases cells[pl.c]? with
  | none=>rfl
  | some a=>cases a<;>rfl
def Xsa(st:St)(p:AV×List AV):Option (AV×St):=some (p.1,st)
def Xon(v:AV)(os:List AV):Xsa st (v,os)=some (v,st):=nr rfl
def Xl1(g:Nat)(md:List Md)(F:List AV->Option (AV×List AV))(b:Bool)(f:Operand)(ts:List TypeId)(xs:List Operand)(h:md.all Zx=true) :
  Xb8 cx st g ⟨md,F,b⟩ f ts xs=Xf (Uk cx st f ts xs) (λq=>if q.1=g then Xf (Zj (!b) none st md q.2 []) (λbs=>Xf (F bs) (Xsa st)) else none):=by
 have h1:∀(ms:List Md) (ts:List TypeId) (xs:List Operand),ms.all Zx=true->∃ys,X5 cx st ms ts xs=some (ys,st)/\∀y∈ys,y=(AV.u,[]):=by
  intro ms
  induction ms with
  | nil=>intro ts xs _; exact⟨[],by simp[X5],by simp⟩
  | cons m ms ih =>
   intro ts xs hm
   simp only[List.all_cons,Bool.and_eq_true] at hm
   cases ts with
   | nil=>exact⟨[],by simp[X5],by simp⟩
   | cons t ts =>
    cases xs with
    | nil=>exact⟨[],by simp[X5],by simp⟩
    | cons x xs =>
     obtain⟨ys,e1,e2⟩:=ih ts xs hm.2
     have:m.isMv=false:=by cases m<;>first | rfl | cases hm.1
     exact⟨(.u,[]) :: ys,by simp only[X5,this,Bool.false_eq_true,if_false,e1],by simpa using e2⟩
 obtain⟨ys,e1,e2⟩:=h1 md ts xs h
 have h2:∀(ms:List Md) (as:List AV) (ys:List (AV×List (Option (Pl×Bool)))),ms.all Zx=true->(∀y∈ys,y=(AV.u,[]))->Zj (!b) none st ms as ys=Zj (!b) none st ms as []:=by
  intro ms
  induction ms with
  | nil=>intro as ys _ _; cases as<;>rfl
  | cons m ms ih =>
   intro as ys hm hy
   simp only[List.all_cons,Bool.and_eq_true] at hm
   cases as with
   | nil=>rfl
   | cons a as =>
    cases m with
    | ro n =>
     simp only[Zj,XaO,List.tail_nil]
     rw[ih as ys.tail hm.2 (λy hy'=>hy y (List.mem_of_mem_tail hy'))]
    | _=>cases hm.1
 have h3:∀(os:List AV) (ys:List (AV×List (Option (Pl×Bool)))),(∀y∈ys,y=(AV.u,[]))->Yb st os ys=some st:=by
  intro os
  induction os with
  | nil=>intro ys _; cases ys<;>rfl
  | cons o os ih =>
   intro ys hy
   cases ys with
   | nil=>rfl
   | cons y ys =>
    have:=hy y (by simp)
    subst this
    simp only[Yb]
    exact ih ys (λy hy'=>hy y (by simp[hy']))
 have h4:(ys.all λy=>y.2.all (XiC st))=true:=by
  rw[List.all_eq_true]
  intro y hy
  rw[e2 y hy]; rfl
 rw[XjJ,e1]
 simp only[QJ,h4,and_true]
 congr 1
 funext q
 split
 ·rw[h2 md q.2 ys h e2]
  congr 1
  funext bs
  congr 1
  funext p
  simp only[Xrm,Xsa,h3 p.2 ys e2,QJ]
 ·rfl
end
end Go.Vm
set_option autoImplicit true
set_option relaxedAutoImplicit true
namespace Go.Vm
def k0:XP q .u=.u :=nr rfl
def k1:XP q .no=.no :=nr rfl
def k2:XP q .ub=.ub :=nr rfl
def k3:XP q (.b x)=(.b x) :=nr rfl
def k4:XP q (.i k n)=(.i k n) :=nr rfl
def k5:XP q (.s x)=(.s x) :=nr rfl
def k6:XP q .nil=.nil :=nr rfl
def k7:XP q (.rf pl y lo n)=(.rf pl y lo n) :=nr rfl
def k8:XP q (.p pl)=(.p pl) :=nr rfl
def k9:XP q (.pr cs)=(.pr cs) :=nr rfl
def k10:XP q .pn=.pn :=nr rfl
def k11:XP q (.fn f cs)=(.fn f cs) :=nr rfl
def k12:XP q (.fs cs)=(.fs cs) :=nr rfl
def k13:XP q (.agg cs)=(.agg cs) :=nr rfl
def k14:XP q (.tup cs)=(.tup cs) :=nr rfl
def k15:XP q (.sl .app z es)=.rf q z 0 es.length :=nr rfl
def k16:XP q (.sl .mut z es)=.rf q z 0 es.length :=nr rfl
def k17:XP q (.sl .ro z es)=.sl .ro z es :=nr rfl
def Uy(x:Nat)(a:AV):AV :=match a with
  | .agg cs => .agg (Yu ⟨true,x,[],0⟩ 0 cs)
  | .tup _ => .u
  | a => XP ⟨true,x,[],0⟩ a
def k18:view st (.tmp x)=Uy x (st.env x) :=nr rfl
def k19:view st (.const v)=Xhp v :=nr rfl
def k20:view st (.func f)=.fn f [] :=nr rfl
def k21:Uy x .u=.u :=nr rfl
def k22:Uy x .no=.no :=nr rfl
def k23:Uy x .ub=.ub :=nr rfl
def k24:Uy x (.i k n)=(.i k n) :=nr rfl
def k25:Uy x .nil=.nil :=nr rfl
def k26:Uy x (.rf pl y lo n)=(.rf pl y lo n) :=nr rfl
def k27:Uy x (.p pl)=(.p pl) :=nr rfl
def k28:Uy x (.pr cs)=(.pr cs) :=nr rfl
def k29:Uy x .pn=.pn :=nr rfl
def k30:Uy x (.fn f cs)=(.fn f cs) :=nr rfl
def k31:Uy x (.fs cs)=(.fs cs) :=nr rfl
def k32:Uy x (.agg cs)=.agg (Yu ⟨true,x,[],0⟩ 0 cs) :=nr rfl
def k33:Uy x (.tup cs)=.u :=nr rfl
def k34:Uy x (.b y)=.b y :=nr rfl
def k35:Uy x (.s y)=.s y :=nr rfl
def k36:Uy x (.sl .app z es)=.rf ⟨true,x,[],0⟩ z 0 es.length :=nr rfl
def k37:Uy x (.sl .mut z es)=.rf ⟨true,x,[],0⟩ z 0 es.length :=nr rfl
def k38:Uy x (.sl .ro z es)=.sl .ro z es :=nr rfl
def k39:Yu q j []=[] :=nr rfl
def k40:Yu q j (a :: l)=XP {q with c :=j} a :: Yu q (j+1) l :=nr rfl
def k41:Qi .u=false :=nr rfl
def k42:Qi .no=false :=nr rfl
def k43:Qi .ub=false :=nr rfl
def k44:Qi (.b x)=false :=nr rfl
def k45:Qi (.i k n)=false :=nr rfl
def k46:Qi (.s x)=false :=nr rfl
def k47:Qi .nil=false :=nr rfl
def k48:Qi (.sl t z es)=true :=nr rfl
def k49:Qi (.rf pl y lo n)=false :=nr rfl
def k50:Qi (.p pl)=false :=nr rfl
def k51:Qi (.pr cs)=false :=nr rfl
def k52:Qi .pn=false :=nr rfl
def k53:Qi (.fn f cs)=false :=nr rfl
def k54:Qi (.fs cs)=false :=nr rfl
def k55:Qi (.agg cs)=false :=nr rfl
def k56:Qi (.tup cs)=false :=nr rfl
def k57:XaD .u=none :=nr rfl
def k58:XaD .no=none :=nr rfl
def k59:XaD .ub=none :=nr rfl
def k60:XaD (.b x)=none :=nr rfl
def k61:XaD (.i k n)=none :=nr rfl
def k62:XaD (.s x)=none :=nr rfl
def k63:XaD .nil=none :=nr rfl
def k64:XaD (.sl t z es)=none :=nr rfl
def k65:XaD (.rf pl y lo n)=none :=nr rfl
def k66:XaD (.p pl)=none :=nr rfl
def k67:XaD (.pr cs)=none :=nr rfl
def k68:XaD .pn=none :=nr rfl
def k69:XaD (.fn f cs)=none :=nr rfl
def k70:XaD (.fs cs)=none :=nr rfl
def k71:XaD (.agg cs)=none :=nr rfl
def k72:Q0 .u=none :=nr rfl
def k73:Q0 .no=none :=nr rfl
def k74:Q0 .ub=none :=nr rfl
def k75:Q0 (.b x)=none :=nr rfl
def k76:Q0 (.i k n)=none :=nr rfl
def k77:Q0 (.s x)=none :=nr rfl
def k78:Q0 .nil=none :=nr rfl
def k79:Q0 (.sl t z es)=none :=nr rfl
def k80:Q0 (.rf pl y lo n)=none :=nr rfl
def k81:Q0 (.p pl)=none :=nr rfl
def k82:Q0 (.pr cs)=none :=nr rfl
def k83:Q0 .pn=none :=nr rfl
def k84:Q0 (.fn f cs)=none :=nr rfl
def k85:Q0 (.fs cs)=none :=nr rfl
def k86:Q0 (.agg cs)=none :=nr rfl
def k87:Q0 (.tup [])=none :=nr rfl
def k88:Q0 (.tup (.u :: l))=none :=by
  cases l with
  | nil => rfl
  | cons b l => cases l<;>rfl
def k89:Q0 (.tup (.no :: l))=none :=by
  cases l with
  | nil => rfl
  | cons b l => cases l<;>rfl
def k90:Q0 (.tup (.ub :: l))=none :=by
  cases l with
  | nil => rfl
  | cons b l => cases l<;>rfl
def k91:Q0 (.tup ((.b x) :: l))=none :=by
  cases l with
  | nil => rfl
  | cons b l => cases l<;>rfl
def k92:Q0 (.tup ((.i k n) :: l))=none :=by
  cases l with
  | nil => rfl
  | cons b l => cases l<;>rfl
def k93:Q0 (.tup ((.s x) :: l))=none :=by
  cases l with
  | nil => rfl
  | cons b l => cases l<;>rfl
def k94:Q0 (.tup (.nil :: l))=none :=by
  cases l with
  | nil => rfl
  | cons b l => cases l<;>rfl
def k95:Q0 (.tup ((.sl t z es) :: l))=none :=by
  cases l with
  | nil => rfl
  | cons b l => cases l<;>rfl
def k96:Q0 (.tup ((.rf pl y lo n) :: l))=none :=by
  cases l with
  | nil => rfl
  | cons b l => cases l<;>rfl
def k97:Q0 (.tup ((.p pl) :: l))=none :=by
  cases l with
  | nil => rfl
  | cons b l => cases l<;>rfl
def k98:Q0 (.tup ((.pr cs) :: l))=none :=by
  cases l with
  | nil => rfl
  | cons b l => cases l<;>rfl
def k99:Q0 (.tup (.pn :: l))=none :=by
  cases l with
  | nil => rfl
  | cons b l => cases l<;>rfl
def Xt4:Q0 (.tup ((.fn f cs) :: l))=none :=by
  cases l with
  | nil => rfl
  | cons b l => cases l<;>rfl
def Xt5:Q0 (.tup ((.fs cs) :: l))=none :=by
  cases l with
  | nil => rfl
  | cons b l => cases l<;>rfl
def Xt6:Q0 (.tup ((.agg cs) :: l))=none :=by
  cases l with
  | nil => rfl
  | cons b l => cases l<;>rfl
def Xt7:npP md st .u=none :=nr rfl
def Xt8:npP md st .no=none :=nr rfl
def Xt9:npP md st .ub=none :=nr rfl
def Xua:npP md st (.b x)=none :=nr rfl
def Xub:npP md st (.i k n)=none :=nr rfl
def Xuc:npP md st (.s x)=none :=nr rfl
def Xud:npP md st .nil=none :=nr rfl
def Xue:npP md st (.sl t z es)=none :=nr rfl
def Xuf:npP md st (.rf pl y lo n)=none :=nr rfl
def Xug:npP md st (.pr cs)=none :=nr rfl
def Xuh:npP md st .pn=none :=nr rfl
def Xui:npP md st (.fn f cs)=none :=nr rfl
def Xuj:npP md st (.fs cs)=none :=nr rfl
def Xuk:npP md st (.agg cs)=none :=nr rfl
def Xul:npP md st (.tup cs)=none :=nr rfl
def Xum:YS .u=false :=nr rfl
def Xun:YS .no=false :=nr rfl
def Xuo:YS .ub=false :=nr rfl
def Xup:YS (.b x)=false :=nr rfl
def Xuq:YS (.i k n)=false :=nr rfl
def Xur:YS (.s x)=false :=nr rfl
def Xus:YS .nil=false :=nr rfl
def Xut:YS (.sl t z es)=true :=nr rfl
def Xuu:YS (.rf pl y lo n)=false :=nr rfl
def Xuv:YS (.p pl)=false :=nr rfl
def Xuw:YS (.pr cs)=false :=nr rfl
def Xux:YS .pn=false :=nr rfl
def Xuy:YS (.fn f cs)=false :=nr rfl
def Xuz:YS (.fs cs)=false :=nr rfl
def XuA:YS (.agg cs)=cs.any Qi :=nr rfl
def XuB:YS (.tup cs)=false :=nr rfl
def XuC:UU .u=true :=nr rfl
def XuD:UU .no=false :=nr rfl
def XuE:UU .ub=true :=nr rfl
def XuF:UU (.b x)=true :=nr rfl
def XuG:UU (.i k n)=true :=nr rfl
def XuH:UU (.s x)=true :=nr rfl
def XuI:UU .nil=true :=nr rfl
def XuJ:UU (.sl t z es)=true :=nr rfl
def XuK:UU (.rf pl y lo n)=false :=nr rfl
def XuL:UU (.p pl)=true :=nr rfl
def XuM:UU (.pr cs)=true :=nr rfl
def XuN:UU .pn=true :=nr rfl
def XuO:UU (.fn f cs)=false :=nr rfl
def XuP:UU (.fs cs)=false :=nr rfl
def XuQ:UU (.agg cs)=false :=nr rfl
def XuR:UU (.tup cs)=false :=nr rfl
def XuS:X1 .u=true :=nr rfl
def XuT:X1 .no=false :=nr rfl
def XuU:X1 .ub=true :=nr rfl
def XuV:X1 (.b x)=true :=nr rfl
def XuW:X1 (.i k n)=true :=nr rfl
def XuX:X1 (.s x)=true :=nr rfl
def XuY:X1 .nil=true :=nr rfl
def XuZ:X1 (.sl t z es)=true :=nr rfl
def Xu0:X1 (.rf pl y lo n)=false :=nr rfl
def Xu1:X1 (.p pl)=false :=nr rfl
def Xu2:X1 (.pr cs)=true :=nr rfl
def Xu3:X1 .pn=true :=nr rfl
def Xu4:X1 (.fn f cs)=false :=nr rfl
def Xu5:X1 (.fs cs)=false :=nr rfl
def Xu6:X1 (.agg cs)=false :=nr rfl
def Xu7:X1 (.tup cs)=false :=nr rfl
def Xu8:top .u=false :=nr rfl
def Xu9:top .no=false :=nr rfl
def Xva:top .ub=true :=nr rfl
def Xvb:top (.b x)=true :=nr rfl
def Xvc:top (.i k n)=true :=nr rfl
def Xvd:top (.s x)=true :=nr rfl
def Xve:top .nil=true :=nr rfl
def Xvf:top (.sl t z es)=true :=nr rfl
def Xvg:top (.rf pl y lo n)=true :=nr rfl
def Xvh:top (.p pl)=true :=nr rfl
def Xvi:top (.pr cs)=true :=nr rfl
def Xvj:top .pn=true :=nr rfl
def Xvk:top (.fn f cs)=true :=nr rfl
def Xvl:top (.fs cs)=true :=nr rfl
def Xvm:top (.agg cs)=true :=nr rfl
def Xvn:top (.tup cs)=false :=nr rfl
def Xvo:Xdl .u=false :=nr rfl
def Xvp:Xdl .no=false :=nr rfl
def Xvq:Xdl .ub=false :=nr rfl
def Xvr:Xdl (.b x)=false :=nr rfl
def Xvs:Xdl (.i k n)=false :=nr rfl
def Xvt:Xdl (.s x)=false :=nr rfl
def Xvu:Xdl .nil=false :=nr rfl
def Xvv:Xdl (.sl t z es)=false :=nr rfl
def Xvw:Xdl (.rf pl y lo n)=false :=nr rfl
def Xvx:Xdl (.p pl)=false :=nr rfl
def Xvy:Xdl (.pr cs)=false :=nr rfl
def Xvz:Xdl .pn=false :=nr rfl
def XvA:Xdl (.fn f cs)=true :=nr rfl
def XvB:Xdl (.fs cs)=false :=nr rfl
def XvC:Xdl (.agg cs)=false :=nr rfl
def XvD:Xdl (.tup cs)=false :=nr rfl
def XvE:QA .u=false :=nr rfl
def XvF:QA .no=false :=nr rfl
def XvG:QA .ub=true :=nr rfl
def XvH:QA (.b x)=true :=nr rfl
def XvI:QA (.i k n)=true :=nr rfl
def XvJ:QA (.s x)=true :=nr rfl
def XvK:QA .nil=true :=nr rfl
def XvL:QA (.sl t z es)=true :=nr rfl
def XvM:QA (.rf pl y lo n)=true :=nr rfl
def XvN:QA (.p pl)=true :=nr rfl
def XvO:QA (.pr cs)=true :=nr rfl
def XvP:QA .pn=true :=nr rfl
def XvQ:QA (.fn f cs)=true :=nr rfl
def XvR:QA (.fs cs)=true :=nr rfl
def XvS:QA (.agg cs)=false :=nr rfl
def XvT:QA (.tup cs)=false :=nr rfl
def XvU:fsV len st i []=if i=len then some [] else none :=nr rfl
def fsK(x:Bool)(a:AV)(r:Option (List AV)):Option (List AV) :=if x then(match r with | some l => some (a :: l) | none => none) else none
def XvV:fsK true a (some l)=some (a :: l) :=nr rfl
def XvW:fsV len st i ((j,x) :: r)=if i=j then fsK (Xdl (view st x)) (view st x) (fsV len st (i+1) r) else none :=by simp only[fsV,fsK]; split<;>rfl
def XvX:cellsOf .u=[.u] :=nr rfl
def XvY:cellsOf .no=[.no] :=nr rfl
def XvZ:cellsOf .ub=[.ub] :=nr rfl
def Xv0:cellsOf (.b x)=[(.b x)] :=nr rfl
def Xv1:cellsOf (.i k n)=[(.i k n)] :=nr rfl
def Xv2:cellsOf (.s x)=[(.s x)] :=nr rfl
def Xv3:cellsOf .nil=[.nil] :=nr rfl
def Xv4:cellsOf (.sl t z es)=[(.sl t z es)] :=nr rfl
def Xv5:cellsOf (.rf pl y lo n)=[(.rf pl y lo n)] :=nr rfl
def Xv6:cellsOf (.p pl)=[(.p pl)] :=nr rfl
def Xv7:cellsOf (.pr cs)=[(.pr cs)] :=nr rfl
def Xv8:cellsOf .pn=[.pn] :=nr rfl
def Xv9:cellsOf (.fn f cs)=[(.fn f cs)] :=nr rfl
def Xwa:cellsOf (.fs cs)=[(.fs cs)] :=nr rfl
def Xwb:cellsOf (.agg cs)=cs :=nr rfl
def Xwc:cellsOf (.tup cs)=[(.tup cs)] :=nr rfl
def Xwd:plain .u=false :=nr rfl
def Xwe:plain .no=false :=nr rfl
def Xwf:plain .ub=false :=nr rfl
def Xwg:plain (.b x)=true :=nr rfl
def Xwh:plain (.i k n)=true :=nr rfl
def Xwi:plain (.s x)=true :=nr rfl
def Xwj:plain .nil=false :=nr rfl
def Xwk:plain (.rf pl y lo n)=false :=nr rfl
def Xwl:plain (.p pl)=false :=nr rfl
def Xwm:plain (.pr cs)=false :=nr rfl
def Xwn:plain .pn=true :=nr rfl
def Xwo:plain (.fn f cs)=false :=nr rfl
def Xwp:plain (.fs cs)=false :=nr rfl
def Xwq:plain (.agg cs)=false :=nr rfl
def Xwr:plain (.tup cs)=false :=nr rfl
def Xws:plain (.sl .ro z es)=true :=nr rfl
def Xwt:fix m .u=.u :=nr rfl
def Xwu:fix m .no=.no :=nr rfl
def Xwv:fix m .ub=.ub :=nr rfl
def Xww:fix m (.b x)=(.b x) :=nr rfl
def Xwx:fix m (.i k n)=(.i k n) :=nr rfl
def Xwy:fix m (.s x)=(.s x) :=nr rfl
def Xwz:fix m (.sl t z es)=(.sl t z es) :=nr rfl
def XwA:fix m (.rf pl y lo n)=(.rf pl y lo n) :=nr rfl
def XwB:fix m (.p pl)=(.p pl) :=nr rfl
def XwC:fix m (.pr cs)=(.pr cs) :=nr rfl
def XwD:fix m .pn=.pn :=nr rfl
def XwE:fix m (.fn f cs)=(.fn f cs) :=nr rfl
def XwF:fix m (.fs cs)=(.fs cs) :=nr rfl
def XwG:fix m (.agg cs)=(.agg cs) :=nr rfl
def XwH:fix m (.tup cs)=(.tup cs) :=nr rfl
def XwI:fix 0 .nil=.nil :=nr rfl
def XwJ:fix (m+1) .nil=.sl .mut (m+1) [] :=nr rfl
def XwK:fix 1 .nil=.sl .mut 1 [] :=nr rfl
def XwL:fix 2 .nil=.sl .mut 2 [] :=nr rfl
def XwM:fix 3 .nil=.sl .mut 3 [] :=nr rfl
def XwN:fix 4 .nil=.sl .mut 4 [] :=nr rfl
def XwO:fix 5 .nil=.sl .mut 5 [] :=nr rfl
def XwP:fix 6 .nil=.sl .mut 6 [] :=nr rfl
def XwQ:fix 7 .nil=.sl .mut 7 [] :=nr rfl
def XwR:fix 8 .nil=.sl .mut 8 [] :=nr rfl
def XwS:fix 9 .nil=.sl .mut 9 [] :=nr rfl
def XwT:fix 10 .nil=.sl .mut 10 [] :=nr rfl
def XwU:fix 11 .nil=.sl .mut 11 [] :=nr rfl
def XwV:filt kp kr .u=.u :=nr rfl
def XwW:filt kp kr .no=.no :=nr rfl
def XwX:filt kp kr .ub=.ub :=nr rfl
def XwY:filt kp kr (.b x)=(.b x) :=nr rfl
def XwZ:filt kp kr (.i k n)=(.i k n) :=nr rfl
def Xw0:filt kp kr (.s x)=(.s x) :=nr rfl
def Xw1:filt kp kr .nil=.nil :=nr rfl
def Xw2:filt kp kr (.sl t z es)=(.sl t z es) :=nr rfl
def Xw3:filt kp kr (.pr cs)=(.pr cs) :=nr rfl
def Xw4:filt kp kr .pn=.pn :=nr rfl
def Xw5:filt kp kr (.fn f cs)=.fn f (X6 kp kr cs) :=nr rfl
def Xw6:filt kp kr (.fs cs)=.fs (X6 kp kr cs) :=nr rfl
def Xw7:filt kp kr (.agg cs)=.agg (X6 kp kr cs) :=nr rfl
def Xw8:filt kp kr (.tup cs)=.tup (X6 kp kr cs) :=nr rfl
def fA(b:Bool)(a:AV):AV :=if b then a else .u
def Xw9:fA true a=a :=nr rfl
def Xxa:fA false a=.u :=nr rfl
def Xxb:filt kp kr (.p q)=fA (kp q) (.p q) :=nr rfl
def Xxc:filt kp kr (.rf q y lo n)=fA (kr q) (.rf q y lo n) :=nr rfl
def Xxd:X6 kp kr []=[] :=nr rfl
def Xxe:X6 kp kr (a :: l)=filt kp kr a :: X6 kp kr l :=nr rfl
def Xxf:Yj st .u=some (.u,st) :=nr rfl
def Xxg:Yj st .no=some (.no,st) :=nr rfl
def Xxh:Yj st .ub=some (.ub,st) :=nr rfl
def Xxi:Yj st (.b x)=some ((.b x),st) :=nr rfl
def Xxj:Yj st (.i k n)=some ((.i k n),st) :=nr rfl
def Xxk:Yj st (.s x)=some ((.s x),st) :=nr rfl
def Xxl:Yj st .nil=some (.nil,st) :=nr rfl
def Xxm:Yj st (.sl t z es)=some ((.sl t z es),st) :=nr rfl
def Xxn:Yj st (.rf pl y lo n)=takeRf st pl y lo n :=nr rfl
def Xxo:Yj st (.p pl)=some ((.p pl),st) :=nr rfl
def Xxp:Yj st (.pr cs)=some ((.pr cs),st) :=nr rfl
def Xxq:Yj st .pn=some (.pn,st) :=nr rfl
def Xxr:Yj st (.fn f cs)=some ((.fn f cs),st) :=nr rfl
def Xxs:Yj st (.fs cs)=some ((.fs cs),st) :=nr rfl
def Xxt:Yj st (.agg cs)=some ((.agg cs),st) :=nr rfl
def Xxu:Yj st (.tup cs)=none :=nr rfl
def Xxv:takeVal st .u=some (.u,st) :=nr rfl
def Xxw:takeVal st .no=some (.no,st) :=nr rfl
def Xxx:takeVal st .ub=some (.ub,st) :=nr rfl
def Xxy:takeVal st (.b x)=some ((.b x),st) :=nr rfl
def Xxz:takeVal st (.i k n)=some ((.i k n),st) :=nr rfl
def XxA:takeVal st (.s x)=some ((.s x),st) :=nr rfl
def XxB:takeVal st .nil=some (.nil,st) :=nr rfl
def XxC:takeVal st (.sl t z es)=some ((.sl t z es),st) :=nr rfl
def XxD:takeVal st (.rf pl y lo n)=takeRf st pl y lo n :=nr rfl
def XxE:takeVal st (.p pl)=some ((.p pl),st) :=nr rfl
def XxF:takeVal st (.pr cs)=some ((.pr cs),st) :=nr rfl
def XxG:takeVal st .pn=some (.pn,st) :=nr rfl
def XxH:takeVal st (.fn f cs)=some ((.fn f cs),st) :=nr rfl
def XxI:takeVal st (.fs cs)=some ((.fs cs),st) :=nr rfl
def XxJ:takeVal st (.tup cs)=none :=nr rfl
def Xsb(x:Option (List AV×St)):Option (AV×St) :=match x with
  | some (cs,st) => some (.agg cs,st)
  | none => none
def XxK:takeVal st (.agg cs)=if cs.any Xex then Xsb (takeL st cs) else some (.agg cs,st) :=by simp only[takeVal,Xsb]; split<;>cases takeL st cs<;>rfl
def XxL:Xex .u=false :=nr rfl
def XxM:Xex .no=false :=nr rfl
def XxN:Xex .ub=false :=nr rfl
def XxO:Xex (.b x)=false :=nr rfl
def XxP:Xex (.i k n)=false :=nr rfl
def XxQ:Xex (.s x)=false :=nr rfl
def XxR:Xex .nil=false :=nr rfl
def XxS:Xex (.sl t z es)=false :=nr rfl
def XxT:Xex (.rf pl y lo n)=true :=nr rfl
def XxU:Xex (.p pl)=false :=nr rfl
def XxV:Xex (.pr cs)=false :=nr rfl
def XxW:Xex .pn=false :=nr rfl
def XxX:Xex (.fn f cs)=false :=nr rfl
def XxY:Xex (.fs cs)=false :=nr rfl
def XxZ:Xex (.agg cs)=false :=nr rfl
def Xx0:Xex (.tup cs)=false :=nr rfl
def Xx1:gone q=false :=nr rfl
def Xx2:Xsb (some (cs,st))=some (.agg cs,st) :=nr rfl
def Xoo(a:AV)(x:Option (List AV×St)):Option (List AV×St) :=match x with
  | some (cs,st) => some (a :: cs,st)
  | none => none
def Xx3:Xoo a (some (cs,st))=some (a :: cs,st) :=nr rfl
def Xx4:takeL st []=some ([],st) :=nr rfl
def Xx5:takeL st (a :: l)=Xf (Yj st a) (λy => Xoo (filt gone gone y.1) (takeL y.2 l)) :=by simp only[takeL,Xf,Xoo]; cases Yj st a<;>rfl
def Xh5(st:St)(x:Nat)(b:Bool)(a:AV):Option (AV×St) :=if b then takeVal (clear st x) (filt (XI true x) (XI true x) a) else takeVal st a
@[congr] def Xop{st:St}{x:Nat}{b b':Bool}{a:AV}(h:b=b'):Xh5 st x b a=Xh5 st x b' a :=by rw[h]
def U8(st:St)(x:Nat)(a:AV):Option (AV×St) :=Xh5 st x (YS a) a
def Xx6:take st (.tmp x)=U8 st x (st.env x) :=nr rfl
def Xx7:U8 st x .u=some (.u,st) :=nr rfl
def Xx8:U8 st x .no=some (.no,st) :=nr rfl
def Xx9:U8 st x .ub=some (.ub,st) :=nr rfl
def Xya:U8 st x (.b y)=some (.b y,st) :=nr rfl
def Xyb:U8 st x (.i k n)=some ((.i k n),st) :=nr rfl
def Xyc:U8 st x (.s y)=some (.s y,st) :=nr rfl
def Xyd:U8 st x .nil=some (.nil,st) :=nr rfl
def Xye:U8 st x (.sl t z es)=some (.sl t z es,clear st x) :=nr rfl
def Xyf:U8 st x (.rf pl y lo n)=takeRf st pl y lo n :=nr rfl
def Xyg:U8 st x (.p pl)=some ((.p pl),st) :=nr rfl
def Xyh:U8 st x (.pr cs)=some ((.pr cs),st) :=nr rfl
def Xyi:U8 st x .pn=some (.pn,st) :=nr rfl
def Xyj:U8 st x (.fn f cs)=some ((.fn f cs),st) :=nr rfl
def Xyk:U8 st x (.fs cs)=some ((.fs cs),st) :=nr rfl
def Xyl:U8 st x (.agg cs)=Xh5 st x (cs.any Qi) (.agg cs) :=nr rfl
def Xym:U8 st x (.tup cs)=none :=nr rfl
def Xyn:Xh5 st x true a=takeVal (clear st x) (filt (XI true x) (XI true x) a) :=nr rfl
def Xyo:Xh5 st x false a=takeVal st a :=nr rfl
def Xyp:take st (.const v)=some (Xhp v,st) :=nr rfl
def Xyq:take st (.func f)=some (.fn f [],st) :=nr rfl
def Xpe(b:Bool)(l:List (Nat×AV))(m:List (Nat×List AV))(d:Nat)(v:AV):St :=if b then⟨E ((d,filt (XI true d) (XI true d) v) :: Xi7 (XI true d) (XI true d) l),B (Xkc (XI true d) (XI true d) m)⟩ else⟨E ((d,v) :: l),B m⟩
@[congr] def Xpf{b b':Bool}{l:List (Nat×AV)}{m:List (Nat×List AV)}{d:Nat}{v v':AV}(h:b=b')(h':v=v'):Xpe b l m d v=Xpe b' l m d v' :=by rw[h,h']
def Xyr:St.put ⟨E l,B m⟩ d v=Xpe (YS (E l d)) l m d v :=by simp only[St.put,Xpe,St.dropRoot,Xcv,Xgg]
def Xys:Xpe false l m d v=⟨E ((d,v) :: l),B m⟩ :=nr rfl
def Xyt:Xpe true l m d v=⟨E ((d,filt (XI true d) (XI true d) v) :: Xi7 (XI true d) (XI true d) l),B (Xkc (XI true d) (XI true d) m)⟩ :=nr rfl
def Xyu:St.put? st (some d) v=St.put st d v :=nr rfl
def Xyv:St.put? st none v=st :=nr rfl
def isK(t k:Nat):Bool :=t==k
def Xyw:isK t k=(t==k) :=nr rfl
def eK(b:Bool)(v x:AV):AV :=if b then v else x
@[congr] def Xro{b b':Bool}{v x:AV}(h:b=b'):eK b v x=eK b' v x :=by rw[h]
def eB(b:Bool)(v x:List AV):List AV :=if b then v else x
@[congr] def Xrp{b b':Bool}{v x:List AV}(h:b=b'):eB b v x=eB b' v x :=by rw[h]
def Xtm:eK true v x=v :=nr rfl
def Xtn:eK false v x=x :=nr rfl
def Xto:eB true v x=v :=nr rfl
def Xtp:eB false v x=x :=nr rfl
def Xyx:E ((k,v) :: r) t=eK (isK t k) v (E r t) :=by simp only[XbF,eK,isK,beq_iff_eq]
def Xyy:B ((k,v) :: r) t=eB (isK t k) v (B r t) :=by simp only[Xcu,eB,isK,beq_iff_eq]
def Xyz:clear ⟨E l,B m⟩ x=⟨E ((x,.u) :: Xi7 (XI true x) (XI true x) l),B (Xkc (XI true x) (XI true x) m)⟩ :=by simp only[clear,St.dropRoot,Xcv,Xgg]
def XyA:St.env ⟨f,g⟩=f :=nr rfl
def XyB:St.bx ⟨f,g⟩=g :=nr rfl
def Xpg(b:Bool)(l:List (Nat×AV))(m:List (Nat×List AV))(d:Nat)(cs:List AV):St :=if b then⟨E ((d,.p ⟨false,d,[],0⟩) :: l),B ((d,cs) :: m)⟩ else⟨E ((d,.p ⟨false,d,[],0⟩) :: Xi7 (XI false d) (XI false d) l),B ((d,X6 (XI false d) (XI false d) cs) :: Xkc (XI false d) (XI false d) m)⟩
@[congr] def Xph{b b':Bool}{l:List (Nat×AV)}{m:List (Nat×List AV)}{d:Nat}{cs cs':List AV}(h:b=b')(h':cs=cs'):Xpg b l m d cs=Xpg b' l m d cs' :=by rw[h,h']
def XyC:newBox ⟨E l,B m⟩ d cs=Xpg (B m d).isEmpty l m d cs :=by
  cases h:(B m d).isEmpty<;>simp only[newBox,Xpg,h,if_true,if_false,Bool.false_eq_true,St.dropRoot,Xcv,Xgg,Xnq]
def XyD:Zg st d (c :: cs)=if YS (st.env d)=true then none else some (newBox st d (c :: cs)) :=nr rfl
def XyE:Xpg true l m d cs=⟨E ((d,.p ⟨false,d,[],0⟩) :: l),B ((d,cs) :: m)⟩ :=nr rfl
def XyF:Xpg false l m d cs=⟨E ((d,.p ⟨false,d,[],0⟩) :: Xi7 (XI false d) (XI false d) l),B ((d,X6 (XI false d) (XI false d) cs) :: Xkc (XI false d) (XI false d) m)⟩ :=nr rfl
def XyG:TI.size .bool=1 :=nr rfl
def XyH:TI.ag .bool=false :=nr rfl
def XyI:TI.z .bool=0 :=nr rfl
def XyJ:TI.zero .bool=[.b false] :=nr rfl
def XyK:TI.size (.int k)=1 :=nr rfl
def XyL:TI.ag (.int k)=false :=nr rfl
def XyM:TI.z (.int k)=0 :=nr rfl
def XyN:TI.zero (.int k)=[.i k 0] :=nr rfl
def XyO:TI.size .str=1 :=nr rfl
def XyP:TI.ag .str=false :=nr rfl
def XyQ:TI.z .str=0 :=nr rfl
def XyR:TI.zero .str=[.s ⟨#[]⟩] :=nr rfl
def XyS:TI.size .ptr=1 :=nr rfl
def XyT:TI.ag .ptr=false :=nr rfl
def XyU:TI.z .ptr=0 :=nr rfl
def XyV:TI.zero .ptr=[.pn] :=nr rfl
def XyW:TI.size .fn=1 :=nr rfl
def XyX:TI.ag .fn=false :=nr rfl
def XyY:TI.z .fn=0 :=nr rfl
def XyZ:TI.zero .fn=[.u] :=nr rfl
def Xy0:TI.size (.slice z b w)=1 :=nr rfl
def Xy1:TI.ag (.slice z b w)=false :=nr rfl
def Xy2:TI.z (.slice z b w)=z :=nr rfl
def Xy3:TI.zero (.slice z b w)=[.sl .mut z []] :=nr rfl
def Xy4:TI.size (.struct n fl w)=n :=nr rfl
def Xy5:TI.ag (.struct n fl w)=true :=nr rfl
def Xy6:TI.z (.struct n fl w)=0 :=nr rfl
def Xy7:TI.zero (.struct n fl w)=w :=nr rfl
def Xy8:TI.size (.array n z ag w)=n*z :=nr rfl
def Xy9:TI.ag (.array n z ag w)=true :=nr rfl
def Xza:TI.z (.array n z ag w)=0 :=nr rfl
def Xzb:TI.zero (.array n z ag w)=w :=nr rfl
def zK(x:Option TI):Nat :=match x with
  | some ti => ti.z
  | none => 0
def Xzc:zOf cx t=zK (cx.T t) :=nr rfl
def Xzd:zK (some ti)=ti.z :=nr rfl
def Xze:zK none=0 :=nr rfl
def Xsc(x:Option (Nat×Nat×Bool×Nat))(a:AV):Option AV :=match x with
  | some (off,_) => match a with
    | .p q => some (.p {q with c :=q.c+off})
    | .pr q => some (.pr (q.drop off))
    | _ => none
  | none => none
def Xzf:XaP (.struct n fl w) f a=Xsc (fl[f]?) a :=nr rfl
def Xzg:Xsc (some (off,y)) (.p ⟨e,r,path,c⟩)=some (.p ⟨e,r,path,c+off⟩) :=nr rfl
def Xzh:Xsc (some (off,y)) (.pr q)=some (.pr (q.drop off)) :=nr rfl
def Xzi:List.drop 0 l=l :=nr rfl
def Xzj:List.drop (n+1) (a :: l)=List.drop n l :=nr rfl
def Xzk:List.take 0 l=[] :=List.take_zero
def Xzl:List.take (n+1) (a :: l)=a :: List.take n l :=nr rfl
def Xzm:List.drop n ([]:List AV)=[] :=List.drop_nil
def Xtq(x:Option (Nat×Nat×Bool×Nat))(cs:List AV):Option AV :=match x with
  | some (off,n,ag,_) => if off+n<=cs.length then some (if ag then .agg ((cs.drop off).take n) else cs.getD off .u) else none
  | none => none
def Xzn:XeJ (.struct m fl w) f (.agg cs)=Xtq (fl[f]?) cs :=nr rfl
def Xoq(ti:TI)(pl:Pl)(cells:List AV):Option AV :=if pl.c+ti.size<=cells.length then(if ti.ag then some (.agg (Yu pl pl.c ((cells.drop pl.c).take ti.size))) else some (XP pl (cells.getD pl.c .u))) else none
def Xzo:loadAt st ti (.p pl)=Xf (node st pl) (Xoq ti pl) :=by simp only[loadAt,Xf,Xoq]; cases node st pl<;>rfl
def Xzp:loadAt st ti (.pr cs)=if ti.size<=cs.length then(if ti.ag then some (.agg (cs.take ti.size)) else some (cs.getD 0 .u)) else none :=nr rfl
def Xzq:node st ⟨e,r,path,c⟩=nav (Xd st e r) path :=nr rfl
def Xzr:XO st ⟨e,r,path,c⟩=wrt (Xd st e r) path :=nr rfl
def Xzs:Xd st true r=cellsOf (st.env r) :=nr rfl
def Xzt:Xd st false r=st.bx r :=nr rfl
def Xzu:nav cs []=some cs :=nr rfl
def Xzv:wrt cs []=true :=nr rfl
def Xsd(x:Option (Tag×List AV))(ps:List (Nat×Nat×Nat)):Option (List AV) :=match x with
  | some (_,row) => nav row ps
  | none => none
def XqR(x:Option (Tag×List AV))(ps:List (Nat×Nat×Nat)):Bool :=match x with
  | some (.mut,row) => wrt row ps
  | _ => false
def Xh6(i z:Nat)(a:Option AV):Option (Tag×List AV) :=match a with
  | some (.sl t z' es) => if z'=z then rowK t es[i]? else none
  | _ => none
  where rowK (t:Tag):Option (List AV)->Option (Tag×List AV)
  | some row => some (t,row)
  | none => none
def Xzw:nav cs ((c,i,z) :: ps)=Xsd (Zi cs c i z) ps :=by simp only[nav,Xsd]; cases Zi cs c i z<;>rfl
def Xzx:Xsd (some (t,row)) ps=nav row ps :=nr rfl
def Xzy:wrt cs ((c,i,z) :: ps)=XqR (Zi cs c i z) ps :=by
  simp only[wrt,XqR]
  cases Zi cs c i z with
  | none => rfl
  | some x => obtain⟨t,row⟩ :=x; cases t<;>rfl
def Xzz:XqR (some (.mut,row)) ps=wrt row ps :=nr rfl
def XzA:XqR (some (.ro,row)) ps=false :=nr rfl
def XzB:XqR (some (.app,row)) ps=false :=nr rfl
def XzC:Zi cs c i z=Xh6 i z cs[c]? :=by
  simp only[Zi,Xh6]
  cases cs[c]? with
  | none => rfl
  | some a =>
    cases a<;>rfl
def XzD:Xh6 i z (some (.sl t z es))=Xh6.rowK t es[i]? :=by simp only[Xh6,if_true]
def XzE:Xh6.rowK t (some row)=some (t,row) :=nr rfl
def XzF:XX cs [] new=new :=nr rfl
def Xse(cs:List AV)(c i:Nat)(ps:List (Nat×Nat×Nat))(new:List AV)(a:Option AV):List AV :=match a with
  | some (.sl t z es) => cs.set c (.sl t z (es.set i (XX (es.getD i []) ps new)))
  | _ => cs
def XzG:XX cs ((c,i,z) :: ps) new=Xse cs c i ps new cs[c]? :=by
  simp only[XX,Xse]
  cases cs[c]? with
  | none => rfl
  | some a => cases a<;>rfl
def XzH:Xse cs c i ps new (some (.sl t z es))=cs.set c (.sl t z (es.set i (XX (es.getD i []) ps new))) :=nr rfl
def XzI:List.set (a :: l) 0 b=b :: l :=nr rfl
def XzJ:List.set (a :: l) (n+1) b=a :: List.set l n b :=nr rfl
def XzK:Xo ⟨E l,B m⟩ ⟨false,r,path,c⟩ new=⟨E l,B ((r,XX (B m r) path new) :: m)⟩ :=by simp only[Xo,Xnq,Bool.false_eq_true,if_false]
def XzL:Xo ⟨E l,B m⟩ ⟨true,r,path,c⟩ new=⟨E ((r,Qr (E l r) (XX (cellsOf (E l r)) path new)) :: l),B m⟩ :=by simp only[Xo,Xgg,if_true,Xd]
def XzM:Qr .u new=new.headD .u :=nr rfl
def XzN:Qr .no new=new.headD .u :=nr rfl
def XzO:Qr .ub new=new.headD .u :=nr rfl
def XzP:Qr (.b x) new=new.headD .u :=nr rfl
def XzQ:Qr (.i k n) new=new.headD .u :=nr rfl
def XzR:Qr (.s x) new=new.headD .u :=nr rfl
def XzS:Qr .nil new=new.headD .u :=nr rfl
def XzT:Qr (.sl t z es) new=new.headD .u :=nr rfl
def XzU:Qr (.rf pl y lo n) new=new.headD .u :=nr rfl
def XzV:Qr (.p pl) new=new.headD .u :=nr rfl
def XzW:Qr (.pr cs) new=new.headD .u :=nr rfl
def XzX:Qr .pn new=new.headD .u :=nr rfl
def XzY:Qr (.fn f cs) new=new.headD .u :=nr rfl
def XzZ:Qr (.fs cs) new=new.headD .u :=nr rfl
def Xz0:Qr (.agg cs) new=.agg new :=nr rfl
def Xz1:Qr (.tup cs) new=new.headD .u :=nr rfl
def Xz2:List.headD (a :: l) AV.u=a :=nr rfl
def Xz3:Q7 st (.slice z b w) x (.i k n)=indexAddr st z x n :=nr rfl
def iaR(es:List (List AV)):Option Nat->Option AV
  | some j => some (.pr (es.getD j []))
  | none => none
def iaF(es:List AV):Option Nat->Option AV
  | some j => some (.pr [Vm.filt gone gone (es.getD j .u)])
  | none => none
def iaM(t:Tag)(pl:Pl)(z lo:Nat)(es:List (List AV)):Option Nat->Option AV
  | some j => (match t with
    | .mut => some (.p ⟨pl.e,pl.r,pl.path++[(pl.c,lo+j,z)],0⟩)
    | _ => some (.pr (Yv (es.getD (lo+j) []))))
  | none => none
def iaC(pl:Pl)(z zr lo n:Nat)(i:Int):Option AV->Option AV
  | some (.sl t z' es) => if(z=z'/\zr=z)/\lo+n<=es.length then iaM t pl z lo es (YK n i) else none
  | _ => none
def ixS(b:ByteArray):Option Nat->Option AV
  | some j => some (.i .u8 (b.data[j]?.getD 0).toNat)
  | none => none
def Xz4:iaR es (some j)=some (.pr (es.getD j [])) :=nr rfl
def Xz5:iaF es (some j)=some (.pr [Vm.filt gone gone (es.getD j .u)]) :=nr rfl
def Xz6:iaM .mut pl z lo es (some j)=some (.p ⟨pl.e,pl.r,pl.path++[(pl.c,lo+j,z)],0⟩) :=nr rfl
def Xz7:iaM .ro pl z lo es (some j)=some (.pr (Yv (es.getD (lo+j) []))) :=nr rfl
def Xz8:iaM .app pl z lo es (some j)=some (.pr (Yv (es.getD (lo+j) []))) :=nr rfl
def Xz9:iaC pl z zr lo n i (some (.sl t z' es))=if(z=z'/\zr=z)/\lo+n<=es.length then iaM t pl z lo es (YK n i) else none :=nr rfl
def XAa:ixS b (some j)=some (.i .u8 (b.data[j]?.getD 0).toNat) :=nr rfl
def XAb:indexAddr st z (.sl .ro z' es) i=if z=z' then iaR es (YK es.length i) else none :=by
  by_cases h:z=z'
  · simp only[indexAddr,if_pos h]; cases YK es.length i<;>rfl
  · simp only[indexAddr,if_neg h]
def XAc:indexAddr st z (.fs es) i=if z=1 then iaF es (YK es.length i) else none :=by
  by_cases h:z=1
  · simp only[indexAddr,if_pos h]; cases YK es.length i<;>rfl
  · simp only[indexAddr,if_neg h]
def XAd:indexAddr st z (.rf pl zr lo n) i=Xf (node st pl) (λcells => iaC pl z zr lo n i cells[pl.c]?) :=by
  simp only[indexAddr,Xf]
  cases node st pl with
  | none => rfl
  | some cells =>
    simp only
    cases cells[pl.c]? with
    | none => rfl
    | some a =>
      cases a<;>rfl
def XAe:Xap (.array m z ag w) (.agg cs) (.i k n)=if z=1/\ag=false then Xm5 m cs n else none :=nr rfl
def XAf:Xcb 5 1 false=[(0,1,false,0),(1,1,false,0),(2,1,false,0),(3,1,false,0),(4,1,false,0)] :=nr rfl
def XAg:Xap .str (.s b) (.i k n)=ixS b (YK b.size n) :=by simp only[Xap,ixS]; cases YK b.size n<;>rfl
def XAh:XdY .u=none :=nr rfl
def XAi:XdY .no=none :=nr rfl
def XAj:XdY .ub=none :=nr rfl
def XAk:XdY (.b x)=none :=nr rfl
def XAl:XdY (.i k n)=none :=nr rfl
def XAm:XdY (.s x)=none :=nr rfl
def XAn:XdY .nil=none :=nr rfl
def XAo:XdY (.sl t z es)=none :=nr rfl
def XAp:XdY (.rf pl y lo n)=none :=nr rfl
def XAq:XdY (.p pl)=some (.p pl) :=nr rfl
def XAr:XdY (.pr cs)=some (.pr cs) :=nr rfl
def XAs:XdY .pn=none :=nr rfl
def XAt:XdY (.fn f cs)=none :=nr rfl
def XAu:XdY (.fs cs)=none :=nr rfl
def XAv:XdY (.agg cs)=none :=nr rfl
def XAw:XdY (.tup cs)=none :=nr rfl
def Xsf(f:Nat)(cs xs:List AV):fnV (.fn f cs) xs=some (f,xs++cs) :=nr rfl
def XAx:strip .u=.u :=nr rfl
def XAy:strip .no=.u :=nr rfl
def XAz:strip .ub=.ub :=nr rfl
def XAA:strip (.b x)=(.b x) :=nr rfl
def XAB:strip (.i k n)=(.i k n) :=nr rfl
def XAC:strip (.s x)=(.s x) :=nr rfl
def XAD:strip .nil=.nil :=nr rfl
def XAE:strip (.sl t z es)=.sl .ro z (XL es) :=nr rfl
def XAF:strip (.rf pl y lo n)=.u :=nr rfl
def XAG:strip (.p pl)=.u :=nr rfl
def XAH:strip (.pr cs)=(.pr cs) :=nr rfl
def XAI:strip .pn=.pn :=nr rfl
def XAJ:strip (.fn f cs)=.u :=nr rfl
def XAK:strip (.fs cs)=.u :=nr rfl
def XAL:strip (.agg cs)=.u :=nr rfl
def XAM:strip (.tup cs)=.u :=nr rfl
def XAN:XJ .u=false :=nr rfl
def XAO:XJ .no=false :=nr rfl
def XAP:XJ .ub=false :=nr rfl
def XAQ:XJ (.b x)=false :=nr rfl
def XAR:XJ (.i k n)=false :=nr rfl
def XAS:XJ (.s x)=false :=nr rfl
def XAT:XJ .nil=false :=nr rfl
def XAU:XJ (.rf pl y lo n)=false :=nr rfl
def XAV:XJ (.p pl)=false :=nr rfl
def XAW:XJ (.pr cs)=true :=nr rfl
def XAX:XJ .pn=false :=nr rfl
def XAY:XJ (.fn f cs)=true :=nr rfl
def XAZ:XJ (.fs cs)=true :=nr rfl
def XA0:XJ (.agg cs)=XU cs :=nr rfl
def XA1:XJ (.tup cs)=XU cs :=nr rfl
def XA2:XJ (.sl .ro z es)=true :=nr rfl
def XA3:XJ (.sl .app z es)=true :=nr rfl
def XA4:XJ (.sl .mut z es)=XQ es :=nr rfl
def XA5:XU []=false :=nr rfl
def XA6:XU (a :: l)=(XJ a||XU l) :=nr rfl
def XA7:X3 .u=true :=nr rfl
def XA8:X3 .no=false :=nr rfl
def XA9:X3 .ub=true :=nr rfl
def XBa:X3 (.b x)=true :=nr rfl
def XBb:X3 (.i k n)=true :=nr rfl
def XBc:X3 (.s x)=true :=nr rfl
def XBd:X3 .nil=true :=nr rfl
def XBe:X3 (.sl t z es)=true :=nr rfl
def XBf:X3 (.rf pl y lo n)=false :=nr rfl
def XBg:X3 (.p pl)=false :=nr rfl
def XBh:X3 (.pr cs)=true :=nr rfl
def XBi:X3 .pn=true :=nr rfl
def XBj:X3 (.fn f cs)=cs.all Zf :=nr rfl
def XBk:X3 (.fs cs)=false :=nr rfl
def XBl:X3 (.agg cs)=cs.all X1 :=nr rfl
def XBm:X3 (.tup cs)=false :=nr rfl
def XBn:XcR ti0 E0 op0 .u a0=bin ti0 op0 .u a0 :=nr rfl
def XBo:XcR ti0 E0 op0 .no a0=bin ti0 op0 .no a0 :=nr rfl
def XBp:XcR ti0 E0 op0 .ub a0=bin ti0 op0 .ub a0 :=nr rfl
def XBq:XcR ti0 E0 op0 (.b x) a0=bin ti0 op0 (.b x) a0 :=nr rfl
def XBr:XcR ti0 E0 op0 (.i k n) a0=bin ti0 op0 (.i k n) a0 :=nr rfl
def XBs:XcR ti0 E0 op0 (.s x) a0=bin ti0 op0 (.s x) a0 :=nr rfl
def XBt:XcR ti0 E0 op0 .nil a0=bin ti0 op0 .nil a0 :=nr rfl
def XBu:XcR ti0 E0 op0 (.sl t z es) a0=bin ti0 op0 (.sl t z es) a0 :=nr rfl
def XBv:XcR ti0 E0 op0 (.rf pl y lo n) a0=bin ti0 op0 (.rf pl y lo n) a0 :=nr rfl
def XBw:XcR ti0 E0 op0 (.p pl) a0=bin ti0 op0 (.p pl) a0 :=nr rfl
def XBx:XcR ti0 E0 op0 (.pr cs) a0=bin ti0 op0 (.pr cs) a0 :=nr rfl
def XBy:XcR ti0 E0 op0 .pn a0=bin ti0 op0 .pn a0 :=nr rfl
def XBz:XcR ti0 E0 op0 (.fn f cs) a0=bin ti0 op0 (.fn f cs) a0 :=nr rfl
def XBA:XcR ti0 E0 op0 (.fs cs) a0=bin ti0 op0 (.fs cs) a0 :=nr rfl
def XBB:XcR ti0 E0 op0 (.tup cs) a0=bin ti0 op0 (.tup cs) a0 :=nr rfl
def eqR(op:BinOp)(e:Option Bool):Option AV :=match e with | some e => eqB op e | none => none
def XBC:XcR ti0 (some ks) op0 (.agg a) (.agg b)=eqR op0 (Yr ks a b) :=by simp only[XcR,XiB,eqR]; cases Yr ks a b<;>rfl
def XBD:eqR op (some e)=eqB op e :=nr rfl
def Xor(p:Bool)(e:Option Bool):Option Bool :=match e with | some e => some (p&&e) | none => none
def XBE:Xor p (some e)=some (p&&e) :=nr rfl
def XBF:Yr [] [] []=some true :=nr rfl
def XBG:Yr (0 :: ks) (.b x :: a) (.b y :: b)=Xor (x==y) (Yr ks a b) :=by simp only[Yr,Xor]; cases Yr ks a b<;>rfl
def XBH:Yr (1 :: ks) (.i k x :: a) (.i k y :: b)=Xor (x==y) (Yr ks a b) :=by simp only[Yr,Xor,if_true]; cases Yr ks a b<;>rfl
def XBI:Yr (2 :: ks) (.s x :: a) (.s y :: b)=Xor (x.toList==y.toList) (Yr ks a b) :=by simp only[Yr,Xor]; cases Yr ks a b<;>rfl
def XBJ:Zf .u=false :=nr rfl
def XBK:Zf .no=false :=nr rfl
def XBL:Zf .ub=false :=nr rfl
def XBM:Zf (.b x)=true :=nr rfl
def XBN:Zf (.i k n)=true :=nr rfl
def XBO:Zf (.s x)=true :=nr rfl
def XBP:Zf .nil=false :=nr rfl
def XBQ:Zf (.rf pl y lo n)=false :=nr rfl
def XBR:Zf (.p pl)=false :=nr rfl
def XBS:Zf (.pr cs)=true :=nr rfl
def XBT:Zf .pn=true :=nr rfl
def XBU:Zf (.fn f cs)=false :=nr rfl
def XBV:Zf (.fs cs)=false :=nr rfl
def XBW:Zf (.agg cs)=false :=nr rfl
def XBX:Zf (.tup cs)=false :=nr rfl
def XBY:Zf (.sl .ro z es)=true :=nr rfl
def XBZ:Uj .u=Zf .u :=nr rfl
def XB0:Uj .no=Zf .no :=nr rfl
def XB1:Uj .ub=Zf .ub :=nr rfl
def XB2:Uj (.b x)=Zf (.b x) :=nr rfl
def XB3:Uj (.i k n)=Zf (.i k n) :=nr rfl
def XB4:Uj (.s x)=Zf (.s x) :=nr rfl
def XB5:Uj .nil=Zf .nil :=nr rfl
def XB6:Uj (.sl t z es)=Zf (.sl t z es) :=nr rfl
def XB7:Uj (.rf pl y lo n)=Zf (.rf pl y lo n) :=nr rfl
def XB8:Uj (.p pl)=Zf (.p pl) :=nr rfl
def XB9:Uj (.pr cs)=Zf (.pr cs) :=nr rfl
def XCa:Uj .pn=Zf .pn :=nr rfl
def XCb:Uj (.fn f cs)=cs.all Zf :=nr rfl
def XCc:Uj (.fs cs)=Zf (.fs cs) :=nr rfl
def XCd:Uj (.agg cs)=Zf (.agg cs) :=nr rfl
def XCe:Uj (.tup cs)=Zf (.tup cs) :=nr rfl
def XCf:UW st d cs=if cs.all Uj=true then some (st.put d (.pr cs)) else none :=nr rfl
def XCg:outLeaf st .u=if X1 .u=true then some ((.u,none),st) else none :=nr rfl
def XCh:outLeaf st .no=if X1 .no=true then some ((.no,none),st) else none :=nr rfl
def XCi:outLeaf st .ub=if X1 .ub=true then some ((.ub,none),st) else none :=nr rfl
def XCj:outLeaf st (.b x)=if X1 (.b x)=true then some (((.b x),none),st) else none :=nr rfl
def XCk:outLeaf st (.i k n)=if X1 (.i k n)=true then some (((.i k n),none),st) else none :=nr rfl
def XCl:outLeaf st (.s x)=if X1 (.s x)=true then some (((.s x),none),st) else none :=nr rfl
def XCm:outLeaf st .nil=if X1 .nil=true then some ((.nil,none),st) else none :=nr rfl
def XCn:outLeaf st (.sl t z es)=if X1 (.sl t z es)=true then some (((.sl t z es),none),st) else none :=nr rfl
def XCo:outLeaf st (.p pl)=if X1 (.p pl)=true then some (((.p pl),none),st) else none :=nr rfl
def XCp:outLeaf st (.pr cs)=if X1 (.pr cs)=true then some (((.pr cs),none),st) else none :=nr rfl
def XCq:outLeaf st .pn=if X1 .pn=true then some ((.pn,none),st) else none :=nr rfl
def XCr:outLeaf st (.fn f cs)=if X1 (.fn f cs)=true then some (((.fn f cs),none),st) else none :=nr rfl
def XCs:outLeaf st (.fs cs)=if X1 (.fs cs)=true then some (((.fs cs),none),st) else none :=nr rfl
def XCt:outLeaf st (.agg cs)=if X1 (.agg cs)=true then some (((.agg cs),none),st) else none :=nr rfl
def XCu:outLeaf st (.tup cs)=if X1 (.tup cs)=true then some (((.tup cs),none),st) else none :=nr rfl
def XCv:XR st .u (some (pl0,b0))=some st :=nr rfl
def XCw:XR st .no (some (pl0,b0))=some st :=nr rfl
def XCx:XR st .ub (some (pl0,b0))=some st :=nr rfl
def XCy:XR st (.b x) (some (pl0,b0))=some st :=nr rfl
def XCz:XR st (.i k n) (some (pl0,b0))=some st :=nr rfl
def XCA:XR st (.s x) (some (pl0,b0))=some st :=nr rfl
def XCB:XR st .nil (some (pl0,b0))=some st :=nr rfl
def XCC:XR st (.rf pl y lo n) (some (pl0,b0))=some st :=nr rfl
def XCD:XR st (.p pl) (some (pl0,b0))=some st :=nr rfl
def XCE:XR st (.pr cs) (some (pl0,b0))=some st :=nr rfl
def XCF:XR st .pn (some (pl0,b0))=some st :=nr rfl
def XCG:XR st (.fn f cs) (some (pl0,b0))=some st :=nr rfl
def XCH:XR st (.fs cs) (some (pl0,b0))=some st :=nr rfl
def XCI:XR st (.agg cs) (some (pl0,b0))=some st :=nr rfl
def XCJ:XR st (.tup cs) (some (pl0,b0))=some st :=nr rfl
def XCK:weakLeaf st .u=some st :=nr rfl
def XCL:weakLeaf st .no=some st :=nr rfl
def XCM:weakLeaf st .ub=some st :=nr rfl
def XCN:weakLeaf st (.b x)=some st :=nr rfl
def XCO:weakLeaf st (.i k n)=some st :=nr rfl
def XCP:weakLeaf st (.s x)=some st :=nr rfl
def XCQ:weakLeaf st .nil=some st :=nr rfl
def XCR:weakLeaf st (.sl t z es)=some st :=nr rfl
def XCS:weakLeaf st (.p pl)=none :=nr rfl
def XCT:weakLeaf st (.pr cs)=some st :=nr rfl
def XCU:weakLeaf st .pn=some st :=nr rfl
def XCV:weakLeaf st (.fn f cs)=none :=nr rfl
def XCW:weakLeaf st (.fs cs)=none :=nr rfl
def XCX:weakLeaf st (.agg cs)=none :=nr rfl
def XCY:weakLeaf st (.tup cs)=none :=nr rfl
def XCZ:UQ st x0 .u=weakLeaf st .u :=nr rfl
def XC0:UQ st x0 .no=weakLeaf st .no :=nr rfl
def XC1:UQ st x0 .ub=weakLeaf st .ub :=nr rfl
def XC2:UQ st x0 (.b x)=weakLeaf st (.b x) :=nr rfl
def XC3:UQ st x0 (.i k n)=weakLeaf st (.i k n) :=nr rfl
def XC4:UQ st x0 (.s x)=weakLeaf st (.s x) :=nr rfl
def XC5:UQ st x0 .nil=weakLeaf st .nil :=nr rfl
def XC6:UQ st x0 (.sl t z es)=weakLeaf st (.sl t z es) :=nr rfl
def XC7:UQ st x0 (.rf pl y lo n)=weakLeaf st (.rf pl y lo n) :=nr rfl
def XC8:UQ st x0 (.p pl)=weakLeaf st (.p pl) :=nr rfl
def XC9:UQ st x0 (.pr cs)=weakLeaf st (.pr cs) :=nr rfl
def XDa:UQ st x0 .pn=weakLeaf st .pn :=nr rfl
def XDb:UQ st x0 (.fn f cs)=weakLeaf st (.fn f cs) :=nr rfl
def XDc:UQ st x0 (.fs cs)=weakLeaf st (.fs cs) :=nr rfl
def XDd:UQ st x0 (.agg cs)=Qt x0 cs.length 0 st :=nr rfl
def XDe:UQ st x0 (.tup cs)=weakLeaf st (.tup cs) :=nr rfl
def XDf:Z3 .u=true :=nr rfl
def XDg:Z3 .no=true :=nr rfl
def XDh:Z3 .ub=true :=nr rfl
def XDi:Z3 (.b x)=true :=nr rfl
def XDj:Z3 (.i k n)=true :=nr rfl
def XDk:Z3 (.s x)=true :=nr rfl
def XDl:Z3 .nil=true :=nr rfl
def XDm:Z3 (.sl t z es)=true :=nr rfl
def XDn:Z3 (.rf pl y lo n)=true :=nr rfl
def XDo:Z3 (.p pl)=true :=nr rfl
def XDp:Z3 (.pr cs)=true :=nr rfl
def XDq:Z3 .pn=true :=nr rfl
def XDr:Z3 (.fn f cs)=true :=nr rfl
def XDs:Z3 (.fs cs)=true :=nr rfl
def XDt:Z3 (.agg cs)=false :=nr rfl
def XDu:Z3 (.tup cs)=true :=nr rfl
def XDv:X0 st z .u=none :=nr rfl
def XDw:X0 st z .no=none :=nr rfl
def XDx:X0 st z .ub=none :=nr rfl
def XDy:X0 st z (.b x)=none :=nr rfl
def XDz:X0 st z (.i k n)=none :=nr rfl
def XDA:X0 st z (.s x)=none :=nr rfl
def XDB:X0 st z .nil=some [] :=nr rfl
def XDC:X0 st z (.p pl)=none :=nr rfl
def XDD:X0 st z (.pr cs)=none :=nr rfl
def XDE:X0 st z .pn=none :=nr rfl
def XDF:X0 st z (.fn f cs)=none :=nr rfl
def XDG:X0 st z (.fs cs)=none :=nr rfl
def XDH:X0 st z (.agg cs)=none :=nr rfl
def XDI:X0 st z (.tup cs)=none :=nr rfl
def XDJ:X0 st z (.sl t y es)=if y=z then some es else none :=nr rfl
def XDK:X0 st z (.rf pl y lo n)=if y=z then XT st (.rf pl y lo n) else none :=nr rfl
def XDL:Xz ow av st d .u=some .u :=by cases d<;>simp only[Xz]
def XDM:Xz ow av st d .no=none :=by cases d<;>simp only[Xz]
def XDN:Xz ow av st d .ub=some .ub :=by cases d<;>simp only[Xz]
def XDO:Xz ow av st d (.b x)=some (.b x) :=by cases d<;>simp only[Xz]
def XDP:Xz ow av st d (.i k n)=some (.i k n) :=by cases d<;>simp only[Xz]
def XDQ:Xz ow av st d (.s x)=some (.s x) :=by cases d<;>simp only[Xz]
def XDR:Xz ow av st d .nil=some .nil :=by cases d<;>simp only[Xz]
def XDS:Xz ow av st d (.sl t z es)=some (.sl .ro z (XL es)) :=by cases d<;>simp only[Xz]
def XDT:Xz ow av st d (.pr cs)=some (.pr cs) :=by cases d<;>simp only[Xz]
def XDU:Xz ow av st d .pn=some .pn :=by cases d<;>simp only[Xz]
def XDV:Xz ow av st d (.agg cs)=none :=by cases d<;>simp only[Xz]
def XDW:Xz ow av st d (.tup cs)=none :=by cases d<;>simp only[Xz]
def prO(x:Option (List AV)):Option AV :=match x with
  | some cs => some (.pr cs)
  | none => none
def agO(x:Option (List AV)):Option AV :=match x with
  | some cs => some (.agg cs)
  | none => none
def fnO(f:Nat)(x:Option (List AV)):Option AV :=match x with
  | some cs => some (.fn f cs)
  | none => none
def fsO(x:Option (List AV)):Option AV :=match x with
  | some cs => some (.fs cs)
  | none => none
def coO(a:Option AV)(x:Option (List AV)):Option (List AV) :=match a,x with
  | some a,some l => some (a :: l)
  | _,_ => none
def XDX:Qu ow av st .u=Xz ow av st 8 .u :=nr rfl
def XDY:Qu ow av st .no=Xz ow av st 8 .no :=nr rfl
def XDZ:Qu ow av st .ub=Xz ow av st 8 .ub :=nr rfl
def XD0:Qu ow av st (.b x)=Xz ow av st 8 (.b x) :=nr rfl
def XD1:Qu ow av st (.i k n)=Xz ow av st 8 (.i k n) :=nr rfl
def XD2:Qu ow av st (.s x)=Xz ow av st 8 (.s x) :=nr rfl
def XD3:Qu ow av st .nil=Xz ow av st 8 .nil :=nr rfl
def XD4:Qu ow av st (.sl t z es)=Xz ow av st 8 (.sl t z es) :=nr rfl
def XD5:Qu ow av st (.rf pl y lo n)=Xz ow av st 8 (.rf pl y lo n) :=nr rfl
def XD6:Qu ow av st (.p pl)=Xz ow av st 8 (.p pl) :=nr rfl
def XD7:Qu ow av st (.pr cs)=Xz ow av st 8 (.pr cs) :=nr rfl
def XD8:Qu ow av st .pn=Xz ow av st 8 .pn :=nr rfl
def XD9:Qu ow av st (.fn f cs)=Xz ow av st 8 (.fn f cs) :=nr rfl
def XEa:Qu ow av st (.fs cs)=Xz ow av st 8 (.fs cs) :=nr rfl
def XEb:Qu ow av st (.agg cs)=agO (XD ow av st 8 cs) :=by simp only[Qu,agO]; cases XD ow av st 8 cs<;>rfl
def XEc:Qu ow av st (.tup cs)=Xz ow av st 8 (.tup cs) :=nr rfl
def XEd:prO (some cs)=some (.pr cs) :=nr rfl
def XEe:agO (some cs)=some (.agg cs) :=nr rfl
def XEf:fnO f (some cs)=some (.fn f cs) :=nr rfl
def XEg:fsO (some cs)=some (.fs cs) :=nr rfl
def XEh:coO (some a) (some l)=some (a :: l) :=nr rfl
def XEi:Xz ow av st 1 (.p pl)=if(ow&&QM av pl&&XO st pl)=true then prO (Xf (node st pl) (λcells => XD ow av st 0 (cells.drop pl.c))) else none :=by
  simp only[Xz,Xf,prO]
  cases node st pl with
  | none => rfl
  | some cells => simp only[]; cases XD ow av st 0 (cells.drop pl.c)<;>rfl
def XEj:Xz ow av st 1 (.fs cs)=fsO (XD ow av st 0 cs) :=by
  simp only[Xz,fsO]; cases XD ow av st 0 cs<;>rfl
def XEk:Xz ow av st 1 (.fn f cs)=fnO f (XD ow av st 0 cs) :=by
  simp only[Xz,fnO]; cases XD ow av st 0 cs<;>rfl
def XEl:Xz ow av st 2 (.p pl)=if(ow&&QM av pl&&XO st pl)=true then prO (Xf (node st pl) (λcells => XD ow av st 1 (cells.drop pl.c))) else none :=by
  simp only[Xz,Xf,prO]
  cases node st pl with
  | none => rfl
  | some cells => simp only[]; cases XD ow av st 1 (cells.drop pl.c)<;>rfl
def XEm:Xz ow av st 2 (.fs cs)=fsO (XD ow av st 1 cs) :=by
  simp only[Xz,fsO]; cases XD ow av st 1 cs<;>rfl
def XEn:Xz ow av st 2 (.fn f cs)=fnO f (XD ow av st 1 cs) :=by
  simp only[Xz,fnO]; cases XD ow av st 1 cs<;>rfl
def XEo:Xz ow av st 3 (.p pl)=if(ow&&QM av pl&&XO st pl)=true then prO (Xf (node st pl) (λcells => XD ow av st 2 (cells.drop pl.c))) else none :=by
  simp only[Xz,Xf,prO]
  cases node st pl with
  | none => rfl
  | some cells => simp only[]; cases XD ow av st 2 (cells.drop pl.c)<;>rfl
def XEp:Xz ow av st 3 (.fs cs)=fsO (XD ow av st 2 cs) :=by
  simp only[Xz,fsO]; cases XD ow av st 2 cs<;>rfl
def XEq:Xz ow av st 3 (.fn f cs)=fnO f (XD ow av st 2 cs) :=by
  simp only[Xz,fnO]; cases XD ow av st 2 cs<;>rfl
def XEr:Xz ow av st 4 (.p pl)=if(ow&&QM av pl&&XO st pl)=true then prO (Xf (node st pl) (λcells => XD ow av st 3 (cells.drop pl.c))) else none :=by
  simp only[Xz,Xf,prO]
  cases node st pl with
  | none => rfl
  | some cells => simp only[]; cases XD ow av st 3 (cells.drop pl.c)<;>rfl
def XEs:Xz ow av st 4 (.fs cs)=fsO (XD ow av st 3 cs) :=by
  simp only[Xz,fsO]; cases XD ow av st 3 cs<;>rfl
def XEt:Xz ow av st 4 (.fn f cs)=fnO f (XD ow av st 3 cs) :=by
  simp only[Xz,fnO]; cases XD ow av st 3 cs<;>rfl
def XEu:Xz ow av st 5 (.p pl)=if(ow&&QM av pl&&XO st pl)=true then prO (Xf (node st pl) (λcells => XD ow av st 4 (cells.drop pl.c))) else none :=by
  simp only[Xz,Xf,prO]
  cases node st pl with
  | none => rfl
  | some cells => simp only[]; cases XD ow av st 4 (cells.drop pl.c)<;>rfl
def XEv:Xz ow av st 5 (.fs cs)=fsO (XD ow av st 4 cs) :=by
  simp only[Xz,fsO]; cases XD ow av st 4 cs<;>rfl
def XEw:Xz ow av st 5 (.fn f cs)=fnO f (XD ow av st 4 cs) :=by
  simp only[Xz,fnO]; cases XD ow av st 4 cs<;>rfl
def XEx:Xz ow av st 6 (.p pl)=if(ow&&QM av pl&&XO st pl)=true then prO (Xf (node st pl) (λcells => XD ow av st 5 (cells.drop pl.c))) else none :=by
  simp only[Xz,Xf,prO]
  cases node st pl with
  | none => rfl
  | some cells => simp only[]; cases XD ow av st 5 (cells.drop pl.c)<;>rfl
def XEy:Xz ow av st 6 (.fs cs)=fsO (XD ow av st 5 cs) :=by
  simp only[Xz,fsO]; cases XD ow av st 5 cs<;>rfl
def XEz:Xz ow av st 6 (.fn f cs)=fnO f (XD ow av st 5 cs) :=by
  simp only[Xz,fnO]; cases XD ow av st 5 cs<;>rfl
def XEA:Xz ow av st 7 (.p pl)=if(ow&&QM av pl&&XO st pl)=true then prO (Xf (node st pl) (λcells => XD ow av st 6 (cells.drop pl.c))) else none :=by
  simp only[Xz,Xf,prO]
  cases node st pl with
  | none => rfl
  | some cells => simp only[]; cases XD ow av st 6 (cells.drop pl.c)<;>rfl
def XEB:Xz ow av st 7 (.fs cs)=fsO (XD ow av st 6 cs) :=by
  simp only[Xz,fsO]; cases XD ow av st 6 cs<;>rfl
def XEC:Xz ow av st 7 (.fn f cs)=fnO f (XD ow av st 6 cs) :=by
  simp only[Xz,fnO]; cases XD ow av st 6 cs<;>rfl
def XED:Xz ow av st 8 (.p pl)=if(ow&&QM av pl&&XO st pl)=true then prO (Xf (node st pl) (λcells => XD ow av st 7 (cells.drop pl.c))) else none :=by
  simp only[Xz,Xf,prO]
  cases node st pl with
  | none => rfl
  | some cells => simp only[]; cases XD ow av st 7 (cells.drop pl.c)<;>rfl
def XEE:Xz ow av st 8 (.fs cs)=fsO (XD ow av st 7 cs) :=by
  simp only[Xz,fsO]; cases XD ow av st 7 cs<;>rfl
def XEF:Xz ow av st 8 (.fn f cs)=fnO f (XD ow av st 7 cs) :=by
  simp only[Xz,fnO]; cases XD ow av st 7 cs<;>rfl
def XEG:XD ow av st d []=some [] :=by simp only[XD]
def XEH:XD ow av st d (a :: l)=coO (Xz ow av st d a) (XD ow av st d l) :=by
  simp only[XD,coO]
  cases Xz ow av st d a with
  | none => rfl
  | some a' => simp only[]; cases XD ow av st d l<;>rfl
def XqS(ow:Bool):Tag->Bool
  | .mut => ow
  | _ => true
def Xsg(ow:Bool)(y lo n:Nat)(a:Option AV):Option AV :=match a with
  | some (.sl t z es) => if(lo+n<=es.length/\y=z)/\XqS ow t=true then some (.sl .ro y (XL ((es.drop lo).take n))) else none
  | _ => none
def XEI:XqS ow .mut=ow :=nr rfl
def XEJ:XqS ow .ro=true :=nr rfl
def XEK:XqS ow .app=true :=nr rfl
def XEL:Xz ow av st d (.rf pl y lo n)=if QM av pl=true then Xf (node st pl) (λcells => Xsg ow y lo n cells[pl.c]?) else none :=by
  cases d<;>(simp only[Xz,Xf,Xsg]; split<;>(try rfl); cases node st pl with
    | none => rfl
    | some cells => simp only[]; cases cells[pl.c]? with
      | none => rfl
      | some a => cases a<;>(try rfl); rename_i t z es; cases t<;>cases ow<;>simp[XqS])
def XEM:XT st .u=none :=nr rfl
def XEN:XT st .no=none :=nr rfl
def XEO:XT st .ub=none :=nr rfl
def XEP:XT st (.b x)=none :=nr rfl
def XEQ:XT st (.i k n)=none :=nr rfl
def XER:XT st (.s x)=none :=nr rfl
def XES:XT st .nil=some [] :=nr rfl
def XET:XT st (.sl t z es)=some es :=nr rfl
def XEU:XT st (.p pl)=none :=nr rfl
def XEV:XT st (.pr cs)=none :=nr rfl
def XEW:XT st .pn=none :=nr rfl
def XEX:XT st (.fn f cs)=none :=nr rfl
def XEY:XT st (.fs cs)=none :=nr rfl
def XEZ:XT st (.agg cs)=none :=nr rfl
def XE0:XT st (.tup cs)=none :=nr rfl
def XE1:Xo7 st .str (.s x)=some x.size :=nr rfl
def XE2:Xdk (.int k)=false :=nr rfl
def XE3:Xdk .str=true :=nr rfl
def XE4:Xdk (.slice z b zero)=true :=nr rfl
def XE5:Xo7 st (.slice z b zero) a=lenOf st a :=nr rfl
def XE6:XaM .str (.s b) lo hi=Qs (.s b) lo hi :=nr rfl
def XE7:XaM (.slice z b zero) (.sl t z es) lo hi=Qs (.sl t z es) lo hi :=by simp only[XaM,if_true]
def XE8:XaM (.slice z b zero) (.rf pl z o n) lo hi=Qs (.rf pl z o n) lo hi :=by simp only[XaM,if_true]
def XE9:lenOf st .u=none :=nr rfl
def XFa:lenOf st .no=none :=nr rfl
def XFb:lenOf st .ub=none :=nr rfl
def XFc:lenOf st (.b x)=none :=nr rfl
def XFd:lenOf st (.i k n)=none :=nr rfl
def XFe:lenOf st (.s x)=none :=nr rfl
def XFf:lenOf st .nil=some 0 :=nr rfl
def XFg:lenOf st (.sl t z es)=some es.length :=nr rfl
def XFh:lenOf st (.p pl)=none :=nr rfl
def XFi:lenOf st (.pr cs)=none :=nr rfl
def XFj:lenOf st .pn=none :=nr rfl
def XFk:lenOf st (.fn f cs)=none :=nr rfl
def XFl:lenOf st (.fs cs)=some cs.length :=nr rfl
def XFm:lenOf st (.agg cs)=none :=nr rfl
def XFn:lenOf st (.tup cs)=none :=nr rfl
def Xsh(y n lo:Nat)(a:Option AV):Option Nat :=match a with
  | some (.sl _ z es) => if lo+n<=es.length/\y=z then some ((es.drop lo).take n).length else none
  | _ => none
def Xsi(y n lo:Nat)(a:Option AV):Option (List (List AV)) :=match a with
  | some (.sl _ z es) => if lo+n<=es.length/\y=z then some ((es.drop lo).take n) else none
  | _ => none
def XFo:XT st (.rf pl y lo n)=Xf (node st pl) (λcells => Xsi y n lo cells[pl.c]?) :=by simp only[XT,Xf,Xsi]; cases node st pl<;>rfl
def XFp:lenOf st (.rf pl y lo n)=Xf (node st pl) (λcells => Xsh y n lo cells[pl.c]?) :=by
  simp only[lenOf,XT,Xf,Xsh]
  cases node st pl with
  | none => rfl
  | some cells =>
    simp only[]
    cases cells[pl.c]? with
    | none => rfl
    | some a =>
      cases a<;>try rfl
      rename_i t z es
      simp only[]
      by_cases h:lo+n<=es.length/\y=z
      · simp only[if_pos h]
      · simp only[if_neg h]
def XFq:bin ti op (.i k a) (.i k b)=XfV op k a b :=by simp only[bin,if_true]
def XFr:bin ti op (.s a) (.s b)=Xmj op a b :=nr rfl
def XFs:bin (some .bool) op (.b a) (.b b)=eqB op (a==b) :=nr rfl
def XFt:bin (some .ptr) op (.p q) .pn=eqB op false :=nr rfl
def XFu:bin (some .ptr) op (.pr q) .pn=eqB op false :=nr rfl
def XFv:bin (some .ptr) op .pn .pn=eqB op true :=nr rfl
def XFw:XfV .add k a b=some (.i k (k.wrap (a+b))) :=nr rfl
def XFx:XfV .sub k a b=some (.i k (k.wrap (a-b))) :=nr rfl
def XFy:XfV .mul k a b=some (.i k (k.wrap (a*b))) :=nr rfl
def XFz:XfV .eql k a b=some (.b (a==b)) :=nr rfl
def XFA:XfV .neq k a b=some (.b (a !=b)) :=nr rfl
def XFB:XfV .lss k a b=some (.b (decide (a<b))) :=nr rfl
def XFC:XfV .leq k a b=some (.b (decide (a<=b))) :=nr rfl
def XFD:XfV .gtr k a b=some (.b (decide (a>b))) :=nr rfl
def XFE:XfV .geq k a b=some (.b (decide (a>=b))) :=nr rfl
def XFF:XfV .quo k a b=if b=0 then none else some (.i k (k.wrap (a.tdiv b))) :=nr rfl
def XFG:XfV .rem k a b=if b=0 then none else some (.i k (a.tmod b)) :=nr rfl
def XFH:Xmj .eql a b=some (.b (a.toList==b.toList)) :=nr rfl
def XFI:Xmj .neq a b=some (.b !(a.toList==b.toList)) :=nr rfl
def XFJ:Xmj .lss a b=some (.b (Op.bytesLess a.toList b.toList)) :=nr rfl
def XFK:Xmj .add a b=if a.size+b.size<=9223372036854775807 then some (.s (a++b)) else none :=nr rfl
def XFL(e:Bool)(x:Option Bool):Option Bool :=match x with
  | some y => some (e&&y)
  | none => none
def XFM:XFL e (some y)=some (e&&y) :=nr rfl
def XFN:unV .not (.b x)=some (.b !x) :=nr rfl
def XFO:unV .neg (.i k n)=some (.i k (k.wrap (0-n))) :=nr rfl
def XFP:Xhp (.bool x)=.b x :=nr rfl
def XFQ:Xhp (.int k n)=.i k n :=nr rfl
def XFR:Xhp (.string x)=.s x :=nr rfl
def XFS:Xhp (.slice none 0 0)=.nil :=nr rfl
def XFT:Xhp (.pointer none)=.pn :=nr rfl
def XFU:bin T op (.sl t z es) .nil=Xbt T op es.length :=nr rfl
def XFV:bin T op (.rf q z lo n) .nil=Xbt T op n :=nr rfl
def XFW:Xbt (some (.slice z b ze)) .eql n=if 0<n then some (.b false) else some .ub :=nr rfl
def XFX:Xbt (some (.slice z b ze)) .neq n=if 0<n then some (.b true) else some .ub :=nr rfl
def Xrq(f:Nat->AV)(g:Nat->List AV)(t j:Nat)(a:AV):Option (AV×St) :=match a with
  | .tup vs => match vs[j]? with
    | some v => some (v,⟨upd f t (.tup (vs.set j .u)),g⟩)
    | none => none
  | _ => none
def Xsj(f:Nat->AV)(g:Nat->List AV)(t j:Nat)(vs:List AV)(x:Option AV):Option (AV×St) :=match x with
  | some v => some (v,⟨upd f t (.tup (vs.set j .u)),g⟩)
  | none => none
def XFY:Ul ⟨f,g⟩ (.tmp t) j=Xrq f g t j (f t) :=by simp only[Ul,Xrq]; cases f t<;>rfl
def XFZ:Xrq f g t j (.tup vs)=Xsj f g t j vs vs[j]? :=by simp only[Xrq,Xsj]
def XF0:Xsj f g t j vs (some v)=some (v,⟨upd f t (.tup (vs.set j .u)),g⟩) :=nr rfl
attribute [go_sem ↓] Xlp XnM Xlq XnP XhP Xff XdH Xgi Xgj XhE Xed Xgk Xgl Xgm XhG XhH XhN Xfe Xgo Xgp Xgh Xe4 Xec Xjb Xjc Xe5 Xe6 Xe7 Xe8 Xe9 QJ Xg7 Xg8 Xji Xcw XdG Xcx XdE XdF XdI Xcy Xn0 XjA Xn3 Xlw XqL Xn4 Xlx Xgr Xfg Xly Xfh Xlz XqM Xr5 XhR XlC Xgs XhS XlD Xee Xfi XqN XjD XlE XqO XqP Xn5 XlF Xn6 XlG XlH Xn7 XlJ XlI Xl1 Xtm Xtn Xto Xtp
attribute [go_sem] XjB XjC XlA XlB Xqj Xjz Xjy Xju Xjv Xjw XqK XnX XqI XnT XnS Xjx XnY Xlu Xlv Xjn Xjo XnQ Xjp Xjq XhQ Xjr Xr2 Xjf XnB XnD Xjg Xjh Xlc XnC Xff XdH XnO XhO Xr6 Xob Xoc XqQ XlP XhU XhV Xgu XhW XhX XhY XjE Xfj XjF Xfk Xgv XhZ XjH XlQ XjI Xgw XlR Xh0 Xh1 XlS XlT XlU XlV Xog Xoh XlW Xgy Xoi XlX Xgz XlY Xh2 XlZ XjL XjM XjN Xl0 Xh3 XgA Xfl Xfm XgB Xh4 XgC Xc0 Xcz Xef Xok Xeg Xom Xc1 XhI XhJ XhK XhL Xfc Xfd XhM Xld Xle Xlf Xlg Xlh XnH stU skS Xjt XeL UX Q8 XiF XjJ XlK Xn8 Xn9 Xoa XhT Xgt XlM XlN XlO XlL Xon Xrm Xlr XnR Xls Xjs XnU trim? Xnr inE Xk8 opU skU QJ XhD Xja Xg7 Xg8 Xji Xjj Xli Xe5 Xe6 Xe7 Xe8 Xe9 Xcw XdG Xcx XnK XdI Xcy Xn2 Xjd Xje Xlb Xlj Xlk XnI Xjk Xll Xlm Xln Xjl Xlo XdE XdF Xnu Xt1 Xt2 Xt3 Xr0 XqE Xnv jL Ux jE jB Xfa Xfb Xny Xnz
  k0 k1 k2 k3 k4 k5 k6 k7 k8 k9 k10 k11 k12 k13 k14 k15 k16 k17 k18 k19 k20 k21 k22 k23 k24 k25 k26 k27 k28 k29 k30 k31 k32 k33 k34 k35 k36 k37 k38 k39 k40 k41 k42 k43 k44 k45 k46 k47 k48 k49 k50 k51 k52 k53 k54 k55 k56 k57 k58 k59 k60 k61 k62 k63 k64 k65 k66 k67 k68 k69 k70 k71 k72 k73 k74 k75 k76 k77 k78 k79 k80 k81 k82 k83 k84 k85 k86 k87 rvQ k88 k89 k90 k91 k92 k93 k94 k95 k96 k97 k98 k99 Xt4 Xt5 Xt6 Xt7 Xt8 Xt9 Xua Xub Xuc Xud Xue Xuf Xug Xuh Xui Xuj Xuk Xul Xum Xun Xuo Xup Xuq Xur Xus Xut Xuu Xuv Xuw Xux Xuy Xuz XuA XuB XuC XuD XuE XuF XuG XuH XuI XuJ XuK XuL XuM XuN XuO XuP XuQ XuR XuS XuT XuU XuV XuW XuX XuY XuZ Xu0 Xu1 Xu2 Xu3 Xu4 Xu5 Xu6 Xu7 Xu8 Xu9 Xva Xvb Xvc Xvd Xve Xvf Xvg Xvh Xvi Xvj Xvk Xvl Xvm Xvn Xvo Xvp Xvq Xvr Xvs Xvt Xvu Xvv Xvw Xvx Xvy Xvz XvA XvB XvC XvD XvE XvF XvG XvH XvI XvJ XvK XvL XvM XvN XvO XvP XvQ XvR XvS XvT XvU XvV XvW XvX XvY XvZ Xv0 Xv1 Xv2 Xv3 Xv4 Xv5 Xv6 Xv7 Xv8 Xv9 Xwa Xwb Xwc Xwd Xwe Xwf Xwg Xwh Xwi Xwj Xwk Xwl Xwm Xwn Xwo Xwp Xwq Xwr Xws Xwt Xwu Xwv Xww Xwx Xwy Xwz XwA XwB XwC XwD XwE XwF XwG XwH XwI XwJ XwK XwL XwM XwN XwO XwP XwQ XwR XwS XwT XwU XwV XwW XwX XwY XwZ Xw0 Xw1 Xw2 Xw3 Xw4 Xw5 Xw6 Xw7 Xw8 Xw9 Xxa Xxb Xxc Xxd Xxe Xxf Xxg Xxh Xxi Xxj Xxk Xxl Xxm Xxn Xxo Xxp Xxq Xxr Xxs Xxt Xxu Xxv Xxw Xxx Xxy Xxz XxA XxB XxC XxD XxE XxF XxG XxH XxI XxJ XxK XxL XxM XxN XxO XxP XxQ XxR XxS XxT XxU XxV XxW XxX XxY XxZ Xx0 Xx1 Xx2 Xx3 Xx4 Xx5 Xx6 Xx7 Xx8 Xx9 Xya Xyb Xyc Xyd Xye Xyf Xyg Xyh Xyi Xyj Xyk Xyl Xym Xyn Xyo Xyp Xyq Xyr Xys Xyt Xyu Xyv Xyw Xtm Xtn Xto Xtp Xyx Xyy XrY XrZ Xgg Xnq Xcv Xi7 Xkc XhC Xk6 Xi8 Xi9 Xlt XnV XnW Xyz XyA XyB XyC XyD XyE XyF XyG XyH XyI XyJ XyK XyL XyM XyN XyO XyP XyQ XyR XyS XyT XyU XyV XyW XyX XyY XyZ Xy0 Xy1 Xy2 Xy3 Xy4 Xy5 Xy6 Xy7 Xy8 Xy9 Xza Xzb Xzc Xzd Xze Xzf Xzg Xzh Xzi Xzj Xzk Xzl Xzm Xzn Xtq Xzo Xzp Xoq Xzq Xzr Xzs Xzt Xzu Xzv Xzw Xzx Xzy Xzz XzA XzB XzC XzD XzE XzF XzG XzH XzI XzJ XzK XzL XzM XzN XzO XzP XzQ XzR XzS XzT XzU XzV XzW XzX XzY XzZ Xz0 Xz1 Xz2 St.cut keepP keepR XB ZJ XI within setCells storeAt takeRf Q6 Qs Xcd Z7 ZB ZN XcQ Xhs ZW Xbb Xae XfX XrQ XdX XgR XaN Xad Xb7 Xhr XfW Xey Xtj QM Zx rwB UY Qy one eqB Yv XL whole Md.isMv Md.isRw Xz3 Xz4 Xz5 Xz6 Xz7 Xz8 Xz9 XAa XAb XAc XAd XAe XAf XAg XAh XAi XAj XAk XAl XAm XAn XAo XAp XAq XAr XAs XAt XAu XAv XAw Xsf XAx XAy XAz XAA XAB XAC XAD XAE XAF XAG XAH XAI XAJ XAK XAL XAM XAN XAO XAP XAQ XAR XAS XAT XAU XAV XAW XAX XAY XAZ XA0 XA1 XA2 XA3 XA4 XA5 XA6 XA7 XA8 XA9 XBa XBb XBc XBd XBe XBf XBg XBh XBi XBj XBk XBl XBm XBn XBo XBp XBq XBr XBs XBt XBu XBv XBw XBx XBy XBz XBA XBB XBC XBD XBE XBF XBG XBH XBI XBJ XBK XBL XBM XBN XBO XBP XBQ XBR XBS XBT XBU XBV XBW XBX XBY XBZ XB0 XB1 XB2 XB3 XB4 XB5 XB6 XB7 XB8 XB9 XCa XCb XCc XCd XCe XCf XCg XCh XCi XCj XCk XCl XCm XCn XCo XCp XCq XCr XCs XCt XCu XCv XCw XCx XCy XCz XCA XCB XCC XCD XCE XCF XCG XCH XCI XCJ XCK XCL XCM XCN XCO XCP XCQ XCR XCS XCT XCU XCV XCW XCX XCY XCZ XC0 XC1 XC2 XC3 XC4 XC5 XC6 XC7 XC8 XC9 XDa XDb XDc XDd XDe XDf XDg XDh XDi XDj XDk XDl XDm XDn XDo XDp XDq XDr XDs XDt XDu XDv XDw XDx XDy XDz XDA XDB XDC XDD XDE XDF XDG XDH XDI XDJ XDK XDL XDM XDN XDO XDP XDQ XDR XDS XDT XDU XDV XDW XDX XDY XDZ XD0 XD1 XD2 XD3 XD4 XD5 XD6 XD7 XD8 XD9 XEa XEb XEc XEd XEe XEf XEg XEh XEi XEj XEk XEl XEm XEn XEo XEp XEq XEr XEs XEt XEu XEv XEw XEx XEy XEz XEA XEB XEC XED XEE XEF XEG XEH XEI XEJ XEK XEL Xsg XEM XEN XEO XEP XEQ XER XES XET XEU XEV XEW XEX XEY XEZ XE0 XE1 XE2 XE3 XE4 XE5 XE6 XE7 XE8 XE9 XFa XFb XFc XFd XFe XFf XFg XFh XFi XFj XFk XFl XFm XFn XFo XFp Xsh Xsi XFq XFr XFs XFt XFu XFv XFw XFx XFy XFz XFA XFB XFC XFD XFE XFF XFG XFH XFI XFJ XFK XFM XFN XFO XFP XFQ XFR XFS XFT XFU XFV XFW XFX XFY XFZ XF0
end Go.Vm
