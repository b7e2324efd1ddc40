/- A part of a reflected evaluator of the program's code, and the proof that what it computes is what the machine does. -/
import Derived.Test.YtebnbhjcfanddaaDoorVa
import Derived.Attr
set_option linter.unusedVariables false
set_option linter.unusedSimpArgs false
set_option autoImplicit false
set_option linter.defProp false
namespace Go.Vm
def nr{α:Sort _}{a b:α}(h:a=b):a=b:=h
def E:List (Nat×AV)->Nat->AV
 | [],_=>.u
 | (k,v) :: r,t=>if t=k then v else E r t
def B:List (Nat×List AV)->Nat->List AV
 | [],_=>[]
 | (k,v) :: r,t=>if t=k then v else B r t
def XlI(t:Nat):E [] t=.u:=nr rfl
def UL(k:Nat)(v:AV)(r:List (Nat×AV))(t:Nat):E ((k,v) :: r) t=if t=k then v else E r t:=nr rfl
def XlJ(t:Nat):B [] t=[]:=nr rfl
def Xam(k:Nat)(v:List AV)(r:List (Nat×List AV))(t:Nat):B ((k,v) :: r) t=if t=k then v else B r t:=nr rfl
def XcV(l:List (Nat×AV))(t:Nat)(v:AV):upd (E l) t v=E ((t,v) :: l):=by funext x; simp[upd,UL]
def XiP(l:List (Nat×List AV))(t:Nat)(v:List AV):upd (B l) t v=B ((t,v) :: l):=by funext x; simp[upd,Xam]
def Xfi(kp kr:Pl->Bool):List (Nat×AV)->List (Nat×AV)
 | []=>[]
 | (k,v) :: r=>(k,filt kp kr v) :: Xfi kp kr r
def Xgi(kp kr:Pl->Bool):List (Nat×List AV)->List (Nat×List AV)
 | []=>[]
 | (k,v) :: r=>(k,XG kp kr v) :: Xgi kp kr r
def Xan(l:List (Nat×AV))(m:List (Nat×List AV))(kp kr:Pl->Bool):St.filt ⟨E l,B m⟩ kp kr=⟨E (Xfi kp kr l),B (Xgi kp kr m)⟩:=by
 simp only[St.filt,St.mk.injEq]
 constructor
 ·funext t
  induction l with
  | nil=>rfl
  | cons x r ih=>obtain⟨k,v⟩:=x; simp only[Xfi,UL]; split<;>simp_all
 ·funext t
  induction m with
  | nil=>rfl
  | cons x r ih=>obtain⟨k,v⟩:=x; simp only[Xgi,Xam]; split<;>simp_all
def Xd1(f:Nat->AV):List Nat->List (Nat×AV)
 | []=>[]
 | k :: r=>(k,f k) :: Xd1 f r
def XgU(f:Nat->List AV):List Nat->List (Nat×List AV)
 | []=>[]
 | k :: r=>(k,f k) :: XgU f r
def Xfj(ks bs:List Nat)(st:St):keep (some (ks,bs)) st=⟨E (Xd1 (st.filt (Qj ks bs) (Qj ks bs)).env ks),B (XgU (st.filt (Qj ks bs) (Qj ks bs)).bx bs)⟩:=by
 simp only[keep,St.mk.injEq]
 generalize st.filt (Qj ks bs) (Qj ks bs)=s
 constructor
 ·funext t
  induction ks with
  | nil=>rfl
  | cons k r ih =>
   simp only[Xd1,UL,List.contains_cons]
   by_cases h:t=k
   ·subst h; simp
   ·simp[h,<-ih]
 ·funext t
  induction bs with
  | nil=>rfl
  | cons k r ih =>
   simp only[XgU,Xam,List.contains_cons]
   by_cases h:t=k
   ·subst h; simp
   ·simp[h,<-ih]
def Xfk(st:St):keep none st=st:=nr rfl
def XiQ(ks:List Nat)(l:List (Nat×AV))(m:List (Nat×List AV)):trim ks ⟨E l,B m⟩=⟨E (Xd1 (E (Xfi (inE ks) (inE ks) l)) ks),B (Xgi (inE ks) (inE ks) m)⟩:=by
 simp only[trim,Xan,St.mk.injEq,and_true]
 generalize E (Xfi (inE ks) (inE ks) l)=s
 funext t
 induction ks with
 | nil=>rfl
 | cons k r ih =>
  simp only[Xd1,UL,List.contains_cons]
  by_cases h:t=k
  ·subst h; simp
  ·simp[h,<-ih]
variable {R : Type}
def Xb{α:Type}(x:Option α)(k:α->Option R):Option R:=match x with
 | some a=>k a
 | none=>none
def Zr{α:Type}(a:α)(k:α->Option R):Xb (some a) k=k a:=nr rfl
def Xd2{α:Type}(k:α->Option R):Xb none k=none:=nr rfl
@[congr] def XiR{α:Type}{x y:Option α}{k:α->Option R}(h:x=y):Xb x k=Xb y k:=by rw[h]
def Xfl{α:Type}(c:Prop)[Decidable c](x y:Option α)(k:α->Option R):Xb (if c then x else y) k=if c then Xb x k else Xb y k:=by split<;>rfl
def XX{α β:Type}(x:Option α)(f:α->Option β):XZ x f=Xb x f:=by cases x<;>rfl
@[congr] def XgV{cx:Cx}{ops:List Oper}{cs:List (Option (List Nat))}{st st':St}{l:List Oper}(h:st=st'):Xx cx ops cs st l=Xx cx ops cs st' l:=by rw[h]
@[congr] def Xif{cx:Cx}{st st':St}{o:Oper}(h:st=st'):Xd cx st o=Xd cx st' o:=by rw[h]
@[congr] def Xig{cx:Cx}{blk:Nat}{c:Code}{st st':St}(h:st=st'):Xh cx blk c st=Xh cx blk c st':=by rw[h]
def upE(st:St)(d:Nat)(v:AV):St:=⟨upd st.env d v,st.bx⟩
def XdD(st:St)(d:Nat):upE st d (st.env d)=st:=by
 have:upd st.env d (st.env d)=st.env:=by funext x; unfold upd; split<;>simp_all
 simp only[upE,this]
def Xih(a:AV)(x y z xs ys:Option St):Option St:=match a with
 | .b true=>x
 | .b false=>y
 | .no=>z
 | _=>none
def Xb0(d:Option Nat)(k:Nat->Option St):Option St:=match d with
 | some d=>k d
 | none=>none
@[congr] def Xii{a a':AV}{x y z xs ys:Option St}(h:a=a'):Xih a x y z xs ys=Xih a' x y z xs ys:=by rw[h]
@[congr] def Xij{d d':Option Nat}{k:Nat->Option St}(h:d=d'):Xb0 d k=Xb0 d' k:=by rw[h]
def Xao(d:Nat)(k:Nat->Option St):Xb0 (some d) k=k d:=nr rfl
@[congr] def XiS{l:List Oper}{n:Nat}:ZK l n=ZK l n:=rfl
def Xa6(d op t pos aft g r):ZK (⟨d,op,t,pos,aft,g⟩ :: r) 0=d:=nr rfl
def Xa7(o:Oper)(r:List Oper)(n:Nat):ZK (o :: r) (n+1)=ZK r n:=nr rfl
def opS(cx:Cx)(ops:List Oper)(cs:List (Option (List Nat)))(st:St)(o:Oper)(r:List Oper):Option St:=match wanted ops st o with
 | some true=>Xb (Xd cx st o) (λst'=>Xx cx ops cs st' r)
 | some false=>Xx cx ops cs (st.put? o.dst .no) r
 | none=>none
@[congr] def XkC{cx:Cx}{ops:List Oper}{cs:List (Option (List Nat))}{st st':St}{o:Oper}{r:List Oper}(h:st=st'):opS cx ops cs st o r=opS cx ops cs st' o r:=by rw[h]
def XcW(cx:Cx)(ops:List Oper)(cs:List (Option (List Nat)))(st:St):Xx cx ops cs st []=some st:=by simp only[Xx]
def Xb1(cx:Cx)(ops:List Oper)(c:Option (List Nat))(cs:List (Option (List Nat)))(st:St)(o:Oper)(r:List Oper):Xx cx ops (c :: cs) st (o :: r)=opS cx ops cs (trim? c st) o r:=by
 simp only[Xx,opS,hd?,List.tail_cons,Xb]
 cases wanted ops (trim? c st) o with
 | none=>rfl
 | some b =>
  cases b<;>try rfl
  simp only[]; cases Xd cx (trim? c st) o<;>rfl
def Xbu(cx:Cx)(ops:List Oper)(st:St)(o:Oper)(r:List Oper):Xx cx ops [] st (o :: r)=opS cx ops [] st o r:=by
 simp only[Xx,opS,hd?,List.tail_nil,Xb,trim?]
 cases wanted ops st o with
 | none=>rfl
 | some b =>
  cases b<;>try rfl
  simp only[]; cases Xd cx st o<;>rfl
section
variable (cx : Cx) (ops : List Oper) (cs : List (Option (List Nat))) (st : St) (d : Option Nat) (op : Op) (t : TypeId) (pos : String) (aft : Array Edge) (j : Nat) (r : List Oper)
def Xfm:opS cx ops cs st ⟨d,op,t,pos,aft,none⟩ r=Xb (Xd cx st ⟨d,op,t,pos,aft,none⟩) (λst'=>Xx cx ops cs st' r):=nr rfl
def Qq(cx:Cx)(ops:List Oper)(cs:List (Option (List Nat)))(st:St)(o:Oper)(r:List Oper)(want:Bool)(g:Nat)(a:AV):Option St:=match a with
 | .b b=>if b=want then Xb (Xd cx st o) (λst'=>Xx cx ops cs st' r) else Xx cx ops cs (st.put? o.dst .no) r
 | .no=>Xx cx ops cs (st.put? o.dst .no) r
 | _=>none
@[congr] def Xik{cx:Cx}{ops:List Oper}{cs:List (Option (List Nat))}{st:St}{o:Oper}{r:List Oper}{want:Bool}{g:Nat}{a a':AV}(h:a=a'):Qq cx ops cs st o r want g a=Qq cx ops cs st o r want g a':=by rw[h]
def Xfn(want:Bool):opS cx ops cs st ⟨d,op,t,pos,aft,some (j,want)⟩ r=Xb0 (ZK ops j) (λg=>Qq cx ops cs st ⟨d,op,t,pos,aft,some (j,want)⟩ r want g (st.env g)):=by
 simp only[opS,wanted,Xb0]
 cases ZK ops j with
 | none=>rfl
 | some g =>
  simp only[Qq]
  cases st.env g with
  | b b=>cases b<;>cases want<;>rfl
  | _=>rfl
end
section
variable (cx : Cx) (ops : List Oper) (cs : List (Option (List Nat))) (st : St) (o : Oper) (r : List Oper) (g : Nat)
def Xb2:Qq cx ops cs st o r true g (.b true)=Xb (Xd cx st o) (λst'=>Xx cx ops cs st' r):=nr rfl
def Xb3:Qq cx ops cs st o r false g (.b false)=Xb (Xd cx st o) (λst'=>Xx cx ops cs st' r):=nr rfl
def Xb4:Qq cx ops cs st o r true g (.b false)=Xx cx ops cs (st.put? o.dst .no) r:=nr rfl
def Xb5:Qq cx ops cs st o r false g (.b true)=Xx cx ops cs (st.put? o.dst .no) r:=nr rfl
def Xb6(want:Bool):Qq cx ops cs st o r want g .no=Xx cx ops cs (st.put? o.dst .no) r:=nr rfl
def opU(cx:Cx)(ops:List Oper)(cs:List (Option (List Nat)))(st:St)(o:Oper)(r:List Oper):Option St:=Xb (Xd cx st o) (λst'=>Xx cx ops cs st' r)
def skU(cx:Cx)(ops:List Oper)(cs:List (Option (List Nat)))(st:St)(o:Oper)(r:List Oper):Option St:=Xx cx ops cs (st.put? o.dst .no) r
@[congr] def XkD{cx:Cx}{ops:List Oper}{cs:List (Option (List Nat))}{st st':St}{o:Oper}{r:List Oper}(h:st=st'):opU cx ops cs st o r=opU cx ops cs st' o r:=by rw[h]
@[congr] def XkE{cx:Cx}{ops:List Oper}{cs:List (Option (List Nat))}{st st':St}{o:Oper}{r:List Oper}(h:st=st'):skU cx ops cs st o r=skU cx ops cs st' o r:=by rw[h]
end
def XgW(cx:Cx)(ops:List Oper)(cs:List (Option (List Nat)))(l:List (Nat×AV))(m:List (Nat×List AV))(o:Oper)(r:List Oper)(g:Nat)(want b:Bool)(h:E l g=.b b) :
  Qq cx ops cs ⟨E l,B m⟩ o r want g (.b b) =
   if b=true then(if want=true then opU cx ops cs ⟨E ((g,.b true) :: l),B m⟩ o r else skU cx ops cs ⟨E ((g,.b true) :: l),B m⟩ o r)
   else(if want=true then skU cx ops cs ⟨E ((g,.b false) :: l),B m⟩ o r else opU cx ops cs ⟨E ((g,.b false) :: l),B m⟩ o r):=by
 have hs:(⟨E ((g,.b b) :: l),B m⟩:St)=⟨E l,B m⟩:=by
  have:=XdD ⟨E l,B m⟩ g
  simp only[upE,XcV,h] at this
  exact this
 cases b<;>cases want<;>simp only[Qq,opU,skU,hs,if_true,if_false,Bool.false_eq_true,reduceCtorEq]
def jA(c:Prop)[Decidable c](a b:AV):AV:=if c then a else b
section
variable (c : Prop) [Decidable c]
def XiT(a:AV):jA c a a=a:=by unfold jA; split<;>rfl
def Xnx(x y:Bool):jA c (.b x) (.b y)=.b (if c then x else y):=by unfold jA; split<;>rfl
def Xny(k:IntKind)(x y:Int):jA c (.i k x) (.i k y)=.i k (if c then x else y):=by unfold jA; split<;>rfl
def Xnz(x y:ByteArray):jA c (.s x) (.s y)=.s (if c then x else y):=by unfold jA; split<;>rfl
def XlK(t:Tag)(z:Nat)(x y:List (List AV)):jA c (.sl t z x) (.sl t z y)=.sl t z (if c then x else y):=by unfold jA; split<;>rfl
def jL(c:Prop)[Decidable c]:List AV->List AV->List AV
 | a :: l,b :: r=>jA c a b :: jL c l r
 | _,_=>[]
def Z5:List AV->List AV->Bool
 | _ :: l,_ :: r=>Z5 l r
 | [],[]=>true
 | _,_=>false
def XgX:∀(x y:List AV),Z5 x y=true->(if c then x else y)=jL c x y
 | [],[],_=>by simp[jL]
 | a :: l,b :: r,h=>by
  have ih:=XgX l r (by simpa[Z5] using h)
  simp only[jL,jA,<-ih]
  split<;>rfl
 | [],_ :: _,h=>by simp[Z5] at h
 | _ :: _,[],h=>by simp[Z5] at h
def XkF(x y:List AV)(h:Z5 x y=true):jA c (.agg x) (.agg y)=.agg (jL c x y):=by rw[<-XgX c x y h]; unfold jA; split<;>rfl
def XiU(x:List AV):jL c x x=x:=by
 rw[<-XgX c x x (by induction x<;>simp_all [Z5])]; simp
def jE(c:Prop)[Decidable c]:List (Nat×AV)->List (Nat×AV)->List (Nat×AV)
 | (k,a) :: l,(_,b) :: r=>(k,jA c a b) :: jE c l r
 | _,_=>[]
def jB(c:Prop)[Decidable c]:List (Nat×List AV)->List (Nat×List AV)->List (Nat×List AV)
 | (k,a) :: l,(_,b) :: r=>(k,jL c a b) :: jB c l r
 | _,_=>[]
def Xb7:List (Nat×AV)->List (Nat×AV)->Bool
 | (k,_) :: l,(k',_) :: r=>k==k'&&Xb7 l r
 | [],[]=>true
 | _,_=>false
def Xb8:List (Nat×List AV)->List (Nat×List AV)->Bool
 | (k,a) :: l,(k',b) :: r=>k==k'&&(Z5 a b&&Xb8 l r)
 | [],[]=>true
 | _,_=>false
def XiV:∀(x y:List (Nat×AV)),Xb7 x y=true->(if c then E x else E y)=E (jE c x y)
 | [],[],_=>by simp[jE]
 | (k,a) :: l,(k',b) :: r,h=>by
  simp only[Xb7,Bool.and_eq_true,beq_iff_eq] at h
  obtain⟨rfl,h⟩:=h
  have ih:=XiV l r h
  funext t
  have ih':=congrFun ih t
  simp only[jE,jA]
  rw[UL,<-ih']
  split<;>simp only[UL]
 | [],_ :: _,h=>by simp[Xb7] at h
 | _ :: _,[],h=>by simp[Xb7] at h
def XiW:∀(x y:List (Nat×List AV)),Xb8 x y=true->(if c then B x else B y)=B (jB c x y)
 | [],[],_=>by simp[jB]
 | (k,a) :: l,(k',b) :: r,h=>by
  simp only[Xb8,Bool.and_eq_true,beq_iff_eq] at h
  obtain⟨rfl,h1,h⟩:=h
  have ih:=XiW l r h
  funext t
  have ih':=congrFun ih t
  simp only[jB]
  rw[Xam,<-ih',<-XgX c a b h1]
  split<;>simp only[Xam]
 | [],_ :: _,h=>by simp[Xb8] at h
 | _ :: _,[],h=>by simp[Xb8] at h
def XiX(x y:List (Nat×AV))(m n:List (Nat×List AV))(h:Xb7 x y=true)(h':Xb8 m n=true):(if c then some (⟨E x,B m⟩:St) else some ⟨E y,B n⟩)=some ⟨E (jE c x y),B (jB c m n)⟩:=by
 rw[<-XiV c x y h,<-XiW c m n h']; split<;>rfl
def XiY(e:Ex)(x y:List (Nat×AV))(m n:List (Nat×List AV))(h:Xb7 x y=true)(h':Xb8 m n=true):(if c then some (e,(⟨E x,B m⟩:St)) else some (e,⟨E y,B n⟩))=some (e,⟨E (jE c x y),B (jB c m n)⟩):=by
 rw[<-XiV c x y h,<-XiW c m n h']; split<;>rfl
end
def XcX(cx:Cx)(blk:Nat)(st:St):Xh cx blk .skip st=some (.nor,st):=nr rfl
def XcY(cx:Cx)(blk id:Nat)(st:St):Xh cx blk (.exit id) st=some (.ex id,keep (cx.out id) st):=nr rfl
def Xd3(cx:Cx)(blk:Nat)(st:St):Xh cx blk .ret st=some (.ret,keep cx.rets st):=nr rfl
def XgY(x:Option St):Option (Ex×St):=match x with
 | some s=>some (.nor,s)
 | none=>none
def Xfo(s:St):XgY (some s)=some (.nor,s):=nr rfl
def Xfp:XgY none=none:=nr rfl
def XgZ(c:Prop)[Decidable c](x y:Option St):XgY (if c then x else y)=if c then XgY x else XgY y:=by split<;>rfl
def Xbv(cx:Cx)(blk id:Nat)(l:List Oper)(st:St):Xh cx blk (.region id (List.toArray l) false) st=XgY (Xb (Xx cx l (cx.cuts id) st l) (λs=>weakW (keep (cx.rg id) s) (cx.ws id))):=by
 simp only[Xh,Xb,XgY,Xj2,Bool.false_eq_true,if_false]
 cases Xx cx l (cx.cuts id) st l<;>rfl
def XcZ(cx:Cx)(blk id:Nat)(l:List Oper)(st:St):Xh cx blk (.region id (List.toArray l) true) st=XgY (Xb (Xb (cx.plan id) (λp=>X2 cx id l p st)) (λs=>weakW s (cx.ws id))):=by
 simp only[Xh,if_true,XgY,Xj2,XX]
 cases cx.plan id with
 | none=>rfl
 | some p=>simp only[Xb]; cases X2 cx id l p st<;>rfl
@[congr] def XiZ{st st':St}{l l':List (Bool×Nat×Nat)}(h:st=st')(h2:l=l'):weakW st l=weakW st' l':=by rw[h,h2]
def Xfq(st:St):weakW st []=some st:=nr rfl
def Xi0(st:St)(r c:Nat)(l:List (Bool×Nat×Nat)):weakW st ((true,r,c) :: l)=Xb (weakArg st (.tmp r)) (λs=>weakW s l):=by simp only[weakW,XX]
def Xd4(st:St)(b c:Nat):Option AV->Option St
 | some (.sl .mut z es)=>weakLeaf st (.rf ⟨false,b,[],c⟩ z 0 es.length)
 | _=>some st
def Xfr(st:St)(b c z:Nat)(es:List (List AV)):Xd4 st b c (some (.sl .mut z es))=weakLeaf st (.rf ⟨false,b,[],c⟩ z 0 es.length):=nr rfl
def Xfs(st:St)(b c z:Nat)(es:List (List AV)):Xd4 st b c (some (.sl .app z es))=some st:=nr rfl
def Xg0(st:St)(b c z:Nat)(es:List (List AV)):Xd4 st b c (some (.sl .ro z es))=some st:=nr rfl
def Xi1(st:St)(b c:Nat):Xd4 st b c (some .u)=some st:=nr rfl
def Xi2(st:St)(r c:Nat)(l:List (Bool×Nat×Nat)):weakW st ((false,r,c) :: l)=Xb (Xd4 st r c (st.bx r)[c]?) (λs=>weakW s l):=by simp only[weakW,weakAt,Xd4,XX]; rfl
def Xc0(cx:Cx)(id:Nat)(ops:List Oper)(st:St):X2 cx id ops .done st=some (keep (cx.rg id) st):=nr rfl
def Xc1(cx:Cx)(id:Nat)(ops:List Oper)(i:Nat)(p:Xay)(st:St):X2 cx id ops (.take i p) st=Xb (ZU ops i) (λo=>U7 (XbH o.op) (Xb (Zd cx ops st o) (λs=>X2 cx id ops p s))):=by
 simp only[X2,XX]
def Xd5(cx:Cx)(id:Nat)(ops:List Oper)(i:Nat)(p:Xay)(st:St):X2 cx id ops (.one i p) st=Xb (ZU ops i) (λo=>U7 (Qi cx o.op||ZJ cx st o.op) (Xb (Zd cx ops st o) (λs=>X2 cx id ops p s))):=by
 simp only[X2,XX]
def Xd6(cx:Cx)(id:Nat)(ops:List Oper)(i:Nat)(p q:Xay)(st:St):X2 cx id ops (.alt i p q) st=XdT (X2 cx id ops (.one i p) st) (X2 cx id ops q st):=nr rfl
def Xd7(o:Oper)(r:List Oper):ZU (o :: r) 0=some o:=nr rfl
def Xd8(o:Oper)(r:List Oper)(n:Nat):ZU (o :: r) (n+1)=ZU r n:=nr rfl
def Xd9(x:Option St):U7 true x=x:=nr rfl
@[congr] def Xi3{p p':Bool}{x:Option St}(h:p=p'):U7 p x=U7 p' x:=by rw[h]
def Xea(x:Option St):XdT x x=x:=by unfold XdT; rw[if_pos rfl]
def Xb9(cx:Cx)(ops:List Oper)(st:St)(d:Option Nat)(op:Op)(t:TypeId)(pos:String)(aft:Array Edge):Zd cx ops st ⟨d,op,t,pos,aft,none⟩=Xd cx st ⟨d,op,t,pos,aft,none⟩:=nr rfl
def UP(cx:Cx)(ops:List Oper)(st:St)(o:Oper)(want:Bool)(g:Nat)(a:AV):Option St:=match a with
 | .b b=>if b=want then Xd cx st o else some (st.put? o.dst .no)
 | .no=>some (st.put? o.dst .no)
 | _=>none
@[congr] def Xi4{cx:Cx}{ops:List Oper}{st:St}{o:Oper}{want:Bool}{g:Nat}{a a':AV}(h:a=a'):UP cx ops st o want g a=UP cx ops st o want g a':=by rw[h]
def Xi5(cx:Cx)(ops:List Oper)(st:St)(o:Oper)(want:Bool)(d:Option Nat):Option St:=match d with
 | some d=>UP cx ops st o want d (st.env d)
 | none=>none
def Xeb(cx:Cx)(ops:List Oper)(st:St)(o:Oper)(want:Bool)(d:Nat):Xi5 cx ops st o want (some d)=UP cx ops st o want d (st.env d):=nr rfl
def Xg1(cx:Cx)(ops:List Oper)(st:St)(o:Oper)(g:Nat):UP cx ops st o true g (.b true)=Xd cx st o:=nr rfl
def Xg2(cx:Cx)(ops:List Oper)(st:St)(o:Oper)(g:Nat):UP cx ops st o false g (.b false)=Xd cx st o:=nr rfl
def Xg3(cx:Cx)(ops:List Oper)(st:St)(o:Oper)(g:Nat):UP cx ops st o true g (.b false)=some (st.put? o.dst .no):=nr rfl
def Xg4(cx:Cx)(ops:List Oper)(st:St)(o:Oper)(g:Nat):UP cx ops st o false g (.b true)=some (st.put? o.dst .no):=nr rfl
def Xg5(cx:Cx)(ops:List Oper)(st:St)(o:Oper)(want:Bool)(g:Nat):UP cx ops st o want g .no=some (st.put? o.dst .no):=nr rfl
def stU(cx:Cx)(st:St)(o:Oper):Option St:=Xd cx st o
def skS(st:St)(o:Oper):Option St:=some (st.put? o.dst .no)
@[congr] def XkG{cx:Cx}{st st':St}{o:Oper}(h:st=st'):stU cx st o=stU cx st' o:=by rw[h]
@[congr] def XkH{st st':St}{o:Oper}(h:st=st'):skS st o=skS st' o:=by rw[h]
def Xi6(cx:Cx)(ops:List Oper)(l:List (Nat×AV))(m:List (Nat×List AV))(o:Oper)(want:Bool)(g:Nat)(b:Bool)(h:E l g=.b b) :
  UP cx ops ⟨E l,B m⟩ o want g (.b b) =
   if b=true then(if want=true then stU cx ⟨E ((g,.b true) :: l),B m⟩ o else skS ⟨E ((g,.b true) :: l),B m⟩ o)
   else(if want=true then skS ⟨E ((g,.b false) :: l),B m⟩ o else stU cx ⟨E ((g,.b false) :: l),B m⟩ o):=by
 have hs:(⟨E ((g,.b b) :: l),B m⟩:St)=⟨E l,B m⟩:=by
  have:=XdD ⟨E l,B m⟩ g
  simp only[upE,XcV,h] at this
  exact this
 cases b<;>cases want<;>simp only[UP,stU,skS,hs,if_true,if_false,Bool.false_eq_true,reduceCtorEq]
def Xca(cx:Cx)(ops:List Oper)(st:St)(d:Option Nat)(op:Op)(t:TypeId)(pos:String)(aft:Array Edge)(j:Nat)(want:Bool):Zd cx ops st ⟨d,op,t,pos,aft,some (j,want)⟩=Xi5 cx ops st ⟨d,op,t,pos,aft,some (j,want)⟩ want (ZK ops j):=by
 unfold Zd wanted Xi5 UP
 simp only
 cases ZK ops j with
 | none=>rfl
 | some d =>
  simp only
  cases st.env d with
  | b b =>
   cases b<;>cases want<;>rfl
  | _=>rfl
def Xap(x:Option (Ex×St))(k:St->Option (Ex×St)):Option (Ex×St):=match x with
 | some (.nor,st)=>k st
 | some (.ex j,st)=>some (.ex j,st)
 | some (.ret,st)=>some (.ret,st)
 | none=>none
@[congr] def Xj4{x y:Option (Ex×St)}{k:St->Option (Ex×St)}(h:x=y):Xap x k=Xap y k:=by rw[h]
def XdE(st:St)(k:St->Option (Ex×St)):Xap (some (.nor,st)) k=k st:=nr rfl
def XdF(st:St)(k:St->Option (Ex×St)):Xap (some (.ret,st)) k=some (.ret,st):=nr rfl
def Xft(j:Nat)(st:St)(k:St->Option (Ex×St)):Xap (some (.ex j,st)) k=some (.ex j,st):=nr rfl
def Xfu(k:St->Option (Ex×St)):Xap none k=none:=nr rfl
def Xg6(c:Prop)[Decidable c](x y:Option (Ex×St))(k:St->Option (Ex×St)):Xap (if c then x else y) k=if c then Xap x k else Xap y k:=by split<;>rfl
def Xec(cx:Cx)(blk:Nat)(a b:Code)(st:St):Xh cx blk (.seq a b) st=Xap (Xh cx blk a st) (λs=>Xh cx blk b s):=by
 simp only[Xh]
 cases Xh cx blk a st with
 | none=>rfl
 | some x=>obtain⟨e,s⟩:=x; cases e<;>rfl
def Xil(id:Nat)(x:Option (Ex×St)):Option (Ex×St):=match x with
 | some (.ex j,st)=>if j=id then some (.nor,st) else some (.ex j,st)
 | some (.nor,st)=>some (.nor,st)
 | some (.ret,st)=>some (.ret,st)
 | none=>none
def Xg7(id:Nat)(st:St):Xil id (some (.nor,st))=some (.nor,st):=nr rfl
def Xg8(id:Nat)(st:St):Xil id (some (.ret,st))=some (.ret,st):=nr rfl
def Xi7(id j:Nat)(st:St):Xil id (some (.ex j,st))=if j=id then some (.nor,st) else some (.ex j,st):=nr rfl
def Xfv(id:Nat):Xil id none=none:=nr rfl
def Xg9(id:Nat)(c:Prop)[Decidable c](x y:Option (Ex×St)):Xil id (if c then x else y)=if c then Xil id x else Xil id y:=by split<;>rfl
def Xcb(cx:Cx)(blk id:Nat)(c:Code)(st:St):Xh cx blk (.block id c) st=Xil id (Xh cx id c st):=by
 simp only[Xh]
 cases Xh cx id c st with
 | none=>rfl
 | some x=>obtain⟨e,s⟩:=x; cases e<;>rfl
def Xc2(a:AV)(x y:Option (Ex×St)):Option (Ex×St):=match a with
 | .b b=>if b=true then x else y
 | _=>none
@[congr] def Xi8{a a':AV}{x y:Option (Ex×St)}(h:a=a'):Xc2 a x y=Xc2 a' x y:=by rw[h]
def Xa8(x y:Option (Ex×St)):Xc2 (.b true) x y=x:=nr rfl
def Xaq(x y:Option (Ex×St)):Xc2 (.b false) x y=y:=nr rfl
def Xi9(b:Bool)(x y:Option (Ex×St)):Xc2 (.b b) x y=if b=true then x else y:=nr rfl
def Xc3(cx:Cx)(blk:Nat)(c:Operand)(a b:Code)(st:St):Xh cx blk (.cond c a b) st=Xc2 (view st c) (Xh cx blk a st) (Xh cx blk b st):=by
 simp only[Xh,Xc2]
 cases view st c with
 | b x=>cases x<;>rfl
 | _=>rfl
noncomputable def UQ(cx:Cx)(blk:Nat)(c:Code)(n:Nat)(st:St):Option (Ex×St):=Xh6 (λst=>Xh cx blk c (keep (cx.live blk) st)) n st
@[congr] def Xja{cx:Cx}{blk:Nat}{c:Code}{n:Nat}{st st':St}(h:st=st'):UQ cx blk c n st=UQ cx blk c n st':=by rw[h]
def Xc4(cx:Cx)(blk:Nat)(c:Code)(st:St):Xh cx blk (.loop c) st=UQ cx blk c cx.rounds st:=nr rfl
def Uv(cx:Cx)(blk:Nat)(c:Code)(n:Nat)(st:St):UQ cx blk c (n+1) st=Xap (Xh cx blk c (keep (cx.live blk) st)) (λs=>UQ cx blk c n s):=by
 simp only[UQ,Xh6]
 cases Xh cx blk c (keep (cx.live blk) st) with
 | none=>rfl
 | some x=>obtain⟨e,s⟩:=x; cases e<;>rfl
def Xim(cx:Cx)(md:List Md)(rv:List ResultVar)(x:Option (Ex×St)):Option (AV×List AV):=match x with
 | some (.nor,st)=>Ze cx md rv st
 | some (.ret,st)=>Ze cx md rv st
 | _=>none
def Xha(cx:Cx)(md:List Md)(rv:List ResultVar)(st:St):Xim cx md rv (some (.nor,st))=Ze cx md rv st:=nr rfl
def Xhb(cx:Cx)(md:List Md)(rv:List ResultVar)(st:St):Xim cx md rv (some (.ret,st))=Ze cx md rv st:=nr rfl
def Xfw(cx:Cx)(md:List Md)(rv:List ResultVar):Xim cx md rv none=none:=nr rfl
def Xhc(cx:Cx)(md:List Md)(rv:List ResultVar)(c:Prop)[Decidable c](x y:Option (Ex×St)):Xim cx md rv (if c then x else y)=if c then Xim cx md rv x else Xim cx md rv y:=by split<;>rfl
def Xfx(cx:Cx)(md:List Md)(f:Func)(args:List AV)(c:Code)(rv:List ResultVar)(h:f.body=some c)(hr:f.results=rv.toArray)(hz:cx.nz=false):Qk cx md f args=Xim cx md rv (Xh cx 0 c (QG md args)):=by
 simp only[Qk,h,hr,evB,hz,Bool.false_eq_true,if_false]
 cases Xh cx 0 c (QG md args) with
 | none=>rfl
 | some x=>obtain⟨e,s⟩:=x; cases e<;>rfl
@[congr] def XkI{cx:Cx}{c:Code}{K:St->Option (Ex×St)}{st st':St}(h:st=st'):evN cx c K st=evN cx c K st':=by rw[h]
def Xhd(cx:Cx)(K:St->Option (Ex×St))(st:St):evN cx .skip K st=K st:=nr rfl
def Xjb(cx:Cx)(a b:Code)(K:St->Option (Ex×St))(st:St):evN cx (.seq a b) K st=evN cx a (λs=>evN cx b K s) st:=nr rfl
noncomputable def Xjc(a:AV)(x y:Option (Ex×St)):Option (Ex×St):=match a with
 | .b true=>x
 | .b false=>y
 | .ub=>XcE x y
 | _=>none
@[congr] def Xj5{a a':AV}{x y:Option (Ex×St)}(h:a=a'):Xjc a x y=Xjc a' x y:=by rw[h]
def Xcc(x y:Option (Ex×St)):Xjc (.b true) x y=x:=nr rfl
def Xa9(x y:Option (Ex×St)):Xjc (.b false) x y=y:=nr rfl
def Xjd(x y:Option (Ex×St)):Xjc .ub x y=XcE x y:=nr rfl
def Xed(x:Option (Ex×St)):XcE x x=x:=by unfold XcE; rw[if_pos rfl]
def Xhe(cx:Cx)(c:Operand)(a b:Code)(K:St->Option (Ex×St))(st:St):evN cx (.cond c a b) K st=Xjc (view st c) (evN cx a K st) (evN cx b K st):=by
 simp only[evN,Xjc]
 cases view st c with
 | b x=>cases x<;>rfl
 | _=>rfl
def Xje(cx:Cx)(K:St->Option (Ex×St))(st:St):evN cx .ret K st=some (.ret,keep cx.rets st):=nr rfl
def Xee(cx:Cx)(id:Nat)(ops:Array Oper)(d:Bool)(K:St->Option (Ex×St))(st:St):evN cx (.region id ops d) K st=Xap (Xh cx 0 (.region id ops d) st) (λs=>K s):=by
 simp only[evN,XaQ]
 cases Xh cx 0 (.region id ops d) st with
 | none=>rfl
 | some x=>obtain⟨e,s⟩:=x; cases e<;>rfl
def XlL(md:List Md)(p:List AV×St):Option (AV×List AV):=if(p.1.all XR&&(U8 p.2 md 0).all XR&&Qa md (U8 p.2 md 0))=true then some (one p.1,U8 p.2 md 0) else none
def Xlc(cx:Cx)(md:List Md)(rv:List ResultVar)(st:St):Option (List AV)->Option (AV×List AV)
 | some cs=>Xkq md st cs
 | none=>Xb (UO cx st rv) (XlL md)
def Xhf(cx:Cx)(md:List Md)(rv:List ResultVar)(st:St):Ze cx md rv st=Xlc cx md rv st (XaE md st rv):=by
 simp only[Ze,Xlc]
 cases XaE md st rv with
 | some cs=>rfl
 | none =>
  simp only[Xlb,Xb]
  cases UO cx st rv<;>rfl
def Xfy(cx:Cx)(md:List Md)(rv:List ResultVar)(st:St)(cs:List AV):Xlc cx md rv st (some cs)=Xkq md st cs:=nr rfl
def Xfz(cx:Cx)(md:List Md)(rv:List ResultVar)(st:St):Xlc cx md rv st none=Xb (UO cx st rv) (XlL md):=nr rfl
def Xjf(md:List Md)(st:St)(cs:List AV):Xkq md st cs=if(cs.all XC&&!cs.isEmpty&&(U8 st md 0).all XR&&Qa md (U8 st md 0))=true then some (.tup [.agg cs],U8 st md 0) else none:=nr rfl
def XfA(md:List Md)(st:St):XaE md st []=none:=nr rfl
def XfB(md:List Md)(st:St)(t:Nat):XaE md st [.tmp t]=npP md st (st.env t):=nr rfl
def Xef(md:List Md)(st:St)(a t:Nat):XaE md st [.cell a t]=none:=nr rfl
def XfC(md:List Md)(st:St)(a b:ResultVar)(l:List ResultVar):XaE md st (a :: b :: l)=none:=by cases a<;>rfl
def XlM(md:List Md)(st:St)(q:Pl):npP md st (.p q)=if(!q.e&&q.path.isEmpty&&q.c==0&&decide (md.length<=q.r))=true then some (st.bx q.r) else none:=nr rfl
def Xjg(md:List Md)(l:List AV)(st:St):XlL md (l,st)=if(l.all XR&&(U8 st md 0).all XR&&Qa md (U8 st md 0))=true then some (one l,U8 st md 0) else none:=nr rfl
def Xhg(cx:Cx)(st:St):UO cx st []=some ([],st):=nr rfl
def XlN(v:AV)(p:List AV×St):Option (List AV×St):=some (v :: p.1,p.2)
def Xjh(v:AV)(l:List AV)(st:St):XlN v (l,st)=some (v :: l,st):=nr rfl
def XfD(cx:Cx)(st:St)(t:Tmp)(r:List ResultVar):UO cx st (.tmp t :: r)=Xb (take st (.tmp t)) (λp=>Xb (UO cx p.2 r) (XlN p.1)):=by
 simp only[UO,Xb]
 cases take st (.tmp t) with
 | none=>rfl
 | some p=>obtain⟨v,s⟩:=p; simp only; cases UO cx s r<;>rfl
def XfE(cx:Cx)(st:St)(a t:Nat)(r:List ResultVar):UO cx st (.cell a t :: r)=Xb (cx.T t) (λti=>Xb (loadAt st ti (view st (.tmp a))) (λv=>Xb (takeVal st v) (λp=>Xb (UO cx p.2 r) (XlN p.1)))):=by
 simp only[UO,XX,Xb]
 cases cx.T t with
 | none=>rfl
 | some ti =>
  simp only
  cases loadAt st ti (view st (.tmp a)) with
  | none=>rfl
  | some v =>
   simp only
   cases takeVal st v with
   | none=>rfl
   | some p=>obtain⟨v,s⟩:=p; simp only; cases UO cx s r<;>rfl
def Xji:List Md->List AV->Nat->List (Nat×AV)
 | .rw _ :: ms,_ :: as,j=>(j,.p ⟨false,j,[],0⟩) :: Xji ms as (j+1)
 | .ro _ :: ms,a :: as,j=>(j,a) :: Xji ms as (j+1)
 | .mv :: ms,a :: as,j=>(j,a) :: Xji ms as (j+1)
 | _,_,_=>[]
def Xjj:List Md->List AV->Nat->List (Nat×List AV)
 | .rw _ :: ms,a :: as,j=>(j,cellsOf a) :: Xjj ms as (j+1)
 | .ro _ :: ms,_ :: as,j=>Xjj ms as (j+1)
 | .mv :: ms,_ :: as,j=>Xjj ms as (j+1)
 | _,_,_=>[]
def Xhh(ms:List Md)(as:List AV):QG ms as=⟨E (Xji ms as 0),B (Xjj ms as 0)⟩:=by
 have h1:∀(ms:List Md) (as:List AV) (j t:Nat),Ys ms as j t=E (Xji ms as j) t:=by
  intro ms
  induction ms with
  | nil=>intro as j t; cases as<;>rfl
  | cons m ms ih =>
   intro as j t
   cases as with
   | nil=>cases m<;>rfl
   | cons a as=>cases m<;>simp only[Ys,Xji,UL,ih]
 have h2:∀(ms:List Md) (as:List AV) (j t:Nat),Yh ms as j t=B (Xjj ms as j) t:=by
  intro ms
  induction ms with
  | nil=>intro as j t; cases as<;>rfl
  | cons m ms ih =>
   intro as j t
   cases as with
   | nil=>cases m<;>rfl
   | cons a as=>cases m<;>simp only[Yh,Xjj,Xam,ih]
 simp only[QG,St.mk.injEq]
 exact⟨funext (h1 ms as 0),funext (h2 ms as 0)⟩
section
variable (cx : Cx) (t : TypeId) (pos : String) (aft : Array Edge) (g : Option (Nat × Bool)) (st : St)
def ZA(d:Nat)(x:Option AV):XbB st (some d) x=Xb x (λv=>some (st.put d v)):=by cases x<;>rfl
def XdG(d:Nat)(x:Option (AV×St)):Xkp (some d) x=Xb x (λy=>some (y.2.put d y.1)):=by cases x<;>rfl
def XkJ(d:Option Nat)(x:Option (AV×St)):XlA d x=Xb x (λy=>putN d y.2 y.1 (QS y.1)):=by cases x<;>rfl
def XfF(d:Option Nat)(st:St)(r:AV):putN d st r none=some (st.put? d r):=nr rfl
def XfG(d:Nat)(st:St)(r:AV)(cs:List AV):putN (some d) st r (some cs)=YP st d cs:=nr rfl
def Xjk(cs:List AV):QS (.tup [.agg cs])=some cs:=nr rfl
def Xhi:QS (.tup [])=none:=nr rfl
def Xhj(a b:AV)(l:List AV):QS (.tup (a :: b :: l))=none:=by cases a<;>rfl
def Xjl(st:St)(t:Nat):AV->Option (AV×St)
 | .tup (v :: vs)=>some (.tup (v :: vs),⟨upd st.env t .u,st.bx⟩)
 | _=>none
def XfH(st:St)(t:Nat)(v:AV)(vs:List AV):Xjl st t (.tup (v :: vs))=some (.tup (v :: vs),⟨upd st.env t .u,st.bx⟩):=nr rfl
def XfI(st:St)(t:Nat):XcD st (.tmp t)=Xjl st t (st.env t):=by
 simp only[XcD,Xjl]
 cases st.env t with
 | tup vs=>cases vs<;>rfl
 | _=>rfl
def Xjm(d:Nat)(x:Operand):Xd cx st ⟨some d,.move x,t,pos,aft,g⟩=if cx.al.contains d=true then Xb (XcD st x) (λy=>some (y.2.put d y.1)) else some (st.put d (fix (zOf cx t) (view st x))):=by
 simp only[Xd,alD,XdG,St.put?]
def XfJ(d:Nat)(x:Operand):Xd cx st ⟨some d,.assign x,t,pos,aft,g⟩ =
  if cx.al.contains d=true then some (st.put d (fix (zOf cx t) (view st x))) else Xb (take st x) (λy=>some (y.2.put d (fix (zOf cx t) y.1))):=by
 simp only[Xd,XX,Zr]
def Xc5(st:St)(d:Nat)(a x y:AV):Option St:=match a with
 | .b b=>if b=true then some (st.put d x) else some (st.put d y)
 | _=>none
@[congr] def Xjn{st:St}{d:Nat}{a a' x y:AV}(h:a=a'):Xc5 st d a x y=Xc5 st d a' x y:=by rw[h]
def Xba(d:Nat)(x y:AV):Xc5 st d (.b true) x y=some (st.put d x):=nr rfl
def Xar(d:Nat)(x y:AV):Xc5 st d (.b false) x y=some (st.put d y):=nr rfl
def Xjo(d:Nat)(b:Bool)(x y:AV):Xc5 st d (.b b) x y=if b=true then some (st.put d x) else some (st.put d y):=nr rfl
def Xjp(d:Nat)(c x y:Operand):Xd cx st ⟨some d,.pick c x y,t,pos,aft,g⟩=Xc5 st d (view st c) (view st x) (view st y):=by
 simp only[Xd,Xc5,St.put?]
 cases view st c with
 | b x=>cases x<;>rfl
 | _=>rfl
def Xhk(d:Nat)(t':TypeId):Xd cx st ⟨some d,.alloc t',t,pos,aft,g⟩=Xb (cx.T t') (λti=>YP st d ti.zero):=XX _ _
def XkK(d:Nat)(t':TypeId)(x:Operand):Xd cx st ⟨some d,.box t' x,t,pos,aft,g⟩=Xb (cx.T t') (λti=>if cx.fz.contains d=true then Xb (XdS ti (fix ti.z (view st x))) (λcs=>Qh st d cs) else if cx.al.contains d=true then Xb (XdS ti (fix ti.z (view st x))) (λcs=>YP st d cs) else Xb (take st x) (λy=>Xb (XdS ti (fix ti.z y.1)) λcs=>YP y.2 d cs)):=by
 simp only[Xd,XX,Zr]
def Xjq(d:Nat)(t':TypeId)(a:Operand):Xd cx st ⟨some d,.load t' a,t,pos,aft,g⟩=Xb (cx.T t') (λti=>Xb (loadAt st ti (view st a)) (λv=>some (st.put d v))):=by
 simp only[Xd,XX,ZA]
def Xhl(t':TypeId)(a x:Operand):Xd cx st ⟨none,.store t' a x,t,pos,aft,g⟩=Xb (cx.T t') (λti=>Xb (take st x) (λy=>storeAt y.2 ti (view y.2 a) y.1)):=by
 simp only[Xd,XX,Option.isSome_none,Bool.false_eq_true,if_false]
def Xc6(d:Nat)(x:Operand):Xd cx st ⟨some d,.nilCheck x,t,pos,aft,g⟩=Xb (Xbg (view st x)) (λv=>some (st.put d v)):=ZA st d _
def Xcd(d:Nat)(t':TypeId)(x:Operand)(f:Nat):Xd cx st ⟨some d,.fieldAddr t' x f,t,pos,aft,g⟩=Xb (cx.T t') (λti=>Xb (QR ti f (view st x)) (λv=>some (st.put d v))):=by
 simp only[Xd,XX,ZA]
def Xhm(d:Nat)(t':TypeId)(x:Operand)(f:Nat):Xd cx st ⟨some d,.field t' x f,t,pos,aft,g⟩=Xb (cx.T t') (λti=>Xb (XbE ti f (view st x)) (λv=>some (st.put d v))):=by
 simp only[Xd,XX,ZA]
def Xce(d:Nat)(t':TypeId)(x ix:Operand):Xd cx st ⟨some d,.indexAddr t' x ix,t,pos,aft,g⟩=Xb (cx.T t') (λti=>Xb (ZI st ti (view st x) (view st ix)) (λv=>some (st.put d v))):=by
 simp only[Xd,XX,ZA]
def Xhn(d:Nat)(t':TypeId)(x ix:Operand):Xd cx st ⟨some d,.index t' x ix,t,pos,aft,g⟩=Xb (cx.T t') (λti=>Xb (QC ti (view st x) (view st ix)) (λv=>some (st.put d v))):=by
 simp only[Xd,XX,ZA]
def XkL(d:Nat)(op:BinOp)(xt:TypeId)(x y:Operand)(yt:TypeId):Xd cx st ⟨some d,.binOp op xt x y yt,t,pos,aft,g⟩=Xb (XaA (cx.T xt) (cx.eqs xt) op (view st x) (view st y)) (λv=>some (st.put d v)):=ZA st d _
def XlO(d:Nat)(op:UnOp)(xt:TypeId)(x:Operand):Xd cx st ⟨some d,.unOp op xt x,t,pos,aft,g⟩=Xb (unV op (view st x)) (λv=>some (st.put d v)):=ZA st d _
def Xeg(d:Nat)(a b:TypeId)(x:Operand):Xd cx st ⟨some d,.convert a b x,t,pos,aft,g⟩=Xb (cx.T a) (λta=>Xb (cx.T b) (λtb=>Xb (XdP st ta tb (view st x)) (λv=>some (st.put d v)))):=by
 simp only[Xd,XX,ZA]
def XfK(src:TI)(k:IntKind)(a:AV):XdP st src (.int k) a=XcC st src (.int k) a:=nr rfl
def XfL(src:TI)(a:AV):XdP st src .str a=XcC st src .str a:=nr rfl
def Xho(z n:Nat)(zero:List AV)(src:TI)(a:AV):XdP st src (.slice z n zero) a=XbF src z zero a:=nr rfl
def Xhp(z:Nat)(zero:List AV)(b:ByteArray):XbF .str z zero (.s b)=if z=1/\Xko zero=true/\b.size<=9223372036854775807 then some (.sl .mut 1 (b.data.toList.map Uf)) else none:=nr rfl
def Xhq(d:Nat)(xt:TypeId)(x:Operand)(lo hi:Option Operand):Xd cx st ⟨some d,.slice xt x lo hi none,t,pos,aft,g⟩=Xb (cx.T xt) (λti=>Xb (QO ti (view st x) (lo.map (view st)) (hi.map (view st))) (λv=>some (st.put d v))):=by
 simp only[Xd,XX,ZA]
def Xc7(d f:Nat)(caps:List Operand):Xd cx st ⟨some d,.makeFunc (.func f) (List.toArray []) (List.toArray caps),t,pos,aft,g⟩=if(caps.map (view st)).all Zh=true then some (st.put d (.fn f (caps.map (view st)))) else none:=by
 simp only[Xd,List.isEmpty_toArray,List.isEmpty_nil,Bool.true_and]; rfl
def Xeh(d:Nat)(x:Operand)(j:Nat):Xd cx st ⟨some d,.extract x j,t,pos,aft,g⟩=Xb (ZT st x j) (λy=>some (y.2.put d y.1)):=XdG d _
def Xhr(d:Nat)(t':TypeId)(parts:List (Nat×Operand)):Xd cx st ⟨some d,.build t' (List.toArray parts),t,pos,aft,g⟩=Xb (cx.T t') (λti=>Xb (U6 ti st parts) (λv=>some (st.put d v))):=by
 simp only[Xd,XX,ZA]
def Xbw(d:Nat)(t':TypeId)(len:Nat)(parts:List (Nat×Operand)):Xd cx st ⟨some d,.buildSlice t' len (List.toArray parts),t,pos,aft,g⟩=Xb (cx.T t') (λti=>Xb (YW ti st len parts) (λy=>some (y.2.put d y.1))):=by
 simp only[Xd,XX,XdG,St.put?]
def Xcf(d:Nat)(t':TypeId)(l c:Operand):Xd cx st ⟨some d,.makeSlice t' l c,t,pos,aft,g⟩=Xb (cx.T t') (λti=>Xb (XdR ti (view st l) (view st c)) (λv=>some (st.put d v))):=by
 simp only[Xd,XX,ZA]
def XkM(d:Nat)(x:Operand)(tx:TypeId)(ts:List TypeId):Xd cx st ⟨some d,.call {callee:=.builtin .len,args:=List.toArray [x],argTypes:=List.toArray (tx :: ts)},t,pos,aft,g⟩=Xb (cx.T tx) (λti=>Xb (Xj1 st ti (view st x)) (λn=>some (st.put d (.i .i64 n)))):=by
 simp only[Xd,X5,XX]; rfl
def XfM(d:Nat)(x y:Operand)(tx ty:TypeId):Xd cx st ⟨some d,.call {callee:=.builtin .append,args:=List.toArray [x,y],argTypes:=List.toArray [tx,ty]},t,pos,aft,g⟩=Xb (cx.T tx) (λti=>Xb (cx.T ty) (λtj=>if XbG tj=true then Xb (Ug ti st x y) (λy=>some (y.2.put d y.1)) else none)):=by
 simp only[Xd,X5,XX,XdG]
def Xhs(x:Operand)(tx:TypeId):Xd cx st ⟨none,.call {callee:=.builtin .clear,args:=List.toArray [x],argTypes:=List.toArray [tx]},t,pos,aft,g⟩=Xb (cx.T tx) (λti=>UA ti st (view st x)):=by
 simp only[Xd,X5,XX,noD]
def XkN(d:Nat)(xs:List Operand)(at_:Array TypeId):Xd cx st ⟨some d,.call {callee:=.builtin .min,args:=List.toArray xs,argTypes:=at_},t,pos,aft,g⟩=Xb (XdQ (λa b=>if b<a then b else a) (xs.map (view st))) (λv=>some (st.put d v)):=by
 simp only[Xd,X5,ZA]
def XkO(d:Nat)(xs:List Operand)(at_:Array TypeId):Xd cx st ⟨some d,.call {callee:=.builtin .max,args:=List.toArray xs,argTypes:=at_},t,pos,aft,g⟩=Xb (XdQ (λa b=>if b>a then b else a) (xs.map (view st))) (λv=>some (st.put d v)):=by
 simp only[Xd,X5,ZA]
def Xjr(d:Option Nat)(f:Operand)(args:List Operand)(ats:List TypeId):Xd cx st ⟨d,.call {callee:=.value f,args:=List.toArray args,argTypes:=List.toArray ats},t,pos,aft,g⟩ =
  Xb (QB cx st f ats args) (λy=>putN d y.2 y.1 (QS y.1)):=by
 simp only[Xd,X5,XkJ]
def Xht(f:Operand)(ts:List TypeId)(xs:List Operand):QB cx st f ts xs=Xb (ZS cx st f ts xs) (λp=>Xb (cx.fns p.1) (λfs=>U3 cx st p.1 fs f ts xs)):=by
 simp only[QB,Xb]
 cases ZS cx st f ts xs with
 | none=>rfl
 | some p=>obtain⟨g,as⟩:=p; simp only; cases cx.fns g<;>rfl
def Xjs(f:Operand)(ts:List TypeId)(xs:List Operand):ZS cx st f ts xs=fnV (view st f) (XbA cx ts xs (xs.map (view st))):=nr rfl
def Xhu(g:Nat)(md:List Md)(F:List AV->Option (AV×List AV))(f:Operand)(ts:List TypeId)(xs:List Operand):U3 cx st g ⟨md,F,false⟩ f ts xs=U2 cx st g ⟨md,F,false⟩ f ts xs:=nr rfl
def Xhv(g:Nat)(md:List Md)(F:List AV->Option (AV×List AV))(f:Operand)(ts:List TypeId)(xs:List Operand):U3 cx st g ⟨md,F,true⟩ f ts xs=Xb (weakAll st md xs) (λs=>U2 cx s g ⟨md,F,true⟩ f ts xs):=by
 simp only[U3,if_true,Xb]
 cases weakAll st md xs<;>rfl
def rwK(cx:Cx)(st:St)(g:Nat)(fs:FS)(f:Operand)(ts:List TypeId)(xs:List Operand):Option (Nat×Nat)->Option (AV×St)
 | some (k,n)=>XaD cx st g fs k n f ts xs
 | none=>U1 cx st g fs f ts xs
def Xjt(g:Nat)(md:List Md)(F:List AV->Option (AV×List AV))(b:Bool)(f:Operand)(ts:List TypeId)(xs:List Operand):U2 cx st g ⟨md,F,b⟩ f ts xs=rwK cx st g ⟨md,F,b⟩ f ts xs (XaB 0 md):=by
 unfold U2 rwK
 simp only
 cases XaB 0 md with
 | none=>rfl
 | some p=>rfl
def Xhw(g:Nat)(fs:FS)(f:Operand)(ts:List TypeId)(xs:List Operand)(k n:Nat):rwK cx st g fs f ts xs (some (k,n))=XaD cx st g fs k n f ts xs:=nr rfl
def Xhx(g:Nat)(fs:FS)(f:Operand)(ts:List TypeId)(xs:List Operand):rwK cx st g fs f ts xs none=U1 cx st g fs f ts xs:=nr rfl
def Xhy(k:Nat):XaB k []=none:=nr rfl
def Xju(k n:Nat)(ms:List Md):XaB k (.ro n :: ms)=XaB (k+1) ms:=nr rfl
def Xjv(k:Nat)(ms:List Md):XaB k (.mv :: ms)=XaB (k+1) ms:=nr rfl
def Xjw(k n:Nat)(ms:List Md):XaB k (.rw n :: ms)=some (k,n):=nr rfl
def inO(a:Option AV)(l:Option (List AV)):Option (List AV):=match a,l with
 | some a,some l=>some (a :: l)
 | _,_=>none
def Xhz(a:AV)(l:List AV):inO (some a) (some l)=some (a :: l):=nr rfl
def Xei(own:Bool)(av:Option (Bool×Nat))(ys:List (AV×List (Option (Pl×Bool)))):Yr own av st [] [] ys=some []:=nr rfl
def Xc8(own:Bool)(av:Option (Bool×Nat))(m:Md)(ms:List Md)(a:AV)(as:List AV)(ys:List (AV×List (Option (Pl×Bool)))):Yr own av st (m :: ms) (a :: as) ys=inO (QQ own av st m a (ys.headD (.u,[]))) (Yr own av st ms as ys.tail):=by
 simp only[Yr,inO]
 cases QQ own av st m a (ys.headD (.u,[])) with
 | none=>rfl
 | some b=>simp only; cases Yr own av st ms as ys.tail<;>rfl
def XhA(own:Bool)(av:Option (Bool×Nat))(n:Nat)(a:AV)(y:AV×List (Option (Pl×Bool))):QQ own av st (.ro n) a y=Za own av st a:=nr rfl
def XhB(own:Bool)(av:Option (Bool×Nat))(a:AV)(x:AV)(l:List (Option (Pl×Bool))):QQ own av st .mv a (x,l)=some x:=nr rfl
def rwB(n:Nat)(pl:Pl)(w:Bool)(cells:List AV):Option AV:=if(w&&decide (pl.c+n<=cells.length)&&((cells.drop pl.c).take n).all XC)=true then some (.agg ((cells.drop pl.c).take n)) else none
def XhC(own:Bool)(av:Option (Bool×Nat))(n:Nat)(pl:Pl)(y:AV×List (Option (Pl×Bool))):QQ own av st (.rw n) (.p pl) y=Xb (node st pl) (rwB n pl (Xt st pl)):=by
 simp only[QQ,Xb,rwB]
 cases node st pl<;>rfl
def rwP(cx:Cx)(st:St)(fs:FS)(as:List AV)(k n:Nat):Option AV->Option (AV×St)
 | some (.p pl)=>XaO cx st fs as k n pl
 | _=>none
def XlP(fs:FS)(as:List AV)(k n:Nat)(pl:Pl):rwP cx st fs as k n (some (.p pl))=XaO cx st fs as k n pl:=nr rfl
def Xjx(g:Nat)(fs:FS)(k n:Nat)(f:Operand)(ts:List TypeId)(xs:List Operand):XaD cx st g fs k n f ts xs=Xb (ZS cx st f ts xs) (λp=>if p.1=g/\XaC k fs.md=true then rwP cx st fs p.2 k n p.2[k]? else none):=by
 simp only[XaD,Xb]
 cases ZS cx st f ts xs with
 | none=>rfl
 | some p =>
  obtain⟨g',as⟩:=p
  simp only
  split
  ·cases as[k]? with
   | none=>rfl
   | some a=>cases a<;>rfl
  ·rfl
def rwA(st:St)(pl:Pl)(n:Nat)(r:AV):Option AV->Option (AV×St)
 | some (.agg cs)=>Xb (node st pl) (λcells=>some (r,(Xf st pl (cells.take pl.c++cs++cells.drop (pl.c+n))).cut pl n))
 | _=>none
def Xjy(pl:Pl)(n:Nat)(r:AV)(cs:List AV):rwA st pl n r (some (.agg cs))=Xb (node st pl) (λcells=>some (r,(Xf st pl (cells.take pl.c++cs++cells.drop (pl.c+n))).cut pl n)):=nr rfl
def rwR(st:St)(pl:Pl)(k n:Nat)(p:AV×List AV):Option (AV×St):=rwA st pl n p.1 p.2[k]?
def XkP(pl:Pl)(k n:Nat)(r:AV)(os:List AV):rwR st pl k n (r,os)=rwA st pl n r os[k]?:=nr rfl
def XhD(md:List Md)(F:List AV->Option (AV×List AV))(b:Bool)(as:List AV)(k n:Nat)(pl:Pl):XaO cx st ⟨md,F,b⟩ as k n pl=Xb (Yr (!b) (some (pl.e,pl.r)) st md as []) (λbs=>Xb (F bs) (rwR st pl k n)):=by
 simp only[XaO,Xb,rwR]
 cases Yr (!b) (some (pl.e,pl.r)) st md as [] with
 | none=>rfl
 | some bs =>
  simp only
  cases F bs with
  | none=>rfl
  | some p =>
   obtain⟨r,os⟩:=p
   simp only[rwA]
   cases os[k]? with
   | none=>rfl
   | some a =>
    cases a<;>try rfl
    simp only[Xb]
    cases node st pl<;>rfl
def Xej(m:Md)(ms:List Md):XaC 0 (m :: ms)=ms.all YO:=nr rfl
def Xek(k n:Nat)(ms:List Md):XaC (k+1) (.ro n :: ms)=XaC k ms:=nr rfl
def Xc9(xs:List Operand):weakAll st [] xs=some st:=by cases xs<;>rfl
def Xel(n:Nat)(ms:List Md)(x:Operand)(xs:List Operand):weakAll st (.ro n :: ms) (x :: xs)=Xb (weakArg st x) (λs=>weakAll s ms xs):=by
 simp only[weakAll,Xb]; cases weakArg st x<;>rfl
def Xem(n:Nat)(ms:List Md)(x:Operand)(xs:List Operand):weakAll st (.rw n :: ms) (x :: xs)=weakAll st ms xs:=by simp only[weakAll]
def Xen(ms:List Md)(x:Operand)(xs:List Operand):weakAll st (.mv :: ms) (x :: xs)=weakAll st ms xs:=by simp only[weakAll]
def Qf(st:St)(x:Operand):AV->Option St
 | .agg cs=>Y9 x cs.length 0 st
 | a=>weakLeaf st a
def XfN(x:Operand):weakArg st x=Qf st x (view st x):=by simp only[weakArg,Qf]; cases view st x<;>rfl
def Xcg(x:Operand)(j:Nat):Y9 x 0 j st=some st:=nr rfl
def Xjz(x:Operand)(n j:Nat)(st:St):AV->Option St
 | .agg cs=>Xb cs[j]? (λa=>Xb (weakLeaf st a) (λs=>Y9 x n (j+1) s))
 | _=>none
def XfO(x:Operand)(n j:Nat)(cs:List AV):Xjz x n j st (.agg cs)=Xb cs[j]? (λa=>Xb (weakLeaf st a) (λs=>Y9 x n (j+1) s)):=nr rfl
def Xch(x:Operand)(n j:Nat):Y9 x (n+1) j st=Xjz x n j st (view st x):=by
 simp only[Y9,Xjz]
 cases view st x with
 | agg cs =>
  simp only[Xb]
  cases cs[j]? with
  | none=>rfl
  | some a=>simp only; cases weakLeaf st a<;>rfl
 | _=>rfl
def XfP(st:St)(pl:Pl)(z':Nat)(cells:List AV):Option AV->Option St
 | some (.sl .mut z es)=>if z'=z then(if Xt st pl then some ((Xf st pl (cells.set pl.c (.sl .app z (Xy es)))).filt (keepP pl.e pl.r pl.path pl.c 1) (keepP pl.e pl.r pl.path pl.c 1)) else none) else none
 | _=>some st
def XjA(st:St)(pl:Pl)(z':Nat):Option (List AV)->Option St
 | some cells=>XfP st pl z' cells cells[pl.c]?
 | none=>some st
def Xda(pl:Pl)(z' lo n:Nat):weakLeaf st (.rf pl z' lo n)=XjA st pl z' (node st pl):=by
 simp only[weakLeaf,XjA]
 cases node st pl with
 | none=>rfl
 | some cells=>rfl
def Xeo(pl:Pl)(z':Nat)(cells:List AV):XjA st pl z' (some cells)=XfP st pl z' cells cells[pl.c]?:=nr rfl
def XfQ(pl:Pl)(z':Nat)(cells:List AV)(z:Nat)(es:List (List AV)):XfP st pl z' cells (some (.sl .mut z es))=if z'=z then(if Xt st pl=true then some ((Xf st pl (cells.set pl.c (.sl .app z (Xy es)))).filt (keepP pl.e pl.r pl.path pl.c 1) (keepP pl.e pl.r pl.path pl.c 1)) else none) else none:=nr rfl
def XhE(pl:Pl)(z':Nat)(cells:List AV)(z:Nat)(es:List (List AV)):XfP st pl z' cells (some (.sl .ro z es))=some st:=nr rfl
def XfR(pl:Pl)(z':Nat)(cells:List AV)(z:Nat)(es:List (List AV)):XfP st pl z' cells (some (.sl .app z es))=some st:=nr rfl
def Xld(ys:List (AV×List (Option (Pl×Bool))))(st:St)(p:AV×List AV):Option (AV×St):=Xb (XI st p.2 ys) (λs=>some (p.1,s))
def XfS(g:Nat)(md:List Md)(F:List AV->Option (AV×List AV))(b:Bool)(f:Operand)(ts:List TypeId)(xs:List Operand):U1 cx st g ⟨md,F,b⟩ f ts xs=Xb (XD cx st md ts xs) (λp=>Xb (ZS cx p.2 f ts xs) (λq=>if q.1=g/\(p.1.all λy=>y.2.all (XeN p.2))=true then Xb (Yr (!b) none p.2 md q.2 p.1) (λbs=>Xb (F bs) (Xld p.1 p.2)) else none)):=by
 simp only[U1,Xb,Xld]
 cases XD cx st md ts xs with
 | none=>rfl
 | some p =>
  obtain⟨ys,s⟩:=p
  simp only
  cases ZS cx s f ts xs with
  | none=>rfl
  | some q =>
   obtain⟨g',as⟩:=q
   simp only[XeP]
   split
   ·cases Yr (!b) none s md as ys with
    | none=>rfl
    | some bs =>
     simp only
     cases F bs with
     | none=>rfl
     | some r =>
      obtain⟨v,os⟩:=r
      simp only
      cases XI s os ys<;>rfl
   ·rfl
def Xdb(ts:List TypeId)(xs:List Operand):XD cx st [] ts xs=some ([],st):=by cases ts<;>cases xs<;>rfl
def XfT(y:AV×List (Option (Pl×Bool)))(q:List (AV×List (Option (Pl×Bool)))×St):Option (List (AV×List (Option (Pl×Bool)))×St):=some (y :: q.1,q.2)
def XhF(y:AV×List (Option (Pl×Bool)))(l:List (AV×List (Option (Pl×Bool))))(s:St):XfT y (l,s)=some (y :: l,s):=nr rfl
def Xep(ms:List Md)(t:TypeId)(ts:List TypeId)(x:Operand)(xs:List Operand):XD cx st (.mv :: ms) (t :: ts) (x :: xs)=Xb (outArg (zOf cx t) st x) (λp=>Xb (XD cx p.2 ms ts xs) (XfT p.1)):=by
 simp only[XD,Md.isMv,if_true,Xb,XfT]
 cases outArg (zOf cx t) st x with
 | none=>rfl
 | some p=>obtain⟨y,s⟩:=p; simp only; cases XD cx s ms ts xs<;>rfl
def Xeq(n:Nat)(ms:List Md)(t:TypeId)(ts:List TypeId)(x:Operand)(xs:List Operand):XD cx st (.ro n :: ms) (t :: ts) (x :: xs)=Xb (XD cx st ms ts xs) (XfT (.u,[])):=by
 simp only[XD,Md.isMv,Bool.false_eq_true,if_false,Xb,XfT]
 cases XD cx st ms ts xs<;>rfl
def Xgj(z:Nat)(st:St)(x:Operand):AV->Option ((AV×List (Option (Pl×Bool)))×St)
 | .agg cs=>match Zc x cs.length 0 st with
  | some (ys,st')=>some ((.agg ys.1,ys.2),st')
  | none=>none
 | a=>match outLeaf st (fix z a) with
  | some (y,st')=>some ((y.1,[y.2]),st')
  | none=>none
def XhG(z:Nat)(x:Operand):outArg z st x=Xgj z st x (view st x):=by
 simp only[outArg,Xgj]
 cases view st x<;>rfl
def XjB(p:(List AV×List (Option (Pl×Bool)))×St):Option ((AV×List (Option (Pl×Bool)))×St):=some ((.agg p.1.1,p.1.2),p.2)
def XhH(l:List AV)(r:List (Option (Pl×Bool)))(s:St):XjB ((l,r),s)=some ((.agg l,r),s):=nr rfl
def Xdc(p:(AV×Option (Pl×Bool))×St):Option ((AV×List (Option (Pl×Bool)))×St):=some ((p.1.1,[p.1.2]),p.2)
def XhI(a:AV)(r:Option (Pl×Bool))(s:St):Xdc ((a,r),s)=some ((a,[r]),s):=nr rfl
def XhJ(z:Nat)(x:Operand)(cs:List AV):Xgj z st x (.agg cs)=Xb (Zc x cs.length 0 st) XjB:=by
 simp only[Xgj,Xb,XjB]
 cases Zc x cs.length 0 st<;>rfl
def XjC(z:Nat)(x:Operand)(pl:Pl)(y lo n:Nat):Xgj z st x (.rf pl y lo n)=Xb (outLeaf st (.rf pl y lo n)) Xdc:=by
 simp only[Xgj,fix,Xb,Xdc]
 cases outLeaf st (.rf pl y lo n)<;>rfl
def XjD(z:Nat)(x:Operand)(t:Tag)(y:Nat)(es:List (List AV)):Xgj z st x (.sl t y es)=Xb (outLeaf st (.sl t y es)) Xdc:=by
 simp only[Xgj,fix,Xb,Xdc]
 cases outLeaf st (.sl t y es)<;>rfl
def XhK(z:Nat)(x:Operand):Xgj z st x .nil=Xb (outLeaf st (fix z .nil)) Xdc:=by
 simp only[Xgj,Xb,Xdc]
 cases outLeaf st (fix z .nil)<;>rfl
def Xdd(x:Operand)(j:Nat):Zc x 0 j st=some (([],[]),st):=nr rfl
def Xle(y:AV×Option (Pl×Bool))(q:(List AV×List (Option (Pl×Bool)))×St):Option ((List AV×List (Option (Pl×Bool)))×St):=some ((y.1 :: q.1.1,y.2 :: q.1.2),q.2)
def XjE(a:AV)(r:Option (Pl×Bool))(l:List AV)(rs:List (Option (Pl×Bool)))(s:St):Xle (a,r) ((l,rs),s)=some ((a :: l,r :: rs),s):=nr rfl
def XlQ(x:Operand)(n j:Nat)(st:St):AV->Option ((List AV×List (Option (Pl×Bool)))×St)
 | .agg cs=>Xb cs[j]? (λa=>Xb (outLeaf st a) (λp=>Xb (Zc x n (j+1) p.2) (Xle p.1)))
 | _=>none
def XhL(x:Operand)(n j:Nat)(cs:List AV):XlQ x n j st (.agg cs)=Xb cs[j]? (λa=>Xb (outLeaf st a) (λp=>Xb (Zc x n (j+1) p.2) (Xle p.1))):=nr rfl
def Xde(x:Operand)(n j:Nat):Zc x (n+1) j st=XlQ x n j st (view st x):=by
 simp only[Zc,XlQ]
 cases view st x with
 | agg cs =>
  simp only[Xb,Xle]
  cases cs[j]? with
  | none=>rfl
  | some a =>
   simp only
   cases outLeaf st a with
   | none=>rfl
   | some p=>obtain⟨y,s⟩:=p; simp only; cases Zc x n (j+1) s<;>rfl
 | _=>rfl
def XlR(st:St)(pl:Pl)(z' lo n:Nat)(cells:List AV):Option AV->Option ((AV×Option (Pl×Bool))×St)
 | some (.sl .mut z es)=>if(lo=0/\n=es.length)/\z'=z then(if Xt st pl=true then some ((.sl .mut z es,some (pl,whole st pl)),(Xf st pl (cells.set pl.c .u)).cut pl 1) else none) else none
 | _=>none
def XhM(pl:Pl)(z' lo n:Nat)(cells:List AV)(z:Nat)(es:List (List AV)):XlR st pl z' lo n cells (some (.sl .mut z es))=if(lo=0/\n=es.length)/\z'=z then(if Xt st pl=true then some ((.sl .mut z es,some (pl,whole st pl)),(Xf st pl (cells.set pl.c .u)).cut pl 1) else none) else none:=nr rfl
def Xer(pl:Pl)(z' lo n:Nat):outLeaf st (.rf pl z' lo n)=Xb (node st pl) (λcells=>XlR st pl z' lo n cells cells[pl.c]?):=by
 simp only[outLeaf,Xb]
 cases node st pl with
 | none=>rfl
 | some cells=>simp only[XlR]; rfl
def XlS(st:St)(z:Nat)(pl:Pl)(y lo n:Nat)(cells:List AV):Option AV->Option St
 | some (.sl .mut z' es)=>if((lo+n<=es.length/\z'=z)/\y=z)/\(Xt st pl&&XeN ((Xf st pl (cells.set pl.c .u)).cut pl 1) (some (pl,whole st pl)))=true then Xv ((Xf st pl (cells.set pl.c .u)).cut pl 1) (.sl .mut z (X1 z lo n es)) (some (pl,whole st pl)) else none
 | _=>none
def XhN(z:Nat)(pl:Pl)(y lo n:Nat)(cells:List AV)(z':Nat)(es:List (List AV)):XlS st z pl y lo n cells (some (.sl .mut z' es))=if((lo+n<=es.length/\z'=z)/\y=z)/\(Xt st pl&&XeN ((Xf st pl (cells.set pl.c .u)).cut pl 1) (some (pl,whole st pl)))=true then Xv ((Xf st pl (cells.set pl.c .u)).cut pl 1) (.sl .mut z (X1 z lo n es)) (some (pl,whole st pl)) else none:=nr rfl
def XfU(z b:Nat)(ze:List AV)(pl:Pl)(y lo n:Nat):UA (.slice z b ze) st (.rf pl y lo n)=Xb (node st pl) (λcells=>XlS st z pl y lo n cells cells[pl.c]?):=by
 simp only[UA,Xb]
 cases node st pl with
 | none=>rfl
 | some cells=>simp only[XlS]; rfl
@[congr] def Xin{ti:TI}{a a':AV}(h:a=a'):UA ti st a=UA ti st a':=by rw[h]
def XfV:XeN st none=true:=nr rfl
def XfW(pl:Pl):XeN st (some (pl,true))=true:=nr rfl
def okN(c:Nat):Option (List AV)->Bool
 | some cells=>decide (c<cells.length)
 | none=>false
def XhO(c:Nat)(cells:List AV):okN c (some cells)=decide (c<cells.length):=nr rfl
def Xes(pl:Pl):XeN st (some (pl,false))=((!pl.e||top (st.env pl.r))&&okN pl.c (node st pl)):=nr rfl
def Xdf(ys:List (AV×List (Option (Pl×Bool)))):XI st [] ys=some st:=by cases ys<;>rfl
def Xci(o:AV)(os:List AV)(a:AV)(ys:List (AV×List (Option (Pl×Bool)))):XI st (o :: os) ((a,[]) :: ys)=XI st os ys:=nr rfl
def Xcj(os:List AV)(a:AV)(p:Option (Pl×Bool))(ps:List (Option (Pl×Bool)))(ys:List (AV×List (Option (Pl×Bool)))):XI st (.u :: os) ((a,p :: ps) :: ys)=XI st os ys:=nr rfl
def Xdg(cs os:List AV)(a:AV)(p:Option (Pl×Bool))(ps:List (Option (Pl×Bool)))(ys:List (AV×List (Option (Pl×Bool)))):XI st (.agg cs :: os) ((a,p :: ps) :: ys)=Xb (XK st cs (p :: ps)) (λs=>XI s os ys):=by
 simp only[XI,Xb,XeO,cellsOf]
 cases XK st cs (p :: ps)<;>rfl
def Xet(t:Tag)(z:Nat)(es:List (List AV))(os:List AV)(a:AV)(p:Option (Pl×Bool))(ps:List (Option (Pl×Bool)))(ys:List (AV×List (Option (Pl×Bool)))):XI st (.sl t z es :: os) ((a,p :: ps) :: ys)=Xb (XK st [.sl t z es] (p :: ps)) (λs=>XI s os ys):=by
 simp only[XI,Xb,XeO,cellsOf]
 cases XK st [.sl t z es] (p :: ps)<;>rfl
def Xdh(os:List AV):XI st os []=some st:=by cases os<;>rfl
def XaH:XK st [] []=some st:=nr rfl
def Xas(a:AV)(as:List AV)(p:Option (Pl×Bool))(ps:List (Option (Pl×Bool))):XK st (a :: as) (p :: ps)=Xb (Xv st a p) (λs=>XK s as ps):=by
 simp only[XK,Xb]
 cases Xv st a p<;>rfl
def Xbx(a:AV):Xv st a none=some st:=nr rfl
def XjF(st:St)(r:Nat)(a:AV):AV->Option St
 | .u=>some (st.put r a)
 | _=>none
def XjG(r:Nat)(a:AV):XjF st r a .u=some (st.put r a):=nr rfl
def Xby(pl:Pl)(t:Tag)(z:Nat)(es:List (List AV)):Xv st (.sl t z es) (some (pl,true))=XjF st pl.r (.sl t z es) (st.env pl.r):=by
 simp only[Xv,XjF]
 cases st.env pl.r<;>rfl
def XjH(st:St)(pl:Pl)(a:AV)(cells:List AV):Option AV->Option St
 | some .u=>if(Xt st pl&&(!pl.e||top (st.env pl.r)))=true then some (Xf st pl (cells.set pl.c a)) else none
 | _=>none
def XjI(pl:Pl)(a:AV)(cells:List AV):XjH st pl a cells (some .u)=if(Xt st pl&&(!pl.e||top (st.env pl.r)))=true then some (Xf st pl (cells.set pl.c a)) else none:=nr rfl
def XaI(pl:Pl)(t:Tag)(z:Nat)(es:List (List AV)):Xv st (.sl t z es) (some (pl,false))=Xb (node st pl) (λcells=>XjH st pl (.sl t z es) cells cells[pl.c]?):=by
 simp only[Xv,Xb]
 cases node st pl with
 | none=>rfl
 | some cells =>
  simp only[XjH]
  cases cells[pl.c]? with
  | none=>rfl
  | some a=>cases a<;>rfl
def XlT(st:St)(p:AV×List AV):Option (AV×St):=some (p.1,st)
def XjJ(v:AV)(os:List AV):XlT st (v,os)=some (v,st):=nr rfl
def XhP(g:Nat)(md:List Md)(F:List AV->Option (AV×List AV))(b:Bool)(f:Operand)(ts:List TypeId)(xs:List Operand)(h:md.all YO=true) :
  U1 cx st g ⟨md,F,b⟩ f ts xs=Xb (ZS cx st f ts xs) (λq=>if q.1=g then Xb (Yr (!b) none st md q.2 []) (λbs=>Xb (F bs) (XlT st)) else none):=by
 have h1:∀(ms:List Md) (ts:List TypeId) (xs:List Operand),ms.all YO=true->∃ys,XD cx st ms ts xs=some (ys,st)/\∀y∈ys,y=(AV.u,[]):=by
  intro ms
  induction ms with
  | nil=>intro ts xs _; exact⟨[],by simp[XD],by simp⟩
  | cons m ms ih =>
   intro ts xs hm
   simp only[List.all_cons,Bool.and_eq_true] at hm
   cases ts with
   | nil=>exact⟨[],by simp[XD],by simp⟩
   | cons t ts =>
    cases xs with
    | nil=>exact⟨[],by simp[XD],by simp⟩
    | cons x xs =>
     obtain⟨ys,e1,e2⟩:=ih ts xs hm.2
     have:m.isMv=false:=by cases m<;>first | rfl | cases hm.1
     exact⟨(.u,[]) :: ys,by simp only[XD,this,Bool.false_eq_true,if_false,e1],by simpa using e2⟩
 obtain⟨ys,e1,e2⟩:=h1 md ts xs h
 have h2:∀(ms:List Md) (as:List AV) (ys:List (AV×List (Option (Pl×Bool)))),ms.all YO=true->(∀y∈ys,y=(AV.u,[]))->Yr (!b) none st ms as ys=Yr (!b) none st ms as []:=by
  intro ms
  induction ms with
  | nil=>intro as ys _ _; cases as<;>rfl
  | cons m ms ih =>
   intro as ys hm hy
   simp only[List.all_cons,Bool.and_eq_true] at hm
   cases as with
   | nil=>rfl
   | cons a as =>
    cases m with
    | ro n =>
     simp only[Yr,QQ,List.tail_nil]
     rw[ih as ys.tail hm.2 (λy hy'=>hy y (List.mem_of_mem_tail hy'))]
    | _=>cases hm.1
 have h3:∀(os:List AV) (ys:List (AV×List (Option (Pl×Bool)))),(∀y∈ys,y=(AV.u,[]))->XI st os ys=some st:=by
  intro os
  induction os with
  | nil=>intro ys _; cases ys<;>rfl
  | cons o os ih =>
   intro ys hy
   cases ys with
   | nil=>rfl
   | cons y ys =>
    have:=hy y (by simp)
    subst this
    simp only[XI]
    exact ih ys (λy hy'=>hy y (by simp[hy']))
 have h4:(ys.all λy=>y.2.all (XeN st))=true:=by
  rw[List.all_eq_true]
  intro y hy
  rw[e2 y hy]; rfl
 rw[XfS,e1]
 simp only[Zr,h4,and_true]
 congr 1
 funext q
 split
 ·rw[h2 md q.2 ys h e2]
  congr 1
  funext bs
  congr 1
  funext p
  simp only[Xld,XlT,h3 p.2 ys e2,Zr]
 ·rfl
end
end Go.Vm
set_option autoImplicit true
set_option relaxedAutoImplicit true
namespace Go.Vm
def k0:Xu q .u=.u :=nr rfl
def k1:Xu q .no=.no :=nr rfl
def k2:Xu q .ub=.ub :=nr rfl
def k3:Xu q (.b x)=(.b x) :=nr rfl
def k4:Xu q (.i k n)=(.i k n) :=nr rfl
def k5:Xu q (.s x)=(.s x) :=nr rfl
def k6:Xu q .nil=.nil :=nr rfl
def k7:Xu q (.rf pl y lo n)=(.rf pl y lo n) :=nr rfl
def k8:Xu q (.p pl)=(.p pl) :=nr rfl
def k9:Xu q (.pr cs)=(.pr cs) :=nr rfl
def k10:Xu q .pn=.pn :=nr rfl
def k11:Xu q (.fn f cs)=(.fn f cs) :=nr rfl
def k12:Xu q (.fs cs)=(.fs cs) :=nr rfl
def k13:Xu q (.agg cs)=(.agg cs) :=nr rfl
def k14:Xu q (.tup cs)=(.tup cs) :=nr rfl
def k15:Xu q (.sl .app z es)=.rf q z 0 es.length :=nr rfl
def k16:Xu q (.sl .mut z es)=.rf q z 0 es.length :=nr rfl
def k17:Xu q (.sl .ro z es)=.sl .ro z es :=nr rfl
def Z6(x:Nat)(a:AV):AV :=match a with
  | .agg cs => .agg (XT ⟨true,x,[],0⟩ 0 cs)
  | .tup _ => .u
  | a => Xu ⟨true,x,[],0⟩ a
def k18:view st (.tmp x)=Z6 x (st.env x) :=nr rfl
def k19:view st (.const v)=XdO v :=nr rfl
def k20:view st (.func f)=.fn f [] :=nr rfl
def k21:Z6 x .u=.u :=nr rfl
def k22:Z6 x .no=.no :=nr rfl
def k23:Z6 x .ub=.ub :=nr rfl
def k24:Z6 x (.i k n)=(.i k n) :=nr rfl
def k25:Z6 x .nil=.nil :=nr rfl
def k26:Z6 x (.rf pl y lo n)=(.rf pl y lo n) :=nr rfl
def k27:Z6 x (.p pl)=(.p pl) :=nr rfl
def k28:Z6 x (.pr cs)=(.pr cs) :=nr rfl
def k29:Z6 x .pn=.pn :=nr rfl
def k30:Z6 x (.fn f cs)=(.fn f cs) :=nr rfl
def k31:Z6 x (.fs cs)=(.fs cs) :=nr rfl
def k32:Z6 x (.agg cs)=.agg (XT ⟨true,x,[],0⟩ 0 cs) :=nr rfl
def k33:Z6 x (.tup cs)=.u :=nr rfl
def k34:Z6 x (.b y)=.b y :=nr rfl
def k35:Z6 x (.s y)=.s y :=nr rfl
def k36:Z6 x (.sl .app z es)=.rf ⟨true,x,[],0⟩ z 0 es.length :=nr rfl
def k37:Z6 x (.sl .mut z es)=.rf ⟨true,x,[],0⟩ z 0 es.length :=nr rfl
def k38:Z6 x (.sl .ro z es)=.sl .ro z es :=nr rfl
def k39:XT q j []=[] :=nr rfl
def k40:XT q j (a :: l)=Xu {q with c :=j} a :: XT q (j+1) l :=nr rfl
def k41:Y2 .u=false :=nr rfl
def k42:Y2 .no=false :=nr rfl
def k43:Y2 .ub=false :=nr rfl
def k44:Y2 (.b x)=false :=nr rfl
def k45:Y2 (.i k n)=false :=nr rfl
def k46:Y2 (.s x)=false :=nr rfl
def k47:Y2 .nil=false :=nr rfl
def k48:Y2 (.sl t z es)=true :=nr rfl
def k49:Y2 (.rf pl y lo n)=false :=nr rfl
def k50:Y2 (.p pl)=false :=nr rfl
def k51:Y2 (.pr cs)=false :=nr rfl
def k52:Y2 .pn=false :=nr rfl
def k53:Y2 (.fn f cs)=false :=nr rfl
def k54:Y2 (.fs cs)=false :=nr rfl
def k55:Y2 (.agg cs)=false :=nr rfl
def k56:Y2 (.tup cs)=false :=nr rfl
def k57:QS .u=none :=nr rfl
def k58:QS .no=none :=nr rfl
def k59:QS .ub=none :=nr rfl
def k60:QS (.b x)=none :=nr rfl
def k61:QS (.i k n)=none :=nr rfl
def k62:QS (.s x)=none :=nr rfl
def k63:QS .nil=none :=nr rfl
def k64:QS (.sl t z es)=none :=nr rfl
def k65:QS (.rf pl y lo n)=none :=nr rfl
def k66:QS (.p pl)=none :=nr rfl
def k67:QS (.pr cs)=none :=nr rfl
def k68:QS .pn=none :=nr rfl
def k69:QS (.fn f cs)=none :=nr rfl
def k70:QS (.fs cs)=none :=nr rfl
def k71:QS (.agg cs)=none :=nr rfl
def k72:npP md st .u=none :=nr rfl
def k73:npP md st .no=none :=nr rfl
def k74:npP md st .ub=none :=nr rfl
def k75:npP md st (.b x)=none :=nr rfl
def k76:npP md st (.i k n)=none :=nr rfl
def k77:npP md st (.s x)=none :=nr rfl
def k78:npP md st .nil=none :=nr rfl
def k79:npP md st (.sl t z es)=none :=nr rfl
def k80:npP md st (.rf pl y lo n)=none :=nr rfl
def k81:npP md st (.pr cs)=none :=nr rfl
def k82:npP md st .pn=none :=nr rfl
def k83:npP md st (.fn f cs)=none :=nr rfl
def k84:npP md st (.fs cs)=none :=nr rfl
def k85:npP md st (.agg cs)=none :=nr rfl
def k86:npP md st (.tup cs)=none :=nr rfl
def k87:X6 .u=false :=nr rfl
def k88:X6 .no=false :=nr rfl
def k89:X6 .ub=false :=nr rfl
def k90:X6 (.b x)=false :=nr rfl
def k91:X6 (.i k n)=false :=nr rfl
def k92:X6 (.s x)=false :=nr rfl
def k93:X6 .nil=false :=nr rfl
def k94:X6 (.sl t z es)=true :=nr rfl
def k95:X6 (.rf pl y lo n)=false :=nr rfl
def k96:X6 (.p pl)=false :=nr rfl
def k97:X6 (.pr cs)=false :=nr rfl
def k98:X6 .pn=false :=nr rfl
def k99:X6 (.fn f cs)=false :=nr rfl
def XnA:X6 (.fs cs)=false :=nr rfl
def XnB:X6 (.agg cs)=cs.any Y2 :=nr rfl
def XnC:X6 (.tup cs)=false :=nr rfl
def XnD:Qg .u=true :=nr rfl
def XnE:Qg .no=false :=nr rfl
def XnF:Qg .ub=true :=nr rfl
def XnG:Qg (.b x)=true :=nr rfl
def XnH:Qg (.i k n)=true :=nr rfl
def XnI:Qg (.s x)=true :=nr rfl
def XnJ:Qg .nil=true :=nr rfl
def XnK:Qg (.sl t z es)=true :=nr rfl
def XnL:Qg (.rf pl y lo n)=false :=nr rfl
def XnM:Qg (.p pl)=true :=nr rfl
def XnN:Qg (.pr cs)=true :=nr rfl
def XnO:Qg .pn=true :=nr rfl
def XnP:Qg (.fn f cs)=false :=nr rfl
def XnQ:Qg (.fs cs)=false :=nr rfl
def XnR:Qg (.agg cs)=false :=nr rfl
def XnS:Qg (.tup cs)=false :=nr rfl
def XnT:XC .u=true :=nr rfl
def XnU:XC .no=false :=nr rfl
def XnV:XC .ub=true :=nr rfl
def XnW:XC (.b x)=true :=nr rfl
def XnX:XC (.i k n)=true :=nr rfl
def XnY:XC (.s x)=true :=nr rfl
def XnZ:XC .nil=true :=nr rfl
def Xn0:XC (.sl t z es)=true :=nr rfl
def Xn1:XC (.rf pl y lo n)=false :=nr rfl
def Xn2:XC (.p pl)=false :=nr rfl
def Xn3:XC (.pr cs)=true :=nr rfl
def Xn4:XC .pn=true :=nr rfl
def Xn5:XC (.fn f cs)=false :=nr rfl
def Xn6:XC (.fs cs)=false :=nr rfl
def Xn7:XC (.agg cs)=false :=nr rfl
def Xn8:XC (.tup cs)=false :=nr rfl
def Xn9:top .u=false :=nr rfl
def Xoa:top .no=false :=nr rfl
def Xob:top .ub=true :=nr rfl
def Xoc:top (.b x)=true :=nr rfl
def Xod:top (.i k n)=true :=nr rfl
def Xoe:top (.s x)=true :=nr rfl
def Xof:top .nil=true :=nr rfl
def Xog:top (.sl t z es)=true :=nr rfl
def Xoh:top (.rf pl y lo n)=true :=nr rfl
def Xoi:top (.p pl)=true :=nr rfl
def Xoj:top (.pr cs)=true :=nr rfl
def Xok:top .pn=true :=nr rfl
def Xol:top (.fn f cs)=true :=nr rfl
def Xom:top (.fs cs)=true :=nr rfl
def Xon:top (.agg cs)=true :=nr rfl
def Xoo:top (.tup cs)=false :=nr rfl
def Xop:XaP .u=false :=nr rfl
def Xoq:XaP .no=false :=nr rfl
def Xor:XaP .ub=false :=nr rfl
def Xos:XaP (.b x)=false :=nr rfl
def Xot:XaP (.i k n)=false :=nr rfl
def Xou:XaP (.s x)=false :=nr rfl
def Xov:XaP .nil=false :=nr rfl
def Xow:XaP (.sl t z es)=false :=nr rfl
def Xox:XaP (.rf pl y lo n)=false :=nr rfl
def Xoy:XaP (.p pl)=false :=nr rfl
def Xoz:XaP (.pr cs)=false :=nr rfl
def XoA:XaP .pn=false :=nr rfl
def XoB:XaP (.fn f cs)=true :=nr rfl
def XoC:XaP (.fs cs)=false :=nr rfl
def XoD:XaP (.agg cs)=false :=nr rfl
def XoE:XaP (.tup cs)=false :=nr rfl
def XoF:Zh .u=false :=nr rfl
def XoG:Zh .no=false :=nr rfl
def XoH:Zh .ub=true :=nr rfl
def XoI:Zh (.b x)=true :=nr rfl
def XoJ:Zh (.i k n)=true :=nr rfl
def XoK:Zh (.s x)=true :=nr rfl
def XoL:Zh .nil=true :=nr rfl
def XoM:Zh (.sl t z es)=true :=nr rfl
def XoN:Zh (.rf pl y lo n)=true :=nr rfl
def XoO:Zh (.p pl)=true :=nr rfl
def XoP:Zh (.pr cs)=true :=nr rfl
def XoQ:Zh .pn=true :=nr rfl
def XoR:Zh (.fn f cs)=true :=nr rfl
def XoS:Zh (.fs cs)=true :=nr rfl
def XoT:Zh (.agg cs)=false :=nr rfl
def XoU:Zh (.tup cs)=false :=nr rfl
def XoV:fsV len st i []=if i=len then some [] else none :=nr rfl
def fsK(x:Bool)(a:AV)(r:Option (List AV)):Option (List AV) :=if x then(match r with | some l => some (a :: l) | none => none) else none
def XoW:fsK true a (some l)=some (a :: l) :=nr rfl
def XoX:fsV len st i ((j,x) :: r)=if i=j then fsK (XaP (view st x)) (view st x) (fsV len st (i+1) r) else none :=by simp only[fsV,fsK]; split<;>rfl
def XoY:cellsOf .u=[.u] :=nr rfl
def XoZ:cellsOf .no=[.no] :=nr rfl
def Xo0:cellsOf .ub=[.ub] :=nr rfl
def Xo1:cellsOf (.b x)=[(.b x)] :=nr rfl
def Xo2:cellsOf (.i k n)=[(.i k n)] :=nr rfl
def Xo3:cellsOf (.s x)=[(.s x)] :=nr rfl
def Xo4:cellsOf .nil=[.nil] :=nr rfl
def Xo5:cellsOf (.sl t z es)=[(.sl t z es)] :=nr rfl
def Xo6:cellsOf (.rf pl y lo n)=[(.rf pl y lo n)] :=nr rfl
def Xo7:cellsOf (.p pl)=[(.p pl)] :=nr rfl
def Xo8:cellsOf (.pr cs)=[(.pr cs)] :=nr rfl
def Xo9:cellsOf .pn=[.pn] :=nr rfl
def Xpa:cellsOf (.fn f cs)=[(.fn f cs)] :=nr rfl
def Xpb:cellsOf (.fs cs)=[(.fs cs)] :=nr rfl
def Xpc:cellsOf (.agg cs)=cs :=nr rfl
def Xpd:cellsOf (.tup cs)=[(.tup cs)] :=nr rfl
def Xpe:plain .u=false :=nr rfl
def Xpf:plain .no=false :=nr rfl
def Xpg:plain .ub=false :=nr rfl
def Xph:plain (.b x)=true :=nr rfl
def Xpi:plain (.i k n)=true :=nr rfl
def Xpj:plain (.s x)=true :=nr rfl
def Xpk:plain .nil=false :=nr rfl
def Xpl:plain (.rf pl y lo n)=false :=nr rfl
def Xpm:plain (.p pl)=false :=nr rfl
def Xpn:plain (.pr cs)=false :=nr rfl
def Xpo:plain .pn=true :=nr rfl
def Xpp:plain (.fn f cs)=false :=nr rfl
def Xpq:plain (.fs cs)=false :=nr rfl
def Xpr:plain (.agg cs)=false :=nr rfl
def Xps:plain (.tup cs)=false :=nr rfl
def Xpt:plain (.sl .ro z es)=true :=nr rfl
def Xpu:fix m .u=.u :=nr rfl
def Xpv:fix m .no=.no :=nr rfl
def Xpw:fix m .ub=.ub :=nr rfl
def Xpx:fix m (.b x)=(.b x) :=nr rfl
def Xpy:fix m (.i k n)=(.i k n) :=nr rfl
def Xpz:fix m (.s x)=(.s x) :=nr rfl
def XpA:fix m (.sl t z es)=(.sl t z es) :=nr rfl
def XpB:fix m (.rf pl y lo n)=(.rf pl y lo n) :=nr rfl
def XpC:fix m (.p pl)=(.p pl) :=nr rfl
def XpD:fix m (.pr cs)=(.pr cs) :=nr rfl
def XpE:fix m .pn=.pn :=nr rfl
def XpF:fix m (.fn f cs)=(.fn f cs) :=nr rfl
def XpG:fix m (.fs cs)=(.fs cs) :=nr rfl
def XpH:fix m (.agg cs)=(.agg cs) :=nr rfl
def XpI:fix m (.tup cs)=(.tup cs) :=nr rfl
def XpJ:fix 0 .nil=.nil :=nr rfl
def XpK:fix (m+1) .nil=.sl .mut (m+1) [] :=nr rfl
def XpL:fix 1 .nil=.sl .mut 1 [] :=nr rfl
def XpM:fix 2 .nil=.sl .mut 2 [] :=nr rfl
def XpN:fix 3 .nil=.sl .mut 3 [] :=nr rfl
def XpO:fix 4 .nil=.sl .mut 4 [] :=nr rfl
def XpP:fix 5 .nil=.sl .mut 5 [] :=nr rfl
def XpQ:fix 6 .nil=.sl .mut 6 [] :=nr rfl
def XpR:fix 7 .nil=.sl .mut 7 [] :=nr rfl
def XpS:fix 8 .nil=.sl .mut 8 [] :=nr rfl
def XpT:fix 9 .nil=.sl .mut 9 [] :=nr rfl
def XpU:fix 10 .nil=.sl .mut 10 [] :=nr rfl
def XpV:fix 11 .nil=.sl .mut 11 [] :=nr rfl
def XpW:filt kp kr .u=.u :=nr rfl
def XpX:filt kp kr .no=.no :=nr rfl
def XpY:filt kp kr .ub=.ub :=nr rfl
def XpZ:filt kp kr (.b x)=(.b x) :=nr rfl
def Xp0:filt kp kr (.i k n)=(.i k n) :=nr rfl
def Xp1:filt kp kr (.s x)=(.s x) :=nr rfl
def Xp2:filt kp kr .nil=.nil :=nr rfl
def Xp3:filt kp kr (.sl t z es)=(.sl t z es) :=nr rfl
def Xp4:filt kp kr (.pr cs)=(.pr cs) :=nr rfl
def Xp5:filt kp kr .pn=.pn :=nr rfl
def Xp6:filt kp kr (.fn f cs)=.fn f (XG kp kr cs) :=nr rfl
def Xp7:filt kp kr (.fs cs)=.fs (XG kp kr cs) :=nr rfl
def Xp8:filt kp kr (.agg cs)=.agg (XG kp kr cs) :=nr rfl
def Xp9:filt kp kr (.tup cs)=.tup (XG kp kr cs) :=nr rfl
def fA(b:Bool)(a:AV):AV :=if b then a else .u
def Xqa:fA true a=a :=nr rfl
def Xqb:fA false a=.u :=nr rfl
def Xqc:filt kp kr (.p q)=fA (kp q) (.p q) :=nr rfl
def Xqd:filt kp kr (.rf q y lo n)=fA (kr q) (.rf q y lo n) :=nr rfl
def Xqe:XG kp kr []=[] :=nr rfl
def Xqf:XG kp kr (a :: l)=filt kp kr a :: XG kp kr l :=nr rfl
def Xqg:XL st .u=some (.u,st) :=nr rfl
def Xqh:XL st .no=some (.no,st) :=nr rfl
def Xqi:XL st .ub=some (.ub,st) :=nr rfl
def Xqj:XL st (.b x)=some ((.b x),st) :=nr rfl
def Xqk:XL st (.i k n)=some ((.i k n),st) :=nr rfl
def Xql:XL st (.s x)=some ((.s x),st) :=nr rfl
def Xqm:XL st .nil=some (.nil,st) :=nr rfl
def Xqn:XL st (.sl t z es)=some ((.sl t z es),st) :=nr rfl
def Xqo:XL st (.rf pl y lo n)=takeRf st pl y lo n :=nr rfl
def Xqp:XL st (.p pl)=some ((.p pl),st) :=nr rfl
def Xqq:XL st (.pr cs)=some ((.pr cs),st) :=nr rfl
def Xqr:XL st .pn=some (.pn,st) :=nr rfl
def Xqs:XL st (.fn f cs)=some ((.fn f cs),st) :=nr rfl
def Xqt:XL st (.fs cs)=some ((.fs cs),st) :=nr rfl
def Xqu:XL st (.agg cs)=some ((.agg cs),st) :=nr rfl
def Xqv:XL st (.tup cs)=none :=nr rfl
def Xqw:takeVal st .u=some (.u,st) :=nr rfl
def Xqx:takeVal st .no=some (.no,st) :=nr rfl
def Xqy:takeVal st .ub=some (.ub,st) :=nr rfl
def Xqz:takeVal st (.b x)=some ((.b x),st) :=nr rfl
def XqA:takeVal st (.i k n)=some ((.i k n),st) :=nr rfl
def XqB:takeVal st (.s x)=some ((.s x),st) :=nr rfl
def XqC:takeVal st .nil=some (.nil,st) :=nr rfl
def XqD:takeVal st (.sl t z es)=some ((.sl t z es),st) :=nr rfl
def XqE:takeVal st (.rf pl y lo n)=takeRf st pl y lo n :=nr rfl
def XqF:takeVal st (.p pl)=some ((.p pl),st) :=nr rfl
def XqG:takeVal st (.pr cs)=some ((.pr cs),st) :=nr rfl
def XqH:takeVal st .pn=some (.pn,st) :=nr rfl
def XqI:takeVal st (.fn f cs)=some ((.fn f cs),st) :=nr rfl
def XqJ:takeVal st (.fs cs)=some ((.fs cs),st) :=nr rfl
def XqK:takeVal st (.tup cs)=none :=nr rfl
def XlU(x:Option (List AV×St)):Option (AV×St) :=match x with
  | some (cs,st) => some (.agg cs,st)
  | none => none
def XqL:takeVal st (.agg cs)=if cs.any Xbz then XlU (takeL st cs) else some (.agg cs,st) :=by simp only[takeVal,XlU]; split<;>cases takeL st cs<;>rfl
def XqM:Xbz .u=false :=nr rfl
def XqN:Xbz .no=false :=nr rfl
def XqO:Xbz .ub=false :=nr rfl
def XqP:Xbz (.b x)=false :=nr rfl
def XqQ:Xbz (.i k n)=false :=nr rfl
def XqR:Xbz (.s x)=false :=nr rfl
def XqS:Xbz .nil=false :=nr rfl
def XqT:Xbz (.sl t z es)=false :=nr rfl
def XqU:Xbz (.rf pl y lo n)=true :=nr rfl
def XqV:Xbz (.p pl)=false :=nr rfl
def XqW:Xbz (.pr cs)=false :=nr rfl
def XqX:Xbz .pn=false :=nr rfl
def XqY:Xbz (.fn f cs)=false :=nr rfl
def XqZ:Xbz (.fs cs)=false :=nr rfl
def Xq0:Xbz (.agg cs)=false :=nr rfl
def Xq1:Xbz (.tup cs)=false :=nr rfl
def Xq2:gone q=false :=nr rfl
def Xq3:XlU (some (cs,st))=some (.agg cs,st) :=nr rfl
def XjK(a:AV)(x:Option (List AV×St)):Option (List AV×St) :=match x with
  | some (cs,st) => some (a :: cs,st)
  | none => none
def Xq4:XjK a (some (cs,st))=some (a :: cs,st) :=nr rfl
def Xq5:takeL st []=some ([],st) :=nr rfl
def Xq6:takeL st (a :: l)=Xb (XL st a) (λy => XjK (filt gone gone y.1) (takeL y.2 l)) :=by simp only[takeL,Xb,XjK]; cases XL st a<;>rfl
def Xeu(st:St)(x:Nat)(b:Bool)(a:AV):Option (AV×St) :=if b then takeVal (clear st x) (filt (Xp true x) (Xp true x) a) else takeVal st a
@[congr] def XjL{st:St}{x:Nat}{b b':Bool}{a:AV}(h:b=b'):Xeu st x b a=Xeu st x b' a :=by rw[h]
def Qr(st:St)(x:Nat)(a:AV):Option (AV×St) :=Xeu st x (X6 a) a
def Xq7:take st (.tmp x)=Qr st x (st.env x) :=nr rfl
def Xq8:Qr st x .u=some (.u,st) :=nr rfl
def Xq9:Qr st x .no=some (.no,st) :=nr rfl
def Xra:Qr st x .ub=some (.ub,st) :=nr rfl
def Xrb:Qr st x (.b y)=some (.b y,st) :=nr rfl
def Xrc:Qr st x (.i k n)=some ((.i k n),st) :=nr rfl
def Xrd:Qr st x (.s y)=some (.s y,st) :=nr rfl
def Xre:Qr st x .nil=some (.nil,st) :=nr rfl
def Xrf:Qr st x (.sl t z es)=some (.sl t z es,clear st x) :=nr rfl
def Xrg:Qr st x (.rf pl y lo n)=takeRf st pl y lo n :=nr rfl
def Xrh:Qr st x (.p pl)=some ((.p pl),st) :=nr rfl
def Xri:Qr st x (.pr cs)=some ((.pr cs),st) :=nr rfl
def Xrj:Qr st x .pn=some (.pn,st) :=nr rfl
def Xrk:Qr st x (.fn f cs)=some ((.fn f cs),st) :=nr rfl
def Xrl:Qr st x (.fs cs)=some ((.fs cs),st) :=nr rfl
def Xrm:Qr st x (.agg cs)=Xeu st x (cs.any Y2) (.agg cs) :=nr rfl
def Xrn:Qr st x (.tup cs)=none :=nr rfl
def Xro:Xeu st x true a=takeVal (clear st x) (filt (Xp true x) (Xp true x) a) :=nr rfl
def Xrp:Xeu st x false a=takeVal st a :=nr rfl
def Xrq:take st (.const v)=some (XdO v,st) :=nr rfl
def Xrr:take st (.func f)=some (.fn f [],st) :=nr rfl
def Xj6(b:Bool)(l:List (Nat×AV))(m:List (Nat×List AV))(d:Nat)(v:AV):St :=if b then⟨E ((d,filt (Xp true d) (Xp true d) v) :: Xfi (Xp true d) (Xp true d) l),B (Xgi (Xp true d) (Xp true d) m)⟩ else⟨E ((d,v) :: l),B m⟩
@[congr] def Xj7{b b':Bool}{l:List (Nat×AV)}{m:List (Nat×List AV)}{d:Nat}{v v':AV}(h:b=b')(h':v=v'):Xj6 b l m d v=Xj6 b' l m d v' :=by rw[h,h']
def Xrs:St.put ⟨E l,B m⟩ d v=Xj6 (X6 (E l d)) l m d v :=by simp only[St.put,Xj6,St.dropRoot,Xan,XcV]
def Xrt:Xj6 false l m d v=⟨E ((d,v) :: l),B m⟩ :=nr rfl
def Xru:Xj6 true l m d v=⟨E ((d,filt (Xp true d) (Xp true d) v) :: Xfi (Xp true d) (Xp true d) l),B (Xgi (Xp true d) (Xp true d) m)⟩ :=nr rfl
def Xrv:St.put? st (some d) v=St.put st d v :=nr rfl
def Xrw:St.put? st none v=st :=nr rfl
def isK(t k:Nat):Bool :=t==k
def Xrx:isK t k=(t==k) :=nr rfl
def eK(b:Bool)(v x:AV):AV :=if b then v else x
@[congr] def Xlf{b b':Bool}{v x:AV}(h:b=b'):eK b v x=eK b' v x :=by rw[h]
def eB(b:Bool)(v x:List AV):List AV :=if b then v else x
@[congr] def Xlg{b b':Bool}{v x:List AV}(h:b=b'):eB b v x=eB b' v x :=by rw[h]
def XmU:eK true v x=v :=nr rfl
def XmV:eK false v x=x :=nr rfl
def XmW:eB true v x=v :=nr rfl
def XmX:eB false v x=x :=nr rfl
def Xry:E ((k,v) :: r) t=eK (isK t k) v (E r t) :=by simp only[UL,eK,isK,beq_iff_eq]
def Xrz:B ((k,v) :: r) t=eB (isK t k) v (B r t) :=by simp only[Xam,eB,isK,beq_iff_eq]
def XrA:clear ⟨E l,B m⟩ x=⟨E ((x,.u) :: Xfi (Xp true x) (Xp true x) l),B (Xgi (Xp true x) (Xp true x) m)⟩ :=by simp only[clear,St.dropRoot,Xan,XcV]
def XrB:St.env ⟨f,g⟩=f :=nr rfl
def XrC:St.bx ⟨f,g⟩=g :=nr rfl
def Xj8(b:Bool)(l:List (Nat×AV))(m:List (Nat×List AV))(d:Nat)(cs:List AV):St :=if b then⟨E ((d,.p ⟨false,d,[],0⟩) :: l),B ((d,cs) :: m)⟩ else⟨E ((d,.p ⟨false,d,[],0⟩) :: Xfi (Xp false d) (Xp false d) l),B ((d,XG (Xp false d) (Xp false d) cs) :: Xgi (Xp false d) (Xp false d) m)⟩
@[congr] def Xj9{b b':Bool}{l:List (Nat×AV)}{m:List (Nat×List AV)}{d:Nat}{cs cs':List AV}(h:b=b')(h':cs=cs'):Xj8 b l m d cs=Xj8 b' l m d cs' :=by rw[h,h']
def XrD:newBox ⟨E l,B m⟩ d cs=Xj8 (B m d).isEmpty l m d cs :=by
  cases h:(B m d).isEmpty<;>simp only[newBox,Xj8,h,if_true,if_false,Bool.false_eq_true,St.dropRoot,Xan,XcV,XiP]
def XrE:YP st d (c :: cs)=if X6 (st.env d)=true then none else some (newBox st d (c :: cs)) :=nr rfl
def XrF:Xj8 true l m d cs=⟨E ((d,.p ⟨false,d,[],0⟩) :: l),B ((d,cs) :: m)⟩ :=nr rfl
def XrG:Xj8 false l m d cs=⟨E ((d,.p ⟨false,d,[],0⟩) :: Xfi (Xp false d) (Xp false d) l),B ((d,XG (Xp false d) (Xp false d) cs) :: Xgi (Xp false d) (Xp false d) m)⟩ :=nr rfl
def XrH:TI.size .bool=1 :=nr rfl
def XrI:TI.ag .bool=false :=nr rfl
def XrJ:TI.z .bool=0 :=nr rfl
def XrK:TI.zero .bool=[.b false] :=nr rfl
def XrL:TI.size (.int k)=1 :=nr rfl
def XrM:TI.ag (.int k)=false :=nr rfl
def XrN:TI.z (.int k)=0 :=nr rfl
def XrO:TI.zero (.int k)=[.i k 0] :=nr rfl
def XrP:TI.size .str=1 :=nr rfl
def XrQ:TI.ag .str=false :=nr rfl
def XrR:TI.z .str=0 :=nr rfl
def XrS:TI.zero .str=[.s ⟨#[]⟩] :=nr rfl
def XrT:TI.size .ptr=1 :=nr rfl
def XrU:TI.ag .ptr=false :=nr rfl
def XrV:TI.z .ptr=0 :=nr rfl
def XrW:TI.zero .ptr=[.pn] :=nr rfl
def XrX:TI.size .fn=1 :=nr rfl
def XrY:TI.ag .fn=false :=nr rfl
def XrZ:TI.z .fn=0 :=nr rfl
def Xr0:TI.zero .fn=[.u] :=nr rfl
def Xr1:TI.size (.slice z b w)=1 :=nr rfl
def Xr2:TI.ag (.slice z b w)=false :=nr rfl
def Xr3:TI.z (.slice z b w)=z :=nr rfl
def Xr4:TI.zero (.slice z b w)=[.sl .mut z []] :=nr rfl
def Xr5:TI.size (.struct n fl w)=n :=nr rfl
def Xr6:TI.ag (.struct n fl w)=true :=nr rfl
def Xr7:TI.z (.struct n fl w)=0 :=nr rfl
def Xr8:TI.zero (.struct n fl w)=w :=nr rfl
def Xr9:TI.size (.array n z ag w)=n*z :=nr rfl
def Xsa:TI.ag (.array n z ag w)=true :=nr rfl
def Xsb:TI.z (.array n z ag w)=0 :=nr rfl
def Xsc:TI.zero (.array n z ag w)=w :=nr rfl
def zK(x:Option TI):Nat :=match x with
  | some ti => ti.z
  | none => 0
def Xsd:zOf cx t=zK (cx.T t) :=nr rfl
def Xse:zK (some ti)=ti.z :=nr rfl
def Xsf:zK none=0 :=nr rfl
def XlV(x:Option (Nat×Nat×Bool×Nat))(a:AV):Option AV :=match x with
  | some (off,_) => match a with
    | .p q => some (.p {q with c :=q.c+off})
    | .pr q => some (.pr (q.drop off))
    | _ => none
  | none => none
def Xsg:QR (.struct n fl w) f a=XlV (fl[f]?) a :=nr rfl
def Xsh:XlV (some (off,y)) (.p ⟨e,r,path,c⟩)=some (.p ⟨e,r,path,c+off⟩) :=nr rfl
def Xsi:XlV (some (off,y)) (.pr q)=some (.pr (q.drop off)) :=nr rfl
def Xsj:List.drop 0 l=l :=nr rfl
def Xsk:List.drop (n+1) (a :: l)=List.drop n l :=nr rfl
def Xsl:List.take 0 l=[] :=List.take_zero
def Xsm:List.take (n+1) (a :: l)=a :: List.take n l :=nr rfl
def Xsn:List.drop n ([]:List AV)=[] :=List.drop_nil
def XmY(x:Option (Nat×Nat×Bool×Nat))(cs:List AV):Option AV :=match x with
  | some (off,n,ag,_) => if off+n<=cs.length then some (if ag then .agg ((cs.drop off).take n) else cs.getD off .u) else none
  | none => none
def Xso:XbE (.struct m fl w) f (.agg cs)=XmY (fl[f]?) cs :=nr rfl
def XjM(ti:TI)(pl:Pl)(cells:List AV):Option AV :=if pl.c+ti.size<=cells.length then(if ti.ag then some (.agg (XT pl pl.c ((cells.drop pl.c).take ti.size))) else some (Xu pl (cells.getD pl.c .u))) else none
def Xsp:loadAt st ti (.p pl)=Xb (node st pl) (XjM ti pl) :=by simp only[loadAt,Xb,XjM]; cases node st pl<;>rfl
def Xsq:loadAt st ti (.pr cs)=if ti.size<=cs.length then(if ti.ag then some (.agg (cs.take ti.size)) else some (cs.getD 0 .u)) else none :=nr rfl
def Xsr:node st ⟨e,r,path,c⟩=nav (Xa st e r) path :=nr rfl
def Xss:Xt st ⟨e,r,path,c⟩=wrt (Xa st e r) path :=nr rfl
def Xst:Xa st true r=cellsOf (st.env r) :=nr rfl
def Xsu:Xa st false r=st.bx r :=nr rfl
def Xsv:nav cs []=some cs :=nr rfl
def Xsw:wrt cs []=true :=nr rfl
def XlW(x:Option (Tag×List AV))(ps:List (Nat×Nat×Nat)):Option (List AV) :=match x with
  | some (_,row) => nav row ps
  | none => none
def XkQ(x:Option (Tag×List AV))(ps:List (Nat×Nat×Nat)):Bool :=match x with
  | some (.mut,row) => wrt row ps
  | _ => false
def Xev(i z:Nat)(a:Option AV):Option (Tag×List AV) :=match a with
  | some (.sl t z' es) => if z'=z then rowK t es[i]? else none
  | _ => none
  where rowK (t:Tag):Option (List AV)->Option (Tag×List AV)
  | some row => some (t,row)
  | none => none
def Xsx:nav cs ((c,i,z) :: ps)=XlW (Yq cs c i z) ps :=by simp only[nav,XlW]; cases Yq cs c i z<;>rfl
def Xsy:XlW (some (t,row)) ps=nav row ps :=nr rfl
def Xsz:wrt cs ((c,i,z) :: ps)=XkQ (Yq cs c i z) ps :=by
  simp only[wrt,XkQ]
  cases Yq cs c i z with
  | none => rfl
  | some x => obtain⟨t,row⟩ :=x; cases t<;>rfl
def XsA:XkQ (some (.mut,row)) ps=wrt row ps :=nr rfl
def XsB:XkQ (some (.ro,row)) ps=false :=nr rfl
def XsC:XkQ (some (.app,row)) ps=false :=nr rfl
def XsD:Yq cs c i z=Xev i z cs[c]? :=by
  simp only[Yq,Xev]
  cases cs[c]? with
  | none => rfl
  | some a =>
    cases a<;>rfl
def XsE:Xev i z (some (.sl t z es))=Xev.rowK t es[i]? :=by simp only[Xev,if_true]
def XsF:Xev.rowK t (some row)=some (t,row) :=nr rfl
def XsG:Xz cs [] new=new :=nr rfl
def XlX(cs:List AV)(c i:Nat)(ps:List (Nat×Nat×Nat))(new:List AV)(a:Option AV):List AV :=match a with
  | some (.sl t z es) => cs.set c (.sl t z (es.set i (Xz (es.getD i []) ps new)))
  | _ => cs
def XsH:Xz cs ((c,i,z) :: ps) new=XlX cs c i ps new cs[c]? :=by
  simp only[Xz,XlX]
  cases cs[c]? with
  | none => rfl
  | some a => cases a<;>rfl
def XsI:XlX cs c i ps new (some (.sl t z es))=cs.set c (.sl t z (es.set i (Xz (es.getD i []) ps new))) :=nr rfl
def XsJ:List.set (a :: l) 0 b=b :: l :=nr rfl
def XsK:List.set (a :: l) (n+1) b=a :: List.set l n b :=nr rfl
def XsL:Xf ⟨E l,B m⟩ ⟨false,r,path,c⟩ new=⟨E l,B ((r,Xz (B m r) path new) :: m)⟩ :=by simp only[Xf,XiP,Bool.false_eq_true,if_false]
def XsM:Xf ⟨E l,B m⟩ ⟨true,r,path,c⟩ new=⟨E ((r,Y7 (E l r) (Xz (cellsOf (E l r)) path new)) :: l),B m⟩ :=by simp only[Xf,XcV,if_true,Xa]
def XsN:Y7 .u new=new.headD .u :=nr rfl
def XsO:Y7 .no new=new.headD .u :=nr rfl
def XsP:Y7 .ub new=new.headD .u :=nr rfl
def XsQ:Y7 (.b x) new=new.headD .u :=nr rfl
def XsR:Y7 (.i k n) new=new.headD .u :=nr rfl
def XsS:Y7 (.s x) new=new.headD .u :=nr rfl
def XsT:Y7 .nil new=new.headD .u :=nr rfl
def XsU:Y7 (.sl t z es) new=new.headD .u :=nr rfl
def XsV:Y7 (.rf pl y lo n) new=new.headD .u :=nr rfl
def XsW:Y7 (.p pl) new=new.headD .u :=nr rfl
def XsX:Y7 (.pr cs) new=new.headD .u :=nr rfl
def XsY:Y7 .pn new=new.headD .u :=nr rfl
def XsZ:Y7 (.fn f cs) new=new.headD .u :=nr rfl
def Xs0:Y7 (.fs cs) new=new.headD .u :=nr rfl
def Xs1:Y7 (.agg cs) new=.agg new :=nr rfl
def Xs2:Y7 (.tup cs) new=new.headD .u :=nr rfl
def Xs3:List.headD (a :: l) AV.u=a :=nr rfl
def Xs4:ZI st (.slice z b w) x (.i k n)=indexAddr st z x n :=nr rfl
def iaR(es:List (List AV)):Option Nat->Option AV
  | some j => some (.pr (es.getD j []))
  | none => none
def iaF(es:List AV):Option Nat->Option AV
  | some j => some (.pr [Vm.filt gone gone (es.getD j .u)])
  | none => none
def iaM(t:Tag)(pl:Pl)(z lo:Nat)(es:List (List AV)):Option Nat->Option AV
  | some j => (match t with
    | .mut => some (.p ⟨pl.e,pl.r,pl.path++[(pl.c,lo+j,z)],0⟩)
    | _ => some (.pr (Ya (es.getD (lo+j) []))))
  | none => none
def iaC(pl:Pl)(z zr lo n:Nat)(i:Int):Option AV->Option AV
  | some (.sl t z' es) => if(z=z'/\zr=z)/\lo+n<=es.length then iaM t pl z lo es (YJ n i) else none
  | _ => none
def ixS(b:ByteArray):Option Nat->Option AV
  | some j => some (.i .u8 (b.data[j]?.getD 0).toNat)
  | none => none
def Xs5:iaR es (some j)=some (.pr (es.getD j [])) :=nr rfl
def Xs6:iaF es (some j)=some (.pr [Vm.filt gone gone (es.getD j .u)]) :=nr rfl
def Xs7:iaM .mut pl z lo es (some j)=some (.p ⟨pl.e,pl.r,pl.path++[(pl.c,lo+j,z)],0⟩) :=nr rfl
def Xs8:iaM .ro pl z lo es (some j)=some (.pr (Ya (es.getD (lo+j) []))) :=nr rfl
def Xs9:iaM .app pl z lo es (some j)=some (.pr (Ya (es.getD (lo+j) []))) :=nr rfl
def Xta:iaC pl z zr lo n i (some (.sl t z' es))=if(z=z'/\zr=z)/\lo+n<=es.length then iaM t pl z lo es (YJ n i) else none :=nr rfl
def Xtb:ixS b (some j)=some (.i .u8 (b.data[j]?.getD 0).toNat) :=nr rfl
def Xtc:indexAddr st z (.sl .ro z' es) i=if z=z' then iaR es (YJ es.length i) else none :=by
  by_cases h:z=z'
  · simp only[indexAddr,if_pos h]; cases YJ es.length i<;>rfl
  · simp only[indexAddr,if_neg h]
def Xtd:indexAddr st z (.fs es) i=if z=1 then iaF es (YJ es.length i) else none :=by
  by_cases h:z=1
  · simp only[indexAddr,if_pos h]; cases YJ es.length i<;>rfl
  · simp only[indexAddr,if_neg h]
def Xte:indexAddr st z (.rf pl zr lo n) i=Xb (node st pl) (λcells => iaC pl z zr lo n i cells[pl.c]?) :=by
  simp only[indexAddr,Xb]
  cases node st pl with
  | none => rfl
  | some cells =>
    simp only
    cases cells[pl.c]? with
    | none => rfl
    | some a =>
      cases a<;>rfl
def Xtf:QC (.array m z ag w) (.agg cs) (.i k n)=if z=1/\ag=false then Xiv m cs n else none :=nr rfl
def Xtg:U4 5 1 false=[(0,1,false,0),(1,1,false,0),(2,1,false,0),(3,1,false,0),(4,1,false,0)] :=nr rfl
def Xth:QC .str (.s b) (.i k n)=ixS b (YJ b.size n) :=by simp only[QC,ixS]; cases YJ b.size n<;>rfl
def Xti:Xbg .u=none :=nr rfl
def Xtj:Xbg .no=none :=nr rfl
def Xtk:Xbg .ub=none :=nr rfl
def Xtl:Xbg (.b x)=none :=nr rfl
def Xtm:Xbg (.i k n)=none :=nr rfl
def Xtn:Xbg (.s x)=none :=nr rfl
def Xto:Xbg .nil=none :=nr rfl
def Xtp:Xbg (.sl t z es)=none :=nr rfl
def Xtq:Xbg (.rf pl y lo n)=none :=nr rfl
def Xtr:Xbg (.p pl)=some (.p pl) :=nr rfl
def Xts:Xbg (.pr cs)=some (.pr cs) :=nr rfl
def Xtt:Xbg .pn=none :=nr rfl
def Xtu:Xbg (.fn f cs)=none :=nr rfl
def Xtv:Xbg (.fs cs)=none :=nr rfl
def Xtw:Xbg (.agg cs)=none :=nr rfl
def Xtx:Xbg (.tup cs)=none :=nr rfl
def XlY(f:Nat)(cs xs:List AV):fnV (.fn f cs) xs=some (f,xs++cs) :=nr rfl
def Xty:strip .u=.u :=nr rfl
def Xtz:strip .no=.u :=nr rfl
def XtA:strip .ub=.ub :=nr rfl
def XtB:strip (.b x)=(.b x) :=nr rfl
def XtC:strip (.i k n)=(.i k n) :=nr rfl
def XtD:strip (.s x)=(.s x) :=nr rfl
def XtE:strip .nil=.nil :=nr rfl
def XtF:strip (.sl t z es)=.sl .ro z (Xy es) :=nr rfl
def XtG:strip (.rf pl y lo n)=.u :=nr rfl
def XtH:strip (.p pl)=.u :=nr rfl
def XtI:strip (.pr cs)=(.pr cs) :=nr rfl
def XtJ:strip .pn=.pn :=nr rfl
def XtK:strip (.fn f cs)=.u :=nr rfl
def XtL:strip (.fs cs)=.u :=nr rfl
def XtM:strip (.agg cs)=.u :=nr rfl
def XtN:strip (.tup cs)=.u :=nr rfl
def XtO:XF .u=false :=nr rfl
def XtP:XF .no=false :=nr rfl
def XtQ:XF .ub=false :=nr rfl
def XtR:XF (.b x)=false :=nr rfl
def XtS:XF (.i k n)=false :=nr rfl
def XtT:XF (.s x)=false :=nr rfl
def XtU:XF .nil=false :=nr rfl
def XtV:XF (.rf pl y lo n)=false :=nr rfl
def XtW:XF (.p pl)=false :=nr rfl
def XtX:XF (.pr cs)=true :=nr rfl
def XtY:XF .pn=false :=nr rfl
def XtZ:XF (.fn f cs)=true :=nr rfl
def Xt0:XF (.fs cs)=true :=nr rfl
def Xt1:XF (.agg cs)=X0 cs :=nr rfl
def Xt2:XF (.tup cs)=X0 cs :=nr rfl
def Xt3:XF (.sl .ro z es)=true :=nr rfl
def Xt4:XF (.sl .app z es)=true :=nr rfl
def Xt5:XF (.sl .mut z es)=XU es :=nr rfl
def Xt6:X0 []=false :=nr rfl
def Xt7:X0 (a :: l)=(XF a||X0 l) :=nr rfl
def Xt8:XR .u=true :=nr rfl
def Xt9:XR .no=false :=nr rfl
def Xua:XR .ub=true :=nr rfl
def Xub:XR (.b x)=true :=nr rfl
def Xuc:XR (.i k n)=true :=nr rfl
def Xud:XR (.s x)=true :=nr rfl
def Xue:XR .nil=true :=nr rfl
def Xuf:XR (.sl t z es)=true :=nr rfl
def Xug:XR (.rf pl y lo n)=false :=nr rfl
def Xuh:XR (.p pl)=false :=nr rfl
def Xui:XR (.pr cs)=true :=nr rfl
def Xuj:XR .pn=true :=nr rfl
def Xuk:XR (.fn f cs)=cs.all Yp :=nr rfl
def Xul:XR (.fs cs)=false :=nr rfl
def Xum:XR (.agg cs)=cs.all XC :=nr rfl
def Xun:XR (.tup cs)=false :=nr rfl
def Xuo:XaA ti0 E0 op0 .u a0=bin ti0 op0 .u a0 :=nr rfl
def Xup:XaA ti0 E0 op0 .no a0=bin ti0 op0 .no a0 :=nr rfl
def Xuq:XaA ti0 E0 op0 .ub a0=bin ti0 op0 .ub a0 :=nr rfl
def Xur:XaA ti0 E0 op0 (.b x) a0=bin ti0 op0 (.b x) a0 :=nr rfl
def Xus:XaA ti0 E0 op0 (.i k n) a0=bin ti0 op0 (.i k n) a0 :=nr rfl
def Xut:XaA ti0 E0 op0 (.s x) a0=bin ti0 op0 (.s x) a0 :=nr rfl
def Xuu:XaA ti0 E0 op0 .nil a0=bin ti0 op0 .nil a0 :=nr rfl
def Xuv:XaA ti0 E0 op0 (.sl t z es) a0=bin ti0 op0 (.sl t z es) a0 :=nr rfl
def Xuw:XaA ti0 E0 op0 (.rf pl y lo n) a0=bin ti0 op0 (.rf pl y lo n) a0 :=nr rfl
def Xux:XaA ti0 E0 op0 (.p pl) a0=bin ti0 op0 (.p pl) a0 :=nr rfl
def Xuy:XaA ti0 E0 op0 (.pr cs) a0=bin ti0 op0 (.pr cs) a0 :=nr rfl
def Xuz:XaA ti0 E0 op0 .pn a0=bin ti0 op0 .pn a0 :=nr rfl
def XuA:XaA ti0 E0 op0 (.fn f cs) a0=bin ti0 op0 (.fn f cs) a0 :=nr rfl
def XuB:XaA ti0 E0 op0 (.fs cs) a0=bin ti0 op0 (.fs cs) a0 :=nr rfl
def XuC:XaA ti0 E0 op0 (.tup cs) a0=bin ti0 op0 (.tup cs) a0 :=nr rfl
def eqR(op:BinOp)(e:Option Bool):Option AV :=match e with | some e => eqB op e | none => none
def XuD:XaA ti0 (some ks) op0 (.agg a) (.agg b)=eqR op0 (XQ ks a b) :=by simp only[XaA,XeM,eqR]; cases XQ ks a b<;>rfl
def XuE:eqR op (some e)=eqB op e :=nr rfl
def XjN(p:Bool)(e:Option Bool):Option Bool :=match e with | some e => some (p&&e) | none => none
def XuF:XjN p (some e)=some (p&&e) :=nr rfl
def XuG:XQ [] [] []=some true :=nr rfl
def XuH:XQ (0 :: ks) (.b x :: a) (.b y :: b)=XjN (x==y) (XQ ks a b) :=by simp only[XQ,XjN]; cases XQ ks a b<;>rfl
def XuI:XQ (1 :: ks) (.i k x :: a) (.i k y :: b)=XjN (x==y) (XQ ks a b) :=by simp only[XQ,XjN,if_true]; cases XQ ks a b<;>rfl
def XuJ:XQ (2 :: ks) (.s x :: a) (.s y :: b)=XjN (x.toList==y.toList) (XQ ks a b) :=by simp only[XQ,XjN]; cases XQ ks a b<;>rfl
def XuK:Yp .u=false :=nr rfl
def XuL:Yp .no=false :=nr rfl
def XuM:Yp .ub=false :=nr rfl
def XuN:Yp (.b x)=true :=nr rfl
def XuO:Yp (.i k n)=true :=nr rfl
def XuP:Yp (.s x)=true :=nr rfl
def XuQ:Yp .nil=false :=nr rfl
def XuR:Yp (.rf pl y lo n)=false :=nr rfl
def XuS:Yp (.p pl)=false :=nr rfl
def XuT:Yp (.pr cs)=true :=nr rfl
def XuU:Yp .pn=true :=nr rfl
def XuV:Yp (.fn f cs)=false :=nr rfl
def XuW:Yp (.fs cs)=false :=nr rfl
def XuX:Yp (.agg cs)=false :=nr rfl
def XuY:Yp (.tup cs)=false :=nr rfl
def XuZ:Yp (.sl .ro z es)=true :=nr rfl
def Xu0:ZR .u=Yp .u :=nr rfl
def Xu1:ZR .no=Yp .no :=nr rfl
def Xu2:ZR .ub=Yp .ub :=nr rfl
def Xu3:ZR (.b x)=Yp (.b x) :=nr rfl
def Xu4:ZR (.i k n)=Yp (.i k n) :=nr rfl
def Xu5:ZR (.s x)=Yp (.s x) :=nr rfl
def Xu6:ZR .nil=Yp .nil :=nr rfl
def Xu7:ZR (.sl t z es)=Yp (.sl t z es) :=nr rfl
def Xu8:ZR (.rf pl y lo n)=Yp (.rf pl y lo n) :=nr rfl
def Xu9:ZR (.p pl)=Yp (.p pl) :=nr rfl
def Xva:ZR (.pr cs)=Yp (.pr cs) :=nr rfl
def Xvb:ZR .pn=Yp .pn :=nr rfl
def Xvc:ZR (.fn f cs)=cs.all Yp :=nr rfl
def Xvd:ZR (.fs cs)=Yp (.fs cs) :=nr rfl
def Xve:ZR (.agg cs)=Yp (.agg cs) :=nr rfl
def Xvf:ZR (.tup cs)=Yp (.tup cs) :=nr rfl
def Xvg:Qh st d cs=if cs.all ZR=true then some (st.put d (.pr cs)) else none :=nr rfl
def Xvh:outLeaf st .u=if XC .u=true then some ((.u,none),st) else none :=nr rfl
def Xvi:outLeaf st .no=if XC .no=true then some ((.no,none),st) else none :=nr rfl
def Xvj:outLeaf st .ub=if XC .ub=true then some ((.ub,none),st) else none :=nr rfl
def Xvk:outLeaf st (.b x)=if XC (.b x)=true then some (((.b x),none),st) else none :=nr rfl
def Xvl:outLeaf st (.i k n)=if XC (.i k n)=true then some (((.i k n),none),st) else none :=nr rfl
def Xvm:outLeaf st (.s x)=if XC (.s x)=true then some (((.s x),none),st) else none :=nr rfl
def Xvn:outLeaf st .nil=if XC .nil=true then some ((.nil,none),st) else none :=nr rfl
def Xvo:outLeaf st (.sl t z es)=if XC (.sl t z es)=true then some (((.sl t z es),none),st) else none :=nr rfl
def Xvp:outLeaf st (.p pl)=if XC (.p pl)=true then some (((.p pl),none),st) else none :=nr rfl
def Xvq:outLeaf st (.pr cs)=if XC (.pr cs)=true then some (((.pr cs),none),st) else none :=nr rfl
def Xvr:outLeaf st .pn=if XC .pn=true then some ((.pn,none),st) else none :=nr rfl
def Xvs:outLeaf st (.fn f cs)=if XC (.fn f cs)=true then some (((.fn f cs),none),st) else none :=nr rfl
def Xvt:outLeaf st (.fs cs)=if XC (.fs cs)=true then some (((.fs cs),none),st) else none :=nr rfl
def Xvu:outLeaf st (.agg cs)=if XC (.agg cs)=true then some (((.agg cs),none),st) else none :=nr rfl
def Xvv:outLeaf st (.tup cs)=if XC (.tup cs)=true then some (((.tup cs),none),st) else none :=nr rfl
def Xvw:Xv st .u (some (pl0,b0))=some st :=nr rfl
def Xvx:Xv st .no (some (pl0,b0))=some st :=nr rfl
def Xvy:Xv st .ub (some (pl0,b0))=some st :=nr rfl
def Xvz:Xv st (.b x) (some (pl0,b0))=some st :=nr rfl
def XvA:Xv st (.i k n) (some (pl0,b0))=some st :=nr rfl
def XvB:Xv st (.s x) (some (pl0,b0))=some st :=nr rfl
def XvC:Xv st .nil (some (pl0,b0))=some st :=nr rfl
def XvD:Xv st (.rf pl y lo n) (some (pl0,b0))=some st :=nr rfl
def XvE:Xv st (.p pl) (some (pl0,b0))=some st :=nr rfl
def XvF:Xv st (.pr cs) (some (pl0,b0))=some st :=nr rfl
def XvG:Xv st .pn (some (pl0,b0))=some st :=nr rfl
def XvH:Xv st (.fn f cs) (some (pl0,b0))=some st :=nr rfl
def XvI:Xv st (.fs cs) (some (pl0,b0))=some st :=nr rfl
def XvJ:Xv st (.agg cs) (some (pl0,b0))=some st :=nr rfl
def XvK:Xv st (.tup cs) (some (pl0,b0))=some st :=nr rfl
def XvL:weakLeaf st .u=some st :=nr rfl
def XvM:weakLeaf st .no=some st :=nr rfl
def XvN:weakLeaf st .ub=some st :=nr rfl
def XvO:weakLeaf st (.b x)=some st :=nr rfl
def XvP:weakLeaf st (.i k n)=some st :=nr rfl
def XvQ:weakLeaf st (.s x)=some st :=nr rfl
def XvR:weakLeaf st .nil=some st :=nr rfl
def XvS:weakLeaf st (.sl t z es)=some st :=nr rfl
def XvT:weakLeaf st (.p pl)=none :=nr rfl
def XvU:weakLeaf st (.pr cs)=some st :=nr rfl
def XvV:weakLeaf st .pn=some st :=nr rfl
def XvW:weakLeaf st (.fn f cs)=none :=nr rfl
def XvX:weakLeaf st (.fs cs)=none :=nr rfl
def XvY:weakLeaf st (.agg cs)=none :=nr rfl
def XvZ:weakLeaf st (.tup cs)=none :=nr rfl
def Xv0:Qf st x0 .u=weakLeaf st .u :=nr rfl
def Xv1:Qf st x0 .no=weakLeaf st .no :=nr rfl
def Xv2:Qf st x0 .ub=weakLeaf st .ub :=nr rfl
def Xv3:Qf st x0 (.b x)=weakLeaf st (.b x) :=nr rfl
def Xv4:Qf st x0 (.i k n)=weakLeaf st (.i k n) :=nr rfl
def Xv5:Qf st x0 (.s x)=weakLeaf st (.s x) :=nr rfl
def Xv6:Qf st x0 .nil=weakLeaf st .nil :=nr rfl
def Xv7:Qf st x0 (.sl t z es)=weakLeaf st (.sl t z es) :=nr rfl
def Xv8:Qf st x0 (.rf pl y lo n)=weakLeaf st (.rf pl y lo n) :=nr rfl
def Xv9:Qf st x0 (.p pl)=weakLeaf st (.p pl) :=nr rfl
def Xwa:Qf st x0 (.pr cs)=weakLeaf st (.pr cs) :=nr rfl
def Xwb:Qf st x0 .pn=weakLeaf st .pn :=nr rfl
def Xwc:Qf st x0 (.fn f cs)=weakLeaf st (.fn f cs) :=nr rfl
def Xwd:Qf st x0 (.fs cs)=weakLeaf st (.fs cs) :=nr rfl
def Xwe:Qf st x0 (.agg cs)=Y9 x0 cs.length 0 st :=nr rfl
def Xwf:Qf st x0 (.tup cs)=weakLeaf st (.tup cs) :=nr rfl
def Xwg:YU .u=true :=nr rfl
def Xwh:YU .no=true :=nr rfl
def Xwi:YU .ub=true :=nr rfl
def Xwj:YU (.b x)=true :=nr rfl
def Xwk:YU (.i k n)=true :=nr rfl
def Xwl:YU (.s x)=true :=nr rfl
def Xwm:YU .nil=true :=nr rfl
def Xwn:YU (.sl t z es)=true :=nr rfl
def Xwo:YU (.rf pl y lo n)=true :=nr rfl
def Xwp:YU (.p pl)=true :=nr rfl
def Xwq:YU (.pr cs)=true :=nr rfl
def Xwr:YU .pn=true :=nr rfl
def Xws:YU (.fn f cs)=true :=nr rfl
def Xwt:YU (.fs cs)=true :=nr rfl
def Xwu:YU (.agg cs)=false :=nr rfl
def Xwv:YU (.tup cs)=true :=nr rfl
def Xww:XB st z .u=none :=nr rfl
def Xwx:XB st z .no=none :=nr rfl
def Xwy:XB st z .ub=none :=nr rfl
def Xwz:XB st z (.b x)=none :=nr rfl
def XwA:XB st z (.i k n)=none :=nr rfl
def XwB:XB st z (.s x)=none :=nr rfl
def XwC:XB st z .nil=some [] :=nr rfl
def XwD:XB st z (.p pl)=none :=nr rfl
def XwE:XB st z (.pr cs)=none :=nr rfl
def XwF:XB st z .pn=none :=nr rfl
def XwG:XB st z (.fn f cs)=none :=nr rfl
def XwH:XB st z (.fs cs)=none :=nr rfl
def XwI:XB st z (.agg cs)=none :=nr rfl
def XwJ:XB st z (.tup cs)=none :=nr rfl
def XwK:XB st z (.sl t y es)=if y=z then some es else none :=nr rfl
def XwL:XB st z (.rf pl y lo n)=if y=z then Xw st (.rf pl y lo n) else none :=nr rfl
def XwM:Xj ow av st d .u=some .u :=by cases d<;>simp only[Xj]
def XwN:Xj ow av st d .no=none :=by cases d<;>simp only[Xj]
def XwO:Xj ow av st d .ub=some .ub :=by cases d<;>simp only[Xj]
def XwP:Xj ow av st d (.b x)=some (.b x) :=by cases d<;>simp only[Xj]
def XwQ:Xj ow av st d (.i k n)=some (.i k n) :=by cases d<;>simp only[Xj]
def XwR:Xj ow av st d (.s x)=some (.s x) :=by cases d<;>simp only[Xj]
def XwS:Xj ow av st d .nil=some .nil :=by cases d<;>simp only[Xj]
def XwT:Xj ow av st d (.sl t z es)=some (.sl .ro z (Xy es)) :=by cases d<;>simp only[Xj]
def XwU:Xj ow av st d (.pr cs)=some (.pr cs) :=by cases d<;>simp only[Xj]
def XwV:Xj ow av st d .pn=some .pn :=by cases d<;>simp only[Xj]
def XwW:Xj ow av st d (.agg cs)=none :=by cases d<;>simp only[Xj]
def XwX:Xj ow av st d (.tup cs)=none :=by cases d<;>simp only[Xj]
def prO(x:Option (List AV)):Option AV :=match x with
  | some cs => some (.pr cs)
  | none => none
def agO(x:Option (List AV)):Option AV :=match x with
  | some cs => some (.agg cs)
  | none => none
def fnO(f:Nat)(x:Option (List AV)):Option AV :=match x with
  | some cs => some (.fn f cs)
  | none => none
def fsO(x:Option (List AV)):Option AV :=match x with
  | some cs => some (.fs cs)
  | none => none
def coO(a:Option AV)(x:Option (List AV)):Option (List AV) :=match a,x with
  | some a,some l => some (a :: l)
  | _,_ => none
def XwY:Za ow av st .u=Xj ow av st 8 .u :=nr rfl
def XwZ:Za ow av st .no=Xj ow av st 8 .no :=nr rfl
def Xw0:Za ow av st .ub=Xj ow av st 8 .ub :=nr rfl
def Xw1:Za ow av st (.b x)=Xj ow av st 8 (.b x) :=nr rfl
def Xw2:Za ow av st (.i k n)=Xj ow av st 8 (.i k n) :=nr rfl
def Xw3:Za ow av st (.s x)=Xj ow av st 8 (.s x) :=nr rfl
def Xw4:Za ow av st .nil=Xj ow av st 8 .nil :=nr rfl
def Xw5:Za ow av st (.sl t z es)=Xj ow av st 8 (.sl t z es) :=nr rfl
def Xw6:Za ow av st (.rf pl y lo n)=Xj ow av st 8 (.rf pl y lo n) :=nr rfl
def Xw7:Za ow av st (.p pl)=Xj ow av st 8 (.p pl) :=nr rfl
def Xw8:Za ow av st (.pr cs)=Xj ow av st 8 (.pr cs) :=nr rfl
def Xw9:Za ow av st .pn=Xj ow av st 8 .pn :=nr rfl
def Xxa:Za ow av st (.fn f cs)=Xj ow av st 8 (.fn f cs) :=nr rfl
def Xxb:Za ow av st (.fs cs)=Xj ow av st 8 (.fs cs) :=nr rfl
def Xxc:Za ow av st (.agg cs)=agO (Xl ow av st 8 cs) :=by simp only[Za,agO]; cases Xl ow av st 8 cs<;>rfl
def Xxd:Za ow av st (.tup cs)=Xj ow av st 8 (.tup cs) :=nr rfl
def Xxe:prO (some cs)=some (.pr cs) :=nr rfl
def Xxf:agO (some cs)=some (.agg cs) :=nr rfl
def Xxg:fnO f (some cs)=some (.fn f cs) :=nr rfl
def Xxh:fsO (some cs)=some (.fs cs) :=nr rfl
def Xxi:coO (some a) (some l)=some (a :: l) :=nr rfl
def Xxj:Xj ow av st 1 (.p pl)=if(ow&&Zs av pl&&Xt st pl)=true then prO (Xb (node st pl) (λcells => Xl ow av st 0 (cells.drop pl.c))) else none :=by
  simp only[Xj,Xb,prO]
  cases node st pl with
  | none => rfl
  | some cells => simp only[]; cases Xl ow av st 0 (cells.drop pl.c)<;>rfl
def Xxk:Xj ow av st 1 (.fs cs)=fsO (Xl ow av st 0 cs) :=by
  simp only[Xj,fsO]; cases Xl ow av st 0 cs<;>rfl
def Xxl:Xj ow av st 1 (.fn f cs)=fnO f (Xl ow av st 0 cs) :=by
  simp only[Xj,fnO]; cases Xl ow av st 0 cs<;>rfl
def Xxm:Xj ow av st 2 (.p pl)=if(ow&&Zs av pl&&Xt st pl)=true then prO (Xb (node st pl) (λcells => Xl ow av st 1 (cells.drop pl.c))) else none :=by
  simp only[Xj,Xb,prO]
  cases node st pl with
  | none => rfl
  | some cells => simp only[]; cases Xl ow av st 1 (cells.drop pl.c)<;>rfl
def Xxn:Xj ow av st 2 (.fs cs)=fsO (Xl ow av st 1 cs) :=by
  simp only[Xj,fsO]; cases Xl ow av st 1 cs<;>rfl
def Xxo:Xj ow av st 2 (.fn f cs)=fnO f (Xl ow av st 1 cs) :=by
  simp only[Xj,fnO]; cases Xl ow av st 1 cs<;>rfl
def Xxp:Xj ow av st 3 (.p pl)=if(ow&&Zs av pl&&Xt st pl)=true then prO (Xb (node st pl) (λcells => Xl ow av st 2 (cells.drop pl.c))) else none :=by
  simp only[Xj,Xb,prO]
  cases node st pl with
  | none => rfl
  | some cells => simp only[]; cases Xl ow av st 2 (cells.drop pl.c)<;>rfl
def Xxq:Xj ow av st 3 (.fs cs)=fsO (Xl ow av st 2 cs) :=by
  simp only[Xj,fsO]; cases Xl ow av st 2 cs<;>rfl
def Xxr:Xj ow av st 3 (.fn f cs)=fnO f (Xl ow av st 2 cs) :=by
  simp only[Xj,fnO]; cases Xl ow av st 2 cs<;>rfl
def Xxs:Xj ow av st 4 (.p pl)=if(ow&&Zs av pl&&Xt st pl)=true then prO (Xb (node st pl) (λcells => Xl ow av st 3 (cells.drop pl.c))) else none :=by
  simp only[Xj,Xb,prO]
  cases node st pl with
  | none => rfl
  | some cells => simp only[]; cases Xl ow av st 3 (cells.drop pl.c)<;>rfl
def Xxt:Xj ow av st 4 (.fs cs)=fsO (Xl ow av st 3 cs) :=by
  simp only[Xj,fsO]; cases Xl ow av st 3 cs<;>rfl
def Xxu:Xj ow av st 4 (.fn f cs)=fnO f (Xl ow av st 3 cs) :=by
  simp only[Xj,fnO]; cases Xl ow av st 3 cs<;>rfl
def Xxv:Xj ow av st 5 (.p pl)=if(ow&&Zs av pl&&Xt st pl)=true then prO (Xb (node st pl) (λcells => Xl ow av st 4 (cells.drop pl.c))) else none :=by
  simp only[Xj,Xb,prO]
  cases node st pl with
  | none => rfl
  | some cells => simp only[]; cases Xl ow av st 4 (cells.drop pl.c)<;>rfl
def Xxw:Xj ow av st 5 (.fs cs)=fsO (Xl ow av st 4 cs) :=by
  simp only[Xj,fsO]; cases Xl ow av st 4 cs<;>rfl
def Xxx:Xj ow av st 5 (.fn f cs)=fnO f (Xl ow av st 4 cs) :=by
  simp only[Xj,fnO]; cases Xl ow av st 4 cs<;>rfl
def Xxy:Xj ow av st 6 (.p pl)=if(ow&&Zs av pl&&Xt st pl)=true then prO (Xb (node st pl) (λcells => Xl ow av st 5 (cells.drop pl.c))) else none :=by
  simp only[Xj,Xb,prO]
  cases node st pl with
  | none => rfl
  | some cells => simp only[]; cases Xl ow av st 5 (cells.drop pl.c)<;>rfl
def Xxz:Xj ow av st 6 (.fs cs)=fsO (Xl ow av st 5 cs) :=by
  simp only[Xj,fsO]; cases Xl ow av st 5 cs<;>rfl
def XxA:Xj ow av st 6 (.fn f cs)=fnO f (Xl ow av st 5 cs) :=by
  simp only[Xj,fnO]; cases Xl ow av st 5 cs<;>rfl
def XxB:Xj ow av st 7 (.p pl)=if(ow&&Zs av pl&&Xt st pl)=true then prO (Xb (node st pl) (λcells => Xl ow av st 6 (cells.drop pl.c))) else none :=by
  simp only[Xj,Xb,prO]
  cases node st pl with
  | none => rfl
  | some cells => simp only[]; cases Xl ow av st 6 (cells.drop pl.c)<;>rfl
def XxC:Xj ow av st 7 (.fs cs)=fsO (Xl ow av st 6 cs) :=by
  simp only[Xj,fsO]; cases Xl ow av st 6 cs<;>rfl
def XxD:Xj ow av st 7 (.fn f cs)=fnO f (Xl ow av st 6 cs) :=by
  simp only[Xj,fnO]; cases Xl ow av st 6 cs<;>rfl
def XxE:Xj ow av st 8 (.p pl)=if(ow&&Zs av pl&&Xt st pl)=true then prO (Xb (node st pl) (λcells => Xl ow av st 7 (cells.drop pl.c))) else none :=by
  simp only[Xj,Xb,prO]
  cases node st pl with
  | none => rfl
  | some cells => simp only[]; cases Xl ow av st 7 (cells.drop pl.c)<;>rfl
def XxF:Xj ow av st 8 (.fs cs)=fsO (Xl ow av st 7 cs) :=by
  simp only[Xj,fsO]; cases Xl ow av st 7 cs<;>rfl
def XxG:Xj ow av st 8 (.fn f cs)=fnO f (Xl ow av st 7 cs) :=by
  simp only[Xj,fnO]; cases Xl ow av st 7 cs<;>rfl
def XxH:Xl ow av st d []=some [] :=by simp only[Xl]
def XxI:Xl ow av st d (a :: l)=coO (Xj ow av st d a) (Xl ow av st d l) :=by
  simp only[Xl,coO]
  cases Xj ow av st d a with
  | none => rfl
  | some a' => simp only[]; cases Xl ow av st d l<;>rfl
def XkR(ow:Bool):Tag->Bool
  | .mut => ow
  | _ => true
def XlZ(ow:Bool)(y lo n:Nat)(a:Option AV):Option AV :=match a with
  | some (.sl t z es) => if(lo+n<=es.length/\y=z)/\XkR ow t=true then some (.sl .ro y (Xy ((es.drop lo).take n))) else none
  | _ => none
def XxJ:XkR ow .mut=ow :=nr rfl
def XxK:XkR ow .ro=true :=nr rfl
def XxL:XkR ow .app=true :=nr rfl
def XxM:Xj ow av st d (.rf pl y lo n)=if Zs av pl=true then Xb (node st pl) (λcells => XlZ ow y lo n cells[pl.c]?) else none :=by
  cases d<;>(simp only[Xj,Xb,XlZ]; split<;>(try rfl); cases node st pl with
    | none => rfl
    | some cells => simp only[]; cases cells[pl.c]? with
      | none => rfl
      | some a => cases a<;>(try rfl); rename_i t z es; cases t<;>cases ow<;>simp[XkR])
def XxN:Xw st .u=none :=nr rfl
def XxO:Xw st .no=none :=nr rfl
def XxP:Xw st .ub=none :=nr rfl
def XxQ:Xw st (.b x)=none :=nr rfl
def XxR:Xw st (.i k n)=none :=nr rfl
def XxS:Xw st (.s x)=none :=nr rfl
def XxT:Xw st .nil=some [] :=nr rfl
def XxU:Xw st (.sl t z es)=some es :=nr rfl
def XxV:Xw st (.p pl)=none :=nr rfl
def XxW:Xw st (.pr cs)=none :=nr rfl
def XxX:Xw st .pn=none :=nr rfl
def XxY:Xw st (.fn f cs)=none :=nr rfl
def XxZ:Xw st (.fs cs)=none :=nr rfl
def Xx0:Xw st (.agg cs)=none :=nr rfl
def Xx1:Xw st (.tup cs)=none :=nr rfl
def Xx2:Xj1 st .str (.s x)=some x.size :=nr rfl
def Xx3:XbG .str=true :=nr rfl
def Xx4:XbG (.slice z b zero)=true :=nr rfl
def Xx5:Xj1 st (.slice z b zero) a=lenOf st a :=nr rfl
def Xx6:QO .str (.s b) lo hi=Y8 (.s b) lo hi :=nr rfl
def Xx7:QO (.slice z b zero) (.sl t z es) lo hi=Y8 (.sl t z es) lo hi :=by simp only[QO,if_true]
def Xx8:QO (.slice z b zero) (.rf pl z o n) lo hi=Y8 (.rf pl z o n) lo hi :=by simp only[QO,if_true]
def Xx9:lenOf st .u=none :=nr rfl
def Xya:lenOf st .no=none :=nr rfl
def Xyb:lenOf st .ub=none :=nr rfl
def Xyc:lenOf st (.b x)=none :=nr rfl
def Xyd:lenOf st (.i k n)=none :=nr rfl
def Xye:lenOf st (.s x)=none :=nr rfl
def Xyf:lenOf st .nil=some 0 :=nr rfl
def Xyg:lenOf st (.sl t z es)=some es.length :=nr rfl
def Xyh:lenOf st (.p pl)=none :=nr rfl
def Xyi:lenOf st (.pr cs)=none :=nr rfl
def Xyj:lenOf st .pn=none :=nr rfl
def Xyk:lenOf st (.fn f cs)=none :=nr rfl
def Xyl:lenOf st (.fs cs)=some cs.length :=nr rfl
def Xym:lenOf st (.agg cs)=none :=nr rfl
def Xyn:lenOf st (.tup cs)=none :=nr rfl
def Xl0(y n lo:Nat)(a:Option AV):Option Nat :=match a with
  | some (.sl _ z es) => if lo+n<=es.length/\y=z then some ((es.drop lo).take n).length else none
  | _ => none
def Xl1(y n lo:Nat)(a:Option AV):Option (List (List AV)) :=match a with
  | some (.sl _ z es) => if lo+n<=es.length/\y=z then some ((es.drop lo).take n) else none
  | _ => none
def Xyo:Xw st (.rf pl y lo n)=Xb (node st pl) (λcells => Xl1 y n lo cells[pl.c]?) :=by simp only[Xw,Xb,Xl1]; cases node st pl<;>rfl
def Xyp:lenOf st (.rf pl y lo n)=Xb (node st pl) (λcells => Xl0 y n lo cells[pl.c]?) :=by
  simp only[lenOf,Xw,Xb,Xl0]
  cases node st pl with
  | none => rfl
  | some cells =>
    simp only[]
    cases cells[pl.c]? with
    | none => rfl
    | some a =>
      cases a<;>try rfl
      rename_i t z es
      simp only[]
      by_cases h:lo+n<=es.length/\y=z
      · simp only[if_pos h]
      · simp only[if_neg h]
def Xyq:bin ti op (.i k a) (.i k b)=XcB op k a b :=by simp only[bin,if_true]
def Xyr:bin ti op (.s a) (.s b)=Xh5 op a b :=nr rfl
def Xys:bin (some .bool) op (.b a) (.b b)=eqB op (a==b) :=nr rfl
def Xyt:bin (some .ptr) op (.p q) .pn=eqB op false :=nr rfl
def Xyu:bin (some .ptr) op (.pr q) .pn=eqB op false :=nr rfl
def Xyv:bin (some .ptr) op .pn .pn=eqB op true :=nr rfl
def Xyw:XcB .add k a b=some (.i k (k.wrap (a+b))) :=nr rfl
def Xyx:XcB .sub k a b=some (.i k (k.wrap (a-b))) :=nr rfl
def Xyy:XcB .mul k a b=some (.i k (k.wrap (a*b))) :=nr rfl
def Xyz:XcB .eql k a b=some (.b (a==b)) :=nr rfl
def XyA:XcB .neq k a b=some (.b (a !=b)) :=nr rfl
def XyB:XcB .lss k a b=some (.b (decide (a<b))) :=nr rfl
def XyC:XcB .leq k a b=some (.b (decide (a<=b))) :=nr rfl
def XyD:XcB .gtr k a b=some (.b (decide (a>b))) :=nr rfl
def XyE:XcB .geq k a b=some (.b (decide (a>=b))) :=nr rfl
def XyF:XcB .quo k a b=if b=0 then none else some (.i k (k.wrap (a.tdiv b))) :=nr rfl
def XyG:XcB .rem k a b=if b=0 then none else some (.i k (a.tmod b)) :=nr rfl
def XyH:Xh5 .eql a b=some (.b (a.toList==b.toList)) :=nr rfl
def XyI:Xh5 .neq a b=some (.b !(a.toList==b.toList)) :=nr rfl
def XyJ:Xh5 .lss a b=some (.b (Op.bytesLess a.toList b.toList)) :=nr rfl
def XyK:Xh5 .add a b=if a.size+b.size<=9223372036854775807 then some (.s (a++b)) else none :=nr rfl
def XyL(e:Bool)(x:Option Bool):Option Bool :=match x with
  | some y => some (e&&y)
  | none => none
def XyM:XyL e (some y)=some (e&&y) :=nr rfl
def XyN:unV .not (.b x)=some (.b !x) :=nr rfl
def XyO:unV .neg (.i k n)=some (.i k (k.wrap (0-n))) :=nr rfl
def XyP:XdO (.bool x)=.b x :=nr rfl
def XyQ:XdO (.int k n)=.i k n :=nr rfl
def XyR:XdO (.string x)=.s x :=nr rfl
def XyS:XdO (.slice none 0 0)=.nil :=nr rfl
def XyT:XdO (.pointer none)=.pn :=nr rfl
def XyU:bin T op (.sl t z es) .nil=Uz T op es.length :=nr rfl
def XyV:bin T op (.rf q z lo n) .nil=Uz T op n :=nr rfl
def XyW:Uz (some (.slice z b ze)) .eql n=if 0<n then some (.b false) else some .ub :=nr rfl
def XyX:Uz (some (.slice z b ze)) .neq n=if 0<n then some (.b true) else some .ub :=nr rfl
def Xlh(f:Nat->AV)(g:Nat->List AV)(t j:Nat)(a:AV):Option (AV×St) :=match a with
  | .tup vs => match vs[j]? with
    | some v => some (v,⟨upd f t (.tup (vs.set j .u)),g⟩)
    | none => none
  | _ => none
def Xl2(f:Nat->AV)(g:Nat->List AV)(t j:Nat)(vs:List AV)(x:Option AV):Option (AV×St) :=match x with
  | some v => some (v,⟨upd f t (.tup (vs.set j .u)),g⟩)
  | none => none
def XyY:ZT ⟨f,g⟩ (.tmp t) j=Xlh f g t j (f t) :=by simp only[ZT,Xlh]; cases f t<;>rfl
def XyZ:Xlh f g t j (.tup vs)=Xl2 f g t j vs vs[j]? :=by simp only[Xlh,Xl2]
def Xy0:Xl2 f g t j vs (some v)=some (v,⟨upd f t (.tup (vs.set j .u)),g⟩) :=nr rfl
attribute [go_sem ↓] Xhd Xjb Xhe Xje Xee Xcc Xa9 XcX XcY Xd3 Xbv XcZ Xc0 Xc1 Xd5 Xd6 Xec Xcb Xc3 Xc4 XcW Xb1 Xbu Xfm Xfn Xb2 Xb3 Xb4 Xb5 Xb6 Zr XdE XdF Xft Xao Xa8 Xaq Xa6 Xa7 Xba Xar Xjm XfJ Xjp Xhk XkK Xjq Xhl Xc6 Xcd Xhm Xce Xhn XkL XlO Xeg Xhq Xc7 Xeh Xhr Xbw Xcf XkM XfM Xhs XkN XkO Xjr Xht Xjs Xhu Xhv Xjt Xhx Xhw XhP XmU XmV XmW XmX
attribute [go_sem] XfK XfL Xho Xhp Xko XfI XfH XfF XfG Xjk Xhi Xhj Xfy Xfz Xjf XfA XfB Xef XfC XlM Xfq Xi0 Xi2 Xfr Xfs Xg0 Xi1 Xcc Xa9 Xjd Xed XlP Xjx Xjy XkP XhD Xej Xek Xc9 Xel Xem Xen XfN Xcg XfO Xch Xda Xeo XfQ XhE XfR Xdb XhF Xep Xeq XhG XhH XhI XhJ XjC XjD XhK Xdd XjE XhL Xde XhM Xer XhN XfU XfV XfW XhO Xes Xdf Xci Xcj Xdg Xet Xdh XaH Xas Xbx XjG Xby XjI XaI Xd7 Xd8 Xd9 Xea Xb9 Xca Xeb Xg1 Xg2 Xg3 Xg4 Xg5 Xi6 stU skS XfE XbH Qi ZJ XeQ XfS Xhy Xju Xjv Xjw Xei Xc8 XhA XhB XhC Xhz XjJ Xld Xhf Xjg Xhg XfD Xjh trim? XiQ inE XgW opU skU Zr Xd2 Xfl XdE XdF Xft Xfu Xg6 Xb2 Xb3 Xb4 Xb5 Xb6 Xao Xa8 Xaq Xi9 Xba Xar Xjo Xfo Xfp XgZ Xg7 Xg8 Xi7 Xfv Xg9 Xha Xhb Xfw Xhc Xa6 Xa7 XiT Xnx Xny Xnz XlK XkF XiU jL Z5 jE jB Xb7 Xb8 XiX XiY
  k0 k1 k2 k3 k4 k5 k6 k7 k8 k9 k10 k11 k12 k13 k14 k15 k16 k17 k18 k19 k20 k21 k22 k23 k24 k25 k26 k27 k28 k29 k30 k31 k32 k33 k34 k35 k36 k37 k38 k39 k40 k41 k42 k43 k44 k45 k46 k47 k48 k49 k50 k51 k52 k53 k54 k55 k56 k57 k58 k59 k60 k61 k62 k63 k64 k65 k66 k67 k68 k69 k70 k71 k72 k73 k74 k75 k76 k77 k78 k79 k80 k81 k82 k83 k84 k85 k86 k87 k88 k89 k90 k91 k92 k93 k94 k95 k96 k97 k98 k99 XnA XnB XnC XnD XnE XnF XnG XnH XnI XnJ XnK XnL XnM XnN XnO XnP XnQ XnR XnS XnT XnU XnV XnW XnX XnY XnZ Xn0 Xn1 Xn2 Xn3 Xn4 Xn5 Xn6 Xn7 Xn8 Xn9 Xoa Xob Xoc Xod Xoe Xof Xog Xoh Xoi Xoj Xok Xol Xom Xon Xoo Xop Xoq Xor Xos Xot Xou Xov Xow Xox Xoy Xoz XoA XoB XoC XoD XoE XoF XoG XoH XoI XoJ XoK XoL XoM XoN XoO XoP XoQ XoR XoS XoT XoU XoV XoW XoX XoY XoZ Xo0 Xo1 Xo2 Xo3 Xo4 Xo5 Xo6 Xo7 Xo8 Xo9 Xpa Xpb Xpc Xpd Xpe Xpf Xpg Xph Xpi Xpj Xpk Xpl Xpm Xpn Xpo Xpp Xpq Xpr Xps Xpt Xpu Xpv Xpw Xpx Xpy Xpz XpA XpB XpC XpD XpE XpF XpG XpH XpI XpJ XpK XpL XpM XpN XpO XpP XpQ XpR XpS XpT XpU XpV XpW XpX XpY XpZ Xp0 Xp1 Xp2 Xp3 Xp4 Xp5 Xp6 Xp7 Xp8 Xp9 Xqa Xqb Xqc Xqd Xqe Xqf Xqg Xqh Xqi Xqj Xqk Xql Xqm Xqn Xqo Xqp Xqq Xqr Xqs Xqt Xqu Xqv Xqw Xqx Xqy Xqz XqA XqB XqC XqD XqE XqF XqG XqH XqI XqJ XqK XqL XqM XqN XqO XqP XqQ XqR XqS XqT XqU XqV XqW XqX XqY XqZ Xq0 Xq1 Xq2 Xq3 Xq4 Xq5 Xq6 Xq7 Xq8 Xq9 Xra Xrb Xrc Xrd Xre Xrf Xrg Xrh Xri Xrj Xrk Xrl Xrm Xrn Xro Xrp Xrq Xrr Xrs Xrt Xru Xrv Xrw Xrx XmU XmV XmW XmX Xry Xrz XlI XlJ XcV XiP Xan Xfi Xgi Xd1 XgU Xfj Xfk Xhh Xji Xjj XrA XrB XrC XrD XrE XrF XrG XrH XrI XrJ XrK XrL XrM XrN XrO XrP XrQ XrR XrS XrT XrU XrV XrW XrX XrY XrZ Xr0 Xr1 Xr2 Xr3 Xr4 Xr5 Xr6 Xr7 Xr8 Xr9 Xsa Xsb Xsc Xsd Xse Xsf Xsg Xsh Xsi Xsj Xsk Xsl Xsm Xsn Xso XmY Xsp Xsq XjM Xsr Xss Xst Xsu Xsv Xsw Xsx Xsy Xsz XsA XsB XsC XsD XsE XsF XsG XsH XsI XsJ XsK XsL XsM XsN XsO XsP XsQ XsR XsS XsT XsU XsV XsW XsX XsY XsZ Xs0 Xs1 Xs2 Xs3 St.cut keepP keepR Xk YG Xp Qj setCells storeAt takeRf ZH Y8 U6 YW YC YK Xaz XdS Zg Ug Xbf Xdr QP Qu U0 XdR XcC XbA XmR Zs YO rwB U8 Qa one eqB Ya Xy whole Md.isMv Md.isRw Xs4 Xs5 Xs6 Xs7 Xs8 Xs9 Xta Xtb Xtc Xtd Xte Xtf Xtg Xth Xti Xtj Xtk Xtl Xtm Xtn Xto Xtp Xtq Xtr Xts Xtt Xtu Xtv Xtw Xtx XlY Xty Xtz XtA XtB XtC XtD XtE XtF XtG XtH XtI XtJ XtK XtL XtM XtN XtO XtP XtQ XtR XtS XtT XtU XtV XtW XtX XtY XtZ Xt0 Xt1 Xt2 Xt3 Xt4 Xt5 Xt6 Xt7 Xt8 Xt9 Xua Xub Xuc Xud Xue Xuf Xug Xuh Xui Xuj Xuk Xul Xum Xun Xuo Xup Xuq Xur Xus Xut Xuu Xuv Xuw Xux Xuy Xuz XuA XuB XuC XuD XuE XuF XuG XuH XuI XuJ XuK XuL XuM XuN XuO XuP XuQ XuR XuS XuT XuU XuV XuW XuX XuY XuZ Xu0 Xu1 Xu2 Xu3 Xu4 Xu5 Xu6 Xu7 Xu8 Xu9 Xva Xvb Xvc Xvd Xve Xvf Xvg Xvh Xvi Xvj Xvk Xvl Xvm Xvn Xvo Xvp Xvq Xvr Xvs Xvt Xvu Xvv Xvw Xvx Xvy Xvz XvA XvB XvC XvD XvE XvF XvG XvH XvI XvJ XvK XvL XvM XvN XvO XvP XvQ XvR XvS XvT XvU XvV XvW XvX XvY XvZ Xv0 Xv1 Xv2 Xv3 Xv4 Xv5 Xv6 Xv7 Xv8 Xv9 Xwa Xwb Xwc Xwd Xwe Xwf Xwg Xwh Xwi Xwj Xwk Xwl Xwm Xwn Xwo Xwp Xwq Xwr Xws Xwt Xwu Xwv Xww Xwx Xwy Xwz XwA XwB XwC XwD XwE XwF XwG XwH XwI XwJ XwK XwL XwM XwN XwO XwP XwQ XwR XwS XwT XwU XwV XwW XwX XwY XwZ Xw0 Xw1 Xw2 Xw3 Xw4 Xw5 Xw6 Xw7 Xw8 Xw9 Xxa Xxb Xxc Xxd Xxe Xxf Xxg Xxh Xxi Xxj Xxk Xxl Xxm Xxn Xxo Xxp Xxq Xxr Xxs Xxt Xxu Xxv Xxw Xxx Xxy Xxz XxA XxB XxC XxD XxE XxF XxG XxH XxI XxJ XxK XxL XxM XlZ XxN XxO XxP XxQ XxR XxS XxT XxU XxV XxW XxX XxY XxZ Xx0 Xx1 Xx2 Xx3 Xx4 Xx5 Xx6 Xx7 Xx8 Xx9 Xya Xyb Xyc Xyd Xye Xyf Xyg Xyh Xyi Xyj Xyk Xyl Xym Xyn Xyo Xyp Xl0 Xl1 Xyq Xyr Xys Xyt Xyu Xyv Xyw Xyx Xyy Xyz XyA XyB XyC XyD XyE XyF XyG XyH XyI XyJ XyK XyM XyN XyO XyP XyQ XyR XyS XyT XyU XyV XyW XyX XyY XyZ Xy0
end Go.Vm
