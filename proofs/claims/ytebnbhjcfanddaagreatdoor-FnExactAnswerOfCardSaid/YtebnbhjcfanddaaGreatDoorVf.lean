/- A part of a reflected evaluator of the program's code, and the proof that what it computes is what the machine does. -/
import Derived.Test.YtebnbhjcfanddaaGreatDoorVa
import Derived.Attr
set_option linter.unusedVariables false
set_option linter.unusedSimpArgs false
set_option autoImplicit false
set_option linter.defProp false
namespace Go.Vm
def nr{α:Sort _}{a b:α}(h:a=b):a=b:=h
def E:List (Nat×AV)->Nat->AV
 | [],_=>.u
 | (k,v) :: r,t=>if t=k then v else E r t
def B:List (Nat×List AV)->Nat->List AV
 | [],_=>[]
 | (k,v) :: r,t=>if t=k then v else B r t
def XpN(t:Nat):E [] t=.u:=nr rfl
def Xa9(k:Nat)(v:AV)(r:List (Nat×AV))(t:Nat):E ((k,v) :: r) t=if t=k then v else E r t:=nr rfl
def XpO(t:Nat):B [] t=[]:=nr rfl
def XbS(k:Nat)(v:List AV)(r:List (Nat×List AV))(t:Nat):B ((k,v) :: r) t=if t=k then v else B r t:=nr rfl
def Xfa(l:List (Nat×AV))(t:Nat)(v:AV):upd (E l) t v=E ((t,v) :: l):=by funext x; simp[upd,Xa9]
def XlI(l:List (Nat×List AV))(t:Nat)(v:List AV):upd (B l) t v=B ((t,v) :: l):=by funext x; simp[upd,XbS]
def Xh2(kp kr:Pl->Bool):List (Nat×AV)->List (Nat×AV)
 | []=>[]
 | (k,v) :: r=>(k,filt kp kr v) :: Xh2 kp kr r
def XiZ(kp kr:Pl->Bool):List (Nat×List AV)->List (Nat×List AV)
 | []=>[]
 | (k,v) :: r=>(k,XZ kp kr v) :: XiZ kp kr r
def XbT(l:List (Nat×AV))(m:List (Nat×List AV))(kp kr:Pl->Bool):St.filt ⟨E l,B m⟩ kp kr=⟨E (Xh2 kp kr l),B (XiZ kp kr m)⟩:=by
 simp only[St.filt,St.mk.injEq]
 constructor
 ·funext t
  induction l with
  | nil=>rfl
  | cons x r ih=>obtain⟨k,v⟩:=x; simp only[Xh2,Xa9]; split<;>simp_all
 ·funext t
  induction m with
  | nil=>rfl
  | cons x r ih=>obtain⟨k,v⟩:=x; simp only[XiZ,XbS]; split<;>simp_all
def Xgz(f:Nat->AV):List Nat->List (Nat×AV)
 | []=>[]
 | k :: r=>(k,f k) :: Xgz f r
def XjE(f:Nat->List AV):List Nat->List (Nat×List AV)
 | []=>[]
 | k :: r=>(k,f k) :: XjE f r
def Xh3(ks bs:List Nat)(st:St):keep (some (ks,bs)) st=⟨E (Xgz (st.filt (within ks bs) (within ks bs)).env ks),B (XjE (st.filt (within ks bs) (within ks bs)).bx bs)⟩:=by
 simp only[keep,St.mk.injEq]
 generalize st.filt (within ks bs) (within ks bs)=s
 constructor
 ·funext t
  induction ks with
  | nil=>rfl
  | cons k r ih =>
   simp only[Xgz,Xa9,List.contains_cons]
   by_cases h:t=k
   ·subst h; simp
   ·simp[h,<-ih]
 ·funext t
  induction bs with
  | nil=>rfl
  | cons k r ih =>
   simp only[XjE,XbS,List.contains_cons]
   by_cases h:t=k
   ·subst h; simp
   ·simp[h,<-ih]
def Xh4(st:St):keep none st=st:=nr rfl
def XlJ(ks:List Nat)(l:List (Nat×AV))(m:List (Nat×List AV)):trim ks ⟨E l,B m⟩=⟨E (Xgz (E (Xh2 (inE ks) (inE ks) l)) ks),B (XiZ (inE ks) (inE ks) m)⟩:=by
 simp only[trim,XbT,St.mk.injEq,and_true]
 generalize E (Xh2 (inE ks) (inE ks) l)=s
 funext t
 induction ks with
 | nil=>rfl
 | cons k r ih =>
  simp only[Xgz,Xa9,List.contains_cons]
  by_cases h:t=k
  ·subst h; simp
  ·simp[h,<-ih]
variable {R : Type}
def Xd{α:Type}(x:Option α)(k:α->Option R):Option R:=match x with
 | some a=>k a
 | none=>none
def Qe{α:Type}(a:α)(k:α->Option R):Xd (some a) k=k a:=nr rfl
def XgA{α:Type}(k:α->Option R):Xd none k=none:=nr rfl
@[congr] def XlK{α:Type}{x y:Option α}{k:α->Option R}(h:x=y):Xd x k=Xd y k:=by rw[h]
def Xh5{α:Type}(c:Prop)[Decidable c](x y:Option α)(k:α->Option R):Xd (if c then x else y) k=if c then Xd x k else Xd y k:=by split<;>rfl
def Yq{α β:Type}(x:Option α)(f:α->Option β):Ys x f=Xd x f:=by cases x<;>rfl
@[congr] def XjF{cx:Cx}{ops:List Oper}{cs:List (Option (List Nat))}{st st':St}{l:List Oper}(h:st=st'):XM cx ops cs st l=XM cx ops cs st' l:=by rw[h]
@[congr] def XkZ{cx:Cx}{st st':St}{o:Oper}(h:st=st'):Xi cx st o=Xi cx st' o:=by rw[h]
@[congr] def Xk0{cx:Cx}{blk:Nat}{c:Code}{st st':St}(h:st=st'):Xp cx blk c st=Xp cx blk c st':=by rw[h]
def upE(st:St)(d:Nat)(v:AV):St:=⟨upd st.env d v,st.bx⟩
def Xf6(st:St)(d:Nat):upE st d (st.env d)=st:=by
 have:upd st.env d (st.env d)=st.env:=by funext x; unfold upd; split<;>simp_all
 simp only[upE,this]
def Xk1(a:AV)(x y z xs ys:Option St):Option St:=match a with
 | .b true=>x
 | .b false=>y
 | .no=>z
 | _=>none
def Xd6(d:Option Nat)(k:Nat->Option St):Option St:=match d with
 | some d=>k d
 | none=>none
@[congr] def Xk2{a a':AV}{x y z xs ys:Option St}(h:a=a'):Xk1 a x y z xs ys=Xk1 a' x y z xs ys:=by rw[h]
@[congr] def Xk3{d d':Option Nat}{k:Nat->Option St}(h:d=d'):Xd6 d k=Xd6 d' k:=by rw[h]
def XbU(d:Nat)(k:Nat->Option St):Xd6 (some d) k=k d:=nr rfl
@[congr] def XlL{l:List Oper}{n:Nat}:QJ l n=QJ l n:=rfl
def XcK(d op t pos aft g r):QJ (⟨d,op,t,pos,aft,g⟩ :: r) 0=d:=nr rfl
def XcL(o:Oper)(r:List Oper)(n:Nat):QJ (o :: r) (n+1)=QJ r n:=nr rfl
def opS(cx:Cx)(ops:List Oper)(cs:List (Option (List Nat)))(st:St)(o:Oper)(r:List Oper):Option St:=match wanted ops st o with
 | some true=>Xd (Xi cx st o) (λst'=>XM cx ops cs st' r)
 | some false=>XM cx ops cs (st.put? o.dst .no) r
 | none=>none
@[congr] def Xor{cx:Cx}{ops:List Oper}{cs:List (Option (List Nat))}{st st':St}{o:Oper}{r:List Oper}(h:st=st'):opS cx ops cs st o r=opS cx ops cs st' o r:=by rw[h]
def Xfb(cx:Cx)(ops:List Oper)(cs:List (Option (List Nat)))(st:St):XM cx ops cs st []=some st:=by simp only[XM]
def Xd7(cx:Cx)(ops:List Oper)(c:Option (List Nat))(cs:List (Option (List Nat)))(st:St)(o:Oper)(r:List Oper):XM cx ops (c :: cs) st (o :: r)=opS cx ops cs (trim? c st) o r:=by
 simp only[XM,opS,hd?,List.tail_cons,Xd]
 cases wanted ops (trim? c st) o with
 | none=>rfl
 | some b =>
  cases b<;>try rfl
  simp only[]; cases Xi cx (trim? c st) o<;>rfl
def Xdi(cx:Cx)(ops:List Oper)(st:St)(o:Oper)(r:List Oper):XM cx ops [] st (o :: r)=opS cx ops [] st o r:=by
 simp only[XM,opS,hd?,List.tail_nil,Xd,trim?]
 cases wanted ops st o with
 | none=>rfl
 | some b =>
  cases b<;>try rfl
  simp only[]; cases Xi cx st o<;>rfl
section
variable (cx : Cx) (ops : List Oper) (cs : List (Option (List Nat))) (st : St) (d : Option Nat) (op : Op) (t : TypeId) (pos : String) (aft : Array Edge) (j : Nat) (r : List Oper)
def Xh6:opS cx ops cs st ⟨d,op,t,pos,aft,none⟩ r=Xd (Xi cx st ⟨d,op,t,pos,aft,none⟩) (λst'=>XM cx ops cs st' r):=nr rfl
def Uv(cx:Cx)(ops:List Oper)(cs:List (Option (List Nat)))(st:St)(o:Oper)(r:List Oper)(want:Bool)(g:Nat)(a:AV):Option St:=match a with
 | .b b=>if b=want then Xd (Xi cx st o) (λst'=>XM cx ops cs st' r) else XM cx ops cs (st.put? o.dst .no) r
 | .no=>XM cx ops cs (st.put? o.dst .no) r
 | _=>none
@[congr] def Xk4{cx:Cx}{ops:List Oper}{cs:List (Option (List Nat))}{st:St}{o:Oper}{r:List Oper}{want:Bool}{g:Nat}{a a':AV}(h:a=a'):Uv cx ops cs st o r want g a=Uv cx ops cs st o r want g a':=by rw[h]
def Xh7(want:Bool):opS cx ops cs st ⟨d,op,t,pos,aft,some (j,want)⟩ r=Xd6 (QJ ops j) (λg=>Uv cx ops cs st ⟨d,op,t,pos,aft,some (j,want)⟩ r want g (st.env g)):=by
 simp only[opS,wanted,Xd6]
 cases QJ ops j with
 | none=>rfl
 | some g =>
  simp only[Uv]
  cases st.env g with
  | b b=>cases b<;>cases want<;>rfl
  | _=>rfl
end
section
variable (cx : Cx) (ops : List Oper) (cs : List (Option (List Nat))) (st : St) (o : Oper) (r : List Oper) (g : Nat)
def Xd8:Uv cx ops cs st o r true g (.b true)=Xd (Xi cx st o) (λst'=>XM cx ops cs st' r):=nr rfl
def Xd9:Uv cx ops cs st o r false g (.b false)=Xd (Xi cx st o) (λst'=>XM cx ops cs st' r):=nr rfl
def Xea:Uv cx ops cs st o r true g (.b false)=XM cx ops cs (st.put? o.dst .no) r:=nr rfl
def Xeb:Uv cx ops cs st o r false g (.b true)=XM cx ops cs (st.put? o.dst .no) r:=nr rfl
def Xec(want:Bool):Uv cx ops cs st o r want g .no=XM cx ops cs (st.put? o.dst .no) r:=nr rfl
def opU(cx:Cx)(ops:List Oper)(cs:List (Option (List Nat)))(st:St)(o:Oper)(r:List Oper):Option St:=Xd (Xi cx st o) (λst'=>XM cx ops cs st' r)
def skU(cx:Cx)(ops:List Oper)(cs:List (Option (List Nat)))(st:St)(o:Oper)(r:List Oper):Option St:=XM cx ops cs (st.put? o.dst .no) r
@[congr] def Xos{cx:Cx}{ops:List Oper}{cs:List (Option (List Nat))}{st st':St}{o:Oper}{r:List Oper}(h:st=st'):opU cx ops cs st o r=opU cx ops cs st' o r:=by rw[h]
@[congr] def Xot{cx:Cx}{ops:List Oper}{cs:List (Option (List Nat))}{st st':St}{o:Oper}{r:List Oper}(h:st=st'):skU cx ops cs st o r=skU cx ops cs st' o r:=by rw[h]
end
def XjG(cx:Cx)(ops:List Oper)(cs:List (Option (List Nat)))(l:List (Nat×AV))(m:List (Nat×List AV))(o:Oper)(r:List Oper)(g:Nat)(want b:Bool)(h:E l g=.b b) :
  Uv cx ops cs ⟨E l,B m⟩ o r want g (.b b) =
   if b=true then(if want=true then opU cx ops cs ⟨E ((g,.b true) :: l),B m⟩ o r else skU cx ops cs ⟨E ((g,.b true) :: l),B m⟩ o r)
   else(if want=true then skU cx ops cs ⟨E ((g,.b false) :: l),B m⟩ o r else opU cx ops cs ⟨E ((g,.b false) :: l),B m⟩ o r):=by
 have hs:(⟨E ((g,.b b) :: l),B m⟩:St)=⟨E l,B m⟩:=by
  have:=Xf6 ⟨E l,B m⟩ g
  simp only[upE,Xfa,h] at this
  exact this
 cases b<;>cases want<;>simp only[Uv,opU,skU,hs,if_true,if_false,Bool.false_eq_true,reduceCtorEq]
def jA(c:Prop)[Decidable c](a b:AV):AV:=if c then a else b
section
variable (c : Prop) [Decidable c]
def XlM(a:AV):jA c a a=a:=by unfold jA; split<;>rfl
def XrA(x y:Bool):jA c (.b x) (.b y)=.b (if c then x else y):=by unfold jA; split<;>rfl
def XrB(k:IntKind)(x y:Int):jA c (.i k x) (.i k y)=.i k (if c then x else y):=by unfold jA; split<;>rfl
def XrC(x y:ByteArray):jA c (.s x) (.s y)=.s (if c then x else y):=by unfold jA; split<;>rfl
def XpP(t:Tag)(z:Nat)(x y:List (List AV)):jA c (.sl t z x) (.sl t z y)=.sl t z (if c then x else y):=by unfold jA; split<;>rfl
def jL(c:Prop)[Decidable c]:List AV->List AV->List AV
 | a :: l,b :: r=>jA c a b :: jL c l r
 | _,_=>[]
def Q6:List AV->List AV->Bool
 | _ :: l,_ :: r=>Q6 l r
 | [],[]=>true
 | _,_=>false
def XjH:∀(x y:List AV),Q6 x y=true->(if c then x else y)=jL c x y
 | [],[],_=>by simp[jL]
 | a :: l,b :: r,h=>by
  have ih:=XjH l r (by simpa[Q6] using h)
  simp only[jL,jA,<-ih]
  split<;>rfl
 | [],_ :: _,h=>by simp[Q6] at h
 | _ :: _,[],h=>by simp[Q6] at h
def Xou(x y:List AV)(h:Q6 x y=true):jA c (.agg x) (.agg y)=.agg (jL c x y):=by rw[<-XjH c x y h]; unfold jA; split<;>rfl
def XlN(x:List AV):jL c x x=x:=by
 rw[<-XjH c x x (by induction x<;>simp_all [Q6])]; simp
def jE(c:Prop)[Decidable c]:List (Nat×AV)->List (Nat×AV)->List (Nat×AV)
 | (k,a) :: l,(_,b) :: r=>(k,jA c a b) :: jE c l r
 | _,_=>[]
def jB(c:Prop)[Decidable c]:List (Nat×List AV)->List (Nat×List AV)->List (Nat×List AV)
 | (k,a) :: l,(_,b) :: r=>(k,jL c a b) :: jB c l r
 | _,_=>[]
def Xed:List (Nat×AV)->List (Nat×AV)->Bool
 | (k,_) :: l,(k',_) :: r=>k==k'&&Xed l r
 | [],[]=>true
 | _,_=>false
def Xee:List (Nat×List AV)->List (Nat×List AV)->Bool
 | (k,a) :: l,(k',b) :: r=>k==k'&&(Q6 a b&&Xee l r)
 | [],[]=>true
 | _,_=>false
def XlO:∀(x y:List (Nat×AV)),Xed x y=true->(if c then E x else E y)=E (jE c x y)
 | [],[],_=>by simp[jE]
 | (k,a) :: l,(k',b) :: r,h=>by
  simp only[Xed,Bool.and_eq_true,beq_iff_eq] at h
  obtain⟨rfl,h⟩:=h
  have ih:=XlO l r h
  funext t
  have ih':=congrFun ih t
  simp only[jE,jA]
  rw[Xa9,<-ih']
  split<;>simp only[Xa9]
 | [],_ :: _,h=>by simp[Xed] at h
 | _ :: _,[],h=>by simp[Xed] at h
def XlP:∀(x y:List (Nat×List AV)),Xee x y=true->(if c then B x else B y)=B (jB c x y)
 | [],[],_=>by simp[jB]
 | (k,a) :: l,(k',b) :: r,h=>by
  simp only[Xee,Bool.and_eq_true,beq_iff_eq] at h
  obtain⟨rfl,h1,h⟩:=h
  have ih:=XlP l r h
  funext t
  have ih':=congrFun ih t
  simp only[jB]
  rw[XbS,<-ih',<-XjH c a b h1]
  split<;>simp only[XbS]
 | [],_ :: _,h=>by simp[Xee] at h
 | _ :: _,[],h=>by simp[Xee] at h
def XlQ(x y:List (Nat×AV))(m n:List (Nat×List AV))(h:Xed x y=true)(h':Xee m n=true):(if c then some (⟨E x,B m⟩:St) else some ⟨E y,B n⟩)=some ⟨E (jE c x y),B (jB c m n)⟩:=by
 rw[<-XlO c x y h,<-XlP c m n h']; split<;>rfl
def XlR(e:Ex)(x y:List (Nat×AV))(m n:List (Nat×List AV))(h:Xed x y=true)(h':Xee m n=true):(if c then some (e,(⟨E x,B m⟩:St)) else some (e,⟨E y,B n⟩))=some (e,⟨E (jE c x y),B (jB c m n)⟩):=by
 rw[<-XlO c x y h,<-XlP c m n h']; split<;>rfl
end
def Xfc(cx:Cx)(blk:Nat)(st:St):Xp cx blk .skip st=some (.nor,st):=nr rfl
def Xfd(cx:Cx)(blk id:Nat)(st:St):Xp cx blk (.exit id) st=some (.ex id,keep (cx.out id) st):=nr rfl
def XgB(cx:Cx)(blk:Nat)(st:St):Xp cx blk .ret st=some (.ret,keep cx.rets st):=nr rfl
def XjI(x:Option St):Option (Ex×St):=match x with
 | some s=>some (.nor,s)
 | none=>none
def Xh8(s:St):XjI (some s)=some (.nor,s):=nr rfl
def Xh9:XjI none=none:=nr rfl
def XjJ(c:Prop)[Decidable c](x y:Option St):XjI (if c then x else y)=if c then XjI x else XjI y:=by split<;>rfl
def Xdj(cx:Cx)(blk id:Nat)(l:List Oper)(st:St):Xp cx blk (.region id (List.toArray l) false) st=XjI (Xd (XM cx l (cx.cuts id) st l) (λs=>weakW (keep (cx.rg id) s) (cx.ws id))):=by
 simp only[Xp,Xd,XjI,Xnf,Bool.false_eq_true,if_false]
 cases XM cx l (cx.cuts id) st l<;>rfl
def Xfe(cx:Cx)(blk id:Nat)(l:List Oper)(st:St):Xp cx blk (.region id (List.toArray l) true) st=XjI (Xd (Xd (cx.plan id) (λp=>Yt cx id l p st)) (λs=>weakW s (cx.ws id))):=by
 simp only[Xp,if_true,XjI,Xnf,Yq]
 cases cx.plan id with
 | none=>rfl
 | some p=>simp only[Xd]; cases Yt cx id l p st<;>rfl
@[congr] def XlS{st st':St}{l l':List (Bool×Nat×Nat)}(h:st=st')(h2:l=l'):weakW st l=weakW st' l':=by rw[h,h2]
def Xia(st:St):weakW st []=some st:=nr rfl
def XlT(st:St)(r c:Nat)(l:List (Bool×Nat×Nat)):weakW st ((true,r,c) :: l)=Xd (weakArg st (.tmp r)) (λs=>weakW s l):=by simp only[weakW,Yq]
def XgC(st:St)(b c:Nat):Option AV->Option St
 | some (.sl .mut z es)=>weakLeaf st (.rf ⟨false,b,[],c⟩ z 0 es.length)
 | _=>some st
def Xib(st:St)(b c z:Nat)(es:List (List AV)):XgC st b c (some (.sl .mut z es))=weakLeaf st (.rf ⟨false,b,[],c⟩ z 0 es.length):=nr rfl
def Xic(st:St)(b c z:Nat)(es:List (List AV)):XgC st b c (some (.sl .app z es))=some st:=nr rfl
def XjK(st:St)(b c z:Nat)(es:List (List AV)):XgC st b c (some (.sl .ro z es))=some st:=nr rfl
def XlU(st:St)(b c:Nat):XgC st b c (some .u)=some st:=nr rfl
def XlV(st:St)(r c:Nat)(l:List (Bool×Nat×Nat)):weakW st ((false,r,c) :: l)=Xd (XgC st r c (st.bx r)[c]?) (λs=>weakW s l):=by simp only[weakW,weakAt,XgC,Yq]; rfl
def Xff(cx:Cx)(id:Nat)(ops:List Oper)(st:St):Yt cx id ops .done st=some (keep (cx.rg id) st):=nr rfl
def Xfg(cx:Cx)(id:Nat)(ops:List Oper)(i:Nat)(p:Xca)(st:St):Yt cx id ops (.take i p) st=Xd (QW ops i) (λo=>XbE (XdN o.op) (Xd (ZZ cx ops st o) (λs=>Yt cx id ops p s))):=by
 simp only[Yt,Yq]
def XgD(cx:Cx)(id:Nat)(ops:List Oper)(i:Nat)(p:Xca)(st:St):Yt cx id ops (.one i p) st=Xd (QW ops i) (λo=>XbE (Up cx o.op||QI cx st o.op) (Xd (ZZ cx ops st o) (λs=>Yt cx id ops p s))):=by
 simp only[Yt,Yq]
def XgE(cx:Cx)(id:Nat)(ops:List Oper)(i:Nat)(p q:Xca)(st:St):Yt cx id ops (.alt i p q) st=Xgr (Yt cx id ops (.one i p) st) (Yt cx id ops q st):=nr rfl
def XgF(o:Oper)(r:List Oper):QW (o :: r) 0=some o:=nr rfl
def XgG(o:Oper)(r:List Oper)(n:Nat):QW (o :: r) (n+1)=QW r n:=nr rfl
def XgH(x:Option St):XbE true x=x:=nr rfl
@[congr] def XlW{p p':Bool}{x:Option St}(h:p=p'):XbE p x=XbE p' x:=by rw[h]
def XgI(x:Option St):Xgr x x=x:=by unfold Xgr; rw[if_pos rfl]
def Xef(cx:Cx)(ops:List Oper)(st:St)(d:Option Nat)(op:Op)(t:TypeId)(pos:String)(aft:Array Edge):ZZ cx ops st ⟨d,op,t,pos,aft,none⟩=Xi cx st ⟨d,op,t,pos,aft,none⟩:=nr rfl
def Xbd(cx:Cx)(ops:List Oper)(st:St)(o:Oper)(want:Bool)(g:Nat)(a:AV):Option St:=match a with
 | .b b=>if b=want then Xi cx st o else some (st.put? o.dst .no)
 | .no=>some (st.put? o.dst .no)
 | _=>none
@[congr] def XlX{cx:Cx}{ops:List Oper}{st:St}{o:Oper}{want:Bool}{g:Nat}{a a':AV}(h:a=a'):Xbd cx ops st o want g a=Xbd cx ops st o want g a':=by rw[h]
def XlY(cx:Cx)(ops:List Oper)(st:St)(o:Oper)(want:Bool)(d:Option Nat):Option St:=match d with
 | some d=>Xbd cx ops st o want d (st.env d)
 | none=>none
def XgJ(cx:Cx)(ops:List Oper)(st:St)(o:Oper)(want:Bool)(d:Nat):XlY cx ops st o want (some d)=Xbd cx ops st o want d (st.env d):=nr rfl
def XjL(cx:Cx)(ops:List Oper)(st:St)(o:Oper)(g:Nat):Xbd cx ops st o true g (.b true)=Xi cx st o:=nr rfl
def XjM(cx:Cx)(ops:List Oper)(st:St)(o:Oper)(g:Nat):Xbd cx ops st o false g (.b false)=Xi cx st o:=nr rfl
def XjN(cx:Cx)(ops:List Oper)(st:St)(o:Oper)(g:Nat):Xbd cx ops st o true g (.b false)=some (st.put? o.dst .no):=nr rfl
def XjO(cx:Cx)(ops:List Oper)(st:St)(o:Oper)(g:Nat):Xbd cx ops st o false g (.b true)=some (st.put? o.dst .no):=nr rfl
def XjP(cx:Cx)(ops:List Oper)(st:St)(o:Oper)(want:Bool)(g:Nat):Xbd cx ops st o want g .no=some (st.put? o.dst .no):=nr rfl
def stU(cx:Cx)(st:St)(o:Oper):Option St:=Xi cx st o
def skS(st:St)(o:Oper):Option St:=some (st.put? o.dst .no)
@[congr] def Xov{cx:Cx}{st st':St}{o:Oper}(h:st=st'):stU cx st o=stU cx st' o:=by rw[h]
@[congr] def Xow{st st':St}{o:Oper}(h:st=st'):skS st o=skS st' o:=by rw[h]
def XlZ(cx:Cx)(ops:List Oper)(l:List (Nat×AV))(m:List (Nat×List AV))(o:Oper)(want:Bool)(g:Nat)(b:Bool)(h:E l g=.b b) :
  Xbd cx ops ⟨E l,B m⟩ o want g (.b b) =
   if b=true then(if want=true then stU cx ⟨E ((g,.b true) :: l),B m⟩ o else skS ⟨E ((g,.b true) :: l),B m⟩ o)
   else(if want=true then skS ⟨E ((g,.b false) :: l),B m⟩ o else stU cx ⟨E ((g,.b false) :: l),B m⟩ o):=by
 have hs:(⟨E ((g,.b b) :: l),B m⟩:St)=⟨E l,B m⟩:=by
  have:=Xf6 ⟨E l,B m⟩ g
  simp only[upE,Xfa,h] at this
  exact this
 cases b<;>cases want<;>simp only[Xbd,stU,skS,hs,if_true,if_false,Bool.false_eq_true,reduceCtorEq]
def Xeg(cx:Cx)(ops:List Oper)(st:St)(d:Option Nat)(op:Op)(t:TypeId)(pos:String)(aft:Array Edge)(j:Nat)(want:Bool):ZZ cx ops st ⟨d,op,t,pos,aft,some (j,want)⟩=XlY cx ops st ⟨d,op,t,pos,aft,some (j,want)⟩ want (QJ ops j):=by
 unfold ZZ wanted XlY Xbd
 simp only
 cases QJ ops j with
 | none=>rfl
 | some d =>
  simp only
  cases st.env d with
  | b b =>
   cases b<;>cases want<;>rfl
  | _=>rfl
def XbV(x:Option (Ex×St))(k:St->Option (Ex×St)):Option (Ex×St):=match x with
 | some (.nor,st)=>k st
 | some (.ex j,st)=>some (.ex j,st)
 | some (.ret,st)=>some (.ret,st)
 | none=>none
@[congr] def Xnh{x y:Option (Ex×St)}{k:St->Option (Ex×St)}(h:x=y):XbV x k=XbV y k:=by rw[h]
def Xf7(st:St)(k:St->Option (Ex×St)):XbV (some (.nor,st)) k=k st:=nr rfl
def Xf8(st:St)(k:St->Option (Ex×St)):XbV (some (.ret,st)) k=some (.ret,st):=nr rfl
def Xid(j:Nat)(st:St)(k:St->Option (Ex×St)):XbV (some (.ex j,st)) k=some (.ex j,st):=nr rfl
def Xie(k:St->Option (Ex×St)):XbV none k=none:=nr rfl
def XjQ(c:Prop)[Decidable c](x y:Option (Ex×St))(k:St->Option (Ex×St)):XbV (if c then x else y) k=if c then XbV x k else XbV y k:=by split<;>rfl
def XgK(cx:Cx)(blk:Nat)(a b:Code)(st:St):Xp cx blk (.seq a b) st=XbV (Xp cx blk a st) (λs=>Xp cx blk b s):=by
 simp only[Xp]
 cases Xp cx blk a st with
 | none=>rfl
 | some x=>obtain⟨e,s⟩:=x; cases e<;>rfl
def Xk5(id:Nat)(x:Option (Ex×St)):Option (Ex×St):=match x with
 | some (.ex j,st)=>if j=id then some (.nor,st) else some (.ex j,st)
 | some (.nor,st)=>some (.nor,st)
 | some (.ret,st)=>some (.ret,st)
 | none=>none
def XjR(id:Nat)(st:St):Xk5 id (some (.nor,st))=some (.nor,st):=nr rfl
def XjS(id:Nat)(st:St):Xk5 id (some (.ret,st))=some (.ret,st):=nr rfl
def Xl0(id j:Nat)(st:St):Xk5 id (some (.ex j,st))=if j=id then some (.nor,st) else some (.ex j,st):=nr rfl
def Xif(id:Nat):Xk5 id none=none:=nr rfl
def XjT(id:Nat)(c:Prop)[Decidable c](x y:Option (Ex×St)):Xk5 id (if c then x else y)=if c then Xk5 id x else Xk5 id y:=by split<;>rfl
def Xeh(cx:Cx)(blk id:Nat)(c:Code)(st:St):Xp cx blk (.block id c) st=Xk5 id (Xp cx id c st):=by
 simp only[Xp]
 cases Xp cx id c st with
 | none=>rfl
 | some x=>obtain⟨e,s⟩:=x; cases e<;>rfl
def Xfh(a:AV)(x y:Option (Ex×St)):Option (Ex×St):=match a with
 | .b b=>if b=true then x else y
 | _=>none
@[congr] def Xl1{a a':AV}{x y:Option (Ex×St)}(h:a=a'):Xfh a x y=Xfh a' x y:=by rw[h]
def XcM(x y:Option (Ex×St)):Xfh (.b true) x y=x:=nr rfl
def XbW(x y:Option (Ex×St)):Xfh (.b false) x y=y:=nr rfl
def Xl2(b:Bool)(x y:Option (Ex×St)):Xfh (.b b) x y=if b=true then x else y:=nr rfl
def Xfi(cx:Cx)(blk:Nat)(c:Operand)(a b:Code)(st:St):Xp cx blk (.cond c a b) st=Xfh (view st c) (Xp cx blk a st) (Xp cx blk b st):=by
 simp only[Xp,Xfh]
 cases view st c with
 | b x=>cases x<;>rfl
 | _=>rfl
noncomputable def Xbe(cx:Cx)(blk:Nat)(c:Code)(n:Nat)(st:St):Option (Ex×St):=XkQ (λst=>Xp cx blk c (keep (cx.live blk) st)) n st
@[congr] def Xl3{cx:Cx}{blk:Nat}{c:Code}{n:Nat}{st st':St}(h:st=st'):Xbe cx blk c n st=Xbe cx blk c n st':=by rw[h]
def Xfj(cx:Cx)(blk:Nat)(c:Code)(st:St):Xp cx blk (.loop c) st=Xbe cx blk c cx.rounds st:=nr rfl
def XaO(cx:Cx)(blk:Nat)(c:Code)(n:Nat)(st:St):Xbe cx blk c (n+1) st=XbV (Xp cx blk c (keep (cx.live blk) st)) (λs=>Xbe cx blk c n s):=by
 simp only[Xbe,XkQ]
 cases Xp cx blk c (keep (cx.live blk) st) with
 | none=>rfl
 | some x=>obtain⟨e,s⟩:=x; cases e<;>rfl
def Xi0(cx:Cx)(md:List Md)(rv:List ResultVar)(x:Option (Ex×St)):Option (AV×List AV):=match x with
 | some (.nor,st)=>Z0 cx md rv st
 | some (.ret,st)=>Z0 cx md rv st
 | _=>none
def XjU(cx:Cx)(md:List Md)(rv:List ResultVar)(st:St):Xi0 cx md rv (some (.nor,st))=Z0 cx md rv st:=nr rfl
def XjV(cx:Cx)(md:List Md)(rv:List ResultVar)(st:St):Xi0 cx md rv (some (.ret,st))=Z0 cx md rv st:=nr rfl
def Xig(cx:Cx)(md:List Md)(rv:List ResultVar):Xi0 cx md rv none=none:=nr rfl
def XjW(cx:Cx)(md:List Md)(rv:List ResultVar)(c:Prop)[Decidable c](x y:Option (Ex×St)):Xi0 cx md rv (if c then x else y)=if c then Xi0 cx md rv x else Xi0 cx md rv y:=by split<;>rfl
def Xih(cx:Cx)(md:List Md)(f:Func)(args:List AV)(c:Code)(rv:List ResultVar)(h:f.body=some c)(hr:f.results=rv.toArray)(hz:cx.nz=false):QK cx md f args=Xi0 cx md rv (Xp cx 0 c (Uh md args)):=by
 simp only[QK,h,hr,evB,hz,Bool.false_eq_true,if_false]
 cases Xp cx 0 c (Uh md args) with
 | none=>rfl
 | some x=>obtain⟨e,s⟩:=x; cases e<;>rfl
def XgL(cx:Cx)(md:List Md)(f:Func)(args:List AV)(c:Code)(rv:List ResultVar)(h:f.body=some c)(hr:f.results=rv.toArray)(hz:cx.nz=true):QK cx md f args=Xi0 cx md rv (evN cx c (λs=>some (.nor,s)) (Uh md args)):=by
 simp only[QK,h,hr,evB,hz,if_true]
 cases evN cx c (λs=>some (.nor,s)) (Uh md args) with
 | none=>rfl
 | some x=>obtain⟨e,s⟩:=x; cases e<;>rfl
@[congr] def Xox{cx:Cx}{c:Code}{K:St->Option (Ex×St)}{st st':St}(h:st=st'):evN cx c K st=evN cx c K st':=by rw[h]
def XjX(cx:Cx)(K:St->Option (Ex×St))(st:St):evN cx .skip K st=K st:=nr rfl
def Xl4(cx:Cx)(a b:Code)(K:St->Option (Ex×St))(st:St):evN cx (.seq a b) K st=evN cx a (λs=>evN cx b K s) st:=nr rfl
noncomputable def Xl5(a:AV)(x y:Option (Ex×St)):Option (Ex×St):=match a with
 | .b true=>x
 | .b false=>y
 | .ub=>XeT x y
 | _=>none
@[congr] def Xni{a a':AV}{x y:Option (Ex×St)}(h:a=a'):Xl5 a x y=Xl5 a' x y:=by rw[h]
def Xei(x y:Option (Ex×St)):Xl5 (.b true) x y=x:=nr rfl
def XcN(x y:Option (Ex×St)):Xl5 (.b false) x y=y:=nr rfl
def Xl6(x y:Option (Ex×St)):Xl5 .ub x y=XeT x y:=nr rfl
def XgM(x:Option (Ex×St)):XeT x x=x:=by unfold XeT; rw[if_pos rfl]
def XjY(cx:Cx)(c:Operand)(a b:Code)(K:St->Option (Ex×St))(st:St):evN cx (.cond c a b) K st=Xl5 (view st c) (evN cx a K st) (evN cx b K st):=by
 simp only[evN,Xl5]
 cases view st c with
 | b x=>cases x<;>rfl
 | _=>rfl
def Xl7(cx:Cx)(K:St->Option (Ex×St))(st:St):evN cx .ret K st=some (.ret,keep cx.rets st):=nr rfl
def XgN(cx:Cx)(id:Nat)(ops:Array Oper)(d:Bool)(K:St->Option (Ex×St))(st:St):evN cx (.region id ops d) K st=XbV (Xp cx 0 (.region id ops d) st) (λs=>K s):=by
 simp only[evN,Xcu]
 cases Xp cx 0 (.region id ops d) st with
 | none=>rfl
 | some x=>obtain⟨e,s⟩:=x; cases e<;>rfl
def XpQ(md:List Md)(p:List AV×St):Option (AV×List AV):=if(p.1.all Yh&&(XbF p.2 md 0).all Yh&&Ue md (XbF p.2 md 0))=true then some (one p.1,XbF p.2 md 0) else none
def Xpe(cx:Cx)(md:List Md)(rv:List ResultVar)(st:St):Option (List AV)->Option (AV×List AV)
 | some cs=>Xof md st cs
 | none=>Xd (Xbc cx st rv) (XpQ md)
def XjZ(cx:Cx)(md:List Md)(rv:List ResultVar)(st:St):Z0 cx md rv st=Xpe cx md rv st (Xcg md st rv):=by
 simp only[Z0,Xpe]
 cases Xcg md st rv with
 | some cs=>rfl
 | none =>
  simp only[Xpc,Xd]
  cases Xbc cx st rv<;>rfl
def Xii(cx:Cx)(md:List Md)(rv:List ResultVar)(st:St)(cs:List AV):Xpe cx md rv st (some cs)=Xof md st cs:=nr rfl
def Xij(cx:Cx)(md:List Md)(rv:List ResultVar)(st:St):Xpe cx md rv st none=Xd (Xbc cx st rv) (XpQ md):=nr rfl
def Xl8(md:List Md)(st:St)(cs:List AV):Xof md st cs=if(cs.all XW&&!cs.isEmpty&&(XbF st md 0).all Yh&&Ue md (XbF st md 0))=true then some (.tup [.agg cs],XbF st md 0) else none:=nr rfl
def Xik(md:List Md)(st:St):Xcg md st []=none:=nr rfl
def Xil(md:List Md)(st:St)(t:Nat):Xcg md st [.tmp t]=npP md st (st.env t):=nr rfl
def XgO(md:List Md)(st:St)(a t:Nat):Xcg md st [.cell a t]=none:=nr rfl
def Xim(md:List Md)(st:St)(a b:ResultVar)(l:List ResultVar):Xcg md st (a :: b :: l)=none:=by cases a<;>rfl
def XpR(md:List Md)(st:St)(q:Pl):npP md st (.p q)=if(!q.e&&q.path.isEmpty&&q.c==0&&decide (md.length<=q.r))=true then some (st.bx q.r) else none:=nr rfl
def Xl9(md:List Md)(l:List AV)(st:St):XpQ md (l,st)=if(l.all Yh&&(XbF st md 0).all Yh&&Ue md (XbF st md 0))=true then some (one l,XbF st md 0) else none:=nr rfl
def Xj0(cx:Cx)(st:St):Xbc cx st []=some ([],st):=nr rfl
def XpS(v:AV)(p:List AV×St):Option (List AV×St):=some (v :: p.1,p.2)
def Xma(v:AV)(l:List AV)(st:St):XpS v (l,st)=some (v :: l,st):=nr rfl
def Xin(cx:Cx)(st:St)(t:Tmp)(r:List ResultVar):Xbc cx st (.tmp t :: r)=Xd (take st (.tmp t)) (λp=>Xd (Xbc cx p.2 r) (XpS p.1)):=by
 simp only[Xbc,Xd]
 cases take st (.tmp t) with
 | none=>rfl
 | some p=>obtain⟨v,s⟩:=p; simp only; cases Xbc cx s r<;>rfl
def Xio(cx:Cx)(st:St)(a t:Nat)(r:List ResultVar):Xbc cx st (.cell a t :: r)=Xd (cx.T t) (λti=>Xd (loadAt st ti (view st (.tmp a))) (λv=>Xd (takeVal st v) (λp=>Xd (Xbc cx p.2 r) (XpS p.1)))):=by
 simp only[Xbc,Yq,Xd]
 cases cx.T t with
 | none=>rfl
 | some ti =>
  simp only
  cases loadAt st ti (view st (.tmp a)) with
  | none=>rfl
  | some v =>
   simp only
   cases takeVal st v with
   | none=>rfl
   | some p=>obtain⟨v,s⟩:=p; simp only; cases Xbc cx s r<;>rfl
def Xmb:List Md->List AV->Nat->List (Nat×AV)
 | .rw _ :: ms,_ :: as,j=>(j,.p ⟨false,j,[],0⟩) :: Xmb ms as (j+1)
 | .ro _ :: ms,a :: as,j=>(j,a) :: Xmb ms as (j+1)
 | .mv :: ms,a :: as,j=>(j,a) :: Xmb ms as (j+1)
 | _,_,_=>[]
def Xmc:List Md->List AV->Nat->List (Nat×List AV)
 | .rw _ :: ms,a :: as,j=>(j,cellsOf a) :: Xmc ms as (j+1)
 | .ro _ :: ms,_ :: as,j=>Xmc ms as (j+1)
 | .mv :: ms,_ :: as,j=>Xmc ms as (j+1)
 | _,_,_=>[]
def Xj1(ms:List Md)(as:List AV):Uh ms as=⟨E (Xmb ms as 0),B (Xmc ms as 0)⟩:=by
 have h1:∀(ms:List Md) (as:List AV) (j t:Nat),YW ms as j t=E (Xmb ms as j) t:=by
  intro ms
  induction ms with
  | nil=>intro as j t; cases as<;>rfl
  | cons m ms ih =>
   intro as j t
   cases as with
   | nil=>cases m<;>rfl
   | cons a as=>cases m<;>simp only[YW,Xmb,Xa9,ih]
 have h2:∀(ms:List Md) (as:List AV) (j t:Nat),YK ms as j t=B (Xmc ms as j) t:=by
  intro ms
  induction ms with
  | nil=>intro as j t; cases as<;>rfl
  | cons m ms ih =>
   intro as j t
   cases as with
   | nil=>cases m<;>rfl
   | cons a as=>cases m<;>simp only[YK,Xmc,XbS,ih]
 simp only[Uh,St.mk.injEq]
 exact⟨funext (h1 ms as 0),funext (h2 ms as 0)⟩
section
variable (cx : Cx) (t : TypeId) (pos : String) (aft : Array Edge) (g : Option (Nat × Bool)) (st : St)
def Qw(d:Nat)(x:Option AV):XdB st (some d) x=Xd x (λv=>some (st.put d v)):=by cases x<;>rfl
def Xf9(d:Nat)(x:Option (AV×St)):setV (some d) x=Xd x (λy=>some (y.2.put d y.1)):=by cases x<;>rfl
def Xoy(d:Option Nat)(x:Option (AV×St)):XpG d x=Xd x (λy=>putN d y.2 y.1 (U4 y.1)):=by cases x<;>rfl
def Xip(d:Option Nat)(st:St)(r:AV):putN d st r none=some (st.put? d r):=nr rfl
def Xiq(d:Nat)(st:St)(r:AV)(cs:List AV):putN (some d) st r (some cs)=Zr st d cs:=nr rfl
def Xmd(cs:List AV):U4 (.tup [.agg cs])=some cs:=nr rfl
def Xj2:U4 (.tup [])=none:=nr rfl
def Xj3(a b:AV)(l:List AV):U4 (.tup (a :: b :: l))=none:=by cases a<;>rfl
def Xme(st:St)(t:Nat):AV->Option (AV×St)
 | .tup (v :: vs)=>some (.tup (v :: vs),⟨upd st.env t .u,st.bx⟩)
 | _=>none
def Xir(st:St)(t:Nat)(v:AV)(vs:List AV):Xme st t (.tup (v :: vs))=some (.tup (v :: vs),⟨upd st.env t .u,st.bx⟩):=nr rfl
def Xis(st:St)(t:Nat):XeS st (.tmp t)=Xme st t (st.env t):=by
 simp only[XeS,Xme]
 cases st.env t with
 | tup vs=>cases vs<;>rfl
 | _=>rfl
def Xmf(d:Nat)(x:Operand):Xi cx st ⟨some d,.move x,t,pos,aft,g⟩=if cx.al.contains d=true then Xd (XeS st x) (λy=>some (y.2.put d y.1)) else some (st.put d (fix (zOf cx t) (view st x))):=by
 simp only[Xi,alD,Xf9,St.put?]
def Xit(d:Nat)(x:Operand):Xi cx st ⟨some d,.assign x,t,pos,aft,g⟩ =
  if cx.al.contains d=true then some (st.put d (fix (zOf cx t) (view st x))) else Xd (take st x) (λy=>some (y.2.put d (fix (zOf cx t) y.1))):=by
 simp only[Xi,Yq,Qe]
def Xfk(st:St)(d:Nat)(a x y:AV):Option St:=match a with
 | .b b=>if b=true then some (st.put d x) else some (st.put d y)
 | _=>none
@[congr] def Xmg{st:St}{d:Nat}{a a' x y:AV}(h:a=a'):Xfk st d a x y=Xfk st d a' x y:=by rw[h]
def XcO(d:Nat)(x y:AV):Xfk st d (.b true) x y=some (st.put d x):=nr rfl
def XbX(d:Nat)(x y:AV):Xfk st d (.b false) x y=some (st.put d y):=nr rfl
def Xmh(d:Nat)(b:Bool)(x y:AV):Xfk st d (.b b) x y=if b=true then some (st.put d x) else some (st.put d y):=nr rfl
def Xmi(d:Nat)(c x y:Operand):Xi cx st ⟨some d,.pick c x y,t,pos,aft,g⟩=Xfk st d (view st c) (view st x) (view st y):=by
 simp only[Xi,Xfk,St.put?]
 cases view st c with
 | b x=>cases x<;>rfl
 | _=>rfl
def Xj4(d:Nat)(t':TypeId):Xi cx st ⟨some d,.alloc t',t,pos,aft,g⟩=Xd (cx.T t') (λti=>Zr st d ti.zero):=Yq _ _
def Xoz(d:Nat)(t':TypeId)(x:Operand):Xi cx st ⟨some d,.box t' x,t,pos,aft,g⟩=Xd (cx.T t') (λti=>if cx.fz.contains d=true then Xd (Xgq ti (fix ti.z (view st x))) (λcs=>Uo st d cs) else if cx.al.contains d=true then Xd (Xgq ti (fix ti.z (view st x))) (λcs=>Zr st d cs) else Xd (take st x) (λy=>Xd (Xgq ti (fix ti.z y.1)) λcs=>Zr y.2 d cs)):=by
 simp only[Xi,Yq,Qe]
def Xmj(d:Nat)(t':TypeId)(a:Operand):Xi cx st ⟨some d,.load t' a,t,pos,aft,g⟩=Xd (cx.T t') (λti=>Xd (loadAt st ti (view st a)) (λv=>some (st.put d v))):=by
 simp only[Xi,Yq,Qw]
def Xj5(t':TypeId)(a x:Operand):Xi cx st ⟨none,.store t' a x,t,pos,aft,g⟩=Xd (cx.T t') (λti=>Xd (take st x) (λy=>storeAt y.2 ti (view y.2 a) y.1)):=by
 simp only[Xi,Yq,Option.isSome_none,Bool.false_eq_true,if_false]
def Xfl(d:Nat)(x:Operand):Xi cx st ⟨some d,.nilCheck x,t,pos,aft,g⟩=Xd (Xc2 (view st x)) (λv=>some (st.put d v)):=Qw st d _
def Xej(d:Nat)(t':TypeId)(x:Operand)(f:Nat):Xi cx st ⟨some d,.fieldAddr t' x f,t,pos,aft,g⟩=Xd (cx.T t') (λti=>Xd (Xac ti f (view st x)) (λv=>some (st.put d v))):=by
 simp only[Xi,Yq,Qw]
def Xj6(d:Nat)(t':TypeId)(x:Operand)(f:Nat):Xi cx st ⟨some d,.field t' x f,t,pos,aft,g⟩=Xd (cx.T t') (λti=>Xd (XdK ti f (view st x)) (λv=>some (st.put d v))):=by
 simp only[Xi,Yq,Qw]
def Xek(d:Nat)(t':TypeId)(x ix:Operand):Xi cx st ⟨some d,.indexAddr t' x ix,t,pos,aft,g⟩=Xd (cx.T t') (λti=>Xd (QH st ti (view st x) (view st ix)) (λv=>some (st.put d v))):=by
 simp only[Xi,Yq,Qw]
def Xj7(d:Nat)(t':TypeId)(x ix:Operand):Xi cx st ⟨some d,.index t' x ix,t,pos,aft,g⟩=Xd (cx.T t') (λti=>Xd (UO ti (view st x) (view st ix)) (λv=>some (st.put d v))):=by
 simp only[Xi,Yq,Qw]
def XoA(d:Nat)(op:BinOp)(xt:TypeId)(x y:Operand)(yt:TypeId):Xi cx st ⟨some d,.binOp op xt x y yt,t,pos,aft,g⟩=Xd (Xcc (cx.T xt) (cx.eqs xt) op (view st x) (view st y)) (λv=>some (st.put d v)):=Qw st d _
def XpT(d:Nat)(op:UnOp)(xt:TypeId)(x:Operand):Xi cx st ⟨some d,.unOp op xt x,t,pos,aft,g⟩=Xd (unV op (view st x)) (λv=>some (st.put d v)):=Qw st d _
def XgP(d:Nat)(a b:TypeId)(x:Operand):Xi cx st ⟨some d,.convert a b x,t,pos,aft,g⟩=Xd (cx.T a) (λta=>Xd (cx.T b) (λtb=>Xd (Xgo st ta tb (view st x)) (λv=>some (st.put d v)))):=by
 simp only[Xi,Yq,Qw]
def Xiu(src:TI)(k:IntKind)(a:AV):Xgo st src (.int k) a=XeR st src (.int k) a:=nr rfl
def Xiv(src:TI)(a:AV):Xgo st src .str a=XeR st src .str a:=nr rfl
def Xj8(z n:Nat)(zero:List AV)(src:TI)(a:AV):Xgo st src (.slice z n zero) a=XdL src z zero a:=nr rfl
def Xj9(z:Nat)(zero:List AV)(b:ByteArray):XdL .str z zero (.s b)=if z=1/\Xoe zero=true/\b.size<=9223372036854775807 then some (.sl .mut 1 (b.data.toList.map XaA)) else none:=nr rfl
def Xka(d:Nat)(xt:TypeId)(x:Operand)(lo hi:Option Operand):Xi cx st ⟨some d,.slice xt x lo hi none,t,pos,aft,g⟩=Xd (cx.T xt) (λti=>Xd (U9 ti (view st x) (lo.map (view st)) (hi.map (view st))) (λv=>some (st.put d v))):=by
 simp only[Xi,Yq,Qw]
def Xfm(d f:Nat)(caps:List Operand):Xi cx st ⟨some d,.makeFunc (.func f) (List.toArray []) (List.toArray caps),t,pos,aft,g⟩=if(caps.map (view st)).all Z3=true then some (st.put d (.fn f (caps.map (view st)))) else none:=by
 simp only[Xi,List.isEmpty_toArray,List.isEmpty_nil,Bool.true_and]; rfl
def XgQ(d:Nat)(x:Operand)(j:Nat):Xi cx st ⟨some d,.extract x j,t,pos,aft,g⟩=Xd (QV st x j) (λy=>some (y.2.put d y.1)):=Xf9 d _
def Xkb(d:Nat)(t':TypeId)(parts:List (Nat×Operand)):Xi cx st ⟨some d,.build t' (List.toArray parts),t,pos,aft,g⟩=Xd (cx.T t') (λti=>Xd (XbD ti st parts) (λv=>some (st.put d v))):=by
 simp only[Xi,Yq,Qw]
def Xdk(d:Nat)(t':TypeId)(len:Nat)(parts:List (Nat×Operand)):Xi cx st ⟨some d,.buildSlice t' len (List.toArray parts),t,pos,aft,g⟩=Xd (cx.T t') (λti=>Xd (Zz ti st len parts) (λy=>some (y.2.put d y.1))):=by
 simp only[Xi,Yq,Xf9,St.put?]
def Xel(d:Nat)(t':TypeId)(l c:Operand):Xi cx st ⟨some d,.makeSlice t' l c,t,pos,aft,g⟩=Xd (cx.T t') (λti=>Xd (Xgp ti (view st l) (view st c)) (λv=>some (st.put d v))):=by
 simp only[Xi,Yq,Qw]
def XoB(d:Nat)(x:Operand)(tx:TypeId)(ts:List TypeId):Xi cx st ⟨some d,.call {callee:=.builtin .len,args:=List.toArray [x],argTypes:=List.toArray (tx :: ts)},t,pos,aft,g⟩=Xd (cx.T tx) (λti=>Xd (Xne st ti (view st x)) (λn=>some (st.put d (.i .i64 n)))):=by
 simp only[Xi,Yx,Yq]; rfl
def Xiw(d:Nat)(x y:Operand)(tx ty:TypeId):Xi cx st ⟨some d,.call {callee:=.builtin .append,args:=List.toArray [x,y],argTypes:=List.toArray [tx,ty]},t,pos,aft,g⟩=Xd (cx.T tx) (λti=>Xd (cx.T ty) (λtj=>if XdM tj=true then Xd (XaB ti st x y) (λy=>some (y.2.put d y.1)) else none)):=by
 simp only[Xi,Yx,Yq,Xf9]
def Xkc(x:Operand)(tx:TypeId):Xi cx st ⟨none,.call {callee:=.builtin .clear,args:=List.toArray [x],argTypes:=List.toArray [tx]},t,pos,aft,g⟩=Xd (cx.T tx) (λti=>XaY ti st (view st x)):=by
 simp only[Xi,Yx,Yq,noD]
def XoC(d:Nat)(xs:List Operand)(at_:Array TypeId):Xi cx st ⟨some d,.call {callee:=.builtin .min,args:=List.toArray xs,argTypes:=at_},t,pos,aft,g⟩=Xd (XfU (λa b=>if b<a then b else a) (xs.map (view st))) (λv=>some (st.put d v)):=by
 simp only[Xi,Yx,Qw]
def XoD(d:Nat)(xs:List Operand)(at_:Array TypeId):Xi cx st ⟨some d,.call {callee:=.builtin .max,args:=List.toArray xs,argTypes:=at_},t,pos,aft,g⟩=Xd (XfU (λa b=>if b>a then b else a) (xs.map (view st))) (λv=>some (st.put d v)):=by
 simp only[Xi,Yx,Qw]
def Xmk(d:Option Nat)(f:Operand)(args:List Operand)(ats:List TypeId):Xi cx st ⟨d,.call {callee:=.value f,args:=List.toArray args,argTypes:=List.toArray ats},t,pos,aft,g⟩ =
  Xd (UN cx st f ats args) (λy=>putN d y.2 y.1 (U4 y.1)):=by
 simp only[Xi,Yx,Xoy]
def Xkd(f:Operand)(ts:List TypeId)(xs:List Operand):UN cx st f ts xs=Xd (QU cx st f ts xs) (λp=>Xd (cx.fns p.1) (λfs=>XbB cx st p.1 fs f ts xs)):=by
 simp only[UN,Xd]
 cases QU cx st f ts xs with
 | none=>rfl
 | some p=>obtain⟨g,as⟩:=p; simp only; cases cx.fns g<;>rfl
def Xml(f:Operand)(ts:List TypeId)(xs:List Operand):QU cx st f ts xs=fnV (view st f) (XdA cx ts xs (xs.map (view st))):=nr rfl
def Xke(g:Nat)(md:List Md)(F:List AV->Option (AV×List AV))(f:Operand)(ts:List TypeId)(xs:List Operand):XbB cx st g ⟨md,F,false⟩ f ts xs=XbA cx st g ⟨md,F,false⟩ f ts xs:=nr rfl
def Xkf(g:Nat)(md:List Md)(F:List AV->Option (AV×List AV))(f:Operand)(ts:List TypeId)(xs:List Operand):XbB cx st g ⟨md,F,true⟩ f ts xs=Xd (weakAll st md xs) (λs=>XbA cx s g ⟨md,F,true⟩ f ts xs):=by
 simp only[XbB,if_true,Xd]
 cases weakAll st md xs<;>rfl
def rwK(cx:Cx)(st:St)(g:Nat)(fs:FS)(f:Operand)(ts:List TypeId)(xs:List Operand):Option (Nat×Nat)->Option (AV×St)
 | some (k,n)=>Xcf cx st g fs k n f ts xs
 | none=>Xbz cx st g fs f ts xs
def Xmm(g:Nat)(md:List Md)(F:List AV->Option (AV×List AV))(b:Bool)(f:Operand)(ts:List TypeId)(xs:List Operand):XbA cx st g ⟨md,F,b⟩ f ts xs=rwK cx st g ⟨md,F,b⟩ f ts xs (Xcd 0 md):=by
 unfold XbA rwK
 simp only
 cases Xcd 0 md with
 | none=>rfl
 | some p=>rfl
def Xkg(g:Nat)(fs:FS)(f:Operand)(ts:List TypeId)(xs:List Operand)(k n:Nat):rwK cx st g fs f ts xs (some (k,n))=Xcf cx st g fs k n f ts xs:=nr rfl
def Xkh(g:Nat)(fs:FS)(f:Operand)(ts:List TypeId)(xs:List Operand):rwK cx st g fs f ts xs none=Xbz cx st g fs f ts xs:=nr rfl
def Xki(k:Nat):Xcd k []=none:=nr rfl
def Xmn(k n:Nat)(ms:List Md):Xcd k (.ro n :: ms)=Xcd (k+1) ms:=nr rfl
def Xmo(k:Nat)(ms:List Md):Xcd k (.mv :: ms)=Xcd (k+1) ms:=nr rfl
def Xmp(k n:Nat)(ms:List Md):Xcd k (.rw n :: ms)=some (k,n):=nr rfl
def inO(a:Option AV)(l:Option (List AV)):Option (List AV):=match a,l with
 | some a,some l=>some (a :: l)
 | _,_=>none
def Xkj(a:AV)(l:List AV):inO (some a) (some l)=some (a :: l):=nr rfl
def XgR(own:Bool)(av:Option (Bool×Nat))(ys:List (AV×List (Option (Pl×Bool)))):YV own av st [] [] ys=some []:=nr rfl
def Xfn(own:Bool)(av:Option (Bool×Nat))(m:Md)(ms:List Md)(a:AV)(as:List AV)(ys:List (AV×List (Option (Pl×Bool)))):YV own av st (m :: ms) (a :: as) ys=inO (Xab own av st m a (ys.headD (.u,[]))) (YV own av st ms as ys.tail):=by
 simp only[YV,inO]
 cases Xab own av st m a (ys.headD (.u,[])) with
 | none=>rfl
 | some b=>simp only; cases YV own av st ms as ys.tail<;>rfl
def Xkk(own:Bool)(av:Option (Bool×Nat))(n:Nat)(a:AV)(y:AV×List (Option (Pl×Bool))):Xab own av st (.ro n) a y=ZV own av st a:=nr rfl
def Xkl(own:Bool)(av:Option (Bool×Nat))(a:AV)(x:AV)(l:List (Option (Pl×Bool))):Xab own av st .mv a (x,l)=some x:=nr rfl
def rwB(n:Nat)(pl:Pl)(w:Bool)(cells:List AV):Option AV:=if(w&&decide (pl.c+n<=cells.length)&&((cells.drop pl.c).take n).all XW)=true then some (.agg ((cells.drop pl.c).take n)) else none
def Xkm(own:Bool)(av:Option (Bool×Nat))(n:Nat)(pl:Pl)(y:AV×List (Option (Pl×Bool))):Xab own av st (.rw n) (.p pl) y=Xd (node st pl) (rwB n pl (XI st pl)):=by
 simp only[Xab,Xd,rwB]
 cases node st pl<;>rfl
def rwP(cx:Cx)(st:St)(fs:FS)(as:List AV)(k n:Nat):Option AV->Option (AV×St)
 | some (.p pl)=>Xcs cx st fs as k n pl
 | _=>none
def XpU(fs:FS)(as:List AV)(k n:Nat)(pl:Pl):rwP cx st fs as k n (some (.p pl))=Xcs cx st fs as k n pl:=nr rfl
def Xmq(g:Nat)(fs:FS)(k n:Nat)(f:Operand)(ts:List TypeId)(xs:List Operand):Xcf cx st g fs k n f ts xs=Xd (QU cx st f ts xs) (λp=>if p.1=g/\Xce k fs.md=true then rwP cx st fs p.2 k n p.2[k]? else none):=by
 simp only[Xcf,Xd]
 cases QU cx st f ts xs with
 | none=>rfl
 | some p =>
  obtain⟨g',as⟩:=p
  simp only
  split
  ·cases as[k]? with
   | none=>rfl
   | some a=>cases a<;>rfl
  ·rfl
def rwA(st:St)(pl:Pl)(n:Nat)(r:AV):Option AV->Option (AV×St)
 | some (.agg cs)=>Xd (node st pl) (λcells=>some (r,(Xk st pl (cells.take pl.c++cs++cells.drop (pl.c+n))).cut pl n))
 | _=>none
def Xmr(pl:Pl)(n:Nat)(r:AV)(cs:List AV):rwA st pl n r (some (.agg cs))=Xd (node st pl) (λcells=>some (r,(Xk st pl (cells.take pl.c++cs++cells.drop (pl.c+n))).cut pl n)):=nr rfl
def rwR(st:St)(pl:Pl)(k n:Nat)(p:AV×List AV):Option (AV×St):=rwA st pl n p.1 p.2[k]?
def XoE(pl:Pl)(k n:Nat)(r:AV)(os:List AV):rwR st pl k n (r,os)=rwA st pl n r os[k]?:=nr rfl
def Xkn(md:List Md)(F:List AV->Option (AV×List AV))(b:Bool)(as:List AV)(k n:Nat)(pl:Pl):Xcs cx st ⟨md,F,b⟩ as k n pl=Xd (YV (!b) (some (pl.e,pl.r)) st md as []) (λbs=>Xd (F bs) (rwR st pl k n)):=by
 simp only[Xcs,Xd,rwR]
 cases YV (!b) (some (pl.e,pl.r)) st md as [] with
 | none=>rfl
 | some bs =>
  simp only
  cases F bs with
  | none=>rfl
  | some p =>
   obtain⟨r,os⟩:=p
   simp only[rwA]
   cases os[k]? with
   | none=>rfl
   | some a =>
    cases a<;>try rfl
    simp only[Xd]
    cases node st pl<;>rfl
def XgS(m:Md)(ms:List Md):Xce 0 (m :: ms)=ms.all Zm:=nr rfl
def XgT(k n:Nat)(ms:List Md):Xce (k+1) (.ro n :: ms)=Xce k ms:=nr rfl
def Xfo(xs:List Operand):weakAll st [] xs=some st:=by cases xs<;>rfl
def XgU(n:Nat)(ms:List Md)(x:Operand)(xs:List Operand):weakAll st (.ro n :: ms) (x :: xs)=Xd (weakArg st x) (λs=>weakAll s ms xs):=by
 simp only[weakAll,Xd]; cases weakArg st x<;>rfl
def XgV(n:Nat)(ms:List Md)(x:Operand)(xs:List Operand):weakAll st (.rw n :: ms) (x :: xs)=weakAll st ms xs:=by simp only[weakAll]
def XgW(ms:List Md)(x:Operand)(xs:List Operand):weakAll st (.mv :: ms) (x :: xs)=weakAll st ms xs:=by simp only[weakAll]
def Uj(st:St)(x:Operand):AV->Option St
 | .agg cs=>ZU x cs.length 0 st
 | a=>weakLeaf st a
def Xix(x:Operand):weakArg st x=Uj st x (view st x):=by simp only[weakArg,Uj]; cases view st x<;>rfl
def Xem(x:Operand)(j:Nat):ZU x 0 j st=some st:=nr rfl
def Xms(x:Operand)(n j:Nat)(st:St):AV->Option St
 | .agg cs=>Xd cs[j]? (λa=>Xd (weakLeaf st a) (λs=>ZU x n (j+1) s))
 | _=>none
def Xiy(x:Operand)(n j:Nat)(cs:List AV):Xms x n j st (.agg cs)=Xd cs[j]? (λa=>Xd (weakLeaf st a) (λs=>ZU x n (j+1) s)):=nr rfl
def Xen(x:Operand)(n j:Nat):ZU x (n+1) j st=Xms x n j st (view st x):=by
 simp only[ZU,Xms]
 cases view st x with
 | agg cs =>
  simp only[Xd]
  cases cs[j]? with
  | none=>rfl
  | some a=>simp only; cases weakLeaf st a<;>rfl
 | _=>rfl
def Xiz(st:St)(pl:Pl)(z':Nat)(cells:List AV):Option AV->Option St
 | some (.sl .mut z es)=>if z'=z then(if XI st pl then some ((Xk st pl (cells.set pl.c (.sl .app z (XE es)))).filt (keepP pl.e pl.r pl.path pl.c 1) (keepP pl.e pl.r pl.path pl.c 1)) else none) else none
 | _=>some st
def Xmt(st:St)(pl:Pl)(z':Nat):Option (List AV)->Option St
 | some cells=>Xiz st pl z' cells cells[pl.c]?
 | none=>some st
def Xfp(pl:Pl)(z' lo n:Nat):weakLeaf st (.rf pl z' lo n)=Xmt st pl z' (node st pl):=by
 simp only[weakLeaf,Xmt]
 cases node st pl with
 | none=>rfl
 | some cells=>rfl
def XgX(pl:Pl)(z':Nat)(cells:List AV):Xmt st pl z' (some cells)=Xiz st pl z' cells cells[pl.c]?:=nr rfl
def XiA(pl:Pl)(z':Nat)(cells:List AV)(z:Nat)(es:List (List AV)):Xiz st pl z' cells (some (.sl .mut z es))=if z'=z then(if XI st pl=true then some ((Xk st pl (cells.set pl.c (.sl .app z (XE es)))).filt (keepP pl.e pl.r pl.path pl.c 1) (keepP pl.e pl.r pl.path pl.c 1)) else none) else none:=nr rfl
def Xko(pl:Pl)(z':Nat)(cells:List AV)(z:Nat)(es:List (List AV)):Xiz st pl z' cells (some (.sl .ro z es))=some st:=nr rfl
def XiB(pl:Pl)(z':Nat)(cells:List AV)(z:Nat)(es:List (List AV)):Xiz st pl z' cells (some (.sl .app z es))=some st:=nr rfl
def Xpf(ys:List (AV×List (Option (Pl×Bool))))(st:St)(p:AV×List AV):Option (AV×St):=Xd (X3 st p.2 ys) (λs=>some (p.1,s))
def XiC(g:Nat)(md:List Md)(F:List AV->Option (AV×List AV))(b:Bool)(f:Operand)(ts:List TypeId)(xs:List Operand):Xbz cx st g ⟨md,F,b⟩ f ts xs=Xd (XX cx st md ts xs) (λp=>Xd (QU cx p.2 f ts xs) (λq=>if q.1=g/\(p.1.all λy=>y.2.all (Xhw p.2))=true then Xd (YV (!b) none p.2 md q.2 p.1) (λbs=>Xd (F bs) (Xpf p.1 p.2)) else none)):=by
 simp only[Xbz,Xd,Xpf]
 cases XX cx st md ts xs with
 | none=>rfl
 | some p =>
  obtain⟨ys,s⟩:=p
  simp only
  cases QU cx s f ts xs with
  | none=>rfl
  | some q =>
   obtain⟨g',as⟩:=q
   simp only[Xhy]
   split
   ·cases YV (!b) none s md as ys with
    | none=>rfl
    | some bs =>
     simp only
     cases F bs with
     | none=>rfl
     | some r =>
      obtain⟨v,os⟩:=r
      simp only
      cases X3 s os ys<;>rfl
   ·rfl
def Xfq(ts:List TypeId)(xs:List Operand):XX cx st [] ts xs=some ([],st):=by cases ts<;>cases xs<;>rfl
def XiD(y:AV×List (Option (Pl×Bool)))(q:List (AV×List (Option (Pl×Bool)))×St):Option (List (AV×List (Option (Pl×Bool)))×St):=some (y :: q.1,q.2)
def Xkp(y:AV×List (Option (Pl×Bool)))(l:List (AV×List (Option (Pl×Bool))))(s:St):XiD y (l,s)=some (y :: l,s):=nr rfl
def XgY(ms:List Md)(t:TypeId)(ts:List TypeId)(x:Operand)(xs:List Operand):XX cx st (.mv :: ms) (t :: ts) (x :: xs)=Xd (outArg (zOf cx t) st x) (λp=>Xd (XX cx p.2 ms ts xs) (XiD p.1)):=by
 simp only[XX,Md.isMv,if_true,Xd,XiD]
 cases outArg (zOf cx t) st x with
 | none=>rfl
 | some p=>obtain⟨y,s⟩:=p; simp only; cases XX cx s ms ts xs<;>rfl
def XgZ(n:Nat)(ms:List Md)(t:TypeId)(ts:List TypeId)(x:Operand)(xs:List Operand):XX cx st (.ro n :: ms) (t :: ts) (x :: xs)=Xd (XX cx st ms ts xs) (XiD (.u,[])):=by
 simp only[XX,Md.isMv,Bool.false_eq_true,if_false,Xd,XiD]
 cases XX cx st ms ts xs<;>rfl
def Xi1(z:Nat)(st:St)(x:Operand):AV->Option ((AV×List (Option (Pl×Bool)))×St)
 | .agg cs=>match ZY x cs.length 0 st with
  | some (ys,st')=>some ((.agg ys.1,ys.2),st')
  | none=>none
 | a=>match outLeaf st (fix z a) with
  | some (y,st')=>some ((y.1,[y.2]),st')
  | none=>none
def Xkq(z:Nat)(x:Operand):outArg z st x=Xi1 z st x (view st x):=by
 simp only[outArg,Xi1]
 cases view st x<;>rfl
def Xmu(p:(List AV×List (Option (Pl×Bool)))×St):Option ((AV×List (Option (Pl×Bool)))×St):=some ((.agg p.1.1,p.1.2),p.2)
def Xkr(l:List AV)(r:List (Option (Pl×Bool)))(s:St):Xmu ((l,r),s)=some ((.agg l,r),s):=nr rfl
def Xfr(p:(AV×Option (Pl×Bool))×St):Option ((AV×List (Option (Pl×Bool)))×St):=some ((p.1.1,[p.1.2]),p.2)
def Xks(a:AV)(r:Option (Pl×Bool))(s:St):Xfr ((a,r),s)=some ((a,[r]),s):=nr rfl
def Xkt(z:Nat)(x:Operand)(cs:List AV):Xi1 z st x (.agg cs)=Xd (ZY x cs.length 0 st) Xmu:=by
 simp only[Xi1,Xd,Xmu]
 cases ZY x cs.length 0 st<;>rfl
def Xmv(z:Nat)(x:Operand)(pl:Pl)(y lo n:Nat):Xi1 z st x (.rf pl y lo n)=Xd (outLeaf st (.rf pl y lo n)) Xfr:=by
 simp only[Xi1,fix,Xd,Xfr]
 cases outLeaf st (.rf pl y lo n)<;>rfl
def Xmw(z:Nat)(x:Operand)(t:Tag)(y:Nat)(es:List (List AV)):Xi1 z st x (.sl t y es)=Xd (outLeaf st (.sl t y es)) Xfr:=by
 simp only[Xi1,fix,Xd,Xfr]
 cases outLeaf st (.sl t y es)<;>rfl
def Xku(z:Nat)(x:Operand):Xi1 z st x .nil=Xd (outLeaf st (fix z .nil)) Xfr:=by
 simp only[Xi1,Xd,Xfr]
 cases outLeaf st (fix z .nil)<;>rfl
def Xfs(x:Operand)(j:Nat):ZY x 0 j st=some (([],[]),st):=nr rfl
def Xpg(y:AV×Option (Pl×Bool))(q:(List AV×List (Option (Pl×Bool)))×St):Option ((List AV×List (Option (Pl×Bool)))×St):=some ((y.1 :: q.1.1,y.2 :: q.1.2),q.2)
def Xmx(a:AV)(r:Option (Pl×Bool))(l:List AV)(rs:List (Option (Pl×Bool)))(s:St):Xpg (a,r) ((l,rs),s)=some ((a :: l,r :: rs),s):=nr rfl
def XpV(x:Operand)(n j:Nat)(st:St):AV->Option ((List AV×List (Option (Pl×Bool)))×St)
 | .agg cs=>Xd cs[j]? (λa=>Xd (outLeaf st a) (λp=>Xd (ZY x n (j+1) p.2) (Xpg p.1)))
 | _=>none
def Xkv(x:Operand)(n j:Nat)(cs:List AV):XpV x n j st (.agg cs)=Xd cs[j]? (λa=>Xd (outLeaf st a) (λp=>Xd (ZY x n (j+1) p.2) (Xpg p.1))):=nr rfl
def Xft(x:Operand)(n j:Nat):ZY x (n+1) j st=XpV x n j st (view st x):=by
 simp only[ZY,XpV]
 cases view st x with
 | agg cs =>
  simp only[Xd,Xpg]
  cases cs[j]? with
  | none=>rfl
  | some a =>
   simp only
   cases outLeaf st a with
   | none=>rfl
   | some p=>obtain⟨y,s⟩:=p; simp only; cases ZY x n (j+1) s<;>rfl
 | _=>rfl
def XpW(st:St)(pl:Pl)(z' lo n:Nat)(cells:List AV):Option AV->Option ((AV×Option (Pl×Bool))×St)
 | some (.sl .mut z es)=>if(lo=0/\n=es.length)/\z'=z then(if XI st pl=true then some ((.sl .mut z es,some (pl,whole st pl)),(Xk st pl (cells.set pl.c .u)).cut pl 1) else none) else none
 | _=>none
def Xkw(pl:Pl)(z' lo n:Nat)(cells:List AV)(z:Nat)(es:List (List AV)):XpW st pl z' lo n cells (some (.sl .mut z es))=if(lo=0/\n=es.length)/\z'=z then(if XI st pl=true then some ((.sl .mut z es,some (pl,whole st pl)),(Xk st pl (cells.set pl.c .u)).cut pl 1) else none) else none:=nr rfl
def Xg0(pl:Pl)(z' lo n:Nat):outLeaf st (.rf pl z' lo n)=Xd (node st pl) (λcells=>XpW st pl z' lo n cells cells[pl.c]?):=by
 simp only[outLeaf,Xd]
 cases node st pl with
 | none=>rfl
 | some cells=>simp only[XpW]; rfl
def XpX(st:St)(z:Nat)(pl:Pl)(y lo n:Nat)(cells:List AV):Option AV->Option St
 | some (.sl .mut z' es)=>if((lo+n<=es.length/\z'=z)/\y=z)/\(XI st pl&&Xhw ((Xk st pl (cells.set pl.c .u)).cut pl 1) (some (pl,whole st pl)))=true then XK ((Xk st pl (cells.set pl.c .u)).cut pl 1) (.sl .mut z (Zd z lo n es)) (some (pl,whole st pl)) else none
 | _=>none
def Xkx(z:Nat)(pl:Pl)(y lo n:Nat)(cells:List AV)(z':Nat)(es:List (List AV)):XpX st z pl y lo n cells (some (.sl .mut z' es))=if((lo+n<=es.length/\z'=z)/\y=z)/\(XI st pl&&Xhw ((Xk st pl (cells.set pl.c .u)).cut pl 1) (some (pl,whole st pl)))=true then XK ((Xk st pl (cells.set pl.c .u)).cut pl 1) (.sl .mut z (Zd z lo n es)) (some (pl,whole st pl)) else none:=nr rfl
def XiE(z b:Nat)(ze:List AV)(pl:Pl)(y lo n:Nat):XaY (.slice z b ze) st (.rf pl y lo n)=Xd (node st pl) (λcells=>XpX st z pl y lo n cells cells[pl.c]?):=by
 simp only[XaY,Xd]
 cases node st pl with
 | none=>rfl
 | some cells=>simp only[XpX]; rfl
@[congr] def Xk6{ti:TI}{a a':AV}(h:a=a'):XaY ti st a=XaY ti st a':=by rw[h]
def XiF:Xhw st none=true:=nr rfl
def XiG(pl:Pl):Xhw st (some (pl,true))=true:=nr rfl
def okN(c:Nat):Option (List AV)->Bool
 | some cells=>decide (c<cells.length)
 | none=>false
def Xky(c:Nat)(cells:List AV):okN c (some cells)=decide (c<cells.length):=nr rfl
def Xg1(pl:Pl):Xhw st (some (pl,false))=((!pl.e||top (st.env pl.r))&&okN pl.c (node st pl)):=nr rfl
def Xfu(ys:List (AV×List (Option (Pl×Bool)))):X3 st [] ys=some st:=by cases ys<;>rfl
def Xeo(o:AV)(os:List AV)(a:AV)(ys:List (AV×List (Option (Pl×Bool)))):X3 st (o :: os) ((a,[]) :: ys)=X3 st os ys:=nr rfl
def Xep(os:List AV)(a:AV)(p:Option (Pl×Bool))(ps:List (Option (Pl×Bool)))(ys:List (AV×List (Option (Pl×Bool)))):X3 st (.u :: os) ((a,p :: ps) :: ys)=X3 st os ys:=nr rfl
def Xfv(cs os:List AV)(a:AV)(p:Option (Pl×Bool))(ps:List (Option (Pl×Bool)))(ys:List (AV×List (Option (Pl×Bool)))):X3 st (.agg cs :: os) ((a,p :: ps) :: ys)=Xd (X6 st cs (p :: ps)) (λs=>X3 s os ys):=by
 simp only[X3,Xd,Xhx,cellsOf]
 cases X6 st cs (p :: ps)<;>rfl
def Xg2(t:Tag)(z:Nat)(es:List (List AV))(os:List AV)(a:AV)(p:Option (Pl×Bool))(ps:List (Option (Pl×Bool)))(ys:List (AV×List (Option (Pl×Bool)))):X3 st (.sl t z es :: os) ((a,p :: ps) :: ys)=Xd (X6 st [.sl t z es] (p :: ps)) (λs=>X3 s os ys):=by
 simp only[X3,Xd,Xhx,cellsOf]
 cases X6 st [.sl t z es] (p :: ps)<;>rfl
def Xfw(os:List AV):X3 st os []=some st:=by cases os<;>rfl
def Xci:X6 st [] []=some st:=nr rfl
def XbY(a:AV)(as:List AV)(p:Option (Pl×Bool))(ps:List (Option (Pl×Bool))):X6 st (a :: as) (p :: ps)=Xd (XK st a p) (λs=>X6 s as ps):=by
 simp only[X6,Xd]
 cases XK st a p<;>rfl
def Xdl(a:AV):XK st a none=some st:=nr rfl
def Xmy(st:St)(r:Nat)(a:AV):AV->Option St
 | .u=>some (st.put r a)
 | _=>none
def Xmz(r:Nat)(a:AV):Xmy st r a .u=some (st.put r a):=nr rfl
def Xdm(pl:Pl)(t:Tag)(z:Nat)(es:List (List AV)):XK st (.sl t z es) (some (pl,true))=Xmy st pl.r (.sl t z es) (st.env pl.r):=by
 simp only[XK,Xmy]
 cases st.env pl.r<;>rfl
def XmA(st:St)(pl:Pl)(a:AV)(cells:List AV):Option AV->Option St
 | some .u=>if(XI st pl&&(!pl.e||top (st.env pl.r)))=true then some (Xk st pl (cells.set pl.c a)) else none
 | _=>none
def XmB(pl:Pl)(a:AV)(cells:List AV):XmA st pl a cells (some .u)=if(XI st pl&&(!pl.e||top (st.env pl.r)))=true then some (Xk st pl (cells.set pl.c a)) else none:=nr rfl
def Xcj(pl:Pl)(t:Tag)(z:Nat)(es:List (List AV)):XK st (.sl t z es) (some (pl,false))=Xd (node st pl) (λcells=>XmA st pl (.sl t z es) cells cells[pl.c]?):=by
 simp only[XK,Xd]
 cases node st pl with
 | none=>rfl
 | some cells =>
  simp only[XmA]
  cases cells[pl.c]? with
  | none=>rfl
  | some a=>cases a<;>rfl
def XpY(st:St)(p:AV×List AV):Option (AV×St):=some (p.1,st)
def XmC(v:AV)(os:List AV):XpY st (v,os)=some (v,st):=nr rfl
def Xkz(g:Nat)(md:List Md)(F:List AV->Option (AV×List AV))(b:Bool)(f:Operand)(ts:List TypeId)(xs:List Operand)(h:md.all Zm=true) :
  Xbz cx st g ⟨md,F,b⟩ f ts xs=Xd (QU cx st f ts xs) (λq=>if q.1=g then Xd (YV (!b) none st md q.2 []) (λbs=>Xd (F bs) (XpY st)) else none):=by
 have h1:∀(ms:List Md) (ts:List TypeId) (xs:List Operand),ms.all Zm=true->∃ys,XX cx st ms ts xs=some (ys,st)/\∀y∈ys,y=(AV.u,[]):=by
  intro ms
  induction ms with
  | nil=>intro ts xs _; exact⟨[],by simp[XX],by simp⟩
  | cons m ms ih =>
   intro ts xs hm
   simp only[List.all_cons,Bool.and_eq_true] at hm
   cases ts with
   | nil=>exact⟨[],by simp[XX],by simp⟩
   | cons t ts =>
    cases xs with
    | nil=>exact⟨[],by simp[XX],by simp⟩
    | cons x xs =>
     obtain⟨ys,e1,e2⟩:=ih ts xs hm.2
     have:m.isMv=false:=by cases m<;>first | rfl | cases hm.1
     exact⟨(.u,[]) :: ys,by simp only[XX,this,Bool.false_eq_true,if_false,e1],by simpa using e2⟩
 obtain⟨ys,e1,e2⟩:=h1 md ts xs h
 have h2:∀(ms:List Md) (as:List AV) (ys:List (AV×List (Option (Pl×Bool)))),ms.all Zm=true->(∀y∈ys,y=(AV.u,[]))->YV (!b) none st ms as ys=YV (!b) none st ms as []:=by
  intro ms
  induction ms with
  | nil=>intro as ys _ _; cases as<;>rfl
  | cons m ms ih =>
   intro as ys hm hy
   simp only[List.all_cons,Bool.and_eq_true] at hm
   cases as with
   | nil=>rfl
   | cons a as =>
    cases m with
    | ro n =>
     simp only[YV,Xab,List.tail_nil]
     rw[ih as ys.tail hm.2 (λy hy'=>hy y (List.mem_of_mem_tail hy'))]
    | _=>cases hm.1
 have h3:∀(os:List AV) (ys:List (AV×List (Option (Pl×Bool)))),(∀y∈ys,y=(AV.u,[]))->X3 st os ys=some st:=by
  intro os
  induction os with
  | nil=>intro ys _; cases ys<;>rfl
  | cons o os ih =>
   intro ys hy
   cases ys with
   | nil=>rfl
   | cons y ys =>
    have:=hy y (by simp)
    subst this
    simp only[X3]
    exact ih ys (λy hy'=>hy y (by simp[hy']))
 have h4:(ys.all λy=>y.2.all (Xhw st))=true:=by
  rw[List.all_eq_true]
  intro y hy
  rw[e2 y hy]; rfl
 rw[XiC,e1]
 simp only[Qe,h4,and_true]
 congr 1
 funext q
 split
 ·rw[h2 md q.2 ys h e2]
  congr 1
  funext bs
  congr 1
  funext p
  simp only[Xpf,XpY,h3 p.2 ys e2,Qe]
 ·rfl
end
end Go.Vm
set_option autoImplicit true
set_option relaxedAutoImplicit true
namespace Go.Vm
def k0:XJ q .u=.u :=nr rfl
def k1:XJ q .no=.no :=nr rfl
def k2:XJ q .ub=.ub :=nr rfl
def k3:XJ q (.b x)=(.b x) :=nr rfl
def k4:XJ q (.i k n)=(.i k n) :=nr rfl
def k5:XJ q (.s x)=(.s x) :=nr rfl
def k6:XJ q .nil=.nil :=nr rfl
def k7:XJ q (.rf pl y lo n)=(.rf pl y lo n) :=nr rfl
def k8:XJ q (.p pl)=(.p pl) :=nr rfl
def k9:XJ q (.pr cs)=(.pr cs) :=nr rfl
def k10:XJ q .pn=.pn :=nr rfl
def k11:XJ q (.fn f cs)=(.fn f cs) :=nr rfl
def k12:XJ q (.fs cs)=(.fs cs) :=nr rfl
def k13:XJ q (.agg cs)=(.agg cs) :=nr rfl
def k14:XJ q (.tup cs)=(.tup cs) :=nr rfl
def k15:XJ q (.sl .app z es)=.rf q z 0 es.length :=nr rfl
def k16:XJ q (.sl .mut z es)=.rf q z 0 es.length :=nr rfl
def k17:XJ q (.sl .ro z es)=.sl .ro z es :=nr rfl
def Q7(x:Nat)(a:AV):AV :=match a with
  | .agg cs => .agg (Yd ⟨true,x,[],0⟩ 0 cs)
  | .tup _ => .u
  | a => XJ ⟨true,x,[],0⟩ a
def k18:view st (.tmp x)=Q7 x (st.env x) :=nr rfl
def k19:view st (.const v)=Xgn v :=nr rfl
def k20:view st (.func f)=.fn f [] :=nr rfl
def k21:Q7 x .u=.u :=nr rfl
def k22:Q7 x .no=.no :=nr rfl
def k23:Q7 x .ub=.ub :=nr rfl
def k24:Q7 x (.i k n)=(.i k n) :=nr rfl
def k25:Q7 x .nil=.nil :=nr rfl
def k26:Q7 x (.rf pl y lo n)=(.rf pl y lo n) :=nr rfl
def k27:Q7 x (.p pl)=(.p pl) :=nr rfl
def k28:Q7 x (.pr cs)=(.pr cs) :=nr rfl
def k29:Q7 x .pn=.pn :=nr rfl
def k30:Q7 x (.fn f cs)=(.fn f cs) :=nr rfl
def k31:Q7 x (.fs cs)=(.fs cs) :=nr rfl
def k32:Q7 x (.agg cs)=.agg (Yd ⟨true,x,[],0⟩ 0 cs) :=nr rfl
def k33:Q7 x (.tup cs)=.u :=nr rfl
def k34:Q7 x (.b y)=.b y :=nr rfl
def k35:Q7 x (.s y)=.s y :=nr rfl
def k36:Q7 x (.sl .app z es)=.rf ⟨true,x,[],0⟩ z 0 es.length :=nr rfl
def k37:Q7 x (.sl .mut z es)=.rf ⟨true,x,[],0⟩ z 0 es.length :=nr rfl
def k38:Q7 x (.sl .ro z es)=.sl .ro z es :=nr rfl
def k39:Yd q j []=[] :=nr rfl
def k40:Yd q j (a :: l)=XJ {q with c :=j} a :: Yd q (j+1) l :=nr rfl
def k41:ZK .u=false :=nr rfl
def k42:ZK .no=false :=nr rfl
def k43:ZK .ub=false :=nr rfl
def k44:ZK (.b x)=false :=nr rfl
def k45:ZK (.i k n)=false :=nr rfl
def k46:ZK (.s x)=false :=nr rfl
def k47:ZK .nil=false :=nr rfl
def k48:ZK (.sl t z es)=true :=nr rfl
def k49:ZK (.rf pl y lo n)=false :=nr rfl
def k50:ZK (.p pl)=false :=nr rfl
def k51:ZK (.pr cs)=false :=nr rfl
def k52:ZK .pn=false :=nr rfl
def k53:ZK (.fn f cs)=false :=nr rfl
def k54:ZK (.fs cs)=false :=nr rfl
def k55:ZK (.agg cs)=false :=nr rfl
def k56:ZK (.tup cs)=false :=nr rfl
def k57:U4 .u=none :=nr rfl
def k58:U4 .no=none :=nr rfl
def k59:U4 .ub=none :=nr rfl
def k60:U4 (.b x)=none :=nr rfl
def k61:U4 (.i k n)=none :=nr rfl
def k62:U4 (.s x)=none :=nr rfl
def k63:U4 .nil=none :=nr rfl
def k64:U4 (.sl t z es)=none :=nr rfl
def k65:U4 (.rf pl y lo n)=none :=nr rfl
def k66:U4 (.p pl)=none :=nr rfl
def k67:U4 (.pr cs)=none :=nr rfl
def k68:U4 .pn=none :=nr rfl
def k69:U4 (.fn f cs)=none :=nr rfl
def k70:U4 (.fs cs)=none :=nr rfl
def k71:U4 (.agg cs)=none :=nr rfl
def k72:npP md st .u=none :=nr rfl
def k73:npP md st .no=none :=nr rfl
def k74:npP md st .ub=none :=nr rfl
def k75:npP md st (.b x)=none :=nr rfl
def k76:npP md st (.i k n)=none :=nr rfl
def k77:npP md st (.s x)=none :=nr rfl
def k78:npP md st .nil=none :=nr rfl
def k79:npP md st (.sl t z es)=none :=nr rfl
def k80:npP md st (.rf pl y lo n)=none :=nr rfl
def k81:npP md st (.pr cs)=none :=nr rfl
def k82:npP md st .pn=none :=nr rfl
def k83:npP md st (.fn f cs)=none :=nr rfl
def k84:npP md st (.fs cs)=none :=nr rfl
def k85:npP md st (.agg cs)=none :=nr rfl
def k86:npP md st (.tup cs)=none :=nr rfl
def k87:Yy .u=false :=nr rfl
def k88:Yy .no=false :=nr rfl
def k89:Yy .ub=false :=nr rfl
def k90:Yy (.b x)=false :=nr rfl
def k91:Yy (.i k n)=false :=nr rfl
def k92:Yy (.s x)=false :=nr rfl
def k93:Yy .nil=false :=nr rfl
def k94:Yy (.sl t z es)=true :=nr rfl
def k95:Yy (.rf pl y lo n)=false :=nr rfl
def k96:Yy (.p pl)=false :=nr rfl
def k97:Yy (.pr cs)=false :=nr rfl
def k98:Yy .pn=false :=nr rfl
def k99:Yy (.fn f cs)=false :=nr rfl
def XrD:Yy (.fs cs)=false :=nr rfl
def XrE:Yy (.agg cs)=cs.any ZK :=nr rfl
def XrF:Yy (.tup cs)=false :=nr rfl
def XrG:Un .u=true :=nr rfl
def XrH:Un .no=false :=nr rfl
def XrI:Un .ub=true :=nr rfl
def XrJ:Un (.b x)=true :=nr rfl
def XrK:Un (.i k n)=true :=nr rfl
def XrL:Un (.s x)=true :=nr rfl
def XrM:Un .nil=true :=nr rfl
def XrN:Un (.sl t z es)=true :=nr rfl
def XrO:Un (.rf pl y lo n)=false :=nr rfl
def XrP:Un (.p pl)=true :=nr rfl
def XrQ:Un (.pr cs)=true :=nr rfl
def XrR:Un .pn=true :=nr rfl
def XrS:Un (.fn f cs)=false :=nr rfl
def XrT:Un (.fs cs)=false :=nr rfl
def XrU:Un (.agg cs)=false :=nr rfl
def XrV:Un (.tup cs)=false :=nr rfl
def XrW:XW .u=true :=nr rfl
def XrX:XW .no=false :=nr rfl
def XrY:XW .ub=true :=nr rfl
def XrZ:XW (.b x)=true :=nr rfl
def Xr0:XW (.i k n)=true :=nr rfl
def Xr1:XW (.s x)=true :=nr rfl
def Xr2:XW .nil=true :=nr rfl
def Xr3:XW (.sl t z es)=true :=nr rfl
def Xr4:XW (.rf pl y lo n)=false :=nr rfl
def Xr5:XW (.p pl)=false :=nr rfl
def Xr6:XW (.pr cs)=true :=nr rfl
def Xr7:XW .pn=true :=nr rfl
def Xr8:XW (.fn f cs)=false :=nr rfl
def Xr9:XW (.fs cs)=false :=nr rfl
def Xsa:XW (.agg cs)=false :=nr rfl
def Xsb:XW (.tup cs)=false :=nr rfl
def Xsc:top .u=false :=nr rfl
def Xsd:top .no=false :=nr rfl
def Xse:top .ub=true :=nr rfl
def Xsf:top (.b x)=true :=nr rfl
def Xsg:top (.i k n)=true :=nr rfl
def Xsh:top (.s x)=true :=nr rfl
def Xsi:top .nil=true :=nr rfl
def Xsj:top (.sl t z es)=true :=nr rfl
def Xsk:top (.rf pl y lo n)=true :=nr rfl
def Xsl:top (.p pl)=true :=nr rfl
def Xsm:top (.pr cs)=true :=nr rfl
def Xsn:top .pn=true :=nr rfl
def Xso:top (.fn f cs)=true :=nr rfl
def Xsp:top (.fs cs)=true :=nr rfl
def Xsq:top (.agg cs)=true :=nr rfl
def Xsr:top (.tup cs)=false :=nr rfl
def Xss:Xct .u=false :=nr rfl
def Xst:Xct .no=false :=nr rfl
def Xsu:Xct .ub=false :=nr rfl
def Xsv:Xct (.b x)=false :=nr rfl
def Xsw:Xct (.i k n)=false :=nr rfl
def Xsx:Xct (.s x)=false :=nr rfl
def Xsy:Xct .nil=false :=nr rfl
def Xsz:Xct (.sl t z es)=false :=nr rfl
def XsA:Xct (.rf pl y lo n)=false :=nr rfl
def XsB:Xct (.p pl)=false :=nr rfl
def XsC:Xct (.pr cs)=false :=nr rfl
def XsD:Xct .pn=false :=nr rfl
def XsE:Xct (.fn f cs)=true :=nr rfl
def XsF:Xct (.fs cs)=false :=nr rfl
def XsG:Xct (.agg cs)=false :=nr rfl
def XsH:Xct (.tup cs)=false :=nr rfl
def XsI:Z3 .u=false :=nr rfl
def XsJ:Z3 .no=false :=nr rfl
def XsK:Z3 .ub=true :=nr rfl
def XsL:Z3 (.b x)=true :=nr rfl
def XsM:Z3 (.i k n)=true :=nr rfl
def XsN:Z3 (.s x)=true :=nr rfl
def XsO:Z3 .nil=true :=nr rfl
def XsP:Z3 (.sl t z es)=true :=nr rfl
def XsQ:Z3 (.rf pl y lo n)=true :=nr rfl
def XsR:Z3 (.p pl)=true :=nr rfl
def XsS:Z3 (.pr cs)=true :=nr rfl
def XsT:Z3 .pn=true :=nr rfl
def XsU:Z3 (.fn f cs)=true :=nr rfl
def XsV:Z3 (.fs cs)=true :=nr rfl
def XsW:Z3 (.agg cs)=false :=nr rfl
def XsX:Z3 (.tup cs)=false :=nr rfl
def XsY:fsV len st i []=if i=len then some [] else none :=nr rfl
def fsK(x:Bool)(a:AV)(r:Option (List AV)):Option (List AV) :=if x then(match r with | some l => some (a :: l) | none => none) else none
def XsZ:fsK true a (some l)=some (a :: l) :=nr rfl
def Xs0:fsV len st i ((j,x) :: r)=if i=j then fsK (Xct (view st x)) (view st x) (fsV len st (i+1) r) else none :=by simp only[fsV,fsK]; split<;>rfl
def Xs1:cellsOf .u=[.u] :=nr rfl
def Xs2:cellsOf .no=[.no] :=nr rfl
def Xs3:cellsOf .ub=[.ub] :=nr rfl
def Xs4:cellsOf (.b x)=[(.b x)] :=nr rfl
def Xs5:cellsOf (.i k n)=[(.i k n)] :=nr rfl
def Xs6:cellsOf (.s x)=[(.s x)] :=nr rfl
def Xs7:cellsOf .nil=[.nil] :=nr rfl
def Xs8:cellsOf (.sl t z es)=[(.sl t z es)] :=nr rfl
def Xs9:cellsOf (.rf pl y lo n)=[(.rf pl y lo n)] :=nr rfl
def Xta:cellsOf (.p pl)=[(.p pl)] :=nr rfl
def Xtb:cellsOf (.pr cs)=[(.pr cs)] :=nr rfl
def Xtc:cellsOf .pn=[.pn] :=nr rfl
def Xtd:cellsOf (.fn f cs)=[(.fn f cs)] :=nr rfl
def Xte:cellsOf (.fs cs)=[(.fs cs)] :=nr rfl
def Xtf:cellsOf (.agg cs)=cs :=nr rfl
def Xtg:cellsOf (.tup cs)=[(.tup cs)] :=nr rfl
def Xth:plain .u=false :=nr rfl
def Xti:plain .no=false :=nr rfl
def Xtj:plain .ub=false :=nr rfl
def Xtk:plain (.b x)=true :=nr rfl
def Xtl:plain (.i k n)=true :=nr rfl
def Xtm:plain (.s x)=true :=nr rfl
def Xtn:plain .nil=false :=nr rfl
def Xto:plain (.rf pl y lo n)=false :=nr rfl
def Xtp:plain (.p pl)=false :=nr rfl
def Xtq:plain (.pr cs)=false :=nr rfl
def Xtr:plain .pn=true :=nr rfl
def Xts:plain (.fn f cs)=false :=nr rfl
def Xtt:plain (.fs cs)=false :=nr rfl
def Xtu:plain (.agg cs)=false :=nr rfl
def Xtv:plain (.tup cs)=false :=nr rfl
def Xtw:plain (.sl .ro z es)=true :=nr rfl
def Xtx:fix m .u=.u :=nr rfl
def Xty:fix m .no=.no :=nr rfl
def Xtz:fix m .ub=.ub :=nr rfl
def XtA:fix m (.b x)=(.b x) :=nr rfl
def XtB:fix m (.i k n)=(.i k n) :=nr rfl
def XtC:fix m (.s x)=(.s x) :=nr rfl
def XtD:fix m (.sl t z es)=(.sl t z es) :=nr rfl
def XtE:fix m (.rf pl y lo n)=(.rf pl y lo n) :=nr rfl
def XtF:fix m (.p pl)=(.p pl) :=nr rfl
def XtG:fix m (.pr cs)=(.pr cs) :=nr rfl
def XtH:fix m .pn=.pn :=nr rfl
def XtI:fix m (.fn f cs)=(.fn f cs) :=nr rfl
def XtJ:fix m (.fs cs)=(.fs cs) :=nr rfl
def XtK:fix m (.agg cs)=(.agg cs) :=nr rfl
def XtL:fix m (.tup cs)=(.tup cs) :=nr rfl
def XtM:fix 0 .nil=.nil :=nr rfl
def XtN:fix (m+1) .nil=.sl .mut (m+1) [] :=nr rfl
def XtO:fix 1 .nil=.sl .mut 1 [] :=nr rfl
def XtP:fix 2 .nil=.sl .mut 2 [] :=nr rfl
def XtQ:fix 3 .nil=.sl .mut 3 [] :=nr rfl
def XtR:fix 4 .nil=.sl .mut 4 [] :=nr rfl
def XtS:fix 5 .nil=.sl .mut 5 [] :=nr rfl
def XtT:fix 6 .nil=.sl .mut 6 [] :=nr rfl
def XtU:fix 7 .nil=.sl .mut 7 [] :=nr rfl
def XtV:fix 8 .nil=.sl .mut 8 [] :=nr rfl
def XtW:fix 9 .nil=.sl .mut 9 [] :=nr rfl
def XtX:fix 10 .nil=.sl .mut 10 [] :=nr rfl
def XtY:fix 11 .nil=.sl .mut 11 [] :=nr rfl
def XtZ:filt kp kr .u=.u :=nr rfl
def Xt0:filt kp kr .no=.no :=nr rfl
def Xt1:filt kp kr .ub=.ub :=nr rfl
def Xt2:filt kp kr (.b x)=(.b x) :=nr rfl
def Xt3:filt kp kr (.i k n)=(.i k n) :=nr rfl
def Xt4:filt kp kr (.s x)=(.s x) :=nr rfl
def Xt5:filt kp kr .nil=.nil :=nr rfl
def Xt6:filt kp kr (.sl t z es)=(.sl t z es) :=nr rfl
def Xt7:filt kp kr (.pr cs)=(.pr cs) :=nr rfl
def Xt8:filt kp kr .pn=.pn :=nr rfl
def Xt9:filt kp kr (.fn f cs)=.fn f (XZ kp kr cs) :=nr rfl
def Xua:filt kp kr (.fs cs)=.fs (XZ kp kr cs) :=nr rfl
def Xub:filt kp kr (.agg cs)=.agg (XZ kp kr cs) :=nr rfl
def Xuc:filt kp kr (.tup cs)=.tup (XZ kp kr cs) :=nr rfl
def fA(b:Bool)(a:AV):AV :=if b then a else .u
def Xud:fA true a=a :=nr rfl
def Xue:fA false a=.u :=nr rfl
def Xuf:filt kp kr (.p q)=fA (kp q) (.p q) :=nr rfl
def Xug:filt kp kr (.rf q y lo n)=fA (kr q) (.rf q y lo n) :=nr rfl
def Xuh:XZ kp kr []=[] :=nr rfl
def Xui:XZ kp kr (a :: l)=filt kp kr a :: XZ kp kr l :=nr rfl
def Xuj:X7 st .u=some (.u,st) :=nr rfl
def Xuk:X7 st .no=some (.no,st) :=nr rfl
def Xul:X7 st .ub=some (.ub,st) :=nr rfl
def Xum:X7 st (.b x)=some ((.b x),st) :=nr rfl
def Xun:X7 st (.i k n)=some ((.i k n),st) :=nr rfl
def Xuo:X7 st (.s x)=some ((.s x),st) :=nr rfl
def Xup:X7 st .nil=some (.nil,st) :=nr rfl
def Xuq:X7 st (.sl t z es)=some ((.sl t z es),st) :=nr rfl
def Xur:X7 st (.rf pl y lo n)=takeRf st pl y lo n :=nr rfl
def Xus:X7 st (.p pl)=some ((.p pl),st) :=nr rfl
def Xut:X7 st (.pr cs)=some ((.pr cs),st) :=nr rfl
def Xuu:X7 st .pn=some (.pn,st) :=nr rfl
def Xuv:X7 st (.fn f cs)=some ((.fn f cs),st) :=nr rfl
def Xuw:X7 st (.fs cs)=some ((.fs cs),st) :=nr rfl
def Xux:X7 st (.agg cs)=some ((.agg cs),st) :=nr rfl
def Xuy:X7 st (.tup cs)=none :=nr rfl
def Xuz:takeVal st .u=some (.u,st) :=nr rfl
def XuA:takeVal st .no=some (.no,st) :=nr rfl
def XuB:takeVal st .ub=some (.ub,st) :=nr rfl
def XuC:takeVal st (.b x)=some ((.b x),st) :=nr rfl
def XuD:takeVal st (.i k n)=some ((.i k n),st) :=nr rfl
def XuE:takeVal st (.s x)=some ((.s x),st) :=nr rfl
def XuF:takeVal st .nil=some (.nil,st) :=nr rfl
def XuG:takeVal st (.sl t z es)=some ((.sl t z es),st) :=nr rfl
def XuH:takeVal st (.rf pl y lo n)=takeRf st pl y lo n :=nr rfl
def XuI:takeVal st (.p pl)=some ((.p pl),st) :=nr rfl
def XuJ:takeVal st (.pr cs)=some ((.pr cs),st) :=nr rfl
def XuK:takeVal st .pn=some (.pn,st) :=nr rfl
def XuL:takeVal st (.fn f cs)=some ((.fn f cs),st) :=nr rfl
def XuM:takeVal st (.fs cs)=some ((.fs cs),st) :=nr rfl
def XuN:takeVal st (.tup cs)=none :=nr rfl
def XpZ(x:Option (List AV×St)):Option (AV×St) :=match x with
  | some (cs,st) => some (.agg cs,st)
  | none => none
def XuO:takeVal st (.agg cs)=if cs.any Xdz then XpZ (takeL st cs) else some (.agg cs,st) :=by simp only[takeVal,XpZ]; split<;>cases takeL st cs<;>rfl
def XuP:Xdz .u=false :=nr rfl
def XuQ:Xdz .no=false :=nr rfl
def XuR:Xdz .ub=false :=nr rfl
def XuS:Xdz (.b x)=false :=nr rfl
def XuT:Xdz (.i k n)=false :=nr rfl
def XuU:Xdz (.s x)=false :=nr rfl
def XuV:Xdz .nil=false :=nr rfl
def XuW:Xdz (.sl t z es)=false :=nr rfl
def XuX:Xdz (.rf pl y lo n)=true :=nr rfl
def XuY:Xdz (.p pl)=false :=nr rfl
def XuZ:Xdz (.pr cs)=false :=nr rfl
def Xu0:Xdz .pn=false :=nr rfl
def Xu1:Xdz (.fn f cs)=false :=nr rfl
def Xu2:Xdz (.fs cs)=false :=nr rfl
def Xu3:Xdz (.agg cs)=false :=nr rfl
def Xu4:Xdz (.tup cs)=false :=nr rfl
def Xu5:gone q=false :=nr rfl
def Xu6:XpZ (some (cs,st))=some (.agg cs,st) :=nr rfl
def XmD(a:AV)(x:Option (List AV×St)):Option (List AV×St) :=match x with
  | some (cs,st) => some (a :: cs,st)
  | none => none
def Xu7:XmD a (some (cs,st))=some (a :: cs,st) :=nr rfl
def Xu8:takeL st []=some ([],st) :=nr rfl
def Xu9:takeL st (a :: l)=Xd (X7 st a) (λy => XmD (filt gone gone y.1) (takeL y.2 l)) :=by simp only[takeL,Xd,XmD]; cases X7 st a<;>rfl
def Xg3(st:St)(x:Nat)(b:Bool)(a:AV):Option (AV×St) :=if b then takeVal (clear st x) (filt (Xy true x) (Xy true x) a) else takeVal st a
@[congr] def XmE{st:St}{x:Nat}{b b':Bool}{a:AV}(h:b=b'):Xg3 st x b a=Xg3 st x b' a :=by rw[h]
def Uw(st:St)(x:Nat)(a:AV):Option (AV×St) :=Xg3 st x (Yy a) a
def Xva:take st (.tmp x)=Uw st x (st.env x) :=nr rfl
def Xvb:Uw st x .u=some (.u,st) :=nr rfl
def Xvc:Uw st x .no=some (.no,st) :=nr rfl
def Xvd:Uw st x .ub=some (.ub,st) :=nr rfl
def Xve:Uw st x (.b y)=some (.b y,st) :=nr rfl
def Xvf:Uw st x (.i k n)=some ((.i k n),st) :=nr rfl
def Xvg:Uw st x (.s y)=some (.s y,st) :=nr rfl
def Xvh:Uw st x .nil=some (.nil,st) :=nr rfl
def Xvi:Uw st x (.sl t z es)=some (.sl t z es,clear st x) :=nr rfl
def Xvj:Uw st x (.rf pl y lo n)=takeRf st pl y lo n :=nr rfl
def Xvk:Uw st x (.p pl)=some ((.p pl),st) :=nr rfl
def Xvl:Uw st x (.pr cs)=some ((.pr cs),st) :=nr rfl
def Xvm:Uw st x .pn=some (.pn,st) :=nr rfl
def Xvn:Uw st x (.fn f cs)=some ((.fn f cs),st) :=nr rfl
def Xvo:Uw st x (.fs cs)=some ((.fs cs),st) :=nr rfl
def Xvp:Uw st x (.agg cs)=Xg3 st x (cs.any ZK) (.agg cs) :=nr rfl
def Xvq:Uw st x (.tup cs)=none :=nr rfl
def Xvr:Xg3 st x true a=takeVal (clear st x) (filt (Xy true x) (Xy true x) a) :=nr rfl
def Xvs:Xg3 st x false a=takeVal st a :=nr rfl
def Xvt:take st (.const v)=some (Xgn v,st) :=nr rfl
def Xvu:take st (.func f)=some (.fn f [],st) :=nr rfl
def Xnj(b:Bool)(l:List (Nat×AV))(m:List (Nat×List AV))(d:Nat)(v:AV):St :=if b then⟨E ((d,filt (Xy true d) (Xy true d) v) :: Xh2 (Xy true d) (Xy true d) l),B (XiZ (Xy true d) (Xy true d) m)⟩ else⟨E ((d,v) :: l),B m⟩
@[congr] def Xnk{b b':Bool}{l:List (Nat×AV)}{m:List (Nat×List AV)}{d:Nat}{v v':AV}(h:b=b')(h':v=v'):Xnj b l m d v=Xnj b' l m d v' :=by rw[h,h']
def Xvv:St.put ⟨E l,B m⟩ d v=Xnj (Yy (E l d)) l m d v :=by simp only[St.put,Xnj,St.dropRoot,XbT,Xfa]
def Xvw:Xnj false l m d v=⟨E ((d,v) :: l),B m⟩ :=nr rfl
def Xvx:Xnj true l m d v=⟨E ((d,filt (Xy true d) (Xy true d) v) :: Xh2 (Xy true d) (Xy true d) l),B (XiZ (Xy true d) (Xy true d) m)⟩ :=nr rfl
def Xvy:St.put? st (some d) v=St.put st d v :=nr rfl
def Xvz:St.put? st none v=st :=nr rfl
def isK(t k:Nat):Bool :=t==k
def XvA:isK t k=(t==k) :=nr rfl
def eK(b:Bool)(v x:AV):AV :=if b then v else x
@[congr] def Xph{b b':Bool}{v x:AV}(h:b=b'):eK b v x=eK b' v x :=by rw[h]
def eB(b:Bool)(v x:List AV):List AV :=if b then v else x
@[congr] def Xpi{b b':Bool}{v x:List AV}(h:b=b'):eB b v x=eB b' v x :=by rw[h]
def XqS:eK true v x=v :=nr rfl
def XqT:eK false v x=x :=nr rfl
def XqU:eB true v x=v :=nr rfl
def XqV:eB false v x=x :=nr rfl
def XvB:E ((k,v) :: r) t=eK (isK t k) v (E r t) :=by simp only[Xa9,eK,isK,beq_iff_eq]
def XvC:B ((k,v) :: r) t=eB (isK t k) v (B r t) :=by simp only[XbS,eB,isK,beq_iff_eq]
def XvD:clear ⟨E l,B m⟩ x=⟨E ((x,.u) :: Xh2 (Xy true x) (Xy true x) l),B (XiZ (Xy true x) (Xy true x) m)⟩ :=by simp only[clear,St.dropRoot,XbT,Xfa]
def XvE:St.env ⟨f,g⟩=f :=nr rfl
def XvF:St.bx ⟨f,g⟩=g :=nr rfl
def Xnl(b:Bool)(l:List (Nat×AV))(m:List (Nat×List AV))(d:Nat)(cs:List AV):St :=if b then⟨E ((d,.p ⟨false,d,[],0⟩) :: l),B ((d,cs) :: m)⟩ else⟨E ((d,.p ⟨false,d,[],0⟩) :: Xh2 (Xy false d) (Xy false d) l),B ((d,XZ (Xy false d) (Xy false d) cs) :: XiZ (Xy false d) (Xy false d) m)⟩
@[congr] def Xnm{b b':Bool}{l:List (Nat×AV)}{m:List (Nat×List AV)}{d:Nat}{cs cs':List AV}(h:b=b')(h':cs=cs'):Xnl b l m d cs=Xnl b' l m d cs' :=by rw[h,h']
def XvG:newBox ⟨E l,B m⟩ d cs=Xnl (B m d).isEmpty l m d cs :=by
  cases h:(B m d).isEmpty<;>simp only[newBox,Xnl,h,if_true,if_false,Bool.false_eq_true,St.dropRoot,XbT,Xfa,XlI]
def XvH:Zr st d (c :: cs)=if Yy (st.env d)=true then none else some (newBox st d (c :: cs)) :=nr rfl
def XvI:Xnl true l m d cs=⟨E ((d,.p ⟨false,d,[],0⟩) :: l),B ((d,cs) :: m)⟩ :=nr rfl
def XvJ:Xnl false l m d cs=⟨E ((d,.p ⟨false,d,[],0⟩) :: Xh2 (Xy false d) (Xy false d) l),B ((d,XZ (Xy false d) (Xy false d) cs) :: XiZ (Xy false d) (Xy false d) m)⟩ :=nr rfl
def XvK:TI.size .bool=1 :=nr rfl
def XvL:TI.ag .bool=false :=nr rfl
def XvM:TI.z .bool=0 :=nr rfl
def XvN:TI.zero .bool=[.b false] :=nr rfl
def XvO:TI.size (.int k)=1 :=nr rfl
def XvP:TI.ag (.int k)=false :=nr rfl
def XvQ:TI.z (.int k)=0 :=nr rfl
def XvR:TI.zero (.int k)=[.i k 0] :=nr rfl
def XvS:TI.size .str=1 :=nr rfl
def XvT:TI.ag .str=false :=nr rfl
def XvU:TI.z .str=0 :=nr rfl
def XvV:TI.zero .str=[.s ⟨#[]⟩] :=nr rfl
def XvW:TI.size .ptr=1 :=nr rfl
def XvX:TI.ag .ptr=false :=nr rfl
def XvY:TI.z .ptr=0 :=nr rfl
def XvZ:TI.zero .ptr=[.pn] :=nr rfl
def Xv0:TI.size .fn=1 :=nr rfl
def Xv1:TI.ag .fn=false :=nr rfl
def Xv2:TI.z .fn=0 :=nr rfl
def Xv3:TI.zero .fn=[.u] :=nr rfl
def Xv4:TI.size (.slice z b w)=1 :=nr rfl
def Xv5:TI.ag (.slice z b w)=false :=nr rfl
def Xv6:TI.z (.slice z b w)=z :=nr rfl
def Xv7:TI.zero (.slice z b w)=[.sl .mut z []] :=nr rfl
def Xv8:TI.size (.struct n fl w)=n :=nr rfl
def Xv9:TI.ag (.struct n fl w)=true :=nr rfl
def Xwa:TI.z (.struct n fl w)=0 :=nr rfl
def Xwb:TI.zero (.struct n fl w)=w :=nr rfl
def Xwc:TI.size (.array n z ag w)=n*z :=nr rfl
def Xwd:TI.ag (.array n z ag w)=true :=nr rfl
def Xwe:TI.z (.array n z ag w)=0 :=nr rfl
def Xwf:TI.zero (.array n z ag w)=w :=nr rfl
def zK(x:Option TI):Nat :=match x with
  | some ti => ti.z
  | none => 0
def Xwg:zOf cx t=zK (cx.T t) :=nr rfl
def Xwh:zK (some ti)=ti.z :=nr rfl
def Xwi:zK none=0 :=nr rfl
def Xp0(x:Option (Nat×Nat×Bool×Nat))(a:AV):Option AV :=match x with
  | some (off,_) => match a with
    | .p q => some (.p {q with c :=q.c+off})
    | .pr q => some (.pr (q.drop off))
    | _ => none
  | none => none
def Xwj:Xac (.struct n fl w) f a=Xp0 (fl[f]?) a :=nr rfl
def Xwk:Xp0 (some (off,y)) (.p ⟨e,r,path,c⟩)=some (.p ⟨e,r,path,c+off⟩) :=nr rfl
def Xwl:Xp0 (some (off,y)) (.pr q)=some (.pr (q.drop off)) :=nr rfl
def Xwm:List.drop 0 l=l :=nr rfl
def Xwn:List.drop (n+1) (a :: l)=List.drop n l :=nr rfl
def Xwo:List.take 0 l=[] :=List.take_zero
def Xwp:List.take (n+1) (a :: l)=a :: List.take n l :=nr rfl
def Xwq:List.drop n ([]:List AV)=[] :=List.drop_nil
def XqW(x:Option (Nat×Nat×Bool×Nat))(cs:List AV):Option AV :=match x with
  | some (off,n,ag,_) => if off+n<=cs.length then some (if ag then .agg ((cs.drop off).take n) else cs.getD off .u) else none
  | none => none
def Xwr:XdK (.struct m fl w) f (.agg cs)=XqW (fl[f]?) cs :=nr rfl
def XmF(ti:TI)(pl:Pl)(cells:List AV):Option AV :=if pl.c+ti.size<=cells.length then(if ti.ag then some (.agg (Yd pl pl.c ((cells.drop pl.c).take ti.size))) else some (XJ pl (cells.getD pl.c .u))) else none
def Xws:loadAt st ti (.p pl)=Xd (node st pl) (XmF ti pl) :=by simp only[loadAt,Xd,XmF]; cases node st pl<;>rfl
def Xwt:loadAt st ti (.pr cs)=if ti.size<=cs.length then(if ti.ag then some (.agg (cs.take ti.size)) else some (cs.getD 0 .u)) else none :=nr rfl
def Xwu:node st ⟨e,r,path,c⟩=nav (Xb st e r) path :=nr rfl
def Xwv:XI st ⟨e,r,path,c⟩=wrt (Xb st e r) path :=nr rfl
def Xww:Xb st true r=cellsOf (st.env r) :=nr rfl
def Xwx:Xb st false r=st.bx r :=nr rfl
def Xwy:nav cs []=some cs :=nr rfl
def Xwz:wrt cs []=true :=nr rfl
def Xp1(x:Option (Tag×List AV))(ps:List (Nat×Nat×Nat)):Option (List AV) :=match x with
  | some (_,row) => nav row ps
  | none => none
def XoF(x:Option (Tag×List AV))(ps:List (Nat×Nat×Nat)):Bool :=match x with
  | some (.mut,row) => wrt row ps
  | _ => false
def Xg4(i z:Nat)(a:Option AV):Option (Tag×List AV) :=match a with
  | some (.sl t z' es) => if z'=z then rowK t es[i]? else none
  | _ => none
  where rowK (t:Tag):Option (List AV)->Option (Tag×List AV)
  | some row => some (t,row)
  | none => none
def XwA:nav cs ((c,i,z) :: ps)=Xp1 (YU cs c i z) ps :=by simp only[nav,Xp1]; cases YU cs c i z<;>rfl
def XwB:Xp1 (some (t,row)) ps=nav row ps :=nr rfl
def XwC:wrt cs ((c,i,z) :: ps)=XoF (YU cs c i z) ps :=by
  simp only[wrt,XoF]
  cases YU cs c i z with
  | none => rfl
  | some x => obtain⟨t,row⟩ :=x; cases t<;>rfl
def XwD:XoF (some (.mut,row)) ps=wrt row ps :=nr rfl
def XwE:XoF (some (.ro,row)) ps=false :=nr rfl
def XwF:XoF (some (.app,row)) ps=false :=nr rfl
def XwG:YU cs c i z=Xg4 i z cs[c]? :=by
  simp only[YU,Xg4]
  cases cs[c]? with
  | none => rfl
  | some a =>
    cases a<;>rfl
def XwH:Xg4 i z (some (.sl t z es))=Xg4.rowK t es[i]? :=by simp only[Xg4,if_true]
def XwI:Xg4.rowK t (some row)=some (t,row) :=nr rfl
def XwJ:XP cs [] new=new :=nr rfl
def Xp2(cs:List AV)(c i:Nat)(ps:List (Nat×Nat×Nat))(new:List AV)(a:Option AV):List AV :=match a with
  | some (.sl t z es) => cs.set c (.sl t z (es.set i (XP (es.getD i []) ps new)))
  | _ => cs
def XwK:XP cs ((c,i,z) :: ps) new=Xp2 cs c i ps new cs[c]? :=by
  simp only[XP,Xp2]
  cases cs[c]? with
  | none => rfl
  | some a => cases a<;>rfl
def XwL:Xp2 cs c i ps new (some (.sl t z es))=cs.set c (.sl t z (es.set i (XP (es.getD i []) ps new))) :=nr rfl
def XwM:List.set (a :: l) 0 b=b :: l :=nr rfl
def XwN:List.set (a :: l) (n+1) b=a :: List.set l n b :=nr rfl
def XwO:Xk ⟨E l,B m⟩ ⟨false,r,path,c⟩ new=⟨E l,B ((r,XP (B m r) path new) :: m)⟩ :=by simp only[Xk,XlI,Bool.false_eq_true,if_false]
def XwP:Xk ⟨E l,B m⟩ ⟨true,r,path,c⟩ new=⟨E ((r,ZS (E l r) (XP (cellsOf (E l r)) path new)) :: l),B m⟩ :=by simp only[Xk,Xfa,if_true,Xb]
def XwQ:ZS .u new=new.headD .u :=nr rfl
def XwR:ZS .no new=new.headD .u :=nr rfl
def XwS:ZS .ub new=new.headD .u :=nr rfl
def XwT:ZS (.b x) new=new.headD .u :=nr rfl
def XwU:ZS (.i k n) new=new.headD .u :=nr rfl
def XwV:ZS (.s x) new=new.headD .u :=nr rfl
def XwW:ZS .nil new=new.headD .u :=nr rfl
def XwX:ZS (.sl t z es) new=new.headD .u :=nr rfl
def XwY:ZS (.rf pl y lo n) new=new.headD .u :=nr rfl
def XwZ:ZS (.p pl) new=new.headD .u :=nr rfl
def Xw0:ZS (.pr cs) new=new.headD .u :=nr rfl
def Xw1:ZS .pn new=new.headD .u :=nr rfl
def Xw2:ZS (.fn f cs) new=new.headD .u :=nr rfl
def Xw3:ZS (.fs cs) new=new.headD .u :=nr rfl
def Xw4:ZS (.agg cs) new=.agg new :=nr rfl
def Xw5:ZS (.tup cs) new=new.headD .u :=nr rfl
def Xw6:List.headD (a :: l) AV.u=a :=nr rfl
def Xw7:QH st (.slice z b w) x (.i k n)=indexAddr st z x n :=nr rfl
def iaR(es:List (List AV)):Option Nat->Option AV
  | some j => some (.pr (es.getD j []))
  | none => none
def iaF(es:List AV):Option Nat->Option AV
  | some j => some (.pr [Vm.filt gone gone (es.getD j .u)])
  | none => none
def iaM(t:Tag)(pl:Pl)(z lo:Nat)(es:List (List AV)):Option Nat->Option AV
  | some j => (match t with
    | .mut => some (.p ⟨pl.e,pl.r,pl.path++[(pl.c,lo+j,z)],0⟩)
    | _ => some (.pr (Yn (es.getD (lo+j) []))))
  | none => none
def iaC(pl:Pl)(z zr lo n:Nat)(i:Int):Option AV->Option AV
  | some (.sl t z' es) => if(z=z'/\zr=z)/\lo+n<=es.length then iaM t pl z lo es (Zj n i) else none
  | _ => none
def ixS(b:ByteArray):Option Nat->Option AV
  | some j => some (.i .u8 (b.data[j]?.getD 0).toNat)
  | none => none
def Xw8:iaR es (some j)=some (.pr (es.getD j [])) :=nr rfl
def Xw9:iaF es (some j)=some (.pr [Vm.filt gone gone (es.getD j .u)]) :=nr rfl
def Xxa:iaM .mut pl z lo es (some j)=some (.p ⟨pl.e,pl.r,pl.path++[(pl.c,lo+j,z)],0⟩) :=nr rfl
def Xxb:iaM .ro pl z lo es (some j)=some (.pr (Yn (es.getD (lo+j) []))) :=nr rfl
def Xxc:iaM .app pl z lo es (some j)=some (.pr (Yn (es.getD (lo+j) []))) :=nr rfl
def Xxd:iaC pl z zr lo n i (some (.sl t z' es))=if(z=z'/\zr=z)/\lo+n<=es.length then iaM t pl z lo es (Zj n i) else none :=nr rfl
def Xxe:ixS b (some j)=some (.i .u8 (b.data[j]?.getD 0).toNat) :=nr rfl
def Xxf:indexAddr st z (.sl .ro z' es) i=if z=z' then iaR es (Zj es.length i) else none :=by
  by_cases h:z=z'
  · simp only[indexAddr,if_pos h]; cases Zj es.length i<;>rfl
  · simp only[indexAddr,if_neg h]
def Xxg:indexAddr st z (.fs es) i=if z=1 then iaF es (Zj es.length i) else none :=by
  by_cases h:z=1
  · simp only[indexAddr,if_pos h]; cases Zj es.length i<;>rfl
  · simp only[indexAddr,if_neg h]
def Xxh:indexAddr st z (.rf pl zr lo n) i=Xd (node st pl) (λcells => iaC pl z zr lo n i cells[pl.c]?) :=by
  simp only[indexAddr,Xd]
  cases node st pl with
  | none => rfl
  | some cells =>
    simp only
    cases cells[pl.c]? with
    | none => rfl
    | some a =>
      cases a<;>rfl
def Xxi:UO (.array m z ag w) (.agg cs) (.i k n)=if z=1/\ag=false then Xhz m cs n else none :=nr rfl
def Xxj:XbC 5 1 false=[(0,1,false,0),(1,1,false,0),(2,1,false,0),(3,1,false,0),(4,1,false,0)] :=nr rfl
def Xxk:UO .str (.s b) (.i k n)=ixS b (Zj b.size n) :=by simp only[UO,ixS]; cases Zj b.size n<;>rfl
def Xxl:Xc2 .u=none :=nr rfl
def Xxm:Xc2 .no=none :=nr rfl
def Xxn:Xc2 .ub=none :=nr rfl
def Xxo:Xc2 (.b x)=none :=nr rfl
def Xxp:Xc2 (.i k n)=none :=nr rfl
def Xxq:Xc2 (.s x)=none :=nr rfl
def Xxr:Xc2 .nil=none :=nr rfl
def Xxs:Xc2 (.sl t z es)=none :=nr rfl
def Xxt:Xc2 (.rf pl y lo n)=none :=nr rfl
def Xxu:Xc2 (.p pl)=some (.p pl) :=nr rfl
def Xxv:Xc2 (.pr cs)=some (.pr cs) :=nr rfl
def Xxw:Xc2 .pn=none :=nr rfl
def Xxx:Xc2 (.fn f cs)=none :=nr rfl
def Xxy:Xc2 (.fs cs)=none :=nr rfl
def Xxz:Xc2 (.agg cs)=none :=nr rfl
def XxA:Xc2 (.tup cs)=none :=nr rfl
def Xp3(f:Nat)(cs xs:List AV):fnV (.fn f cs) xs=some (f,xs++cs) :=nr rfl
def XxB:strip .u=.u :=nr rfl
def XxC:strip .no=.u :=nr rfl
def XxD:strip .ub=.ub :=nr rfl
def XxE:strip (.b x)=(.b x) :=nr rfl
def XxF:strip (.i k n)=(.i k n) :=nr rfl
def XxG:strip (.s x)=(.s x) :=nr rfl
def XxH:strip .nil=.nil :=nr rfl
def XxI:strip (.sl t z es)=.sl .ro z (XE es) :=nr rfl
def XxJ:strip (.rf pl y lo n)=.u :=nr rfl
def XxK:strip (.p pl)=.u :=nr rfl
def XxL:strip (.pr cs)=(.pr cs) :=nr rfl
def XxM:strip .pn=.pn :=nr rfl
def XxN:strip (.fn f cs)=.u :=nr rfl
def XxO:strip (.fs cs)=.u :=nr rfl
def XxP:strip (.agg cs)=.u :=nr rfl
def XxQ:strip (.tup cs)=.u :=nr rfl
def XxR:XB .u=false :=nr rfl
def XxS:XB .no=false :=nr rfl
def XxT:XB .ub=false :=nr rfl
def XxU:XB (.b x)=false :=nr rfl
def XxV:XB (.i k n)=false :=nr rfl
def XxW:XB (.s x)=false :=nr rfl
def XxX:XB .nil=false :=nr rfl
def XxY:XB (.rf pl y lo n)=false :=nr rfl
def XxZ:XB (.p pl)=false :=nr rfl
def Xx0:XB (.pr cs)=true :=nr rfl
def Xx1:XB .pn=false :=nr rfl
def Xx2:XB (.fn f cs)=true :=nr rfl
def Xx3:XB (.fs cs)=true :=nr rfl
def Xx4:XB (.agg cs)=XU cs :=nr rfl
def Xx5:XB (.tup cs)=XU cs :=nr rfl
def Xx6:XB (.sl .ro z es)=true :=nr rfl
def Xx7:XB (.sl .app z es)=true :=nr rfl
def Xx8:XB (.sl .mut z es)=Yk es :=nr rfl
def Xx9:XU []=false :=nr rfl
def Xya:XU (a :: l)=(XB a||XU l) :=nr rfl
def Xyb:Yh .u=true :=nr rfl
def Xyc:Yh .no=false :=nr rfl
def Xyd:Yh .ub=true :=nr rfl
def Xye:Yh (.b x)=true :=nr rfl
def Xyf:Yh (.i k n)=true :=nr rfl
def Xyg:Yh (.s x)=true :=nr rfl
def Xyh:Yh .nil=true :=nr rfl
def Xyi:Yh (.sl t z es)=true :=nr rfl
def Xyj:Yh (.rf pl y lo n)=false :=nr rfl
def Xyk:Yh (.p pl)=false :=nr rfl
def Xyl:Yh (.pr cs)=true :=nr rfl
def Xym:Yh .pn=true :=nr rfl
def Xyn:Yh (.fn f cs)=cs.all YR :=nr rfl
def Xyo:Yh (.fs cs)=false :=nr rfl
def Xyp:Yh (.agg cs)=cs.all XW :=nr rfl
def Xyq:Yh (.tup cs)=false :=nr rfl
def Xyr:Xcc ti0 E0 op0 .u a0=bin ti0 op0 .u a0 :=nr rfl
def Xys:Xcc ti0 E0 op0 .no a0=bin ti0 op0 .no a0 :=nr rfl
def Xyt:Xcc ti0 E0 op0 .ub a0=bin ti0 op0 .ub a0 :=nr rfl
def Xyu:Xcc ti0 E0 op0 (.b x) a0=bin ti0 op0 (.b x) a0 :=nr rfl
def Xyv:Xcc ti0 E0 op0 (.i k n) a0=bin ti0 op0 (.i k n) a0 :=nr rfl
def Xyw:Xcc ti0 E0 op0 (.s x) a0=bin ti0 op0 (.s x) a0 :=nr rfl
def Xyx:Xcc ti0 E0 op0 .nil a0=bin ti0 op0 .nil a0 :=nr rfl
def Xyy:Xcc ti0 E0 op0 (.sl t z es) a0=bin ti0 op0 (.sl t z es) a0 :=nr rfl
def Xyz:Xcc ti0 E0 op0 (.rf pl y lo n) a0=bin ti0 op0 (.rf pl y lo n) a0 :=nr rfl
def XyA:Xcc ti0 E0 op0 (.p pl) a0=bin ti0 op0 (.p pl) a0 :=nr rfl
def XyB:Xcc ti0 E0 op0 (.pr cs) a0=bin ti0 op0 (.pr cs) a0 :=nr rfl
def XyC:Xcc ti0 E0 op0 .pn a0=bin ti0 op0 .pn a0 :=nr rfl
def XyD:Xcc ti0 E0 op0 (.fn f cs) a0=bin ti0 op0 (.fn f cs) a0 :=nr rfl
def XyE:Xcc ti0 E0 op0 (.fs cs) a0=bin ti0 op0 (.fs cs) a0 :=nr rfl
def XyF:Xcc ti0 E0 op0 (.tup cs) a0=bin ti0 op0 (.tup cs) a0 :=nr rfl
def eqR(op:BinOp)(e:Option Bool):Option AV :=match e with | some e => eqB op e | none => none
def XyG:Xcc ti0 (some ks) op0 (.agg a) (.agg b)=eqR op0 (Ye ks a b) :=by simp only[Xcc,Xhv,eqR]; cases Ye ks a b<;>rfl
def XyH:eqR op (some e)=eqB op e :=nr rfl
def XmG(p:Bool)(e:Option Bool):Option Bool :=match e with | some e => some (p&&e) | none => none
def XyI:XmG p (some e)=some (p&&e) :=nr rfl
def XyJ:Ye [] [] []=some true :=nr rfl
def XyK:Ye (0 :: ks) (.b x :: a) (.b y :: b)=XmG (x==y) (Ye ks a b) :=by simp only[Ye,XmG]; cases Ye ks a b<;>rfl
def XyL:Ye (1 :: ks) (.i k x :: a) (.i k y :: b)=XmG (x==y) (Ye ks a b) :=by simp only[Ye,XmG,if_true]; cases Ye ks a b<;>rfl
def XyM:Ye (2 :: ks) (.s x :: a) (.s y :: b)=XmG (x.toList==y.toList) (Ye ks a b) :=by simp only[Ye,XmG]; cases Ye ks a b<;>rfl
def XyN:YR .u=false :=nr rfl
def XyO:YR .no=false :=nr rfl
def XyP:YR .ub=false :=nr rfl
def XyQ:YR (.b x)=true :=nr rfl
def XyR:YR (.i k n)=true :=nr rfl
def XyS:YR (.s x)=true :=nr rfl
def XyT:YR .nil=false :=nr rfl
def XyU:YR (.rf pl y lo n)=false :=nr rfl
def XyV:YR (.p pl)=false :=nr rfl
def XyW:YR (.pr cs)=true :=nr rfl
def XyX:YR .pn=true :=nr rfl
def XyY:YR (.fn f cs)=false :=nr rfl
def XyZ:YR (.fs cs)=false :=nr rfl
def Xy0:YR (.agg cs)=false :=nr rfl
def Xy1:YR (.tup cs)=false :=nr rfl
def Xy2:YR (.sl .ro z es)=true :=nr rfl
def Xy3:QT .u=YR .u :=nr rfl
def Xy4:QT .no=YR .no :=nr rfl
def Xy5:QT .ub=YR .ub :=nr rfl
def Xy6:QT (.b x)=YR (.b x) :=nr rfl
def Xy7:QT (.i k n)=YR (.i k n) :=nr rfl
def Xy8:QT (.s x)=YR (.s x) :=nr rfl
def Xy9:QT .nil=YR .nil :=nr rfl
def Xza:QT (.sl t z es)=YR (.sl t z es) :=nr rfl
def Xzb:QT (.rf pl y lo n)=YR (.rf pl y lo n) :=nr rfl
def Xzc:QT (.p pl)=YR (.p pl) :=nr rfl
def Xzd:QT (.pr cs)=YR (.pr cs) :=nr rfl
def Xze:QT .pn=YR .pn :=nr rfl
def Xzf:QT (.fn f cs)=cs.all YR :=nr rfl
def Xzg:QT (.fs cs)=YR (.fs cs) :=nr rfl
def Xzh:QT (.agg cs)=YR (.agg cs) :=nr rfl
def Xzi:QT (.tup cs)=YR (.tup cs) :=nr rfl
def Xzj:Uo st d cs=if cs.all QT=true then some (st.put d (.pr cs)) else none :=nr rfl
def Xzk:outLeaf st .u=if XW .u=true then some ((.u,none),st) else none :=nr rfl
def Xzl:outLeaf st .no=if XW .no=true then some ((.no,none),st) else none :=nr rfl
def Xzm:outLeaf st .ub=if XW .ub=true then some ((.ub,none),st) else none :=nr rfl
def Xzn:outLeaf st (.b x)=if XW (.b x)=true then some (((.b x),none),st) else none :=nr rfl
def Xzo:outLeaf st (.i k n)=if XW (.i k n)=true then some (((.i k n),none),st) else none :=nr rfl
def Xzp:outLeaf st (.s x)=if XW (.s x)=true then some (((.s x),none),st) else none :=nr rfl
def Xzq:outLeaf st .nil=if XW .nil=true then some ((.nil,none),st) else none :=nr rfl
def Xzr:outLeaf st (.sl t z es)=if XW (.sl t z es)=true then some (((.sl t z es),none),st) else none :=nr rfl
def Xzs:outLeaf st (.p pl)=if XW (.p pl)=true then some (((.p pl),none),st) else none :=nr rfl
def Xzt:outLeaf st (.pr cs)=if XW (.pr cs)=true then some (((.pr cs),none),st) else none :=nr rfl
def Xzu:outLeaf st .pn=if XW .pn=true then some ((.pn,none),st) else none :=nr rfl
def Xzv:outLeaf st (.fn f cs)=if XW (.fn f cs)=true then some (((.fn f cs),none),st) else none :=nr rfl
def Xzw:outLeaf st (.fs cs)=if XW (.fs cs)=true then some (((.fs cs),none),st) else none :=nr rfl
def Xzx:outLeaf st (.agg cs)=if XW (.agg cs)=true then some (((.agg cs),none),st) else none :=nr rfl
def Xzy:outLeaf st (.tup cs)=if XW (.tup cs)=true then some (((.tup cs),none),st) else none :=nr rfl
def Xzz:XK st .u (some (pl0,b0))=some st :=nr rfl
def XzA:XK st .no (some (pl0,b0))=some st :=nr rfl
def XzB:XK st .ub (some (pl0,b0))=some st :=nr rfl
def XzC:XK st (.b x) (some (pl0,b0))=some st :=nr rfl
def XzD:XK st (.i k n) (some (pl0,b0))=some st :=nr rfl
def XzE:XK st (.s x) (some (pl0,b0))=some st :=nr rfl
def XzF:XK st .nil (some (pl0,b0))=some st :=nr rfl
def XzG:XK st (.rf pl y lo n) (some (pl0,b0))=some st :=nr rfl
def XzH:XK st (.p pl) (some (pl0,b0))=some st :=nr rfl
def XzI:XK st (.pr cs) (some (pl0,b0))=some st :=nr rfl
def XzJ:XK st .pn (some (pl0,b0))=some st :=nr rfl
def XzK:XK st (.fn f cs) (some (pl0,b0))=some st :=nr rfl
def XzL:XK st (.fs cs) (some (pl0,b0))=some st :=nr rfl
def XzM:XK st (.agg cs) (some (pl0,b0))=some st :=nr rfl
def XzN:XK st (.tup cs) (some (pl0,b0))=some st :=nr rfl
def XzO:weakLeaf st .u=some st :=nr rfl
def XzP:weakLeaf st .no=some st :=nr rfl
def XzQ:weakLeaf st .ub=some st :=nr rfl
def XzR:weakLeaf st (.b x)=some st :=nr rfl
def XzS:weakLeaf st (.i k n)=some st :=nr rfl
def XzT:weakLeaf st (.s x)=some st :=nr rfl
def XzU:weakLeaf st .nil=some st :=nr rfl
def XzV:weakLeaf st (.sl t z es)=some st :=nr rfl
def XzW:weakLeaf st (.p pl)=none :=nr rfl
def XzX:weakLeaf st (.pr cs)=some st :=nr rfl
def XzY:weakLeaf st .pn=some st :=nr rfl
def XzZ:weakLeaf st (.fn f cs)=none :=nr rfl
def Xz0:weakLeaf st (.fs cs)=none :=nr rfl
def Xz1:weakLeaf st (.agg cs)=none :=nr rfl
def Xz2:weakLeaf st (.tup cs)=none :=nr rfl
def Xz3:Uj st x0 .u=weakLeaf st .u :=nr rfl
def Xz4:Uj st x0 .no=weakLeaf st .no :=nr rfl
def Xz5:Uj st x0 .ub=weakLeaf st .ub :=nr rfl
def Xz6:Uj st x0 (.b x)=weakLeaf st (.b x) :=nr rfl
def Xz7:Uj st x0 (.i k n)=weakLeaf st (.i k n) :=nr rfl
def Xz8:Uj st x0 (.s x)=weakLeaf st (.s x) :=nr rfl
def Xz9:Uj st x0 .nil=weakLeaf st .nil :=nr rfl
def XAa:Uj st x0 (.sl t z es)=weakLeaf st (.sl t z es) :=nr rfl
def XAb:Uj st x0 (.rf pl y lo n)=weakLeaf st (.rf pl y lo n) :=nr rfl
def XAc:Uj st x0 (.p pl)=weakLeaf st (.p pl) :=nr rfl
def XAd:Uj st x0 (.pr cs)=weakLeaf st (.pr cs) :=nr rfl
def XAe:Uj st x0 .pn=weakLeaf st .pn :=nr rfl
def XAf:Uj st x0 (.fn f cs)=weakLeaf st (.fn f cs) :=nr rfl
def XAg:Uj st x0 (.fs cs)=weakLeaf st (.fs cs) :=nr rfl
def XAh:Uj st x0 (.agg cs)=ZU x0 cs.length 0 st :=nr rfl
def XAi:Uj st x0 (.tup cs)=weakLeaf st (.tup cs) :=nr rfl
def XAj:Zx .u=true :=nr rfl
def XAk:Zx .no=true :=nr rfl
def XAl:Zx .ub=true :=nr rfl
def XAm:Zx (.b x)=true :=nr rfl
def XAn:Zx (.i k n)=true :=nr rfl
def XAo:Zx (.s x)=true :=nr rfl
def XAp:Zx .nil=true :=nr rfl
def XAq:Zx (.sl t z es)=true :=nr rfl
def XAr:Zx (.rf pl y lo n)=true :=nr rfl
def XAs:Zx (.p pl)=true :=nr rfl
def XAt:Zx (.pr cs)=true :=nr rfl
def XAu:Zx .pn=true :=nr rfl
def XAv:Zx (.fn f cs)=true :=nr rfl
def XAw:Zx (.fs cs)=true :=nr rfl
def XAx:Zx (.agg cs)=false :=nr rfl
def XAy:Zx (.tup cs)=true :=nr rfl
def XAz:XQ st z .u=none :=nr rfl
def XAA:XQ st z .no=none :=nr rfl
def XAB:XQ st z .ub=none :=nr rfl
def XAC:XQ st z (.b x)=none :=nr rfl
def XAD:XQ st z (.i k n)=none :=nr rfl
def XAE:XQ st z (.s x)=none :=nr rfl
def XAF:XQ st z .nil=some [] :=nr rfl
def XAG:XQ st z (.p pl)=none :=nr rfl
def XAH:XQ st z (.pr cs)=none :=nr rfl
def XAI:XQ st z .pn=none :=nr rfl
def XAJ:XQ st z (.fn f cs)=none :=nr rfl
def XAK:XQ st z (.fs cs)=none :=nr rfl
def XAL:XQ st z (.agg cs)=none :=nr rfl
def XAM:XQ st z (.tup cs)=none :=nr rfl
def XAN:XQ st z (.sl t y es)=if y=z then some es else none :=nr rfl
def XAO:XQ st z (.rf pl y lo n)=if y=z then XL st (.rf pl y lo n) else none :=nr rfl
def XAP:Xs ow av st d .u=some .u :=by cases d<;>simp only[Xs]
def XAQ:Xs ow av st d .no=none :=by cases d<;>simp only[Xs]
def XAR:Xs ow av st d .ub=some .ub :=by cases d<;>simp only[Xs]
def XAS:Xs ow av st d (.b x)=some (.b x) :=by cases d<;>simp only[Xs]
def XAT:Xs ow av st d (.i k n)=some (.i k n) :=by cases d<;>simp only[Xs]
def XAU:Xs ow av st d (.s x)=some (.s x) :=by cases d<;>simp only[Xs]
def XAV:Xs ow av st d .nil=some .nil :=by cases d<;>simp only[Xs]
def XAW:Xs ow av st d (.sl t z es)=some (.sl .ro z (XE es)) :=by cases d<;>simp only[Xs]
def XAX:Xs ow av st d (.pr cs)=some (.pr cs) :=by cases d<;>simp only[Xs]
def XAY:Xs ow av st d .pn=some .pn :=by cases d<;>simp only[Xs]
def XAZ:Xs ow av st d (.agg cs)=none :=by cases d<;>simp only[Xs]
def XA0:Xs ow av st d (.tup cs)=none :=by cases d<;>simp only[Xs]
def prO(x:Option (List AV)):Option AV :=match x with
  | some cs => some (.pr cs)
  | none => none
def agO(x:Option (List AV)):Option AV :=match x with
  | some cs => some (.agg cs)
  | none => none
def fnO(f:Nat)(x:Option (List AV)):Option AV :=match x with
  | some cs => some (.fn f cs)
  | none => none
def fsO(x:Option (List AV)):Option AV :=match x with
  | some cs => some (.fs cs)
  | none => none
def coO(a:Option AV)(x:Option (List AV)):Option (List AV) :=match a,x with
  | some a,some l => some (a :: l)
  | _,_ => none
def XA1:ZV ow av st .u=Xs ow av st 8 .u :=nr rfl
def XA2:ZV ow av st .no=Xs ow av st 8 .no :=nr rfl
def XA3:ZV ow av st .ub=Xs ow av st 8 .ub :=nr rfl
def XA4:ZV ow av st (.b x)=Xs ow av st 8 (.b x) :=nr rfl
def XA5:ZV ow av st (.i k n)=Xs ow av st 8 (.i k n) :=nr rfl
def XA6:ZV ow av st (.s x)=Xs ow av st 8 (.s x) :=nr rfl
def XA7:ZV ow av st .nil=Xs ow av st 8 .nil :=nr rfl
def XA8:ZV ow av st (.sl t z es)=Xs ow av st 8 (.sl t z es) :=nr rfl
def XA9:ZV ow av st (.rf pl y lo n)=Xs ow av st 8 (.rf pl y lo n) :=nr rfl
def XBa:ZV ow av st (.p pl)=Xs ow av st 8 (.p pl) :=nr rfl
def XBb:ZV ow av st (.pr cs)=Xs ow av st 8 (.pr cs) :=nr rfl
def XBc:ZV ow av st .pn=Xs ow av st 8 .pn :=nr rfl
def XBd:ZV ow av st (.fn f cs)=Xs ow av st 8 (.fn f cs) :=nr rfl
def XBe:ZV ow av st (.fs cs)=Xs ow av st 8 (.fs cs) :=nr rfl
def XBf:ZV ow av st (.agg cs)=agO (Xv ow av st 8 cs) :=by simp only[ZV,agO]; cases Xv ow av st 8 cs<;>rfl
def XBg:ZV ow av st (.tup cs)=Xs ow av st 8 (.tup cs) :=nr rfl
def XBh:prO (some cs)=some (.pr cs) :=nr rfl
def XBi:agO (some cs)=some (.agg cs) :=nr rfl
def XBj:fnO f (some cs)=some (.fn f cs) :=nr rfl
def XBk:fsO (some cs)=some (.fs cs) :=nr rfl
def XBl:coO (some a) (some l)=some (a :: l) :=nr rfl
def XBm:Xs ow av st 1 (.p pl)=if(ow&&Qi av pl&&XI st pl)=true then prO (Xd (node st pl) (λcells => Xv ow av st 0 (cells.drop pl.c))) else none :=by
  simp only[Xs,Xd,prO]
  cases node st pl with
  | none => rfl
  | some cells => simp only[]; cases Xv ow av st 0 (cells.drop pl.c)<;>rfl
def XBn:Xs ow av st 1 (.fs cs)=fsO (Xv ow av st 0 cs) :=by
  simp only[Xs,fsO]; cases Xv ow av st 0 cs<;>rfl
def XBo:Xs ow av st 1 (.fn f cs)=fnO f (Xv ow av st 0 cs) :=by
  simp only[Xs,fnO]; cases Xv ow av st 0 cs<;>rfl
def XBp:Xs ow av st 2 (.p pl)=if(ow&&Qi av pl&&XI st pl)=true then prO (Xd (node st pl) (λcells => Xv ow av st 1 (cells.drop pl.c))) else none :=by
  simp only[Xs,Xd,prO]
  cases node st pl with
  | none => rfl
  | some cells => simp only[]; cases Xv ow av st 1 (cells.drop pl.c)<;>rfl
def XBq:Xs ow av st 2 (.fs cs)=fsO (Xv ow av st 1 cs) :=by
  simp only[Xs,fsO]; cases Xv ow av st 1 cs<;>rfl
def XBr:Xs ow av st 2 (.fn f cs)=fnO f (Xv ow av st 1 cs) :=by
  simp only[Xs,fnO]; cases Xv ow av st 1 cs<;>rfl
def XBs:Xs ow av st 3 (.p pl)=if(ow&&Qi av pl&&XI st pl)=true then prO (Xd (node st pl) (λcells => Xv ow av st 2 (cells.drop pl.c))) else none :=by
  simp only[Xs,Xd,prO]
  cases node st pl with
  | none => rfl
  | some cells => simp only[]; cases Xv ow av st 2 (cells.drop pl.c)<;>rfl
def XBt:Xs ow av st 3 (.fs cs)=fsO (Xv ow av st 2 cs) :=by
  simp only[Xs,fsO]; cases Xv ow av st 2 cs<;>rfl
def XBu:Xs ow av st 3 (.fn f cs)=fnO f (Xv ow av st 2 cs) :=by
  simp only[Xs,fnO]; cases Xv ow av st 2 cs<;>rfl
def XBv:Xs ow av st 4 (.p pl)=if(ow&&Qi av pl&&XI st pl)=true then prO (Xd (node st pl) (λcells => Xv ow av st 3 (cells.drop pl.c))) else none :=by
  simp only[Xs,Xd,prO]
  cases node st pl with
  | none => rfl
  | some cells => simp only[]; cases Xv ow av st 3 (cells.drop pl.c)<;>rfl
def XBw:Xs ow av st 4 (.fs cs)=fsO (Xv ow av st 3 cs) :=by
  simp only[Xs,fsO]; cases Xv ow av st 3 cs<;>rfl
def XBx:Xs ow av st 4 (.fn f cs)=fnO f (Xv ow av st 3 cs) :=by
  simp only[Xs,fnO]; cases Xv ow av st 3 cs<;>rfl
def XBy:Xs ow av st 5 (.p pl)=if(ow&&Qi av pl&&XI st pl)=true then prO (Xd (node st pl) (λcells => Xv ow av st 4 (cells.drop pl.c))) else none :=by
  simp only[Xs,Xd,prO]
  cases node st pl with
  | none => rfl
  | some cells => simp only[]; cases Xv ow av st 4 (cells.drop pl.c)<;>rfl
def XBz:Xs ow av st 5 (.fs cs)=fsO (Xv ow av st 4 cs) :=by
  simp only[Xs,fsO]; cases Xv ow av st 4 cs<;>rfl
def XBA:Xs ow av st 5 (.fn f cs)=fnO f (Xv ow av st 4 cs) :=by
  simp only[Xs,fnO]; cases Xv ow av st 4 cs<;>rfl
def XBB:Xs ow av st 6 (.p pl)=if(ow&&Qi av pl&&XI st pl)=true then prO (Xd (node st pl) (λcells => Xv ow av st 5 (cells.drop pl.c))) else none :=by
  simp only[Xs,Xd,prO]
  cases node st pl with
  | none => rfl
  | some cells => simp only[]; cases Xv ow av st 5 (cells.drop pl.c)<;>rfl
def XBC:Xs ow av st 6 (.fs cs)=fsO (Xv ow av st 5 cs) :=by
  simp only[Xs,fsO]; cases Xv ow av st 5 cs<;>rfl
def XBD:Xs ow av st 6 (.fn f cs)=fnO f (Xv ow av st 5 cs) :=by
  simp only[Xs,fnO]; cases Xv ow av st 5 cs<;>rfl
def XBE:Xs ow av st 7 (.p pl)=if(ow&&Qi av pl&&XI st pl)=true then prO (Xd (node st pl) (λcells => Xv ow av st 6 (cells.drop pl.c))) else none :=by
  simp only[Xs,Xd,prO]
  cases node st pl with
  | none => rfl
  | some cells => simp only[]; cases Xv ow av st 6 (cells.drop pl.c)<;>rfl
def XBF:Xs ow av st 7 (.fs cs)=fsO (Xv ow av st 6 cs) :=by
  simp only[Xs,fsO]; cases Xv ow av st 6 cs<;>rfl
def XBG:Xs ow av st 7 (.fn f cs)=fnO f (Xv ow av st 6 cs) :=by
  simp only[Xs,fnO]; cases Xv ow av st 6 cs<;>rfl
def XBH:Xs ow av st 8 (.p pl)=if(ow&&Qi av pl&&XI st pl)=true then prO (Xd (node st pl) (λcells => Xv ow av st 7 (cells.drop pl.c))) else none :=by
  simp only[Xs,Xd,prO]
  cases node st pl with
  | none => rfl
  | some cells => simp only[]; cases Xv ow av st 7 (cells.drop pl.c)<;>rfl
def XBI:Xs ow av st 8 (.fs cs)=fsO (Xv ow av st 7 cs) :=by
  simp only[Xs,fsO]; cases Xv ow av st 7 cs<;>rfl
def XBJ:Xs ow av st 8 (.fn f cs)=fnO f (Xv ow av st 7 cs) :=by
  simp only[Xs,fnO]; cases Xv ow av st 7 cs<;>rfl
def XBK:Xv ow av st d []=some [] :=by simp only[Xv]
def XBL:Xv ow av st d (a :: l)=coO (Xs ow av st d a) (Xv ow av st d l) :=by
  simp only[Xv,coO]
  cases Xs ow av st d a with
  | none => rfl
  | some a' => simp only[]; cases Xv ow av st d l<;>rfl
def XoG(ow:Bool):Tag->Bool
  | .mut => ow
  | _ => true
def Xp4(ow:Bool)(y lo n:Nat)(a:Option AV):Option AV :=match a with
  | some (.sl t z es) => if(lo+n<=es.length/\y=z)/\XoG ow t=true then some (.sl .ro y (XE ((es.drop lo).take n))) else none
  | _ => none
def XBM:XoG ow .mut=ow :=nr rfl
def XBN:XoG ow .ro=true :=nr rfl
def XBO:XoG ow .app=true :=nr rfl
def XBP:Xs ow av st d (.rf pl y lo n)=if Qi av pl=true then Xd (node st pl) (λcells => Xp4 ow y lo n cells[pl.c]?) else none :=by
  cases d<;>(simp only[Xs,Xd,Xp4]; split<;>(try rfl); cases node st pl with
    | none => rfl
    | some cells => simp only[]; cases cells[pl.c]? with
      | none => rfl
      | some a => cases a<;>(try rfl); rename_i t z es; cases t<;>cases ow<;>simp[XoG])
def XBQ:XL st .u=none :=nr rfl
def XBR:XL st .no=none :=nr rfl
def XBS:XL st .ub=none :=nr rfl
def XBT:XL st (.b x)=none :=nr rfl
def XBU:XL st (.i k n)=none :=nr rfl
def XBV:XL st (.s x)=none :=nr rfl
def XBW:XL st .nil=some [] :=nr rfl
def XBX:XL st (.sl t z es)=some es :=nr rfl
def XBY:XL st (.p pl)=none :=nr rfl
def XBZ:XL st (.pr cs)=none :=nr rfl
def XB0:XL st .pn=none :=nr rfl
def XB1:XL st (.fn f cs)=none :=nr rfl
def XB2:XL st (.fs cs)=none :=nr rfl
def XB3:XL st (.agg cs)=none :=nr rfl
def XB4:XL st (.tup cs)=none :=nr rfl
def XB5:Xne st .str (.s x)=some x.size :=nr rfl
def XB6:XdM .str=true :=nr rfl
def XB7:XdM (.slice z b zero)=true :=nr rfl
def XB8:Xne st (.slice z b zero) a=lenOf st a :=nr rfl
def XB9:U9 .str (.s b) lo hi=ZT (.s b) lo hi :=nr rfl
def XCa:U9 (.slice z b zero) (.sl t z es) lo hi=ZT (.sl t z es) lo hi :=by simp only[U9,if_true]
def XCb:U9 (.slice z b zero) (.rf pl z o n) lo hi=ZT (.rf pl z o n) lo hi :=by simp only[U9,if_true]
def XCc:lenOf st .u=none :=nr rfl
def XCd:lenOf st .no=none :=nr rfl
def XCe:lenOf st .ub=none :=nr rfl
def XCf:lenOf st (.b x)=none :=nr rfl
def XCg:lenOf st (.i k n)=none :=nr rfl
def XCh:lenOf st (.s x)=none :=nr rfl
def XCi:lenOf st .nil=some 0 :=nr rfl
def XCj:lenOf st (.sl t z es)=some es.length :=nr rfl
def XCk:lenOf st (.p pl)=none :=nr rfl
def XCl:lenOf st (.pr cs)=none :=nr rfl
def XCm:lenOf st .pn=none :=nr rfl
def XCn:lenOf st (.fn f cs)=none :=nr rfl
def XCo:lenOf st (.fs cs)=some cs.length :=nr rfl
def XCp:lenOf st (.agg cs)=none :=nr rfl
def XCq:lenOf st (.tup cs)=none :=nr rfl
def Xp5(y n lo:Nat)(a:Option AV):Option Nat :=match a with
  | some (.sl _ z es) => if lo+n<=es.length/\y=z then some ((es.drop lo).take n).length else none
  | _ => none
def Xp6(y n lo:Nat)(a:Option AV):Option (List (List AV)) :=match a with
  | some (.sl _ z es) => if lo+n<=es.length/\y=z then some ((es.drop lo).take n) else none
  | _ => none
def XCr:XL st (.rf pl y lo n)=Xd (node st pl) (λcells => Xp6 y n lo cells[pl.c]?) :=by simp only[XL,Xd,Xp6]; cases node st pl<;>rfl
def XCs:lenOf st (.rf pl y lo n)=Xd (node st pl) (λcells => Xp5 y n lo cells[pl.c]?) :=by
  simp only[lenOf,XL,Xd,Xp5]
  cases node st pl with
  | none => rfl
  | some cells =>
    simp only[]
    cases cells[pl.c]? with
    | none => rfl
    | some a =>
      cases a<;>try rfl
      rename_i t z es
      simp only[]
      by_cases h:lo+n<=es.length/\y=z
      · simp only[if_pos h]
      · simp only[if_neg h]
def XCt:bin ti op (.i k a) (.i k b)=XeQ op k a b :=by simp only[bin,if_true]
def XCu:bin ti op (.s a) (.s b)=XkP op a b :=nr rfl
def XCv:bin (some .bool) op (.b a) (.b b)=eqB op (a==b) :=nr rfl
def XCw:bin (some .ptr) op (.p q) .pn=eqB op false :=nr rfl
def XCx:bin (some .ptr) op (.pr q) .pn=eqB op false :=nr rfl
def XCy:bin (some .ptr) op .pn .pn=eqB op true :=nr rfl
def XCz:XeQ .add k a b=some (.i k (k.wrap (a+b))) :=nr rfl
def XCA:XeQ .sub k a b=some (.i k (k.wrap (a-b))) :=nr rfl
def XCB:XeQ .mul k a b=some (.i k (k.wrap (a*b))) :=nr rfl
def XCC:XeQ .eql k a b=some (.b (a==b)) :=nr rfl
def XCD:XeQ .neq k a b=some (.b (a !=b)) :=nr rfl
def XCE:XeQ .lss k a b=some (.b (decide (a<b))) :=nr rfl
def XCF:XeQ .leq k a b=some (.b (decide (a<=b))) :=nr rfl
def XCG:XeQ .gtr k a b=some (.b (decide (a>b))) :=nr rfl
def XCH:XeQ .geq k a b=some (.b (decide (a>=b))) :=nr rfl
def XCI:XeQ .quo k a b=if b=0 then none else some (.i k (k.wrap (a.tdiv b))) :=nr rfl
def XCJ:XeQ .rem k a b=if b=0 then none else some (.i k (a.tmod b)) :=nr rfl
def XCK:XkP .eql a b=some (.b (a.toList==b.toList)) :=nr rfl
def XCL:XkP .neq a b=some (.b !(a.toList==b.toList)) :=nr rfl
def XCM:XkP .lss a b=some (.b (Op.bytesLess a.toList b.toList)) :=nr rfl
def XCN:XkP .add a b=if a.size+b.size<=9223372036854775807 then some (.s (a++b)) else none :=nr rfl
def XCO(e:Bool)(x:Option Bool):Option Bool :=match x with
  | some y => some (e&&y)
  | none => none
def XCP:XCO e (some y)=some (e&&y) :=nr rfl
def XCQ:unV .not (.b x)=some (.b !x) :=nr rfl
def XCR:unV .neg (.i k n)=some (.i k (k.wrap (0-n))) :=nr rfl
def XCS:Xgn (.bool x)=.b x :=nr rfl
def XCT:Xgn (.int k n)=.i k n :=nr rfl
def XCU:Xgn (.string x)=.s x :=nr rfl
def XCV:Xgn (.slice none 0 0)=.nil :=nr rfl
def XCW:Xgn (.pointer none)=.pn :=nr rfl
def XCX:bin T op (.sl t z es) .nil=XaX T op es.length :=nr rfl
def XCY:bin T op (.rf q z lo n) .nil=XaX T op n :=nr rfl
def XCZ:XaX (some (.slice z b ze)) .eql n=if 0<n then some (.b false) else some .ub :=nr rfl
def XC0:XaX (some (.slice z b ze)) .neq n=if 0<n then some (.b true) else some .ub :=nr rfl
def Xpj(f:Nat->AV)(g:Nat->List AV)(t j:Nat)(a:AV):Option (AV×St) :=match a with
  | .tup vs => match vs[j]? with
    | some v => some (v,⟨upd f t (.tup (vs.set j .u)),g⟩)
    | none => none
  | _ => none
def Xp7(f:Nat->AV)(g:Nat->List AV)(t j:Nat)(vs:List AV)(x:Option AV):Option (AV×St) :=match x with
  | some v => some (v,⟨upd f t (.tup (vs.set j .u)),g⟩)
  | none => none
def XC1:QV ⟨f,g⟩ (.tmp t) j=Xpj f g t j (f t) :=by simp only[QV,Xpj]; cases f t<;>rfl
def XC2:Xpj f g t j (.tup vs)=Xp7 f g t j vs vs[j]? :=by simp only[Xpj,Xp7]
def XC3:Xp7 f g t j vs (some v)=some (v,⟨upd f t (.tup (vs.set j .u)),g⟩) :=nr rfl
attribute [go_sem ↓] XjX Xl4 XjY Xl7 XgN Xei XcN Xfc Xfd XgB Xdj Xfe Xff Xfg XgD XgE XgK Xeh Xfi Xfj Xfb Xd7 Xdi Xh6 Xh7 Xd8 Xd9 Xea Xeb Xec Qe Xf7 Xf8 Xid XbU XcM XbW XcK XcL XcO XbX Xmf Xit Xmi Xj4 Xoz Xmj Xj5 Xfl Xej Xj6 Xek Xj7 XoA XpT XgP Xka Xfm XgQ Xkb Xdk Xel XoB Xiw Xkc XoC XoD Xmk Xkd Xml Xke Xkf Xmm Xkh Xkg Xkz XqS XqT XqU XqV
attribute [go_sem] Xiu Xiv Xj8 Xj9 Xoe Xis Xir Xip Xiq Xmd Xj2 Xj3 Xii Xij Xl8 Xik Xil XgO Xim XpR Xia XlT XlV Xib Xic XjK XlU Xei XcN Xl6 XgM XpU Xmq Xmr XoE Xkn XgS XgT Xfo XgU XgV XgW Xix Xem Xiy Xen Xfp XgX XiA Xko XiB Xfq Xkp XgY XgZ Xkq Xkr Xks Xkt Xmv Xmw Xku Xfs Xmx Xkv Xft Xkw Xg0 Xkx XiE XiF XiG Xky Xg1 Xfu Xeo Xep Xfv Xg2 Xfw Xci XbY Xdl Xmz Xdm XmB Xcj XgF XgG XgH XgI Xef Xeg XgJ XjL XjM XjN XjO XjP XlZ stU skS Xio XdN Up QI XhA XiC Xki Xmn Xmo Xmp XgR Xfn Xkk Xkl Xkm Xkj XmC Xpf XjZ Xl9 Xj0 Xin Xma trim? XlJ inE XjG opU skU Qe XgA Xh5 Xf7 Xf8 Xid Xie XjQ Xd8 Xd9 Xea Xeb Xec XbU XcM XbW Xl2 XcO XbX Xmh Xh8 Xh9 XjJ XjR XjS Xl0 Xif XjT XjU XjV Xig XjW XcK XcL XlM XrA XrB XrC XpP Xou XlN jL Q6 jE jB Xed Xee XlQ XlR
  k0 k1 k2 k3 k4 k5 k6 k7 k8 k9 k10 k11 k12 k13 k14 k15 k16 k17 k18 k19 k20 k21 k22 k23 k24 k25 k26 k27 k28 k29 k30 k31 k32 k33 k34 k35 k36 k37 k38 k39 k40 k41 k42 k43 k44 k45 k46 k47 k48 k49 k50 k51 k52 k53 k54 k55 k56 k57 k58 k59 k60 k61 k62 k63 k64 k65 k66 k67 k68 k69 k70 k71 k72 k73 k74 k75 k76 k77 k78 k79 k80 k81 k82 k83 k84 k85 k86 k87 k88 k89 k90 k91 k92 k93 k94 k95 k96 k97 k98 k99 XrD XrE XrF XrG XrH XrI XrJ XrK XrL XrM XrN XrO XrP XrQ XrR XrS XrT XrU XrV XrW XrX XrY XrZ Xr0 Xr1 Xr2 Xr3 Xr4 Xr5 Xr6 Xr7 Xr8 Xr9 Xsa Xsb Xsc Xsd Xse Xsf Xsg Xsh Xsi Xsj Xsk Xsl Xsm Xsn Xso Xsp Xsq Xsr Xss Xst Xsu Xsv Xsw Xsx Xsy Xsz XsA XsB XsC XsD XsE XsF XsG XsH XsI XsJ XsK XsL XsM XsN XsO XsP XsQ XsR XsS XsT XsU XsV XsW XsX XsY XsZ Xs0 Xs1 Xs2 Xs3 Xs4 Xs5 Xs6 Xs7 Xs8 Xs9 Xta Xtb Xtc Xtd Xte Xtf Xtg Xth Xti Xtj Xtk Xtl Xtm Xtn Xto Xtp Xtq Xtr Xts Xtt Xtu Xtv Xtw Xtx Xty Xtz XtA XtB XtC XtD XtE XtF XtG XtH XtI XtJ XtK XtL XtM XtN XtO XtP XtQ XtR XtS XtT XtU XtV XtW XtX XtY XtZ Xt0 Xt1 Xt2 Xt3 Xt4 Xt5 Xt6 Xt7 Xt8 Xt9 Xua Xub Xuc Xud Xue Xuf Xug Xuh Xui Xuj Xuk Xul Xum Xun Xuo Xup Xuq Xur Xus Xut Xuu Xuv Xuw Xux Xuy Xuz XuA XuB XuC XuD XuE XuF XuG XuH XuI XuJ XuK XuL XuM XuN XuO XuP XuQ XuR XuS XuT XuU XuV XuW XuX XuY XuZ Xu0 Xu1 Xu2 Xu3 Xu4 Xu5 Xu6 Xu7 Xu8 Xu9 Xva Xvb Xvc Xvd Xve Xvf Xvg Xvh Xvi Xvj Xvk Xvl Xvm Xvn Xvo Xvp Xvq Xvr Xvs Xvt Xvu Xvv Xvw Xvx Xvy Xvz XvA XqS XqT XqU XqV XvB XvC XpN XpO Xfa XlI XbT Xh2 XiZ Xgz XjE Xh3 Xh4 Xj1 Xmb Xmc XvD XvE XvF XvG XvH XvI XvJ XvK XvL XvM XvN XvO XvP XvQ XvR XvS XvT XvU XvV XvW XvX XvY XvZ Xv0 Xv1 Xv2 Xv3 Xv4 Xv5 Xv6 Xv7 Xv8 Xv9 Xwa Xwb Xwc Xwd Xwe Xwf Xwg Xwh Xwi Xwj Xwk Xwl Xwm Xwn Xwo Xwp Xwq Xwr XqW Xws Xwt XmF Xwu Xwv Xww Xwx Xwy Xwz XwA XwB XwC XwD XwE XwF XwG XwH XwI XwJ XwK XwL XwM XwN XwO XwP XwQ XwR XwS XwT XwU XwV XwW XwX XwY XwZ Xw0 Xw1 Xw2 Xw3 Xw4 Xw5 Xw6 St.cut keepP keepR Xu Zh Xy within setCells storeAt takeRf QG ZT XbD Zz Zc Zn Xcb Xgq Z2 XaB Xc1 XfT Xaa Uz Xby Xgp XeR XdA XqP Qi Zm rwB XbF Ue one eqB Yn XE whole Md.isMv Md.isRw Xw7 Xw8 Xw9 Xxa Xxb Xxc Xxd Xxe Xxf Xxg Xxh Xxi Xxj Xxk Xxl Xxm Xxn Xxo Xxp Xxq Xxr Xxs Xxt Xxu Xxv Xxw Xxx Xxy Xxz XxA Xp3 XxB XxC XxD XxE XxF XxG XxH XxI XxJ XxK XxL XxM XxN XxO XxP XxQ XxR XxS XxT XxU XxV XxW XxX XxY XxZ Xx0 Xx1 Xx2 Xx3 Xx4 Xx5 Xx6 Xx7 Xx8 Xx9 Xya Xyb Xyc Xyd Xye Xyf Xyg Xyh Xyi Xyj Xyk Xyl Xym Xyn Xyo Xyp Xyq Xyr Xys Xyt Xyu Xyv Xyw Xyx Xyy Xyz XyA XyB XyC XyD XyE XyF XyG XyH XyI XyJ XyK XyL XyM XyN XyO XyP XyQ XyR XyS XyT XyU XyV XyW XyX XyY XyZ Xy0 Xy1 Xy2 Xy3 Xy4 Xy5 Xy6 Xy7 Xy8 Xy9 Xza Xzb Xzc Xzd Xze Xzf Xzg Xzh Xzi Xzj Xzk Xzl Xzm Xzn Xzo Xzp Xzq Xzr Xzs Xzt Xzu Xzv Xzw Xzx Xzy Xzz XzA XzB XzC XzD XzE XzF XzG XzH XzI XzJ XzK XzL XzM XzN XzO XzP XzQ XzR XzS XzT XzU XzV XzW XzX XzY XzZ Xz0 Xz1 Xz2 Xz3 Xz4 Xz5 Xz6 Xz7 Xz8 Xz9 XAa XAb XAc XAd XAe XAf XAg XAh XAi XAj XAk XAl XAm XAn XAo XAp XAq XAr XAs XAt XAu XAv XAw XAx XAy XAz XAA XAB XAC XAD XAE XAF XAG XAH XAI XAJ XAK XAL XAM XAN XAO XAP XAQ XAR XAS XAT XAU XAV XAW XAX XAY XAZ XA0 XA1 XA2 XA3 XA4 XA5 XA6 XA7 XA8 XA9 XBa XBb XBc XBd XBe XBf XBg XBh XBi XBj XBk XBl XBm XBn XBo XBp XBq XBr XBs XBt XBu XBv XBw XBx XBy XBz XBA XBB XBC XBD XBE XBF XBG XBH XBI XBJ XBK XBL XBM XBN XBO XBP Xp4 XBQ XBR XBS XBT XBU XBV XBW XBX XBY XBZ XB0 XB1 XB2 XB3 XB4 XB5 XB6 XB7 XB8 XB9 XCa XCb XCc XCd XCe XCf XCg XCh XCi XCj XCk XCl XCm XCn XCo XCp XCq XCr XCs Xp5 Xp6 XCt XCu XCv XCw XCx XCy XCz XCA XCB XCC XCD XCE XCF XCG XCH XCI XCJ XCK XCL XCM XCN XCP XCQ XCR XCS XCT XCU XCV XCW XCX XCY XCZ XC0 XC1 XC2 XC3
end Go.Vm
