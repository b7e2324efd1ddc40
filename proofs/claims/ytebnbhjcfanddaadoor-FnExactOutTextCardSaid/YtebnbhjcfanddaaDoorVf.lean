/- A part of a reflected evaluator of the program's code, and the proof that what it computes is what the machine does. -/
import Derived.Test.YtebnbhjcfanddaaDoorVa
import Derived.Attr
set_option linter.unusedVariables false
set_option linter.unusedSimpArgs false
set_option autoImplicit false
set_option linter.defProp false
namespace Go.Vm
def nr{α:Sort _}{a b:α}(h:a=b):a=b:=h
def E:List (Nat×AV)->Nat->AV
 | [],_=>.u
 | (k,v) :: r,t=>if t=k then v else E r t
def B:List (Nat×List AV)->Nat->List AV
 | [],_=>[]
 | (k,v) :: r,t=>if t=k then v else B r t
def XlT(t:Nat):E [] t=.u:=nr rfl
def U3(k:Nat)(v:AV)(r:List (Nat×AV))(t:Nat):E ((k,v) :: r) t=if t=k then v else E r t:=nr rfl
def XlU(t:Nat):B [] t=[]:=nr rfl
def XaC(k:Nat)(v:List AV)(r:List (Nat×List AV))(t:Nat):B ((k,v) :: r) t=if t=k then v else B r t:=nr rfl
def Xdm(l:List (Nat×AV))(t:Nat)(v:AV):upd (E l) t v=E ((t,v) :: l):=by funext x; simp[upd,U3]
def Xi4(l:List (Nat×List AV))(t:Nat)(v:List AV):upd (B l) t v=B ((t,v) :: l):=by funext x; simp[upd,XaC]
def XfM(kp kr:Pl->Bool):List (Nat×AV)->List (Nat×AV)
 | []=>[]
 | (k,v) :: r=>(k,filt kp kr v) :: XfM kp kr r
def XgF(kp kr:Pl->Bool):List (Nat×List AV)->List (Nat×List AV)
 | []=>[]
 | (k,v) :: r=>(k,XJ kp kr v) :: XgF kp kr r
def XaD(l:List (Nat×AV))(m:List (Nat×List AV))(kp kr:Pl->Bool):St.filt ⟨E l,B m⟩ kp kr=⟨E (XfM kp kr l),B (XgF kp kr m)⟩:=by
 simp only[St.filt,St.mk.injEq]
 constructor
 ·funext t
  induction l with
  | nil=>rfl
  | cons x r ih=>obtain⟨k,v⟩:=x; simp only[XfM,U3]; split<;>simp_all
 ·funext t
  induction m with
  | nil=>rfl
  | cons x r ih=>obtain⟨k,v⟩:=x; simp only[XgF,XaC]; split<;>simp_all
def Xes(f:Nat->AV):List Nat->List (Nat×AV)
 | []=>[]
 | k :: r=>(k,f k) :: Xes f r
def Xhb(f:Nat->List AV):List Nat->List (Nat×List AV)
 | []=>[]
 | k :: r=>(k,f k) :: Xhb f r
def XfN(ks bs:List Nat)(st:St):keep (some (ks,bs)) st=⟨E (Xes (st.filt (within ks bs) (within ks bs)).env ks),B (Xhb (st.filt (within ks bs) (within ks bs)).bx bs)⟩:=by
 simp only[keep,St.mk.injEq]
 generalize st.filt (within ks bs) (within ks bs)=s
 constructor
 ·funext t
  induction ks with
  | nil=>rfl
  | cons k r ih =>
   simp only[Xes,U3,List.contains_cons]
   by_cases h:t=k
   ·subst h; simp
   ·simp[h,<-ih]
 ·funext t
  induction bs with
  | nil=>rfl
  | cons k r ih =>
   simp only[Xhb,XaC,List.contains_cons]
   by_cases h:t=k
   ·subst h; simp
   ·simp[h,<-ih]
def XfO(st:St):keep none st=st:=nr rfl
def Xi5(ks:List Nat)(l:List (Nat×AV))(m:List (Nat×List AV)):trim ks ⟨E l,B m⟩=⟨E (Xes (E (XfM (inE ks) (inE ks) l)) ks),B (XgF (inE ks) (inE ks) m)⟩:=by
 simp only[trim,XaD,St.mk.injEq,and_true]
 generalize E (XfM (inE ks) (inE ks) l)=s
 funext t
 induction ks with
 | nil=>rfl
 | cons k r ih =>
  simp only[Xes,U3,List.contains_cons]
  by_cases h:t=k
  ·subst h; simp
  ·simp[h,<-ih]
variable {R : Type}
def Xb{α:Type}(x:Option α)(k:α->Option R):Option R:=match x with
 | some a=>k a
 | none=>none
def ZB{α:Type}(a:α)(k:α->Option R):Xb (some a) k=k a:=nr rfl
def Xet{α:Type}(k:α->Option R):Xb none k=none:=nr rfl
@[congr] def Xi6{α:Type}{x y:Option α}{k:α->Option R}(h:x=y):Xb x k=Xb y k:=by rw[h]
def XfP{α:Type}(c:Prop)[Decidable c](x y:Option α)(k:α->Option R):Xb (if c then x else y) k=if c then Xb x k else Xb y k:=by split<;>rfl
def X1{α β:Type}(x:Option α)(f:α->Option β):X3 x f=Xb x f:=by cases x<;>rfl
@[congr] def Xhc{cx:Cx}{ops:List Oper}{cs:List (Option (List Nat))}{st st':St}{l:List Oper}(h:st=st'):Xz cx ops cs st l=Xz cx ops cs st' l:=by rw[h]
@[congr] def Xis{cx:Cx}{st st':St}{o:Oper}(h:st=st'):Xe cx st o=Xe cx st' o:=by rw[h]
@[congr] def Xit{cx:Cx}{blk:Nat}{c:Code}{st st':St}(h:st=st'):Xi cx blk c st=Xi cx blk c st':=by rw[h]
def upE(st:St)(d:Nat)(v:AV):St:=⟨upd st.env d v,st.bx⟩
def Xd5(st:St)(d:Nat):upE st d (st.env d)=st:=by
 have:upd st.env d (st.env d)=st.env:=by funext x; unfold upd; split<;>simp_all
 simp only[upE,this]
def Xiu(a:AV)(x y z xs ys:Option St):Option St:=match a with
 | .b true=>x
 | .b false=>y
 | .no=>z
 | _=>none
def XcA(d:Option Nat)(k:Nat->Option St):Option St:=match d with
 | some d=>k d
 | none=>none
@[congr] def Xiv{a a':AV}{x y z xs ys:Option St}(h:a=a'):Xiu a x y z xs ys=Xiu a' x y z xs ys:=by rw[h]
@[congr] def Xiw{d d':Option Nat}{k:Nat->Option St}(h:d=d'):XcA d k=XcA d' k:=by rw[h]
def XaE(d:Nat)(k:Nat->Option St):XcA (some d) k=k d:=nr rfl
@[congr] def Xi7{l:List Oper}{n:Nat}:ZX l n=ZX l n:=rfl
def Xbw(d op t pos aft g r):ZX (⟨d,op,t,pos,aft,g⟩ :: r) 0=d:=nr rfl
def Xbx(o:Oper)(r:List Oper)(n:Nat):ZX (o :: r) (n+1)=ZX r n:=nr rfl
def opS(cx:Cx)(ops:List Oper)(cs:List (Option (List Nat)))(st:St)(o:Oper)(r:List Oper):Option St:=match wanted ops st o with
 | some true=>Xb (Xe cx st o) (λst'=>Xz cx ops cs st' r)
 | some false=>Xz cx ops cs (st.put? o.dst .no) r
 | none=>none
@[congr] def XkM{cx:Cx}{ops:List Oper}{cs:List (Option (List Nat))}{st st':St}{o:Oper}{r:List Oper}(h:st=st'):opS cx ops cs st o r=opS cx ops cs st' o r:=by rw[h]
def Xdn(cx:Cx)(ops:List Oper)(cs:List (Option (List Nat)))(st:St):Xz cx ops cs st []=some st:=by simp only[Xz]
def XcB(cx:Cx)(ops:List Oper)(c:Option (List Nat))(cs:List (Option (List Nat)))(st:St)(o:Oper)(r:List Oper):Xz cx ops (c :: cs) st (o :: r)=opS cx ops cs (trim? c st) o r:=by
 simp only[Xz,opS,hd?,List.tail_cons,Xb]
 cases wanted ops (trim? c st) o with
 | none=>rfl
 | some b =>
  cases b<;>try rfl
  simp only[]; cases Xe cx (trim? c st) o<;>rfl
def Xb0(cx:Cx)(ops:List Oper)(st:St)(o:Oper)(r:List Oper):Xz cx ops [] st (o :: r)=opS cx ops [] st o r:=by
 simp only[Xz,opS,hd?,List.tail_nil,Xb,trim?]
 cases wanted ops st o with
 | none=>rfl
 | some b =>
  cases b<;>try rfl
  simp only[]; cases Xe cx st o<;>rfl
section
variable (cx : Cx) (ops : List Oper) (cs : List (Option (List Nat))) (st : St) (d : Option Nat) (op : Op) (t : TypeId) (pos : String) (aft : Array Edge) (j : Nat) (r : List Oper)
def XfQ:opS cx ops cs st ⟨d,op,t,pos,aft,none⟩ r=Xb (Xe cx st ⟨d,op,t,pos,aft,none⟩) (λst'=>Xz cx ops cs st' r):=nr rfl
def QA(cx:Cx)(ops:List Oper)(cs:List (Option (List Nat)))(st:St)(o:Oper)(r:List Oper)(want:Bool)(g:Nat)(a:AV):Option St:=match a with
 | .b b=>if b=want then Xb (Xe cx st o) (λst'=>Xz cx ops cs st' r) else Xz cx ops cs (st.put? o.dst .no) r
 | .no=>Xz cx ops cs (st.put? o.dst .no) r
 | _=>none
@[congr] def Xix{cx:Cx}{ops:List Oper}{cs:List (Option (List Nat))}{st:St}{o:Oper}{r:List Oper}{want:Bool}{g:Nat}{a a':AV}(h:a=a'):QA cx ops cs st o r want g a=QA cx ops cs st o r want g a':=by rw[h]
def XfR(want:Bool):opS cx ops cs st ⟨d,op,t,pos,aft,some (j,want)⟩ r=XcA (ZX ops j) (λg=>QA cx ops cs st ⟨d,op,t,pos,aft,some (j,want)⟩ r want g (st.env g)):=by
 simp only[opS,wanted,XcA]
 cases ZX ops j with
 | none=>rfl
 | some g =>
  simp only[QA]
  cases st.env g with
  | b b=>cases b<;>cases want<;>rfl
  | _=>rfl
end
section
variable (cx : Cx) (ops : List Oper) (cs : List (Option (List Nat))) (st : St) (o : Oper) (r : List Oper) (g : Nat)
def XcC:QA cx ops cs st o r true g (.b true)=Xb (Xe cx st o) (λst'=>Xz cx ops cs st' r):=nr rfl
def XcD:QA cx ops cs st o r false g (.b false)=Xb (Xe cx st o) (λst'=>Xz cx ops cs st' r):=nr rfl
def XcE:QA cx ops cs st o r true g (.b false)=Xz cx ops cs (st.put? o.dst .no) r:=nr rfl
def XcF:QA cx ops cs st o r false g (.b true)=Xz cx ops cs (st.put? o.dst .no) r:=nr rfl
def XcG(want:Bool):QA cx ops cs st o r want g .no=Xz cx ops cs (st.put? o.dst .no) r:=nr rfl
def opU(cx:Cx)(ops:List Oper)(cs:List (Option (List Nat)))(st:St)(o:Oper)(r:List Oper):Option St:=Xb (Xe cx st o) (λst'=>Xz cx ops cs st' r)
def skU(cx:Cx)(ops:List Oper)(cs:List (Option (List Nat)))(st:St)(o:Oper)(r:List Oper):Option St:=Xz cx ops cs (st.put? o.dst .no) r
@[congr] def XkN{cx:Cx}{ops:List Oper}{cs:List (Option (List Nat))}{st st':St}{o:Oper}{r:List Oper}(h:st=st'):opU cx ops cs st o r=opU cx ops cs st' o r:=by rw[h]
@[congr] def XkO{cx:Cx}{ops:List Oper}{cs:List (Option (List Nat))}{st st':St}{o:Oper}{r:List Oper}(h:st=st'):skU cx ops cs st o r=skU cx ops cs st' o r:=by rw[h]
end
def Xhd(cx:Cx)(ops:List Oper)(cs:List (Option (List Nat)))(l:List (Nat×AV))(m:List (Nat×List AV))(o:Oper)(r:List Oper)(g:Nat)(want b:Bool)(h:E l g=.b b) :
  QA cx ops cs ⟨E l,B m⟩ o r want g (.b b) =
   if b=true then(if want=true then opU cx ops cs ⟨E ((g,.b true) :: l),B m⟩ o r else skU cx ops cs ⟨E ((g,.b true) :: l),B m⟩ o r)
   else(if want=true then skU cx ops cs ⟨E ((g,.b false) :: l),B m⟩ o r else opU cx ops cs ⟨E ((g,.b false) :: l),B m⟩ o r):=by
 have hs:(⟨E ((g,.b b) :: l),B m⟩:St)=⟨E l,B m⟩:=by
  have:=Xd5 ⟨E l,B m⟩ g
  simp only[upE,Xdm,h] at this
  exact this
 cases b<;>cases want<;>simp only[QA,opU,skU,hs,if_true,if_false,Bool.false_eq_true,reduceCtorEq]
def jA(c:Prop)[Decidable c](a b:AV):AV:=if c then a else b
section
variable (c : Prop) [Decidable c]
def Xi8(a:AV):jA c a a=a:=by unfold jA; split<;>rfl
def XnI(x y:Bool):jA c (.b x) (.b y)=.b (if c then x else y):=by unfold jA; split<;>rfl
def XnJ(k:IntKind)(x y:Int):jA c (.i k x) (.i k y)=.i k (if c then x else y):=by unfold jA; split<;>rfl
def XnK(x y:ByteArray):jA c (.s x) (.s y)=.s (if c then x else y):=by unfold jA; split<;>rfl
def XlV(t:Tag)(z:Nat)(x y:List (List AV)):jA c (.sl t z x) (.sl t z y)=.sl t z (if c then x else y):=by unfold jA; split<;>rfl
def jL(c:Prop)[Decidable c]:List AV->List AV->List AV
 | a :: l,b :: r=>jA c a b :: jL c l r
 | _,_=>[]
def Qg:List AV->List AV->Bool
 | _ :: l,_ :: r=>Qg l r
 | [],[]=>true
 | _,_=>false
def Xhe:∀(x y:List AV),Qg x y=true->(if c then x else y)=jL c x y
 | [],[],_=>by simp[jL]
 | a :: l,b :: r,h=>by
  have ih:=Xhe l r (by simpa[Qg] using h)
  simp only[jL,jA,<-ih]
  split<;>rfl
 | [],_ :: _,h=>by simp[Qg] at h
 | _ :: _,[],h=>by simp[Qg] at h
def XkP(x y:List AV)(h:Qg x y=true):jA c (.agg x) (.agg y)=.agg (jL c x y):=by rw[<-Xhe c x y h]; unfold jA; split<;>rfl
def Xi9(x:List AV):jL c x x=x:=by
 rw[<-Xhe c x x (by induction x<;>simp_all [Qg])]; simp
def jE(c:Prop)[Decidable c]:List (Nat×AV)->List (Nat×AV)->List (Nat×AV)
 | (k,a) :: l,(_,b) :: r=>(k,jA c a b) :: jE c l r
 | _,_=>[]
def jB(c:Prop)[Decidable c]:List (Nat×List AV)->List (Nat×List AV)->List (Nat×List AV)
 | (k,a) :: l,(_,b) :: r=>(k,jL c a b) :: jB c l r
 | _,_=>[]
def XcH:List (Nat×AV)->List (Nat×AV)->Bool
 | (k,_) :: l,(k',_) :: r=>k==k'&&XcH l r
 | [],[]=>true
 | _,_=>false
def XcI:List (Nat×List AV)->List (Nat×List AV)->Bool
 | (k,a) :: l,(k',b) :: r=>k==k'&&(Qg a b&&XcI l r)
 | [],[]=>true
 | _,_=>false
def Xja:∀(x y:List (Nat×AV)),XcH x y=true->(if c then E x else E y)=E (jE c x y)
 | [],[],_=>by simp[jE]
 | (k,a) :: l,(k',b) :: r,h=>by
  simp only[XcH,Bool.and_eq_true,beq_iff_eq] at h
  obtain⟨rfl,h⟩:=h
  have ih:=Xja l r h
  funext t
  have ih':=congrFun ih t
  simp only[jE,jA]
  rw[U3,<-ih']
  split<;>simp only[U3]
 | [],_ :: _,h=>by simp[XcH] at h
 | _ :: _,[],h=>by simp[XcH] at h
def Xjb:∀(x y:List (Nat×List AV)),XcI x y=true->(if c then B x else B y)=B (jB c x y)
 | [],[],_=>by simp[jB]
 | (k,a) :: l,(k',b) :: r,h=>by
  simp only[XcI,Bool.and_eq_true,beq_iff_eq] at h
  obtain⟨rfl,h1,h⟩:=h
  have ih:=Xjb l r h
  funext t
  have ih':=congrFun ih t
  simp only[jB]
  rw[XaC,<-ih',<-Xhe c a b h1]
  split<;>simp only[XaC]
 | [],_ :: _,h=>by simp[XcI] at h
 | _ :: _,[],h=>by simp[XcI] at h
def Xjc(x y:List (Nat×AV))(m n:List (Nat×List AV))(h:XcH x y=true)(h':XcI m n=true):(if c then some (⟨E x,B m⟩:St) else some ⟨E y,B n⟩)=some ⟨E (jE c x y),B (jB c m n)⟩:=by
 rw[<-Xja c x y h,<-Xjb c m n h']; split<;>rfl
def Xjd(e:Ex)(x y:List (Nat×AV))(m n:List (Nat×List AV))(h:XcH x y=true)(h':XcI m n=true):(if c then some (e,(⟨E x,B m⟩:St)) else some (e,⟨E y,B n⟩))=some (e,⟨E (jE c x y),B (jB c m n)⟩):=by
 rw[<-Xja c x y h,<-Xjb c m n h']; split<;>rfl
end
def Xdo(cx:Cx)(blk:Nat)(st:St):Xi cx blk .skip st=some (.nor,st):=nr rfl
def Xdp(cx:Cx)(blk id:Nat)(st:St):Xi cx blk (.exit id) st=some (.ex id,keep (cx.out id) st):=nr rfl
def Xeu(cx:Cx)(blk:Nat)(st:St):Xi cx blk .ret st=some (.ret,keep cx.rets st):=nr rfl
def Xhf(x:Option St):Option (Ex×St):=match x with
 | some s=>some (.nor,s)
 | none=>none
def XfS(s:St):Xhf (some s)=some (.nor,s):=nr rfl
def XfT:Xhf none=none:=nr rfl
def Xhg(c:Prop)[Decidable c](x y:Option St):Xhf (if c then x else y)=if c then Xhf x else Xhf y:=by split<;>rfl
def Xb1(cx:Cx)(blk id:Nat)(l:List Oper)(st:St):Xi cx blk (.region id (List.toArray l) false) st=Xhf (Xb (Xz cx l (cx.cuts id) st l) (λs=>weakW (keep (cx.rg id) s) (cx.ws id))):=by
 simp only[Xi,Xb,Xhf,Xkd,Bool.false_eq_true,if_false]
 cases Xz cx l (cx.cuts id) st l<;>rfl
def Xdq(cx:Cx)(blk id:Nat)(l:List Oper)(st:St):Xi cx blk (.region id (List.toArray l) true) st=Xhf (Xb (Xb (cx.plan id) (λp=>X5 cx id l p st)) (λs=>weakW s (cx.ws id))):=by
 simp only[Xi,if_true,Xhf,Xkd,X1]
 cases cx.plan id with
 | none=>rfl
 | some p=>simp only[Xb]; cases X5 cx id l p st<;>rfl
@[congr] def Xje{st st':St}{l l':List (Bool×Nat×Nat)}(h:st=st')(h2:l=l'):weakW st l=weakW st' l':=by rw[h,h2]
def XfU(st:St):weakW st []=some st:=nr rfl
def Xjf(st:St)(r c:Nat)(l:List (Bool×Nat×Nat)):weakW st ((true,r,c) :: l)=Xb (weakArg st (.tmp r)) (λs=>weakW s l):=by simp only[weakW,X1]
def Xev(st:St)(b c:Nat):Option AV->Option St
 | some (.sl .mut z es)=>weakLeaf st (.rf ⟨false,b,[],c⟩ z 0 es.length)
 | _=>some st
def XfV(st:St)(b c z:Nat)(es:List (List AV)):Xev st b c (some (.sl .mut z es))=weakLeaf st (.rf ⟨false,b,[],c⟩ z 0 es.length):=nr rfl
def XfW(st:St)(b c z:Nat)(es:List (List AV)):Xev st b c (some (.sl .app z es))=some st:=nr rfl
def Xhh(st:St)(b c z:Nat)(es:List (List AV)):Xev st b c (some (.sl .ro z es))=some st:=nr rfl
def Xjg(st:St)(b c:Nat):Xev st b c (some .u)=some st:=nr rfl
def Xjh(st:St)(r c:Nat)(l:List (Bool×Nat×Nat)):weakW st ((false,r,c) :: l)=Xb (Xev st r c (st.bx r)[c]?) (λs=>weakW s l):=by simp only[weakW,weakAt,Xev,X1]; rfl
def Xdr(cx:Cx)(id:Nat)(ops:List Oper)(st:St):X5 cx id ops .done st=some (keep (cx.rg id) st):=nr rfl
def Xds(cx:Cx)(id:Nat)(ops:List Oper)(i:Nat)(p:XaR)(st:St):X5 cx id ops (.take i p) st=Xb (Z6 ops i) (λo=>Xao (Xch o.op) (Xb (Zn cx ops st o) (λs=>X5 cx id ops p s))):=by
 simp only[X5,X1]
def Xew(cx:Cx)(id:Nat)(ops:List Oper)(i:Nat)(p:XaR)(st:St):X5 cx id ops (.one i p) st=Xb (Z6 ops i) (λo=>Xao (Qt cx o.op||ZW cx st o.op) (Xb (Zn cx ops st o) (λs=>X5 cx id ops p s))):=by
 simp only[X5,X1]
def Xex(cx:Cx)(id:Nat)(ops:List Oper)(i:Nat)(p q:XaR)(st:St):X5 cx id ops (.alt i p q) st=Xek (X5 cx id ops (.one i p) st) (X5 cx id ops q st):=nr rfl
def Xey(o:Oper)(r:List Oper):Z6 (o :: r) 0=some o:=nr rfl
def Xez(o:Oper)(r:List Oper)(n:Nat):Z6 (o :: r) (n+1)=Z6 r n:=nr rfl
def XeA(x:Option St):Xao true x=x:=nr rfl
@[congr] def Xji{p p':Bool}{x:Option St}(h:p=p'):Xao p x=Xao p' x:=by rw[h]
def XeB(x:Option St):Xek x x=x:=by unfold Xek; rw[if_pos rfl]
def XcJ(cx:Cx)(ops:List Oper)(st:St)(d:Option Nat)(op:Op)(t:TypeId)(pos:String)(aft:Array Edge):Zn cx ops st ⟨d,op,t,pos,aft,none⟩=Xe cx st ⟨d,op,t,pos,aft,none⟩:=nr rfl
def U7(cx:Cx)(ops:List Oper)(st:St)(o:Oper)(want:Bool)(g:Nat)(a:AV):Option St:=match a with
 | .b b=>if b=want then Xe cx st o else some (st.put? o.dst .no)
 | .no=>some (st.put? o.dst .no)
 | _=>none
@[congr] def Xjj{cx:Cx}{ops:List Oper}{st:St}{o:Oper}{want:Bool}{g:Nat}{a a':AV}(h:a=a'):U7 cx ops st o want g a=U7 cx ops st o want g a':=by rw[h]
def Xjk(cx:Cx)(ops:List Oper)(st:St)(o:Oper)(want:Bool)(d:Option Nat):Option St:=match d with
 | some d=>U7 cx ops st o want d (st.env d)
 | none=>none
def XeC(cx:Cx)(ops:List Oper)(st:St)(o:Oper)(want:Bool)(d:Nat):Xjk cx ops st o want (some d)=U7 cx ops st o want d (st.env d):=nr rfl
def Xhi(cx:Cx)(ops:List Oper)(st:St)(o:Oper)(g:Nat):U7 cx ops st o true g (.b true)=Xe cx st o:=nr rfl
def Xhj(cx:Cx)(ops:List Oper)(st:St)(o:Oper)(g:Nat):U7 cx ops st o false g (.b false)=Xe cx st o:=nr rfl
def Xhk(cx:Cx)(ops:List Oper)(st:St)(o:Oper)(g:Nat):U7 cx ops st o true g (.b false)=some (st.put? o.dst .no):=nr rfl
def Xhl(cx:Cx)(ops:List Oper)(st:St)(o:Oper)(g:Nat):U7 cx ops st o false g (.b true)=some (st.put? o.dst .no):=nr rfl
def Xhm(cx:Cx)(ops:List Oper)(st:St)(o:Oper)(want:Bool)(g:Nat):U7 cx ops st o want g .no=some (st.put? o.dst .no):=nr rfl
def stU(cx:Cx)(st:St)(o:Oper):Option St:=Xe cx st o
def skS(st:St)(o:Oper):Option St:=some (st.put? o.dst .no)
@[congr] def XkQ{cx:Cx}{st st':St}{o:Oper}(h:st=st'):stU cx st o=stU cx st' o:=by rw[h]
@[congr] def XkR{st st':St}{o:Oper}(h:st=st'):skS st o=skS st' o:=by rw[h]
def Xjl(cx:Cx)(ops:List Oper)(l:List (Nat×AV))(m:List (Nat×List AV))(o:Oper)(want:Bool)(g:Nat)(b:Bool)(h:E l g=.b b) :
  U7 cx ops ⟨E l,B m⟩ o want g (.b b) =
   if b=true then(if want=true then stU cx ⟨E ((g,.b true) :: l),B m⟩ o else skS ⟨E ((g,.b true) :: l),B m⟩ o)
   else(if want=true then skS ⟨E ((g,.b false) :: l),B m⟩ o else stU cx ⟨E ((g,.b false) :: l),B m⟩ o):=by
 have hs:(⟨E ((g,.b b) :: l),B m⟩:St)=⟨E l,B m⟩:=by
  have:=Xd5 ⟨E l,B m⟩ g
  simp only[upE,Xdm,h] at this
  exact this
 cases b<;>cases want<;>simp only[U7,stU,skS,hs,if_true,if_false,Bool.false_eq_true,reduceCtorEq]
def XcK(cx:Cx)(ops:List Oper)(st:St)(d:Option Nat)(op:Op)(t:TypeId)(pos:String)(aft:Array Edge)(j:Nat)(want:Bool):Zn cx ops st ⟨d,op,t,pos,aft,some (j,want)⟩=Xjk cx ops st ⟨d,op,t,pos,aft,some (j,want)⟩ want (ZX ops j):=by
 unfold Zn wanted Xjk U7
 simp only
 cases ZX ops j with
 | none=>rfl
 | some d =>
  simp only
  cases st.env d with
  | b b =>
   cases b<;>cases want<;>rfl
  | _=>rfl
def Xb2(x:Option (Ex×St))(k:St->Option (Ex×St)):Option (Ex×St):=match x with
 | some (.nor,st)=>k st
 | some (.ex j,st)=>some (.ex j,st)
 | some (.ret,st)=>some (.ret,st)
 | none=>none
@[congr] def Xkf{x y:Option (Ex×St)}{k:St->Option (Ex×St)}(h:x=y):Xb2 x k=Xb2 y k:=by rw[h]
def Xd6(st:St)(k:St->Option (Ex×St)):Xb2 (some (.nor,st)) k=k st:=nr rfl
def Xd7(st:St)(k:St->Option (Ex×St)):Xb2 (some (.ret,st)) k=some (.ret,st):=nr rfl
def XfX(j:Nat)(st:St)(k:St->Option (Ex×St)):Xb2 (some (.ex j,st)) k=some (.ex j,st):=nr rfl
def XfY(k:St->Option (Ex×St)):Xb2 none k=none:=nr rfl
def Xhn(c:Prop)[Decidable c](x y:Option (Ex×St))(k:St->Option (Ex×St)):Xb2 (if c then x else y) k=if c then Xb2 x k else Xb2 y k:=by split<;>rfl
def XeD(cx:Cx)(blk:Nat)(a b:Code)(st:St):Xi cx blk (.seq a b) st=Xb2 (Xi cx blk a st) (λs=>Xi cx blk b s):=by
 simp only[Xi]
 cases Xi cx blk a st with
 | none=>rfl
 | some x=>obtain⟨e,s⟩:=x; cases e<;>rfl
def Xiy(id:Nat)(x:Option (Ex×St)):Option (Ex×St):=match x with
 | some (.ex j,st)=>if j=id then some (.nor,st) else some (.ex j,st)
 | some (.nor,st)=>some (.nor,st)
 | some (.ret,st)=>some (.ret,st)
 | none=>none
def Xho(id:Nat)(st:St):Xiy id (some (.nor,st))=some (.nor,st):=nr rfl
def Xhp(id:Nat)(st:St):Xiy id (some (.ret,st))=some (.ret,st):=nr rfl
def Xjm(id j:Nat)(st:St):Xiy id (some (.ex j,st))=if j=id then some (.nor,st) else some (.ex j,st):=nr rfl
def XfZ(id:Nat):Xiy id none=none:=nr rfl
def Xhq(id:Nat)(c:Prop)[Decidable c](x y:Option (Ex×St)):Xiy id (if c then x else y)=if c then Xiy id x else Xiy id y:=by split<;>rfl
def XcL(cx:Cx)(blk id:Nat)(c:Code)(st:St):Xi cx blk (.block id c) st=Xiy id (Xi cx id c st):=by
 simp only[Xi]
 cases Xi cx id c st with
 | none=>rfl
 | some x=>obtain⟨e,s⟩:=x; cases e<;>rfl
def Xdt(a:AV)(x y:Option (Ex×St)):Option (Ex×St):=match a with
 | .b b=>if b=true then x else y
 | _=>none
@[congr] def Xjn{a a':AV}{x y:Option (Ex×St)}(h:a=a'):Xdt a x y=Xdt a' x y:=by rw[h]
def Xby(x y:Option (Ex×St)):Xdt (.b true) x y=x:=nr rfl
def XaF(x y:Option (Ex×St)):Xdt (.b false) x y=y:=nr rfl
def Xjo(b:Bool)(x y:Option (Ex×St)):Xdt (.b b) x y=if b=true then x else y:=nr rfl
def Xdu(cx:Cx)(blk:Nat)(c:Operand)(a b:Code)(st:St):Xi cx blk (.cond c a b) st=Xdt (view st c) (Xi cx blk a st) (Xi cx blk b st):=by
 simp only[Xi,Xdt]
 cases view st c with
 | b x=>cases x<;>rfl
 | _=>rfl
noncomputable def Xa0(cx:Cx)(blk:Nat)(c:Code)(n:Nat)(st:St):Option (Ex×St):=Xij (λst=>Xi cx blk c (keep (cx.live blk) st)) n st
@[congr] def Xjp{cx:Cx}{blk:Nat}{c:Code}{n:Nat}{st st':St}(h:st=st'):Xa0 cx blk c n st=Xa0 cx blk c n st':=by rw[h]
def Xdv(cx:Cx)(blk:Nat)(c:Code)(st:St):Xi cx blk (.loop c) st=Xa0 cx blk c cx.rounds st:=nr rfl
def Xbz(cx:Cx)(blk:Nat)(c:Code)(n:Nat)(st:St):Xa0 cx blk c (n+1) st=Xb2 (Xi cx blk c (keep (cx.live blk) st)) (λs=>Xa0 cx blk c n s):=by
 simp only[Xa0,Xij]
 cases Xi cx blk c (keep (cx.live blk) st) with
 | none=>rfl
 | some x=>obtain⟨e,s⟩:=x; cases e<;>rfl
def Xiz(cx:Cx)(md:List Md)(rv:List ResultVar)(x:Option (Ex×St)):Option (AV×List AV):=match x with
 | some (.nor,st)=>Zo cx md rv st
 | some (.ret,st)=>Zo cx md rv st
 | _=>none
def Xhr(cx:Cx)(md:List Md)(rv:List ResultVar)(st:St):Xiz cx md rv (some (.nor,st))=Zo cx md rv st:=nr rfl
def Xhs(cx:Cx)(md:List Md)(rv:List ResultVar)(st:St):Xiz cx md rv (some (.ret,st))=Zo cx md rv st:=nr rfl
def Xf0(cx:Cx)(md:List Md)(rv:List ResultVar):Xiz cx md rv none=none:=nr rfl
def Xht(cx:Cx)(md:List Md)(rv:List ResultVar)(c:Prop)[Decidable c](x y:Option (Ex×St)):Xiz cx md rv (if c then x else y)=if c then Xiz cx md rv x else Xiz cx md rv y:=by split<;>rfl
def Xf1(cx:Cx)(md:List Md)(f:Func)(args:List AV)(c:Code)(rv:List ResultVar)(h:f.body=some c)(hr:f.results=rv.toArray)(hz:cx.nz=false):Qu cx md f args=Xiz cx md rv (Xi cx 0 c (QV md args)):=by
 simp only[Qu,h,hr,evB,hz,Bool.false_eq_true,if_false]
 cases Xi cx 0 c (QV md args) with
 | none=>rfl
 | some x=>obtain⟨e,s⟩:=x; cases e<;>rfl
@[congr] def XkS{cx:Cx}{c:Code}{K:St->Option (Ex×St)}{st st':St}(h:st=st'):evN cx c K st=evN cx c K st':=by rw[h]
def Xhu(cx:Cx)(K:St->Option (Ex×St))(st:St):evN cx .skip K st=K st:=nr rfl
def Xjq(cx:Cx)(a b:Code)(K:St->Option (Ex×St))(st:St):evN cx (.seq a b) K st=evN cx a (λs=>evN cx b K s) st:=nr rfl
noncomputable def Xjr(a:AV)(x y:Option (Ex×St)):Option (Ex×St):=match a with
 | .b true=>x
 | .b false=>y
 | .ub=>Xc5 x y
 | _=>none
@[congr] def Xkg{a a':AV}{x y:Option (Ex×St)}(h:a=a'):Xjr a x y=Xjr a' x y:=by rw[h]
def XcM(x y:Option (Ex×St)):Xjr (.b true) x y=x:=nr rfl
def XbA(x y:Option (Ex×St)):Xjr (.b false) x y=y:=nr rfl
def Xjs(x y:Option (Ex×St)):Xjr .ub x y=Xc5 x y:=nr rfl
def XeE(x:Option (Ex×St)):Xc5 x x=x:=by unfold Xc5; rw[if_pos rfl]
def Xhv(cx:Cx)(c:Operand)(a b:Code)(K:St->Option (Ex×St))(st:St):evN cx (.cond c a b) K st=Xjr (view st c) (evN cx a K st) (evN cx b K st):=by
 simp only[evN,Xjr]
 cases view st c with
 | b x=>cases x<;>rfl
 | _=>rfl
def Xjt(cx:Cx)(K:St->Option (Ex×St))(st:St):evN cx .ret K st=some (.ret,keep cx.rets st):=nr rfl
def XeF(cx:Cx)(id:Nat)(ops:Array Oper)(d:Bool)(K:St->Option (Ex×St))(st:St):evN cx (.region id ops d) K st=Xb2 (Xi cx 0 (.region id ops d) st) (λs=>K s):=by
 simp only[evN,Xbg]
 cases Xi cx 0 (.region id ops d) st with
 | none=>rfl
 | some x=>obtain⟨e,s⟩:=x; cases e<;>rfl
def XlW(md:List Md)(p:List AV×St):Option (AV×List AV):=if(p.1.all XR&&(Xap p.2 md 0).all XR&&Qm md (Xap p.2 md 0))=true then some (one p.1,Xap p.2 md 0) else none
def Xln(cx:Cx)(md:List Md)(rv:List ResultVar)(st:St):Option (List AV)->Option (AV×List AV)
 | some cs=>XkA md st cs
 | none=>Xb (U6 cx st rv) (XlW md)
def Xhw(cx:Cx)(md:List Md)(rv:List ResultVar)(st:St):Zo cx md rv st=Xln cx md rv st (XaX md st rv):=by
 simp only[Zo,Xln]
 cases XaX md st rv with
 | some cs=>rfl
 | none =>
  simp only[Xlm,Xb]
  cases U6 cx st rv<;>rfl
def Xf2(cx:Cx)(md:List Md)(rv:List ResultVar)(st:St)(cs:List AV):Xln cx md rv st (some cs)=XkA md st cs:=nr rfl
def Xf3(cx:Cx)(md:List Md)(rv:List ResultVar)(st:St):Xln cx md rv st none=Xb (U6 cx st rv) (XlW md):=nr rfl
def Xju(md:List Md)(st:St)(cs:List AV):XkA md st cs=if(cs.all XD&&!cs.isEmpty&&(Xap st md 0).all XR&&Qm md (Xap st md 0))=true then some (.tup [.agg cs],Xap st md 0) else none:=nr rfl
def Xf4(md:List Md)(st:St):XaX md st []=none:=nr rfl
def Xf5(md:List Md)(st:St)(t:Nat):XaX md st [.tmp t]=npP md st (st.env t):=nr rfl
def XeG(md:List Md)(st:St)(a t:Nat):XaX md st [.cell a t]=none:=nr rfl
def Xf6(md:List Md)(st:St)(a b:ResultVar)(l:List ResultVar):XaX md st (a :: b :: l)=none:=by cases a<;>rfl
def XlX(md:List Md)(st:St)(q:Pl):npP md st (.p q)=if(!q.e&&q.path.isEmpty&&q.c==0&&decide (md.length<=q.r))=true then some (st.bx q.r) else none:=nr rfl
def Xjv(md:List Md)(l:List AV)(st:St):XlW md (l,st)=if(l.all XR&&(Xap st md 0).all XR&&Qm md (Xap st md 0))=true then some (one l,Xap st md 0) else none:=nr rfl
def Xhx(cx:Cx)(st:St):U6 cx st []=some ([],st):=nr rfl
def XlY(v:AV)(p:List AV×St):Option (List AV×St):=some (v :: p.1,p.2)
def Xjw(v:AV)(l:List AV)(st:St):XlY v (l,st)=some (v :: l,st):=nr rfl
def Xf7(cx:Cx)(st:St)(t:Tmp)(r:List ResultVar):U6 cx st (.tmp t :: r)=Xb (take st (.tmp t)) (λp=>Xb (U6 cx p.2 r) (XlY p.1)):=by
 simp only[U6,Xb]
 cases take st (.tmp t) with
 | none=>rfl
 | some p=>obtain⟨v,s⟩:=p; simp only; cases U6 cx s r<;>rfl
def Xf8(cx:Cx)(st:St)(a t:Nat)(r:List ResultVar):U6 cx st (.cell a t :: r)=Xb (cx.T t) (λti=>Xb (loadAt st ti (view st (.tmp a))) (λv=>Xb (takeVal st v) (λp=>Xb (U6 cx p.2 r) (XlY p.1)))):=by
 simp only[U6,X1,Xb]
 cases cx.T t with
 | none=>rfl
 | some ti =>
  simp only
  cases loadAt st ti (view st (.tmp a)) with
  | none=>rfl
  | some v =>
   simp only
   cases takeVal st v with
   | none=>rfl
   | some p=>obtain⟨v,s⟩:=p; simp only; cases U6 cx s r<;>rfl
def Xjx:List Md->List AV->Nat->List (Nat×AV)
 | .rw _ :: ms,_ :: as,j=>(j,.p ⟨false,j,[],0⟩) :: Xjx ms as (j+1)
 | .ro _ :: ms,a :: as,j=>(j,a) :: Xjx ms as (j+1)
 | .mv :: ms,a :: as,j=>(j,a) :: Xjx ms as (j+1)
 | _,_,_=>[]
def Xjy:List Md->List AV->Nat->List (Nat×List AV)
 | .rw _ :: ms,a :: as,j=>(j,cellsOf a) :: Xjy ms as (j+1)
 | .ro _ :: ms,_ :: as,j=>Xjy ms as (j+1)
 | .mv :: ms,_ :: as,j=>Xjy ms as (j+1)
 | _,_,_=>[]
def Xhy(ms:List Md)(as:List AV):QV ms as=⟨E (Xjx ms as 0),B (Xjy ms as 0)⟩:=by
 have h1:∀(ms:List Md) (as:List AV) (j t:Nat),Yq ms as j t=E (Xjx ms as j) t:=by
  intro ms
  induction ms with
  | nil=>intro as j t; cases as<;>rfl
  | cons m ms ih =>
   intro as j t
   cases as with
   | nil=>cases m<;>rfl
   | cons a as=>cases m<;>simp only[Yq,Xjx,U3,ih]
 have h2:∀(ms:List Md) (as:List AV) (j t:Nat),Yl ms as j t=B (Xjy ms as j) t:=by
  intro ms
  induction ms with
  | nil=>intro as j t; cases as<;>rfl
  | cons m ms ih =>
   intro as j t
   cases as with
   | nil=>cases m<;>rfl
   | cons a as=>cases m<;>simp only[Yl,Xjy,XaC,ih]
 simp only[QV,St.mk.injEq]
 exact⟨funext (h1 ms as 0),funext (h2 ms as 0)⟩
section
variable (cx : Cx) (t : TypeId) (pos : String) (aft : Array Edge) (g : Option (Nat × Bool)) (st : St)
def ZM(d:Nat)(x:Option AV):Xb8 st (some d) x=Xb x (λv=>some (st.put d v)):=by cases x<;>rfl
def Xd8(d:Nat)(x:Option (AV×St)):Xkz (some d) x=Xb x (λy=>some (y.2.put d y.1)):=by cases x<;>rfl
def XkT(d:Option Nat)(x:Option (AV×St)):XlL d x=Xb x (λy=>putN d y.2 y.1 (Q8 y.1)):=by cases x<;>rfl
def Xf9(d:Option Nat)(st:St)(r:AV):putN d st r none=some (st.put? d r):=nr rfl
def Xga(d:Nat)(st:St)(r:AV)(cs:List AV):putN (some d) st r (some cs)=YR st d cs:=nr rfl
def Xjz(cs:List AV):Q8 (.tup [.agg cs])=some cs:=nr rfl
def Xhz:Q8 (.tup [])=none:=nr rfl
def XhA(a b:AV)(l:List AV):Q8 (.tup (a :: b :: l))=none:=by cases a<;>rfl
def XjA(st:St)(t:Nat):AV->Option (AV×St)
 | .tup (v :: vs)=>some (.tup (v :: vs),⟨upd st.env t .u,st.bx⟩)
 | _=>none
def Xgb(st:St)(t:Nat)(v:AV)(vs:List AV):XjA st t (.tup (v :: vs))=some (.tup (v :: vs),⟨upd st.env t .u,st.bx⟩):=nr rfl
def Xgc(st:St)(t:Nat):Xc4 st (.tmp t)=XjA st t (st.env t):=by
 simp only[Xc4,XjA]
 cases st.env t with
 | tup vs=>cases vs<;>rfl
 | _=>rfl
def XjB(d:Nat)(x:Operand):Xe cx st ⟨some d,.move x,t,pos,aft,g⟩=if cx.al.contains d=true then Xb (Xc4 st x) (λy=>some (y.2.put d y.1)) else some (st.put d (fix (zOf cx t) (view st x))):=by
 simp only[Xe,alD,Xd8,St.put?]
def Xgd(d:Nat)(x:Operand):Xe cx st ⟨some d,.assign x,t,pos,aft,g⟩ =
  if cx.al.contains d=true then some (st.put d (fix (zOf cx t) (view st x))) else Xb (take st x) (λy=>some (y.2.put d (fix (zOf cx t) y.1))):=by
 simp only[Xe,X1,ZB]
def Xdw(st:St)(d:Nat)(a x y:AV):Option St:=match a with
 | .b b=>if b=true then some (st.put d x) else some (st.put d y)
 | _=>none
@[congr] def XjC{st:St}{d:Nat}{a a' x y:AV}(h:a=a'):Xdw st d a x y=Xdw st d a' x y:=by rw[h]
def XbB(d:Nat)(x y:AV):Xdw st d (.b true) x y=some (st.put d x):=nr rfl
def XaG(d:Nat)(x y:AV):Xdw st d (.b false) x y=some (st.put d y):=nr rfl
def XjD(d:Nat)(b:Bool)(x y:AV):Xdw st d (.b b) x y=if b=true then some (st.put d x) else some (st.put d y):=nr rfl
def XjE(d:Nat)(c x y:Operand):Xe cx st ⟨some d,.pick c x y,t,pos,aft,g⟩=Xdw st d (view st c) (view st x) (view st y):=by
 simp only[Xe,Xdw,St.put?]
 cases view st c with
 | b x=>cases x<;>rfl
 | _=>rfl
def XhB(d:Nat)(t':TypeId):Xe cx st ⟨some d,.alloc t',t,pos,aft,g⟩=Xb (cx.T t') (λti=>YR st d ti.zero):=X1 _ _
def XkU(d:Nat)(t':TypeId)(x:Operand):Xe cx st ⟨some d,.box t' x,t,pos,aft,g⟩=Xb (cx.T t') (λti=>if cx.fz.contains d=true then Xb (Xej ti (fix ti.z (view st x))) (λcs=>Qs st d cs) else if cx.al.contains d=true then Xb (Xej ti (fix ti.z (view st x))) (λcs=>YR st d cs) else Xb (take st x) (λy=>Xb (Xej ti (fix ti.z y.1)) λcs=>YR y.2 d cs)):=by
 simp only[Xe,X1,ZB]
def XjF(d:Nat)(t':TypeId)(a:Operand):Xe cx st ⟨some d,.load t' a,t,pos,aft,g⟩=Xb (cx.T t') (λti=>Xb (loadAt st ti (view st a)) (λv=>some (st.put d v))):=by
 simp only[Xe,X1,ZM]
def XhC(t':TypeId)(a x:Operand):Xe cx st ⟨none,.store t' a x,t,pos,aft,g⟩=Xb (cx.T t') (λti=>Xb (take st x) (λy=>storeAt y.2 ti (view y.2 a) y.1)):=by
 simp only[Xe,X1,Option.isSome_none,Bool.false_eq_true,if_false]
def Xdx(d:Nat)(x:Operand):Xe cx st ⟨some d,.nilCheck x,t,pos,aft,g⟩=Xb (XbK (view st x)) (λv=>some (st.put d v)):=ZM st d _
def XcN(d:Nat)(t':TypeId)(x:Operand)(f:Nat):Xe cx st ⟨some d,.fieldAddr t' x f,t,pos,aft,g⟩=Xb (cx.T t') (λti=>Xb (Q7 ti f (view st x)) (λv=>some (st.put d v))):=by
 simp only[Xe,X1,ZM]
def XhD(d:Nat)(t':TypeId)(x:Operand)(f:Nat):Xe cx st ⟨some d,.field t' x f,t,pos,aft,g⟩=Xb (cx.T t') (λti=>Xb (Xce ti f (view st x)) (λv=>some (st.put d v))):=by
 simp only[Xe,X1,ZM]
def XcO(d:Nat)(t':TypeId)(x ix:Operand):Xe cx st ⟨some d,.indexAddr t' x ix,t,pos,aft,g⟩=Xb (cx.T t') (λti=>Xb (ZV st ti (view st x) (view st ix)) (λv=>some (st.put d v))):=by
 simp only[Xe,X1,ZM]
def XhE(d:Nat)(t':TypeId)(x ix:Operand):Xe cx st ⟨some d,.index t' x ix,t,pos,aft,g⟩=Xb (cx.T t') (λti=>Xb (QS ti (view st x) (view st ix)) (λv=>some (st.put d v))):=by
 simp only[Xe,X1,ZM]
def XkV(d:Nat)(op:BinOp)(xt:TypeId)(x y:Operand)(yt:TypeId):Xe cx st ⟨some d,.binOp op xt x y yt,t,pos,aft,g⟩=Xb (XaT (cx.T xt) (cx.eqs xt) op (view st x) (view st y)) (λv=>some (st.put d v)):=ZM st d _
def XlZ(d:Nat)(op:UnOp)(xt:TypeId)(x:Operand):Xe cx st ⟨some d,.unOp op xt x,t,pos,aft,g⟩=Xb (unV op (view st x)) (λv=>some (st.put d v)):=ZM st d _
def XeH(d:Nat)(a b:TypeId)(x:Operand):Xe cx st ⟨some d,.convert a b x,t,pos,aft,g⟩=Xb (cx.T a) (λta=>Xb (cx.T b) (λtb=>Xb (Xeg st ta tb (view st x)) (λv=>some (st.put d v)))):=by
 simp only[Xe,X1,ZM]
def Xge(src:TI)(k:IntKind)(a:AV):Xeg st src (.int k) a=Xc3 st src (.int k) a:=nr rfl
def Xgf(src:TI)(a:AV):Xeg st src .str a=Xc3 st src .str a:=nr rfl
def XhF(z n:Nat)(zero:List AV)(src:TI)(a:AV):Xeg st src (.slice z n zero) a=Xcf src z zero a:=nr rfl
def XhG(z:Nat)(zero:List AV)(b:ByteArray):Xcf .str z zero (.s b)=if z=1/\Xky zero=true/\b.size<=9223372036854775807 then some (.sl .mut 1 (b.data.toList.map Uv)) else none:=nr rfl
def XhH(d:Nat)(xt:TypeId)(x:Operand)(lo hi:Option Operand):Xe cx st ⟨some d,.slice xt x lo hi none,t,pos,aft,g⟩=Xb (cx.T xt) (λti=>Xb (Q4 ti (view st x) (lo.map (view st)) (hi.map (view st))) (λv=>some (st.put d v))):=by
 simp only[Xe,X1,ZM]
def Xdy(d f:Nat)(caps:List Operand):Xe cx st ⟨some d,.makeFunc (.func f) (List.toArray []) (List.toArray caps),t,pos,aft,g⟩=if(caps.map (view st)).all Zs=true then some (st.put d (.fn f (caps.map (view st)))) else none:=by
 simp only[Xe,List.isEmpty_toArray,List.isEmpty_nil,Bool.true_and]; rfl
def XeI(d:Nat)(x:Operand)(j:Nat):Xe cx st ⟨some d,.extract x j,t,pos,aft,g⟩=Xb (Z5 st x j) (λy=>some (y.2.put d y.1)):=Xd8 d _
def XhI(d:Nat)(t':TypeId)(parts:List (Nat×Operand)):Xe cx st ⟨some d,.build t' (List.toArray parts),t,pos,aft,g⟩=Xb (cx.T t') (λti=>Xb (Xan ti st parts) (λv=>some (st.put d v))):=by
 simp only[Xe,X1,ZM]
def Xb3(d:Nat)(t':TypeId)(len:Nat)(parts:List (Nat×Operand)):Xe cx st ⟨some d,.buildSlice t' len (List.toArray parts),t,pos,aft,g⟩=Xb (cx.T t') (λti=>Xb (Y2 ti st len parts) (λy=>some (y.2.put d y.1))):=by
 simp only[Xe,X1,Xd8,St.put?]
def XcP(d:Nat)(t':TypeId)(l c:Operand):Xe cx st ⟨some d,.makeSlice t' l c,t,pos,aft,g⟩=Xb (cx.T t') (λti=>Xb (Xei ti (view st l) (view st c)) (λv=>some (st.put d v))):=by
 simp only[Xe,X1,ZM]
def XkW(d:Nat)(x:Operand)(tx:TypeId)(ts:List TypeId):Xe cx st ⟨some d,.call {callee:=.builtin .len,args:=List.toArray [x],argTypes:=List.toArray (tx :: ts)},t,pos,aft,g⟩=Xb (cx.T tx) (λti=>Xb (Xkc st ti (view st x)) (λn=>some (st.put d (.i .i64 n)))):=by
 simp only[Xe,X9,X1]; rfl
def Xgg(d:Nat)(x y:Operand)(tx ty:TypeId):Xe cx st ⟨some d,.call {callee:=.builtin .append,args:=List.toArray [x,y],argTypes:=List.toArray [tx,ty]},t,pos,aft,g⟩=Xb (cx.T tx) (λti=>Xb (cx.T ty) (λtj=>if Xcg tj=true then Xb (Uw ti st x y) (λy=>some (y.2.put d y.1)) else none)):=by
 simp only[Xe,X9,X1,Xd8]
def XhJ(x:Operand)(tx:TypeId):Xe cx st ⟨none,.call {callee:=.builtin .clear,args:=List.toArray [x],argTypes:=List.toArray [tx]},t,pos,aft,g⟩=Xb (cx.T tx) (λti=>US ti st (view st x)):=by
 simp only[Xe,X9,X1,noD]
def XkX(d:Nat)(xs:List Operand)(at_:Array TypeId):Xe cx st ⟨some d,.call {callee:=.builtin .min,args:=List.toArray xs,argTypes:=at_},t,pos,aft,g⟩=Xb (Xeh (λa b=>if b<a then b else a) (xs.map (view st))) (λv=>some (st.put d v)):=by
 simp only[Xe,X9,ZM]
def XkY(d:Nat)(xs:List Operand)(at_:Array TypeId):Xe cx st ⟨some d,.call {callee:=.builtin .max,args:=List.toArray xs,argTypes:=at_},t,pos,aft,g⟩=Xb (Xeh (λa b=>if b>a then b else a) (xs.map (view st))) (λv=>some (st.put d v)):=by
 simp only[Xe,X9,ZM]
def XjG(d:Option Nat)(f:Operand)(args:List Operand)(ats:List TypeId):Xe cx st ⟨d,.call {callee:=.value f,args:=List.toArray args,argTypes:=List.toArray ats},t,pos,aft,g⟩ =
  Xb (QR cx st f ats args) (λy=>putN d y.2 y.1 (Q8 y.1)):=by
 simp only[Xe,X9,XkT]
def XhK(f:Operand)(ts:List TypeId)(xs:List Operand):QR cx st f ts xs=Xb (Z4 cx st f ts xs) (λp=>Xb (cx.fns p.1) (λfs=>Xal cx st p.1 fs f ts xs)):=by
 simp only[QR,Xb]
 cases Z4 cx st f ts xs with
 | none=>rfl
 | some p=>obtain⟨g,as⟩:=p; simp only; cases cx.fns g<;>rfl
def XjH(f:Operand)(ts:List TypeId)(xs:List Operand):Z4 cx st f ts xs=fnV (view st f) (Xb7 cx ts xs (xs.map (view st))):=nr rfl
def XhL(g:Nat)(md:List Md)(F:List AV->Option (AV×List AV))(f:Operand)(ts:List TypeId)(xs:List Operand):Xal cx st g ⟨md,F,false⟩ f ts xs=Xak cx st g ⟨md,F,false⟩ f ts xs:=nr rfl
def XhM(g:Nat)(md:List Md)(F:List AV->Option (AV×List AV))(f:Operand)(ts:List TypeId)(xs:List Operand):Xal cx st g ⟨md,F,true⟩ f ts xs=Xb (weakAll st md xs) (λs=>Xak cx s g ⟨md,F,true⟩ f ts xs):=by
 simp only[Xal,if_true,Xb]
 cases weakAll st md xs<;>rfl
def rwK(cx:Cx)(st:St)(g:Nat)(fs:FS)(f:Operand)(ts:List TypeId)(xs:List Operand):Option (Nat×Nat)->Option (AV×St)
 | some (k,n)=>XaW cx st g fs k n f ts xs
 | none=>Xaj cx st g fs f ts xs
def XjI(g:Nat)(md:List Md)(F:List AV->Option (AV×List AV))(b:Bool)(f:Operand)(ts:List TypeId)(xs:List Operand):Xak cx st g ⟨md,F,b⟩ f ts xs=rwK cx st g ⟨md,F,b⟩ f ts xs (XaU 0 md):=by
 unfold Xak rwK
 simp only
 cases XaU 0 md with
 | none=>rfl
 | some p=>rfl
def XhN(g:Nat)(fs:FS)(f:Operand)(ts:List TypeId)(xs:List Operand)(k n:Nat):rwK cx st g fs f ts xs (some (k,n))=XaW cx st g fs k n f ts xs:=nr rfl
def XhO(g:Nat)(fs:FS)(f:Operand)(ts:List TypeId)(xs:List Operand):rwK cx st g fs f ts xs none=Xaj cx st g fs f ts xs:=nr rfl
def XhP(k:Nat):XaU k []=none:=nr rfl
def XjJ(k n:Nat)(ms:List Md):XaU k (.ro n :: ms)=XaU (k+1) ms:=nr rfl
def XjK(k:Nat)(ms:List Md):XaU k (.mv :: ms)=XaU (k+1) ms:=nr rfl
def XjL(k n:Nat)(ms:List Md):XaU k (.rw n :: ms)=some (k,n):=nr rfl
def inO(a:Option AV)(l:Option (List AV)):Option (List AV):=match a,l with
 | some a,some l=>some (a :: l)
 | _,_=>none
def XhQ(a:AV)(l:List AV):inO (some a) (some l)=some (a :: l):=nr rfl
def XeJ(own:Bool)(av:Option (Bool×Nat))(ys:List (AV×List (Option (Pl×Bool)))):Yp own av st [] [] ys=some []:=nr rfl
def Xdz(own:Bool)(av:Option (Bool×Nat))(m:Md)(ms:List Md)(a:AV)(as:List AV)(ys:List (AV×List (Option (Pl×Bool)))):Yp own av st (m :: ms) (a :: as) ys=inO (Q6 own av st m a (ys.headD (.u,[]))) (Yp own av st ms as ys.tail):=by
 simp only[Yp,inO]
 cases Q6 own av st m a (ys.headD (.u,[])) with
 | none=>rfl
 | some b=>simp only; cases Yp own av st ms as ys.tail<;>rfl
def XhR(own:Bool)(av:Option (Bool×Nat))(n:Nat)(a:AV)(y:AV×List (Option (Pl×Bool))):Q6 own av st (.ro n) a y=Zk own av st a:=nr rfl
def XhS(own:Bool)(av:Option (Bool×Nat))(a:AV)(x:AV)(l:List (Option (Pl×Bool))):Q6 own av st .mv a (x,l)=some x:=nr rfl
def rwB(n:Nat)(pl:Pl)(w:Bool)(cells:List AV):Option AV:=if(w&&decide (pl.c+n<=cells.length)&&((cells.drop pl.c).take n).all XD)=true then some (.agg ((cells.drop pl.c).take n)) else none
def XhT(own:Bool)(av:Option (Bool×Nat))(n:Nat)(pl:Pl)(y:AV×List (Option (Pl×Bool))):Q6 own av st (.rw n) (.p pl) y=Xb (node st pl) (rwB n pl (Xv st pl)):=by
 simp only[Q6,Xb,rwB]
 cases node st pl<;>rfl
def rwP(cx:Cx)(st:St)(fs:FS)(as:List AV)(k n:Nat):Option AV->Option (AV×St)
 | some (.p pl)=>Xbe cx st fs as k n pl
 | _=>none
def Xl0(fs:FS)(as:List AV)(k n:Nat)(pl:Pl):rwP cx st fs as k n (some (.p pl))=Xbe cx st fs as k n pl:=nr rfl
def XjM(g:Nat)(fs:FS)(k n:Nat)(f:Operand)(ts:List TypeId)(xs:List Operand):XaW cx st g fs k n f ts xs=Xb (Z4 cx st f ts xs) (λp=>if p.1=g/\XaV k fs.md=true then rwP cx st fs p.2 k n p.2[k]? else none):=by
 simp only[XaW,Xb]
 cases Z4 cx st f ts xs with
 | none=>rfl
 | some p =>
  obtain⟨g',as⟩:=p
  simp only
  split
  ·cases as[k]? with
   | none=>rfl
   | some a=>cases a<;>rfl
  ·rfl
def rwA(st:St)(pl:Pl)(n:Nat)(r:AV):Option AV->Option (AV×St)
 | some (.agg cs)=>Xb (node st pl) (λcells=>some (r,(Xg st pl (cells.take pl.c++cs++cells.drop (pl.c+n))).cut pl n))
 | _=>none
def XjN(pl:Pl)(n:Nat)(r:AV)(cs:List AV):rwA st pl n r (some (.agg cs))=Xb (node st pl) (λcells=>some (r,(Xg st pl (cells.take pl.c++cs++cells.drop (pl.c+n))).cut pl n)):=nr rfl
def rwR(st:St)(pl:Pl)(k n:Nat)(p:AV×List AV):Option (AV×St):=rwA st pl n p.1 p.2[k]?
def XkZ(pl:Pl)(k n:Nat)(r:AV)(os:List AV):rwR st pl k n (r,os)=rwA st pl n r os[k]?:=nr rfl
def XhU(md:List Md)(F:List AV->Option (AV×List AV))(b:Bool)(as:List AV)(k n:Nat)(pl:Pl):Xbe cx st ⟨md,F,b⟩ as k n pl=Xb (Yp (!b) (some (pl.e,pl.r)) st md as []) (λbs=>Xb (F bs) (rwR st pl k n)):=by
 simp only[Xbe,Xb,rwR]
 cases Yp (!b) (some (pl.e,pl.r)) st md as [] with
 | none=>rfl
 | some bs =>
  simp only
  cases F bs with
  | none=>rfl
  | some p =>
   obtain⟨r,os⟩:=p
   simp only[rwA]
   cases os[k]? with
   | none=>rfl
   | some a =>
    cases a<;>try rfl
    simp only[Xb]
    cases node st pl<;>rfl
def XeK(m:Md)(ms:List Md):XaV 0 (m :: ms)=ms.all YQ:=nr rfl
def XeL(k n:Nat)(ms:List Md):XaV (k+1) (.ro n :: ms)=XaV k ms:=nr rfl
def XdA(xs:List Operand):weakAll st [] xs=some st:=by cases xs<;>rfl
def XeM(n:Nat)(ms:List Md)(x:Operand)(xs:List Operand):weakAll st (.ro n :: ms) (x :: xs)=Xb (weakArg st x) (λs=>weakAll s ms xs):=by
 simp only[weakAll,Xb]; cases weakArg st x<;>rfl
def XeN(n:Nat)(ms:List Md)(x:Operand)(xs:List Operand):weakAll st (.rw n :: ms) (x :: xs)=weakAll st ms xs:=by simp only[weakAll]
def XeO(ms:List Md)(x:Operand)(xs:List Operand):weakAll st (.mv :: ms) (x :: xs)=weakAll st ms xs:=by simp only[weakAll]
def Qq(st:St)(x:Operand):AV->Option St
 | .agg cs=>Zj x cs.length 0 st
 | a=>weakLeaf st a
def Xgh(x:Operand):weakArg st x=Qq st x (view st x):=by simp only[weakArg,Qq]; cases view st x<;>rfl
def XcQ(x:Operand)(j:Nat):Zj x 0 j st=some st:=nr rfl
def XjO(x:Operand)(n j:Nat)(st:St):AV->Option St
 | .agg cs=>Xb cs[j]? (λa=>Xb (weakLeaf st a) (λs=>Zj x n (j+1) s))
 | _=>none
def Xgi(x:Operand)(n j:Nat)(cs:List AV):XjO x n j st (.agg cs)=Xb cs[j]? (λa=>Xb (weakLeaf st a) (λs=>Zj x n (j+1) s)):=nr rfl
def XcR(x:Operand)(n j:Nat):Zj x (n+1) j st=XjO x n j st (view st x):=by
 simp only[Zj,XjO]
 cases view st x with
 | agg cs =>
  simp only[Xb]
  cases cs[j]? with
  | none=>rfl
  | some a=>simp only; cases weakLeaf st a<;>rfl
 | _=>rfl
def Xgj(st:St)(pl:Pl)(z':Nat)(cells:List AV):Option AV->Option St
 | some (.sl .mut z es)=>if z'=z then(if Xv st pl then some ((Xg st pl (cells.set pl.c (.sl .app z (XA es)))).filt (keepP pl.e pl.r pl.path pl.c 1) (keepP pl.e pl.r pl.path pl.c 1)) else none) else none
 | _=>some st
def XjP(st:St)(pl:Pl)(z':Nat):Option (List AV)->Option St
 | some cells=>Xgj st pl z' cells cells[pl.c]?
 | none=>some st
def XdB(pl:Pl)(z' lo n:Nat):weakLeaf st (.rf pl z' lo n)=XjP st pl z' (node st pl):=by
 simp only[weakLeaf,XjP]
 cases node st pl with
 | none=>rfl
 | some cells=>rfl
def XeP(pl:Pl)(z':Nat)(cells:List AV):XjP st pl z' (some cells)=Xgj st pl z' cells cells[pl.c]?:=nr rfl
def Xgk(pl:Pl)(z':Nat)(cells:List AV)(z:Nat)(es:List (List AV)):Xgj st pl z' cells (some (.sl .mut z es))=if z'=z then(if Xv st pl=true then some ((Xg st pl (cells.set pl.c (.sl .app z (XA es)))).filt (keepP pl.e pl.r pl.path pl.c 1) (keepP pl.e pl.r pl.path pl.c 1)) else none) else none:=nr rfl
def XhV(pl:Pl)(z':Nat)(cells:List AV)(z:Nat)(es:List (List AV)):Xgj st pl z' cells (some (.sl .ro z es))=some st:=nr rfl
def Xgl(pl:Pl)(z':Nat)(cells:List AV)(z:Nat)(es:List (List AV)):Xgj st pl z' cells (some (.sl .app z es))=some st:=nr rfl
def Xlo(ys:List (AV×List (Option (Pl×Bool))))(st:St)(p:AV×List AV):Option (AV×St):=Xb (XL st p.2 ys) (λs=>some (p.1,s))
def Xgm(g:Nat)(md:List Md)(F:List AV->Option (AV×List AV))(b:Bool)(f:Operand)(ts:List TypeId)(xs:List Operand):Xaj cx st g ⟨md,F,b⟩ f ts xs=Xb (XE cx st md ts xs) (λp=>Xb (Z4 cx p.2 f ts xs) (λq=>if q.1=g/\(p.1.all λy=>y.2.all (Xfh p.2))=true then Xb (Yp (!b) none p.2 md q.2 p.1) (λbs=>Xb (F bs) (Xlo p.1 p.2)) else none)):=by
 simp only[Xaj,Xb,Xlo]
 cases XE cx st md ts xs with
 | none=>rfl
 | some p =>
  obtain⟨ys,s⟩:=p
  simp only
  cases Z4 cx s f ts xs with
  | none=>rfl
  | some q =>
   obtain⟨g',as⟩:=q
   simp only[Xfj]
   split
   ·cases Yp (!b) none s md as ys with
    | none=>rfl
    | some bs =>
     simp only
     cases F bs with
     | none=>rfl
     | some r =>
      obtain⟨v,os⟩:=r
      simp only
      cases XL s os ys<;>rfl
   ·rfl
def XdC(ts:List TypeId)(xs:List Operand):XE cx st [] ts xs=some ([],st):=by cases ts<;>cases xs<;>rfl
def Xgn(y:AV×List (Option (Pl×Bool)))(q:List (AV×List (Option (Pl×Bool)))×St):Option (List (AV×List (Option (Pl×Bool)))×St):=some (y :: q.1,q.2)
def XhW(y:AV×List (Option (Pl×Bool)))(l:List (AV×List (Option (Pl×Bool))))(s:St):Xgn y (l,s)=some (y :: l,s):=nr rfl
def XeQ(ms:List Md)(t:TypeId)(ts:List TypeId)(x:Operand)(xs:List Operand):XE cx st (.mv :: ms) (t :: ts) (x :: xs)=Xb (outArg (zOf cx t) st x) (λp=>Xb (XE cx p.2 ms ts xs) (Xgn p.1)):=by
 simp only[XE,Md.isMv,if_true,Xb,Xgn]
 cases outArg (zOf cx t) st x with
 | none=>rfl
 | some p=>obtain⟨y,s⟩:=p; simp only; cases XE cx s ms ts xs<;>rfl
def XeR(n:Nat)(ms:List Md)(t:TypeId)(ts:List TypeId)(x:Operand)(xs:List Operand):XE cx st (.ro n :: ms) (t :: ts) (x :: xs)=Xb (XE cx st ms ts xs) (Xgn (.u,[])):=by
 simp only[XE,Md.isMv,Bool.false_eq_true,if_false,Xb,Xgn]
 cases XE cx st ms ts xs<;>rfl
def XgG(z:Nat)(st:St)(x:Operand):AV->Option ((AV×List (Option (Pl×Bool)))×St)
 | .agg cs=>match Zm x cs.length 0 st with
  | some (ys,st')=>some ((.agg ys.1,ys.2),st')
  | none=>none
 | a=>match outLeaf st (fix z a) with
  | some (y,st')=>some ((y.1,[y.2]),st')
  | none=>none
def XhX(z:Nat)(x:Operand):outArg z st x=XgG z st x (view st x):=by
 simp only[outArg,XgG]
 cases view st x<;>rfl
def XjQ(p:(List AV×List (Option (Pl×Bool)))×St):Option ((AV×List (Option (Pl×Bool)))×St):=some ((.agg p.1.1,p.1.2),p.2)
def XhY(l:List AV)(r:List (Option (Pl×Bool)))(s:St):XjQ ((l,r),s)=some ((.agg l,r),s):=nr rfl
def XdD(p:(AV×Option (Pl×Bool))×St):Option ((AV×List (Option (Pl×Bool)))×St):=some ((p.1.1,[p.1.2]),p.2)
def XhZ(a:AV)(r:Option (Pl×Bool))(s:St):XdD ((a,r),s)=some ((a,[r]),s):=nr rfl
def Xh0(z:Nat)(x:Operand)(cs:List AV):XgG z st x (.agg cs)=Xb (Zm x cs.length 0 st) XjQ:=by
 simp only[XgG,Xb,XjQ]
 cases Zm x cs.length 0 st<;>rfl
def XjR(z:Nat)(x:Operand)(pl:Pl)(y lo n:Nat):XgG z st x (.rf pl y lo n)=Xb (outLeaf st (.rf pl y lo n)) XdD:=by
 simp only[XgG,fix,Xb,XdD]
 cases outLeaf st (.rf pl y lo n)<;>rfl
def XjS(z:Nat)(x:Operand)(t:Tag)(y:Nat)(es:List (List AV)):XgG z st x (.sl t y es)=Xb (outLeaf st (.sl t y es)) XdD:=by
 simp only[XgG,fix,Xb,XdD]
 cases outLeaf st (.sl t y es)<;>rfl
def Xh1(z:Nat)(x:Operand):XgG z st x .nil=Xb (outLeaf st (fix z .nil)) XdD:=by
 simp only[XgG,Xb,XdD]
 cases outLeaf st (fix z .nil)<;>rfl
def XdE(x:Operand)(j:Nat):Zm x 0 j st=some (([],[]),st):=nr rfl
def Xlp(y:AV×Option (Pl×Bool))(q:(List AV×List (Option (Pl×Bool)))×St):Option ((List AV×List (Option (Pl×Bool)))×St):=some ((y.1 :: q.1.1,y.2 :: q.1.2),q.2)
def XjT(a:AV)(r:Option (Pl×Bool))(l:List AV)(rs:List (Option (Pl×Bool)))(s:St):Xlp (a,r) ((l,rs),s)=some ((a :: l,r :: rs),s):=nr rfl
def Xl1(x:Operand)(n j:Nat)(st:St):AV->Option ((List AV×List (Option (Pl×Bool)))×St)
 | .agg cs=>Xb cs[j]? (λa=>Xb (outLeaf st a) (λp=>Xb (Zm x n (j+1) p.2) (Xlp p.1)))
 | _=>none
def Xh2(x:Operand)(n j:Nat)(cs:List AV):Xl1 x n j st (.agg cs)=Xb cs[j]? (λa=>Xb (outLeaf st a) (λp=>Xb (Zm x n (j+1) p.2) (Xlp p.1))):=nr rfl
def XdF(x:Operand)(n j:Nat):Zm x (n+1) j st=Xl1 x n j st (view st x):=by
 simp only[Zm,Xl1]
 cases view st x with
 | agg cs =>
  simp only[Xb,Xlp]
  cases cs[j]? with
  | none=>rfl
  | some a =>
   simp only
   cases outLeaf st a with
   | none=>rfl
   | some p=>obtain⟨y,s⟩:=p; simp only; cases Zm x n (j+1) s<;>rfl
 | _=>rfl
def Xl2(st:St)(pl:Pl)(z' lo n:Nat)(cells:List AV):Option AV->Option ((AV×Option (Pl×Bool))×St)
 | some (.sl .mut z es)=>if(lo=0/\n=es.length)/\z'=z then(if Xv st pl=true then some ((.sl .mut z es,some (pl,whole st pl)),(Xg st pl (cells.set pl.c .u)).cut pl 1) else none) else none
 | _=>none
def Xh3(pl:Pl)(z' lo n:Nat)(cells:List AV)(z:Nat)(es:List (List AV)):Xl2 st pl z' lo n cells (some (.sl .mut z es))=if(lo=0/\n=es.length)/\z'=z then(if Xv st pl=true then some ((.sl .mut z es,some (pl,whole st pl)),(Xg st pl (cells.set pl.c .u)).cut pl 1) else none) else none:=nr rfl
def XeS(pl:Pl)(z' lo n:Nat):outLeaf st (.rf pl z' lo n)=Xb (node st pl) (λcells=>Xl2 st pl z' lo n cells cells[pl.c]?):=by
 simp only[outLeaf,Xb]
 cases node st pl with
 | none=>rfl
 | some cells=>simp only[Xl2]; rfl
def Xl3(st:St)(z:Nat)(pl:Pl)(y lo n:Nat)(cells:List AV):Option AV->Option St
 | some (.sl .mut z' es)=>if((lo+n<=es.length/\z'=z)/\y=z)/\(Xv st pl&&Xfh ((Xg st pl (cells.set pl.c .u)).cut pl 1) (some (pl,whole st pl)))=true then Xx ((Xg st pl (cells.set pl.c .u)).cut pl 1) (.sl .mut z (YC z lo n es)) (some (pl,whole st pl)) else none
 | _=>none
def Xh4(z:Nat)(pl:Pl)(y lo n:Nat)(cells:List AV)(z':Nat)(es:List (List AV)):Xl3 st z pl y lo n cells (some (.sl .mut z' es))=if((lo+n<=es.length/\z'=z)/\y=z)/\(Xv st pl&&Xfh ((Xg st pl (cells.set pl.c .u)).cut pl 1) (some (pl,whole st pl)))=true then Xx ((Xg st pl (cells.set pl.c .u)).cut pl 1) (.sl .mut z (YC z lo n es)) (some (pl,whole st pl)) else none:=nr rfl
def Xgo(z b:Nat)(ze:List AV)(pl:Pl)(y lo n:Nat):US (.slice z b ze) st (.rf pl y lo n)=Xb (node st pl) (λcells=>Xl3 st z pl y lo n cells cells[pl.c]?):=by
 simp only[US,Xb]
 cases node st pl with
 | none=>rfl
 | some cells=>simp only[Xl3]; rfl
@[congr] def XiA{ti:TI}{a a':AV}(h:a=a'):US ti st a=US ti st a':=by rw[h]
def Xgp:Xfh st none=true:=nr rfl
def Xgq(pl:Pl):Xfh st (some (pl,true))=true:=nr rfl
def okN(c:Nat):Option (List AV)->Bool
 | some cells=>decide (c<cells.length)
 | none=>false
def Xh5(c:Nat)(cells:List AV):okN c (some cells)=decide (c<cells.length):=nr rfl
def XeT(pl:Pl):Xfh st (some (pl,false))=((!pl.e||top (st.env pl.r))&&okN pl.c (node st pl)):=nr rfl
def XdG(ys:List (AV×List (Option (Pl×Bool)))):XL st [] ys=some st:=by cases ys<;>rfl
def XcS(o:AV)(os:List AV)(a:AV)(ys:List (AV×List (Option (Pl×Bool)))):XL st (o :: os) ((a,[]) :: ys)=XL st os ys:=nr rfl
def XcT(os:List AV)(a:AV)(p:Option (Pl×Bool))(ps:List (Option (Pl×Bool)))(ys:List (AV×List (Option (Pl×Bool)))):XL st (.u :: os) ((a,p :: ps) :: ys)=XL st os ys:=nr rfl
def XdH(cs os:List AV)(a:AV)(p:Option (Pl×Bool))(ps:List (Option (Pl×Bool)))(ys:List (AV×List (Option (Pl×Bool)))):XL st (.agg cs :: os) ((a,p :: ps) :: ys)=Xb (XN st cs (p :: ps)) (λs=>XL s os ys):=by
 simp only[XL,Xb,Xfi,cellsOf]
 cases XN st cs (p :: ps)<;>rfl
def XeU(t:Tag)(z:Nat)(es:List (List AV))(os:List AV)(a:AV)(p:Option (Pl×Bool))(ps:List (Option (Pl×Bool)))(ys:List (AV×List (Option (Pl×Bool)))):XL st (.sl t z es :: os) ((a,p :: ps) :: ys)=Xb (XN st [.sl t z es] (p :: ps)) (λs=>XL s os ys):=by
 simp only[XL,Xb,Xfi,cellsOf]
 cases XN st [.sl t z es] (p :: ps)<;>rfl
def XdI(os:List AV):XL st os []=some st:=by cases os<;>rfl
def Xa1:XN st [] []=some st:=nr rfl
def XaH(a:AV)(as:List AV)(p:Option (Pl×Bool))(ps:List (Option (Pl×Bool))):XN st (a :: as) (p :: ps)=Xb (Xx st a p) (λs=>XN s as ps):=by
 simp only[XN,Xb]
 cases Xx st a p<;>rfl
def Xb4(a:AV):Xx st a none=some st:=nr rfl
def XjU(st:St)(r:Nat)(a:AV):AV->Option St
 | .u=>some (st.put r a)
 | _=>none
def XjV(r:Nat)(a:AV):XjU st r a .u=some (st.put r a):=nr rfl
def Xb5(pl:Pl)(t:Tag)(z:Nat)(es:List (List AV)):Xx st (.sl t z es) (some (pl,true))=XjU st pl.r (.sl t z es) (st.env pl.r):=by
 simp only[Xx,XjU]
 cases st.env pl.r<;>rfl
def XjW(st:St)(pl:Pl)(a:AV)(cells:List AV):Option AV->Option St
 | some .u=>if(Xv st pl&&(!pl.e||top (st.env pl.r)))=true then some (Xg st pl (cells.set pl.c a)) else none
 | _=>none
def XjX(pl:Pl)(a:AV)(cells:List AV):XjW st pl a cells (some .u)=if(Xv st pl&&(!pl.e||top (st.env pl.r)))=true then some (Xg st pl (cells.set pl.c a)) else none:=nr rfl
def Xa2(pl:Pl)(t:Tag)(z:Nat)(es:List (List AV)):Xx st (.sl t z es) (some (pl,false))=Xb (node st pl) (λcells=>XjW st pl (.sl t z es) cells cells[pl.c]?):=by
 simp only[Xx,Xb]
 cases node st pl with
 | none=>rfl
 | some cells =>
  simp only[XjW]
  cases cells[pl.c]? with
  | none=>rfl
  | some a=>cases a<;>rfl
def Xl4(st:St)(p:AV×List AV):Option (AV×St):=some (p.1,st)
def XjY(v:AV)(os:List AV):Xl4 st (v,os)=some (v,st):=nr rfl
def Xh6(g:Nat)(md:List Md)(F:List AV->Option (AV×List AV))(b:Bool)(f:Operand)(ts:List TypeId)(xs:List Operand)(h:md.all YQ=true) :
  Xaj cx st g ⟨md,F,b⟩ f ts xs=Xb (Z4 cx st f ts xs) (λq=>if q.1=g then Xb (Yp (!b) none st md q.2 []) (λbs=>Xb (F bs) (Xl4 st)) else none):=by
 have h1:∀(ms:List Md) (ts:List TypeId) (xs:List Operand),ms.all YQ=true->∃ys,XE cx st ms ts xs=some (ys,st)/\∀y∈ys,y=(AV.u,[]):=by
  intro ms
  induction ms with
  | nil=>intro ts xs _; exact⟨[],by simp[XE],by simp⟩
  | cons m ms ih =>
   intro ts xs hm
   simp only[List.all_cons,Bool.and_eq_true] at hm
   cases ts with
   | nil=>exact⟨[],by simp[XE],by simp⟩
   | cons t ts =>
    cases xs with
    | nil=>exact⟨[],by simp[XE],by simp⟩
    | cons x xs =>
     obtain⟨ys,e1,e2⟩:=ih ts xs hm.2
     have:m.isMv=false:=by cases m<;>first | rfl | cases hm.1
     exact⟨(.u,[]) :: ys,by simp only[XE,this,Bool.false_eq_true,if_false,e1],by simpa using e2⟩
 obtain⟨ys,e1,e2⟩:=h1 md ts xs h
 have h2:∀(ms:List Md) (as:List AV) (ys:List (AV×List (Option (Pl×Bool)))),ms.all YQ=true->(∀y∈ys,y=(AV.u,[]))->Yp (!b) none st ms as ys=Yp (!b) none st ms as []:=by
  intro ms
  induction ms with
  | nil=>intro as ys _ _; cases as<;>rfl
  | cons m ms ih =>
   intro as ys hm hy
   simp only[List.all_cons,Bool.and_eq_true] at hm
   cases as with
   | nil=>rfl
   | cons a as =>
    cases m with
    | ro n =>
     simp only[Yp,Q6,List.tail_nil]
     rw[ih as ys.tail hm.2 (λy hy'=>hy y (List.mem_of_mem_tail hy'))]
    | _=>cases hm.1
 have h3:∀(os:List AV) (ys:List (AV×List (Option (Pl×Bool)))),(∀y∈ys,y=(AV.u,[]))->XL st os ys=some st:=by
  intro os
  induction os with
  | nil=>intro ys _; cases ys<;>rfl
  | cons o os ih =>
   intro ys hy
   cases ys with
   | nil=>rfl
   | cons y ys =>
    have:=hy y (by simp)
    subst this
    simp only[XL]
    exact ih ys (λy hy'=>hy y (by simp[hy']))
 have h4:(ys.all λy=>y.2.all (Xfh st))=true:=by
  rw[List.all_eq_true]
  intro y hy
  rw[e2 y hy]; rfl
 rw[Xgm,e1]
 simp only[ZB,h4,and_true]
 congr 1
 funext q
 split
 ·rw[h2 md q.2 ys h e2]
  congr 1
  funext bs
  congr 1
  funext p
  simp only[Xlo,Xl4,h3 p.2 ys e2,ZB]
 ·rfl
end
end Go.Vm
set_option autoImplicit true
set_option relaxedAutoImplicit true
namespace Go.Vm
def k0:Xw q .u=.u :=nr rfl
def k1:Xw q .no=.no :=nr rfl
def k2:Xw q .ub=.ub :=nr rfl
def k3:Xw q (.b x)=(.b x) :=nr rfl
def k4:Xw q (.i k n)=(.i k n) :=nr rfl
def k5:Xw q (.s x)=(.s x) :=nr rfl
def k6:Xw q .nil=.nil :=nr rfl
def k7:Xw q (.rf pl y lo n)=(.rf pl y lo n) :=nr rfl
def k8:Xw q (.p pl)=(.p pl) :=nr rfl
def k9:Xw q (.pr cs)=(.pr cs) :=nr rfl
def k10:Xw q .pn=.pn :=nr rfl
def k11:Xw q (.fn f cs)=(.fn f cs) :=nr rfl
def k12:Xw q (.fs cs)=(.fs cs) :=nr rfl
def k13:Xw q (.agg cs)=(.agg cs) :=nr rfl
def k14:Xw q (.tup cs)=(.tup cs) :=nr rfl
def k15:Xw q (.sl .app z es)=.rf q z 0 es.length :=nr rfl
def k16:Xw q (.sl .mut z es)=.rf q z 0 es.length :=nr rfl
def k17:Xw q (.sl .ro z es)=.sl .ro z es :=nr rfl
def Qh(x:Nat)(a:AV):AV :=match a with
  | .agg cs => .agg (XY ⟨true,x,[],0⟩ 0 cs)
  | .tup _ => .u
  | a => Xw ⟨true,x,[],0⟩ a
def k18:view st (.tmp x)=Qh x (st.env x) :=nr rfl
def k19:view st (.const v)=Xef v :=nr rfl
def k20:view st (.func f)=.fn f [] :=nr rfl
def k21:Qh x .u=.u :=nr rfl
def k22:Qh x .no=.no :=nr rfl
def k23:Qh x .ub=.ub :=nr rfl
def k24:Qh x (.i k n)=(.i k n) :=nr rfl
def k25:Qh x .nil=.nil :=nr rfl
def k26:Qh x (.rf pl y lo n)=(.rf pl y lo n) :=nr rfl
def k27:Qh x (.p pl)=(.p pl) :=nr rfl
def k28:Qh x (.pr cs)=(.pr cs) :=nr rfl
def k29:Qh x .pn=.pn :=nr rfl
def k30:Qh x (.fn f cs)=(.fn f cs) :=nr rfl
def k31:Qh x (.fs cs)=(.fs cs) :=nr rfl
def k32:Qh x (.agg cs)=.agg (XY ⟨true,x,[],0⟩ 0 cs) :=nr rfl
def k33:Qh x (.tup cs)=.u :=nr rfl
def k34:Qh x (.b y)=.b y :=nr rfl
def k35:Qh x (.s y)=.s y :=nr rfl
def k36:Qh x (.sl .app z es)=.rf ⟨true,x,[],0⟩ z 0 es.length :=nr rfl
def k37:Qh x (.sl .mut z es)=.rf ⟨true,x,[],0⟩ z 0 es.length :=nr rfl
def k38:Qh x (.sl .ro z es)=.sl .ro z es :=nr rfl
def k39:XY q j []=[] :=nr rfl
def k40:XY q j (a :: l)=Xw {q with c :=j} a :: XY q (j+1) l :=nr rfl
def k41:Y9 .u=false :=nr rfl
def k42:Y9 .no=false :=nr rfl
def k43:Y9 .ub=false :=nr rfl
def k44:Y9 (.b x)=false :=nr rfl
def k45:Y9 (.i k n)=false :=nr rfl
def k46:Y9 (.s x)=false :=nr rfl
def k47:Y9 .nil=false :=nr rfl
def k48:Y9 (.sl t z es)=true :=nr rfl
def k49:Y9 (.rf pl y lo n)=false :=nr rfl
def k50:Y9 (.p pl)=false :=nr rfl
def k51:Y9 (.pr cs)=false :=nr rfl
def k52:Y9 .pn=false :=nr rfl
def k53:Y9 (.fn f cs)=false :=nr rfl
def k54:Y9 (.fs cs)=false :=nr rfl
def k55:Y9 (.agg cs)=false :=nr rfl
def k56:Y9 (.tup cs)=false :=nr rfl
def k57:Q8 .u=none :=nr rfl
def k58:Q8 .no=none :=nr rfl
def k59:Q8 .ub=none :=nr rfl
def k60:Q8 (.b x)=none :=nr rfl
def k61:Q8 (.i k n)=none :=nr rfl
def k62:Q8 (.s x)=none :=nr rfl
def k63:Q8 .nil=none :=nr rfl
def k64:Q8 (.sl t z es)=none :=nr rfl
def k65:Q8 (.rf pl y lo n)=none :=nr rfl
def k66:Q8 (.p pl)=none :=nr rfl
def k67:Q8 (.pr cs)=none :=nr rfl
def k68:Q8 .pn=none :=nr rfl
def k69:Q8 (.fn f cs)=none :=nr rfl
def k70:Q8 (.fs cs)=none :=nr rfl
def k71:Q8 (.agg cs)=none :=nr rfl
def k72:npP md st .u=none :=nr rfl
def k73:npP md st .no=none :=nr rfl
def k74:npP md st .ub=none :=nr rfl
def k75:npP md st (.b x)=none :=nr rfl
def k76:npP md st (.i k n)=none :=nr rfl
def k77:npP md st (.s x)=none :=nr rfl
def k78:npP md st .nil=none :=nr rfl
def k79:npP md st (.sl t z es)=none :=nr rfl
def k80:npP md st (.rf pl y lo n)=none :=nr rfl
def k81:npP md st (.pr cs)=none :=nr rfl
def k82:npP md st .pn=none :=nr rfl
def k83:npP md st (.fn f cs)=none :=nr rfl
def k84:npP md st (.fs cs)=none :=nr rfl
def k85:npP md st (.agg cs)=none :=nr rfl
def k86:npP md st (.tup cs)=none :=nr rfl
def k87:Ya .u=false :=nr rfl
def k88:Ya .no=false :=nr rfl
def k89:Ya .ub=false :=nr rfl
def k90:Ya (.b x)=false :=nr rfl
def k91:Ya (.i k n)=false :=nr rfl
def k92:Ya (.s x)=false :=nr rfl
def k93:Ya .nil=false :=nr rfl
def k94:Ya (.sl t z es)=true :=nr rfl
def k95:Ya (.rf pl y lo n)=false :=nr rfl
def k96:Ya (.p pl)=false :=nr rfl
def k97:Ya (.pr cs)=false :=nr rfl
def k98:Ya .pn=false :=nr rfl
def k99:Ya (.fn f cs)=false :=nr rfl
def XnL:Ya (.fs cs)=false :=nr rfl
def XnM:Ya (.agg cs)=cs.any Y9 :=nr rfl
def XnN:Ya (.tup cs)=false :=nr rfl
def XnO:Qr .u=true :=nr rfl
def XnP:Qr .no=false :=nr rfl
def XnQ:Qr .ub=true :=nr rfl
def XnR:Qr (.b x)=true :=nr rfl
def XnS:Qr (.i k n)=true :=nr rfl
def XnT:Qr (.s x)=true :=nr rfl
def XnU:Qr .nil=true :=nr rfl
def XnV:Qr (.sl t z es)=true :=nr rfl
def XnW:Qr (.rf pl y lo n)=false :=nr rfl
def XnX:Qr (.p pl)=true :=nr rfl
def XnY:Qr (.pr cs)=true :=nr rfl
def XnZ:Qr .pn=true :=nr rfl
def Xn0:Qr (.fn f cs)=false :=nr rfl
def Xn1:Qr (.fs cs)=false :=nr rfl
def Xn2:Qr (.agg cs)=false :=nr rfl
def Xn3:Qr (.tup cs)=false :=nr rfl
def Xn4:XD .u=true :=nr rfl
def Xn5:XD .no=false :=nr rfl
def Xn6:XD .ub=true :=nr rfl
def Xn7:XD (.b x)=true :=nr rfl
def Xn8:XD (.i k n)=true :=nr rfl
def Xn9:XD (.s x)=true :=nr rfl
def Xoa:XD .nil=true :=nr rfl
def Xob:XD (.sl t z es)=true :=nr rfl
def Xoc:XD (.rf pl y lo n)=false :=nr rfl
def Xod:XD (.p pl)=false :=nr rfl
def Xoe:XD (.pr cs)=true :=nr rfl
def Xof:XD .pn=true :=nr rfl
def Xog:XD (.fn f cs)=false :=nr rfl
def Xoh:XD (.fs cs)=false :=nr rfl
def Xoi:XD (.agg cs)=false :=nr rfl
def Xoj:XD (.tup cs)=false :=nr rfl
def Xok:top .u=false :=nr rfl
def Xol:top .no=false :=nr rfl
def Xom:top .ub=true :=nr rfl
def Xon:top (.b x)=true :=nr rfl
def Xoo:top (.i k n)=true :=nr rfl
def Xop:top (.s x)=true :=nr rfl
def Xoq:top .nil=true :=nr rfl
def Xor:top (.sl t z es)=true :=nr rfl
def Xos:top (.rf pl y lo n)=true :=nr rfl
def Xot:top (.p pl)=true :=nr rfl
def Xou:top (.pr cs)=true :=nr rfl
def Xov:top .pn=true :=nr rfl
def Xow:top (.fn f cs)=true :=nr rfl
def Xox:top (.fs cs)=true :=nr rfl
def Xoy:top (.agg cs)=true :=nr rfl
def Xoz:top (.tup cs)=false :=nr rfl
def XoA:Xbf .u=false :=nr rfl
def XoB:Xbf .no=false :=nr rfl
def XoC:Xbf .ub=false :=nr rfl
def XoD:Xbf (.b x)=false :=nr rfl
def XoE:Xbf (.i k n)=false :=nr rfl
def XoF:Xbf (.s x)=false :=nr rfl
def XoG:Xbf .nil=false :=nr rfl
def XoH:Xbf (.sl t z es)=false :=nr rfl
def XoI:Xbf (.rf pl y lo n)=false :=nr rfl
def XoJ:Xbf (.p pl)=false :=nr rfl
def XoK:Xbf (.pr cs)=false :=nr rfl
def XoL:Xbf .pn=false :=nr rfl
def XoM:Xbf (.fn f cs)=true :=nr rfl
def XoN:Xbf (.fs cs)=false :=nr rfl
def XoO:Xbf (.agg cs)=false :=nr rfl
def XoP:Xbf (.tup cs)=false :=nr rfl
def XoQ:Zs .u=false :=nr rfl
def XoR:Zs .no=false :=nr rfl
def XoS:Zs .ub=true :=nr rfl
def XoT:Zs (.b x)=true :=nr rfl
def XoU:Zs (.i k n)=true :=nr rfl
def XoV:Zs (.s x)=true :=nr rfl
def XoW:Zs .nil=true :=nr rfl
def XoX:Zs (.sl t z es)=true :=nr rfl
def XoY:Zs (.rf pl y lo n)=true :=nr rfl
def XoZ:Zs (.p pl)=true :=nr rfl
def Xo0:Zs (.pr cs)=true :=nr rfl
def Xo1:Zs .pn=true :=nr rfl
def Xo2:Zs (.fn f cs)=true :=nr rfl
def Xo3:Zs (.fs cs)=true :=nr rfl
def Xo4:Zs (.agg cs)=false :=nr rfl
def Xo5:Zs (.tup cs)=false :=nr rfl
def Xo6:fsV len st i []=if i=len then some [] else none :=nr rfl
def fsK(x:Bool)(a:AV)(r:Option (List AV)):Option (List AV) :=if x then(match r with | some l => some (a :: l) | none => none) else none
def Xo7:fsK true a (some l)=some (a :: l) :=nr rfl
def Xo8:fsV len st i ((j,x) :: r)=if i=j then fsK (Xbf (view st x)) (view st x) (fsV len st (i+1) r) else none :=by simp only[fsV,fsK]; split<;>rfl
def Xo9:cellsOf .u=[.u] :=nr rfl
def Xpa:cellsOf .no=[.no] :=nr rfl
def Xpb:cellsOf .ub=[.ub] :=nr rfl
def Xpc:cellsOf (.b x)=[(.b x)] :=nr rfl
def Xpd:cellsOf (.i k n)=[(.i k n)] :=nr rfl
def Xpe:cellsOf (.s x)=[(.s x)] :=nr rfl
def Xpf:cellsOf .nil=[.nil] :=nr rfl
def Xpg:cellsOf (.sl t z es)=[(.sl t z es)] :=nr rfl
def Xph:cellsOf (.rf pl y lo n)=[(.rf pl y lo n)] :=nr rfl
def Xpi:cellsOf (.p pl)=[(.p pl)] :=nr rfl
def Xpj:cellsOf (.pr cs)=[(.pr cs)] :=nr rfl
def Xpk:cellsOf .pn=[.pn] :=nr rfl
def Xpl:cellsOf (.fn f cs)=[(.fn f cs)] :=nr rfl
def Xpm:cellsOf (.fs cs)=[(.fs cs)] :=nr rfl
def Xpn:cellsOf (.agg cs)=cs :=nr rfl
def Xpo:cellsOf (.tup cs)=[(.tup cs)] :=nr rfl
def Xpp:plain .u=false :=nr rfl
def Xpq:plain .no=false :=nr rfl
def Xpr:plain .ub=false :=nr rfl
def Xps:plain (.b x)=true :=nr rfl
def Xpt:plain (.i k n)=true :=nr rfl
def Xpu:plain (.s x)=true :=nr rfl
def Xpv:plain .nil=false :=nr rfl
def Xpw:plain (.rf pl y lo n)=false :=nr rfl
def Xpx:plain (.p pl)=false :=nr rfl
def Xpy:plain (.pr cs)=false :=nr rfl
def Xpz:plain .pn=true :=nr rfl
def XpA:plain (.fn f cs)=false :=nr rfl
def XpB:plain (.fs cs)=false :=nr rfl
def XpC:plain (.agg cs)=false :=nr rfl
def XpD:plain (.tup cs)=false :=nr rfl
def XpE:plain (.sl .ro z es)=true :=nr rfl
def XpF:fix m .u=.u :=nr rfl
def XpG:fix m .no=.no :=nr rfl
def XpH:fix m .ub=.ub :=nr rfl
def XpI:fix m (.b x)=(.b x) :=nr rfl
def XpJ:fix m (.i k n)=(.i k n) :=nr rfl
def XpK:fix m (.s x)=(.s x) :=nr rfl
def XpL:fix m (.sl t z es)=(.sl t z es) :=nr rfl
def XpM:fix m (.rf pl y lo n)=(.rf pl y lo n) :=nr rfl
def XpN:fix m (.p pl)=(.p pl) :=nr rfl
def XpO:fix m (.pr cs)=(.pr cs) :=nr rfl
def XpP:fix m .pn=.pn :=nr rfl
def XpQ:fix m (.fn f cs)=(.fn f cs) :=nr rfl
def XpR:fix m (.fs cs)=(.fs cs) :=nr rfl
def XpS:fix m (.agg cs)=(.agg cs) :=nr rfl
def XpT:fix m (.tup cs)=(.tup cs) :=nr rfl
def XpU:fix 0 .nil=.nil :=nr rfl
def XpV:fix (m+1) .nil=.sl .mut (m+1) [] :=nr rfl
def XpW:fix 1 .nil=.sl .mut 1 [] :=nr rfl
def XpX:fix 2 .nil=.sl .mut 2 [] :=nr rfl
def XpY:fix 3 .nil=.sl .mut 3 [] :=nr rfl
def XpZ:fix 4 .nil=.sl .mut 4 [] :=nr rfl
def Xp0:fix 5 .nil=.sl .mut 5 [] :=nr rfl
def Xp1:fix 6 .nil=.sl .mut 6 [] :=nr rfl
def Xp2:fix 7 .nil=.sl .mut 7 [] :=nr rfl
def Xp3:fix 8 .nil=.sl .mut 8 [] :=nr rfl
def Xp4:fix 9 .nil=.sl .mut 9 [] :=nr rfl
def Xp5:fix 10 .nil=.sl .mut 10 [] :=nr rfl
def Xp6:fix 11 .nil=.sl .mut 11 [] :=nr rfl
def Xp7:filt kp kr .u=.u :=nr rfl
def Xp8:filt kp kr .no=.no :=nr rfl
def Xp9:filt kp kr .ub=.ub :=nr rfl
def Xqa:filt kp kr (.b x)=(.b x) :=nr rfl
def Xqb:filt kp kr (.i k n)=(.i k n) :=nr rfl
def Xqc:filt kp kr (.s x)=(.s x) :=nr rfl
def Xqd:filt kp kr .nil=.nil :=nr rfl
def Xqe:filt kp kr (.sl t z es)=(.sl t z es) :=nr rfl
def Xqf:filt kp kr (.pr cs)=(.pr cs) :=nr rfl
def Xqg:filt kp kr .pn=.pn :=nr rfl
def Xqh:filt kp kr (.fn f cs)=.fn f (XJ kp kr cs) :=nr rfl
def Xqi:filt kp kr (.fs cs)=.fs (XJ kp kr cs) :=nr rfl
def Xqj:filt kp kr (.agg cs)=.agg (XJ kp kr cs) :=nr rfl
def Xqk:filt kp kr (.tup cs)=.tup (XJ kp kr cs) :=nr rfl
def fA(b:Bool)(a:AV):AV :=if b then a else .u
def Xql:fA true a=a :=nr rfl
def Xqm:fA false a=.u :=nr rfl
def Xqn:filt kp kr (.p q)=fA (kp q) (.p q) :=nr rfl
def Xqo:filt kp kr (.rf q y lo n)=fA (kr q) (.rf q y lo n) :=nr rfl
def Xqp:XJ kp kr []=[] :=nr rfl
def Xqq:XJ kp kr (a :: l)=filt kp kr a :: XJ kp kr l :=nr rfl
def Xqr:XO st .u=some (.u,st) :=nr rfl
def Xqs:XO st .no=some (.no,st) :=nr rfl
def Xqt:XO st .ub=some (.ub,st) :=nr rfl
def Xqu:XO st (.b x)=some ((.b x),st) :=nr rfl
def Xqv:XO st (.i k n)=some ((.i k n),st) :=nr rfl
def Xqw:XO st (.s x)=some ((.s x),st) :=nr rfl
def Xqx:XO st .nil=some (.nil,st) :=nr rfl
def Xqy:XO st (.sl t z es)=some ((.sl t z es),st) :=nr rfl
def Xqz:XO st (.rf pl y lo n)=takeRf st pl y lo n :=nr rfl
def XqA:XO st (.p pl)=some ((.p pl),st) :=nr rfl
def XqB:XO st (.pr cs)=some ((.pr cs),st) :=nr rfl
def XqC:XO st .pn=some (.pn,st) :=nr rfl
def XqD:XO st (.fn f cs)=some ((.fn f cs),st) :=nr rfl
def XqE:XO st (.fs cs)=some ((.fs cs),st) :=nr rfl
def XqF:XO st (.agg cs)=some ((.agg cs),st) :=nr rfl
def XqG:XO st (.tup cs)=none :=nr rfl
def XqH:takeVal st .u=some (.u,st) :=nr rfl
def XqI:takeVal st .no=some (.no,st) :=nr rfl
def XqJ:takeVal st .ub=some (.ub,st) :=nr rfl
def XqK:takeVal st (.b x)=some ((.b x),st) :=nr rfl
def XqL:takeVal st (.i k n)=some ((.i k n),st) :=nr rfl
def XqM:takeVal st (.s x)=some ((.s x),st) :=nr rfl
def XqN:takeVal st .nil=some (.nil,st) :=nr rfl
def XqO:takeVal st (.sl t z es)=some ((.sl t z es),st) :=nr rfl
def XqP:takeVal st (.rf pl y lo n)=takeRf st pl y lo n :=nr rfl
def XqQ:takeVal st (.p pl)=some ((.p pl),st) :=nr rfl
def XqR:takeVal st (.pr cs)=some ((.pr cs),st) :=nr rfl
def XqS:takeVal st .pn=some (.pn,st) :=nr rfl
def XqT:takeVal st (.fn f cs)=some ((.fn f cs),st) :=nr rfl
def XqU:takeVal st (.fs cs)=some ((.fs cs),st) :=nr rfl
def XqV:takeVal st (.tup cs)=none :=nr rfl
def Xl5(x:Option (List AV×St)):Option (AV×St) :=match x with
  | some (cs,st) => some (.agg cs,st)
  | none => none
def XqW:takeVal st (.agg cs)=if cs.any Xb6 then Xl5 (takeL st cs) else some (.agg cs,st) :=by simp only[takeVal,Xl5]; split<;>cases takeL st cs<;>rfl
def XqX:Xb6 .u=false :=nr rfl
def XqY:Xb6 .no=false :=nr rfl
def XqZ:Xb6 .ub=false :=nr rfl
def Xq0:Xb6 (.b x)=false :=nr rfl
def Xq1:Xb6 (.i k n)=false :=nr rfl
def Xq2:Xb6 (.s x)=false :=nr rfl
def Xq3:Xb6 .nil=false :=nr rfl
def Xq4:Xb6 (.sl t z es)=false :=nr rfl
def Xq5:Xb6 (.rf pl y lo n)=true :=nr rfl
def Xq6:Xb6 (.p pl)=false :=nr rfl
def Xq7:Xb6 (.pr cs)=false :=nr rfl
def Xq8:Xb6 .pn=false :=nr rfl
def Xq9:Xb6 (.fn f cs)=false :=nr rfl
def Xra:Xb6 (.fs cs)=false :=nr rfl
def Xrb:Xb6 (.agg cs)=false :=nr rfl
def Xrc:Xb6 (.tup cs)=false :=nr rfl
def Xrd:gone q=false :=nr rfl
def Xre:Xl5 (some (cs,st))=some (.agg cs,st) :=nr rfl
def XjZ(a:AV)(x:Option (List AV×St)):Option (List AV×St) :=match x with
  | some (cs,st) => some (a :: cs,st)
  | none => none
def Xrf:XjZ a (some (cs,st))=some (a :: cs,st) :=nr rfl
def Xrg:takeL st []=some ([],st) :=nr rfl
def Xrh:takeL st (a :: l)=Xb (XO st a) (λy => XjZ (filt gone gone y.1) (takeL y.2 l)) :=by simp only[takeL,Xb,XjZ]; cases XO st a<;>rfl
def XeV(st:St)(x:Nat)(b:Bool)(a:AV):Option (AV×St) :=if b then takeVal (clear st x) (filt (Xp true x) (Xp true x) a) else takeVal st a
@[congr] def Xj0{st:St}{x:Nat}{b b':Bool}{a:AV}(h:b=b'):XeV st x b a=XeV st x b' a :=by rw[h]
def QB(st:St)(x:Nat)(a:AV):Option (AV×St) :=XeV st x (Ya a) a
def Xri:take st (.tmp x)=QB st x (st.env x) :=nr rfl
def Xrj:QB st x .u=some (.u,st) :=nr rfl
def Xrk:QB st x .no=some (.no,st) :=nr rfl
def Xrl:QB st x .ub=some (.ub,st) :=nr rfl
def Xrm:QB st x (.b y)=some (.b y,st) :=nr rfl
def Xrn:QB st x (.i k n)=some ((.i k n),st) :=nr rfl
def Xro:QB st x (.s y)=some (.s y,st) :=nr rfl
def Xrp:QB st x .nil=some (.nil,st) :=nr rfl
def Xrq:QB st x (.sl t z es)=some (.sl t z es,clear st x) :=nr rfl
def Xrr:QB st x (.rf pl y lo n)=takeRf st pl y lo n :=nr rfl
def Xrs:QB st x (.p pl)=some ((.p pl),st) :=nr rfl
def Xrt:QB st x (.pr cs)=some ((.pr cs),st) :=nr rfl
def Xru:QB st x .pn=some (.pn,st) :=nr rfl
def Xrv:QB st x (.fn f cs)=some ((.fn f cs),st) :=nr rfl
def Xrw:QB st x (.fs cs)=some ((.fs cs),st) :=nr rfl
def Xrx:QB st x (.agg cs)=XeV st x (cs.any Y9) (.agg cs) :=nr rfl
def Xry:QB st x (.tup cs)=none :=nr rfl
def Xrz:XeV st x true a=takeVal (clear st x) (filt (Xp true x) (Xp true x) a) :=nr rfl
def XrA:XeV st x false a=takeVal st a :=nr rfl
def XrB:take st (.const v)=some (Xef v,st) :=nr rfl
def XrC:take st (.func f)=some (.fn f [],st) :=nr rfl
def Xkh(b:Bool)(l:List (Nat×AV))(m:List (Nat×List AV))(d:Nat)(v:AV):St :=if b then⟨E ((d,filt (Xp true d) (Xp true d) v) :: XfM (Xp true d) (Xp true d) l),B (XgF (Xp true d) (Xp true d) m)⟩ else⟨E ((d,v) :: l),B m⟩
@[congr] def Xki{b b':Bool}{l:List (Nat×AV)}{m:List (Nat×List AV)}{d:Nat}{v v':AV}(h:b=b')(h':v=v'):Xkh b l m d v=Xkh b' l m d v' :=by rw[h,h']
def XrD:St.put ⟨E l,B m⟩ d v=Xkh (Ya (E l d)) l m d v :=by simp only[St.put,Xkh,St.dropRoot,XaD,Xdm]
def XrE:Xkh false l m d v=⟨E ((d,v) :: l),B m⟩ :=nr rfl
def XrF:Xkh true l m d v=⟨E ((d,filt (Xp true d) (Xp true d) v) :: XfM (Xp true d) (Xp true d) l),B (XgF (Xp true d) (Xp true d) m)⟩ :=nr rfl
def XrG:St.put? st (some d) v=St.put st d v :=nr rfl
def XrH:St.put? st none v=st :=nr rfl
def isK(t k:Nat):Bool :=t==k
def XrI:isK t k=(t==k) :=nr rfl
def eK(b:Bool)(v x:AV):AV :=if b then v else x
@[congr] def Xlq{b b':Bool}{v x:AV}(h:b=b'):eK b v x=eK b' v x :=by rw[h]
def eB(b:Bool)(v x:List AV):List AV :=if b then v else x
@[congr] def Xlr{b b':Bool}{v x:List AV}(h:b=b'):eB b v x=eB b' v x :=by rw[h]
def Xm0:eK true v x=v :=nr rfl
def Xm1:eK false v x=x :=nr rfl
def Xm2:eB true v x=v :=nr rfl
def Xm3:eB false v x=x :=nr rfl
def XrJ:E ((k,v) :: r) t=eK (isK t k) v (E r t) :=by simp only[U3,eK,isK,beq_iff_eq]
def XrK:B ((k,v) :: r) t=eB (isK t k) v (B r t) :=by simp only[XaC,eB,isK,beq_iff_eq]
def XrL:clear ⟨E l,B m⟩ x=⟨E ((x,.u) :: XfM (Xp true x) (Xp true x) l),B (XgF (Xp true x) (Xp true x) m)⟩ :=by simp only[clear,St.dropRoot,XaD,Xdm]
def XrM:St.env ⟨f,g⟩=f :=nr rfl
def XrN:St.bx ⟨f,g⟩=g :=nr rfl
def Xkj(b:Bool)(l:List (Nat×AV))(m:List (Nat×List AV))(d:Nat)(cs:List AV):St :=if b then⟨E ((d,.p ⟨false,d,[],0⟩) :: l),B ((d,cs) :: m)⟩ else⟨E ((d,.p ⟨false,d,[],0⟩) :: XfM (Xp false d) (Xp false d) l),B ((d,XJ (Xp false d) (Xp false d) cs) :: XgF (Xp false d) (Xp false d) m)⟩
@[congr] def Xkk{b b':Bool}{l:List (Nat×AV)}{m:List (Nat×List AV)}{d:Nat}{cs cs':List AV}(h:b=b')(h':cs=cs'):Xkj b l m d cs=Xkj b' l m d cs' :=by rw[h,h']
def XrO:newBox ⟨E l,B m⟩ d cs=Xkj (B m d).isEmpty l m d cs :=by
  cases h:(B m d).isEmpty<;>simp only[newBox,Xkj,h,if_true,if_false,Bool.false_eq_true,St.dropRoot,XaD,Xdm,Xi4]
def XrP:YR st d (c :: cs)=if Ya (st.env d)=true then none else some (newBox st d (c :: cs)) :=nr rfl
def XrQ:Xkj true l m d cs=⟨E ((d,.p ⟨false,d,[],0⟩) :: l),B ((d,cs) :: m)⟩ :=nr rfl
def XrR:Xkj false l m d cs=⟨E ((d,.p ⟨false,d,[],0⟩) :: XfM (Xp false d) (Xp false d) l),B ((d,XJ (Xp false d) (Xp false d) cs) :: XgF (Xp false d) (Xp false d) m)⟩ :=nr rfl
def XrS:TI.size .bool=1 :=nr rfl
def XrT:TI.ag .bool=false :=nr rfl
def XrU:TI.z .bool=0 :=nr rfl
def XrV:TI.zero .bool=[.b false] :=nr rfl
def XrW:TI.size (.int k)=1 :=nr rfl
def XrX:TI.ag (.int k)=false :=nr rfl
def XrY:TI.z (.int k)=0 :=nr rfl
def XrZ:TI.zero (.int k)=[.i k 0] :=nr rfl
def Xr0:TI.size .str=1 :=nr rfl
def Xr1:TI.ag .str=false :=nr rfl
def Xr2:TI.z .str=0 :=nr rfl
def Xr3:TI.zero .str=[.s ⟨#[]⟩] :=nr rfl
def Xr4:TI.size .ptr=1 :=nr rfl
def Xr5:TI.ag .ptr=false :=nr rfl
def Xr6:TI.z .ptr=0 :=nr rfl
def Xr7:TI.zero .ptr=[.pn] :=nr rfl
def Xr8:TI.size .fn=1 :=nr rfl
def Xr9:TI.ag .fn=false :=nr rfl
def Xsa:TI.z .fn=0 :=nr rfl
def Xsb:TI.zero .fn=[.u] :=nr rfl
def Xsc:TI.size (.slice z b w)=1 :=nr rfl
def Xsd:TI.ag (.slice z b w)=false :=nr rfl
def Xse:TI.z (.slice z b w)=z :=nr rfl
def Xsf:TI.zero (.slice z b w)=[.sl .mut z []] :=nr rfl
def Xsg:TI.size (.struct n fl w)=n :=nr rfl
def Xsh:TI.ag (.struct n fl w)=true :=nr rfl
def Xsi:TI.z (.struct n fl w)=0 :=nr rfl
def Xsj:TI.zero (.struct n fl w)=w :=nr rfl
def Xsk:TI.size (.array n z ag w)=n*z :=nr rfl
def Xsl:TI.ag (.array n z ag w)=true :=nr rfl
def Xsm:TI.z (.array n z ag w)=0 :=nr rfl
def Xsn:TI.zero (.array n z ag w)=w :=nr rfl
def zK(x:Option TI):Nat :=match x with
  | some ti => ti.z
  | none => 0
def Xso:zOf cx t=zK (cx.T t) :=nr rfl
def Xsp:zK (some ti)=ti.z :=nr rfl
def Xsq:zK none=0 :=nr rfl
def Xl6(x:Option (Nat×Nat×Bool×Nat))(a:AV):Option AV :=match x with
  | some (off,_) => match a with
    | .p q => some (.p {q with c :=q.c+off})
    | .pr q => some (.pr (q.drop off))
    | _ => none
  | none => none
def Xsr:Q7 (.struct n fl w) f a=Xl6 (fl[f]?) a :=nr rfl
def Xss:Xl6 (some (off,y)) (.p ⟨e,r,path,c⟩)=some (.p ⟨e,r,path,c+off⟩) :=nr rfl
def Xst:Xl6 (some (off,y)) (.pr q)=some (.pr (q.drop off)) :=nr rfl
def Xsu:List.drop 0 l=l :=nr rfl
def Xsv:List.drop (n+1) (a :: l)=List.drop n l :=nr rfl
def Xsw:List.take 0 l=[] :=List.take_zero
def Xsx:List.take (n+1) (a :: l)=a :: List.take n l :=nr rfl
def Xsy:List.drop n ([]:List AV)=[] :=List.drop_nil
def Xm4(x:Option (Nat×Nat×Bool×Nat))(cs:List AV):Option AV :=match x with
  | some (off,n,ag,_) => if off+n<=cs.length then some (if ag then .agg ((cs.drop off).take n) else cs.getD off .u) else none
  | none => none
def Xsz:Xce (.struct m fl w) f (.agg cs)=Xm4 (fl[f]?) cs :=nr rfl
def Xj1(ti:TI)(pl:Pl)(cells:List AV):Option AV :=if pl.c+ti.size<=cells.length then(if ti.ag then some (.agg (XY pl pl.c ((cells.drop pl.c).take ti.size))) else some (Xw pl (cells.getD pl.c .u))) else none
def XsA:loadAt st ti (.p pl)=Xb (node st pl) (Xj1 ti pl) :=by simp only[loadAt,Xb,Xj1]; cases node st pl<;>rfl
def XsB:loadAt st ti (.pr cs)=if ti.size<=cs.length then(if ti.ag then some (.agg (cs.take ti.size)) else some (cs.getD 0 .u)) else none :=nr rfl
def XsC:node st ⟨e,r,path,c⟩=nav (Xa st e r) path :=nr rfl
def XsD:Xv st ⟨e,r,path,c⟩=wrt (Xa st e r) path :=nr rfl
def XsE:Xa st true r=cellsOf (st.env r) :=nr rfl
def XsF:Xa st false r=st.bx r :=nr rfl
def XsG:nav cs []=some cs :=nr rfl
def XsH:wrt cs []=true :=nr rfl
def Xl7(x:Option (Tag×List AV))(ps:List (Nat×Nat×Nat)):Option (List AV) :=match x with
  | some (_,row) => nav row ps
  | none => none
def Xk0(x:Option (Tag×List AV))(ps:List (Nat×Nat×Nat)):Bool :=match x with
  | some (.mut,row) => wrt row ps
  | _ => false
def XeW(i z:Nat)(a:Option AV):Option (Tag×List AV) :=match a with
  | some (.sl t z' es) => if z'=z then rowK t es[i]? else none
  | _ => none
  where rowK (t:Tag):Option (List AV)->Option (Tag×List AV)
  | some row => some (t,row)
  | none => none
def XsI:nav cs ((c,i,z) :: ps)=Xl7 (Yo cs c i z) ps :=by simp only[nav,Xl7]; cases Yo cs c i z<;>rfl
def XsJ:Xl7 (some (t,row)) ps=nav row ps :=nr rfl
def XsK:wrt cs ((c,i,z) :: ps)=Xk0 (Yo cs c i z) ps :=by
  simp only[wrt,Xk0]
  cases Yo cs c i z with
  | none => rfl
  | some x => obtain⟨t,row⟩ :=x; cases t<;>rfl
def XsL:Xk0 (some (.mut,row)) ps=wrt row ps :=nr rfl
def XsM:Xk0 (some (.ro,row)) ps=false :=nr rfl
def XsN:Xk0 (some (.app,row)) ps=false :=nr rfl
def XsO:Yo cs c i z=XeW i z cs[c]? :=by
  simp only[Yo,XeW]
  cases cs[c]? with
  | none => rfl
  | some a =>
    cases a<;>rfl
def XsP:XeW i z (some (.sl t z es))=XeW.rowK t es[i]? :=by simp only[XeW,if_true]
def XsQ:XeW.rowK t (some row)=some (t,row) :=nr rfl
def XsR:XB cs [] new=new :=nr rfl
def Xl8(cs:List AV)(c i:Nat)(ps:List (Nat×Nat×Nat))(new:List AV)(a:Option AV):List AV :=match a with
  | some (.sl t z es) => cs.set c (.sl t z (es.set i (XB (es.getD i []) ps new)))
  | _ => cs
def XsS:XB cs ((c,i,z) :: ps) new=Xl8 cs c i ps new cs[c]? :=by
  simp only[XB,Xl8]
  cases cs[c]? with
  | none => rfl
  | some a => cases a<;>rfl
def XsT:Xl8 cs c i ps new (some (.sl t z es))=cs.set c (.sl t z (es.set i (XB (es.getD i []) ps new))) :=nr rfl
def XsU:List.set (a :: l) 0 b=b :: l :=nr rfl
def XsV:List.set (a :: l) (n+1) b=a :: List.set l n b :=nr rfl
def XsW:Xg ⟨E l,B m⟩ ⟨false,r,path,c⟩ new=⟨E l,B ((r,XB (B m r) path new) :: m)⟩ :=by simp only[Xg,Xi4,Bool.false_eq_true,if_false]
def XsX:Xg ⟨E l,B m⟩ ⟨true,r,path,c⟩ new=⟨E ((r,Zh (E l r) (XB (cellsOf (E l r)) path new)) :: l),B m⟩ :=by simp only[Xg,Xdm,if_true,Xa]
def XsY:Zh .u new=new.headD .u :=nr rfl
def XsZ:Zh .no new=new.headD .u :=nr rfl
def Xs0:Zh .ub new=new.headD .u :=nr rfl
def Xs1:Zh (.b x) new=new.headD .u :=nr rfl
def Xs2:Zh (.i k n) new=new.headD .u :=nr rfl
def Xs3:Zh (.s x) new=new.headD .u :=nr rfl
def Xs4:Zh .nil new=new.headD .u :=nr rfl
def Xs5:Zh (.sl t z es) new=new.headD .u :=nr rfl
def Xs6:Zh (.rf pl y lo n) new=new.headD .u :=nr rfl
def Xs7:Zh (.p pl) new=new.headD .u :=nr rfl
def Xs8:Zh (.pr cs) new=new.headD .u :=nr rfl
def Xs9:Zh .pn new=new.headD .u :=nr rfl
def Xta:Zh (.fn f cs) new=new.headD .u :=nr rfl
def Xtb:Zh (.fs cs) new=new.headD .u :=nr rfl
def Xtc:Zh (.agg cs) new=.agg new :=nr rfl
def Xtd:Zh (.tup cs) new=new.headD .u :=nr rfl
def Xte:List.headD (a :: l) AV.u=a :=nr rfl
def Xtf:ZV st (.slice z b w) x (.i k n)=indexAddr st z x n :=nr rfl
def iaR(es:List (List AV)):Option Nat->Option AV
  | some j => some (.pr (es.getD j []))
  | none => none
def iaF(es:List AV):Option Nat->Option AV
  | some j => some (.pr [Vm.filt gone gone (es.getD j .u)])
  | none => none
def iaM(t:Tag)(pl:Pl)(z lo:Nat)(es:List (List AV)):Option Nat->Option AV
  | some j => (match t with
    | .mut => some (.p ⟨pl.e,pl.r,pl.path++[(pl.c,lo+j,z)],0⟩)
    | _ => some (.pr (Ye (es.getD (lo+j) []))))
  | none => none
def iaC(pl:Pl)(z zr lo n:Nat)(i:Int):Option AV->Option AV
  | some (.sl t z' es) => if(z=z'/\zr=z)/\lo+n<=es.length then iaM t pl z lo es (YH n i) else none
  | _ => none
def ixS(b:ByteArray):Option Nat->Option AV
  | some j => some (.i .u8 (b.data[j]?.getD 0).toNat)
  | none => none
def Xtg:iaR es (some j)=some (.pr (es.getD j [])) :=nr rfl
def Xth:iaF es (some j)=some (.pr [Vm.filt gone gone (es.getD j .u)]) :=nr rfl
def Xti:iaM .mut pl z lo es (some j)=some (.p ⟨pl.e,pl.r,pl.path++[(pl.c,lo+j,z)],0⟩) :=nr rfl
def Xtj:iaM .ro pl z lo es (some j)=some (.pr (Ye (es.getD (lo+j) []))) :=nr rfl
def Xtk:iaM .app pl z lo es (some j)=some (.pr (Ye (es.getD (lo+j) []))) :=nr rfl
def Xtl:iaC pl z zr lo n i (some (.sl t z' es))=if(z=z'/\zr=z)/\lo+n<=es.length then iaM t pl z lo es (YH n i) else none :=nr rfl
def Xtm:ixS b (some j)=some (.i .u8 (b.data[j]?.getD 0).toNat) :=nr rfl
def Xtn:indexAddr st z (.sl .ro z' es) i=if z=z' then iaR es (YH es.length i) else none :=by
  by_cases h:z=z'
  · simp only[indexAddr,if_pos h]; cases YH es.length i<;>rfl
  · simp only[indexAddr,if_neg h]
def Xto:indexAddr st z (.fs es) i=if z=1 then iaF es (YH es.length i) else none :=by
  by_cases h:z=1
  · simp only[indexAddr,if_pos h]; cases YH es.length i<;>rfl
  · simp only[indexAddr,if_neg h]
def Xtp:indexAddr st z (.rf pl zr lo n) i=Xb (node st pl) (λcells => iaC pl z zr lo n i cells[pl.c]?) :=by
  simp only[indexAddr,Xb]
  cases node st pl with
  | none => rfl
  | some cells =>
    simp only
    cases cells[pl.c]? with
    | none => rfl
    | some a =>
      cases a<;>rfl
def Xtq:QS (.array m z ag w) (.agg cs) (.i k n)=if z=1/\ag=false then XiK m cs n else none :=nr rfl
def Xtr:Xam 5 1 false=[(0,1,false,0),(1,1,false,0),(2,1,false,0),(3,1,false,0),(4,1,false,0)] :=nr rfl
def Xts:QS .str (.s b) (.i k n)=ixS b (YH b.size n) :=by simp only[QS,ixS]; cases YH b.size n<;>rfl
def Xtt:XbK .u=none :=nr rfl
def Xtu:XbK .no=none :=nr rfl
def Xtv:XbK .ub=none :=nr rfl
def Xtw:XbK (.b x)=none :=nr rfl
def Xtx:XbK (.i k n)=none :=nr rfl
def Xty:XbK (.s x)=none :=nr rfl
def Xtz:XbK .nil=none :=nr rfl
def XtA:XbK (.sl t z es)=none :=nr rfl
def XtB:XbK (.rf pl y lo n)=none :=nr rfl
def XtC:XbK (.p pl)=some (.p pl) :=nr rfl
def XtD:XbK (.pr cs)=some (.pr cs) :=nr rfl
def XtE:XbK .pn=none :=nr rfl
def XtF:XbK (.fn f cs)=none :=nr rfl
def XtG:XbK (.fs cs)=none :=nr rfl
def XtH:XbK (.agg cs)=none :=nr rfl
def XtI:XbK (.tup cs)=none :=nr rfl
def Xl9(f:Nat)(cs xs:List AV):fnV (.fn f cs) xs=some (f,xs++cs) :=nr rfl
def XtJ:strip .u=.u :=nr rfl
def XtK:strip .no=.u :=nr rfl
def XtL:strip .ub=.ub :=nr rfl
def XtM:strip (.b x)=(.b x) :=nr rfl
def XtN:strip (.i k n)=(.i k n) :=nr rfl
def XtO:strip (.s x)=(.s x) :=nr rfl
def XtP:strip .nil=.nil :=nr rfl
def XtQ:strip (.sl t z es)=.sl .ro z (XA es) :=nr rfl
def XtR:strip (.rf pl y lo n)=.u :=nr rfl
def XtS:strip (.p pl)=.u :=nr rfl
def XtT:strip (.pr cs)=(.pr cs) :=nr rfl
def XtU:strip .pn=.pn :=nr rfl
def XtV:strip (.fn f cs)=.u :=nr rfl
def XtW:strip (.fs cs)=.u :=nr rfl
def XtX:strip (.agg cs)=.u :=nr rfl
def XtY:strip (.tup cs)=.u :=nr rfl
def XtZ:XG .u=false :=nr rfl
def Xt0:XG .no=false :=nr rfl
def Xt1:XG .ub=false :=nr rfl
def Xt2:XG (.b x)=false :=nr rfl
def Xt3:XG (.i k n)=false :=nr rfl
def Xt4:XG (.s x)=false :=nr rfl
def Xt5:XG .nil=false :=nr rfl
def Xt6:XG (.rf pl y lo n)=false :=nr rfl
def Xt7:XG (.p pl)=false :=nr rfl
def Xt8:XG (.pr cs)=true :=nr rfl
def Xt9:XG .pn=false :=nr rfl
def Xua:XG (.fn f cs)=true :=nr rfl
def Xub:XG (.fs cs)=true :=nr rfl
def Xuc:XG (.agg cs)=XX cs :=nr rfl
def Xud:XG (.tup cs)=XX cs :=nr rfl
def Xue:XG (.sl .ro z es)=true :=nr rfl
def Xuf:XG (.sl .app z es)=true :=nr rfl
def Xug:XG (.sl .mut z es)=XV es :=nr rfl
def Xuh:XX []=false :=nr rfl
def Xui:XX (a :: l)=(XG a||XX l) :=nr rfl
def Xuj:XR .u=true :=nr rfl
def Xuk:XR .no=false :=nr rfl
def Xul:XR .ub=true :=nr rfl
def Xum:XR (.b x)=true :=nr rfl
def Xun:XR (.i k n)=true :=nr rfl
def Xuo:XR (.s x)=true :=nr rfl
def Xup:XR .nil=true :=nr rfl
def Xuq:XR (.sl t z es)=true :=nr rfl
def Xur:XR (.rf pl y lo n)=false :=nr rfl
def Xus:XR (.p pl)=false :=nr rfl
def Xut:XR (.pr cs)=true :=nr rfl
def Xuu:XR .pn=true :=nr rfl
def Xuv:XR (.fn f cs)=cs.all Yn :=nr rfl
def Xuw:XR (.fs cs)=false :=nr rfl
def Xux:XR (.agg cs)=cs.all XD :=nr rfl
def Xuy:XR (.tup cs)=false :=nr rfl
def Xuz:XaT ti0 E0 op0 .u a0=bin ti0 op0 .u a0 :=nr rfl
def XuA:XaT ti0 E0 op0 .no a0=bin ti0 op0 .no a0 :=nr rfl
def XuB:XaT ti0 E0 op0 .ub a0=bin ti0 op0 .ub a0 :=nr rfl
def XuC:XaT ti0 E0 op0 (.b x) a0=bin ti0 op0 (.b x) a0 :=nr rfl
def XuD:XaT ti0 E0 op0 (.i k n) a0=bin ti0 op0 (.i k n) a0 :=nr rfl
def XuE:XaT ti0 E0 op0 (.s x) a0=bin ti0 op0 (.s x) a0 :=nr rfl
def XuF:XaT ti0 E0 op0 .nil a0=bin ti0 op0 .nil a0 :=nr rfl
def XuG:XaT ti0 E0 op0 (.sl t z es) a0=bin ti0 op0 (.sl t z es) a0 :=nr rfl
def XuH:XaT ti0 E0 op0 (.rf pl y lo n) a0=bin ti0 op0 (.rf pl y lo n) a0 :=nr rfl
def XuI:XaT ti0 E0 op0 (.p pl) a0=bin ti0 op0 (.p pl) a0 :=nr rfl
def XuJ:XaT ti0 E0 op0 (.pr cs) a0=bin ti0 op0 (.pr cs) a0 :=nr rfl
def XuK:XaT ti0 E0 op0 .pn a0=bin ti0 op0 .pn a0 :=nr rfl
def XuL:XaT ti0 E0 op0 (.fn f cs) a0=bin ti0 op0 (.fn f cs) a0 :=nr rfl
def XuM:XaT ti0 E0 op0 (.fs cs) a0=bin ti0 op0 (.fs cs) a0 :=nr rfl
def XuN:XaT ti0 E0 op0 (.tup cs) a0=bin ti0 op0 (.tup cs) a0 :=nr rfl
def eqR(op:BinOp)(e:Option Bool):Option AV :=match e with | some e => eqB op e | none => none
def XuO:XaT ti0 (some ks) op0 (.agg a) (.agg b)=eqR op0 (XQ ks a b) :=by simp only[XaT,Xfg,eqR]; cases XQ ks a b<;>rfl
def XuP:eqR op (some e)=eqB op e :=nr rfl
def Xj2(p:Bool)(e:Option Bool):Option Bool :=match e with | some e => some (p&&e) | none => none
def XuQ:Xj2 p (some e)=some (p&&e) :=nr rfl
def XuR:XQ [] [] []=some true :=nr rfl
def XuS:XQ (0 :: ks) (.b x :: a) (.b y :: b)=Xj2 (x==y) (XQ ks a b) :=by simp only[XQ,Xj2]; cases XQ ks a b<;>rfl
def XuT:XQ (1 :: ks) (.i k x :: a) (.i k y :: b)=Xj2 (x==y) (XQ ks a b) :=by simp only[XQ,Xj2,if_true]; cases XQ ks a b<;>rfl
def XuU:XQ (2 :: ks) (.s x :: a) (.s y :: b)=Xj2 (x.toList==y.toList) (XQ ks a b) :=by simp only[XQ,Xj2]; cases XQ ks a b<;>rfl
def XuV:Yn .u=false :=nr rfl
def XuW:Yn .no=false :=nr rfl
def XuX:Yn .ub=false :=nr rfl
def XuY:Yn (.b x)=true :=nr rfl
def XuZ:Yn (.i k n)=true :=nr rfl
def Xu0:Yn (.s x)=true :=nr rfl
def Xu1:Yn .nil=false :=nr rfl
def Xu2:Yn (.rf pl y lo n)=false :=nr rfl
def Xu3:Yn (.p pl)=false :=nr rfl
def Xu4:Yn (.pr cs)=true :=nr rfl
def Xu5:Yn .pn=true :=nr rfl
def Xu6:Yn (.fn f cs)=false :=nr rfl
def Xu7:Yn (.fs cs)=false :=nr rfl
def Xu8:Yn (.agg cs)=false :=nr rfl
def Xu9:Yn (.tup cs)=false :=nr rfl
def Xva:Yn (.sl .ro z es)=true :=nr rfl
def Xvb:Z3 .u=Yn .u :=nr rfl
def Xvc:Z3 .no=Yn .no :=nr rfl
def Xvd:Z3 .ub=Yn .ub :=nr rfl
def Xve:Z3 (.b x)=Yn (.b x) :=nr rfl
def Xvf:Z3 (.i k n)=Yn (.i k n) :=nr rfl
def Xvg:Z3 (.s x)=Yn (.s x) :=nr rfl
def Xvh:Z3 .nil=Yn .nil :=nr rfl
def Xvi:Z3 (.sl t z es)=Yn (.sl t z es) :=nr rfl
def Xvj:Z3 (.rf pl y lo n)=Yn (.rf pl y lo n) :=nr rfl
def Xvk:Z3 (.p pl)=Yn (.p pl) :=nr rfl
def Xvl:Z3 (.pr cs)=Yn (.pr cs) :=nr rfl
def Xvm:Z3 .pn=Yn .pn :=nr rfl
def Xvn:Z3 (.fn f cs)=cs.all Yn :=nr rfl
def Xvo:Z3 (.fs cs)=Yn (.fs cs) :=nr rfl
def Xvp:Z3 (.agg cs)=Yn (.agg cs) :=nr rfl
def Xvq:Z3 (.tup cs)=Yn (.tup cs) :=nr rfl
def Xvr:Qs st d cs=if cs.all Z3=true then some (st.put d (.pr cs)) else none :=nr rfl
def Xvs:outLeaf st .u=if XD .u=true then some ((.u,none),st) else none :=nr rfl
def Xvt:outLeaf st .no=if XD .no=true then some ((.no,none),st) else none :=nr rfl
def Xvu:outLeaf st .ub=if XD .ub=true then some ((.ub,none),st) else none :=nr rfl
def Xvv:outLeaf st (.b x)=if XD (.b x)=true then some (((.b x),none),st) else none :=nr rfl
def Xvw:outLeaf st (.i k n)=if XD (.i k n)=true then some (((.i k n),none),st) else none :=nr rfl
def Xvx:outLeaf st (.s x)=if XD (.s x)=true then some (((.s x),none),st) else none :=nr rfl
def Xvy:outLeaf st .nil=if XD .nil=true then some ((.nil,none),st) else none :=nr rfl
def Xvz:outLeaf st (.sl t z es)=if XD (.sl t z es)=true then some (((.sl t z es),none),st) else none :=nr rfl
def XvA:outLeaf st (.p pl)=if XD (.p pl)=true then some (((.p pl),none),st) else none :=nr rfl
def XvB:outLeaf st (.pr cs)=if XD (.pr cs)=true then some (((.pr cs),none),st) else none :=nr rfl
def XvC:outLeaf st .pn=if XD .pn=true then some ((.pn,none),st) else none :=nr rfl
def XvD:outLeaf st (.fn f cs)=if XD (.fn f cs)=true then some (((.fn f cs),none),st) else none :=nr rfl
def XvE:outLeaf st (.fs cs)=if XD (.fs cs)=true then some (((.fs cs),none),st) else none :=nr rfl
def XvF:outLeaf st (.agg cs)=if XD (.agg cs)=true then some (((.agg cs),none),st) else none :=nr rfl
def XvG:outLeaf st (.tup cs)=if XD (.tup cs)=true then some (((.tup cs),none),st) else none :=nr rfl
def XvH:Xx st .u (some (pl0,b0))=some st :=nr rfl
def XvI:Xx st .no (some (pl0,b0))=some st :=nr rfl
def XvJ:Xx st .ub (some (pl0,b0))=some st :=nr rfl
def XvK:Xx st (.b x) (some (pl0,b0))=some st :=nr rfl
def XvL:Xx st (.i k n) (some (pl0,b0))=some st :=nr rfl
def XvM:Xx st (.s x) (some (pl0,b0))=some st :=nr rfl
def XvN:Xx st .nil (some (pl0,b0))=some st :=nr rfl
def XvO:Xx st (.rf pl y lo n) (some (pl0,b0))=some st :=nr rfl
def XvP:Xx st (.p pl) (some (pl0,b0))=some st :=nr rfl
def XvQ:Xx st (.pr cs) (some (pl0,b0))=some st :=nr rfl
def XvR:Xx st .pn (some (pl0,b0))=some st :=nr rfl
def XvS:Xx st (.fn f cs) (some (pl0,b0))=some st :=nr rfl
def XvT:Xx st (.fs cs) (some (pl0,b0))=some st :=nr rfl
def XvU:Xx st (.agg cs) (some (pl0,b0))=some st :=nr rfl
def XvV:Xx st (.tup cs) (some (pl0,b0))=some st :=nr rfl
def XvW:weakLeaf st .u=some st :=nr rfl
def XvX:weakLeaf st .no=some st :=nr rfl
def XvY:weakLeaf st .ub=some st :=nr rfl
def XvZ:weakLeaf st (.b x)=some st :=nr rfl
def Xv0:weakLeaf st (.i k n)=some st :=nr rfl
def Xv1:weakLeaf st (.s x)=some st :=nr rfl
def Xv2:weakLeaf st .nil=some st :=nr rfl
def Xv3:weakLeaf st (.sl t z es)=some st :=nr rfl
def Xv4:weakLeaf st (.p pl)=none :=nr rfl
def Xv5:weakLeaf st (.pr cs)=some st :=nr rfl
def Xv6:weakLeaf st .pn=some st :=nr rfl
def Xv7:weakLeaf st (.fn f cs)=none :=nr rfl
def Xv8:weakLeaf st (.fs cs)=none :=nr rfl
def Xv9:weakLeaf st (.agg cs)=none :=nr rfl
def Xwa:weakLeaf st (.tup cs)=none :=nr rfl
def Xwb:Qq st x0 .u=weakLeaf st .u :=nr rfl
def Xwc:Qq st x0 .no=weakLeaf st .no :=nr rfl
def Xwd:Qq st x0 .ub=weakLeaf st .ub :=nr rfl
def Xwe:Qq st x0 (.b x)=weakLeaf st (.b x) :=nr rfl
def Xwf:Qq st x0 (.i k n)=weakLeaf st (.i k n) :=nr rfl
def Xwg:Qq st x0 (.s x)=weakLeaf st (.s x) :=nr rfl
def Xwh:Qq st x0 .nil=weakLeaf st .nil :=nr rfl
def Xwi:Qq st x0 (.sl t z es)=weakLeaf st (.sl t z es) :=nr rfl
def Xwj:Qq st x0 (.rf pl y lo n)=weakLeaf st (.rf pl y lo n) :=nr rfl
def Xwk:Qq st x0 (.p pl)=weakLeaf st (.p pl) :=nr rfl
def Xwl:Qq st x0 (.pr cs)=weakLeaf st (.pr cs) :=nr rfl
def Xwm:Qq st x0 .pn=weakLeaf st .pn :=nr rfl
def Xwn:Qq st x0 (.fn f cs)=weakLeaf st (.fn f cs) :=nr rfl
def Xwo:Qq st x0 (.fs cs)=weakLeaf st (.fs cs) :=nr rfl
def Xwp:Qq st x0 (.agg cs)=Zj x0 cs.length 0 st :=nr rfl
def Xwq:Qq st x0 (.tup cs)=weakLeaf st (.tup cs) :=nr rfl
def Xwr:YX .u=true :=nr rfl
def Xws:YX .no=true :=nr rfl
def Xwt:YX .ub=true :=nr rfl
def Xwu:YX (.b x)=true :=nr rfl
def Xwv:YX (.i k n)=true :=nr rfl
def Xww:YX (.s x)=true :=nr rfl
def Xwx:YX .nil=true :=nr rfl
def Xwy:YX (.sl t z es)=true :=nr rfl
def Xwz:YX (.rf pl y lo n)=true :=nr rfl
def XwA:YX (.p pl)=true :=nr rfl
def XwB:YX (.pr cs)=true :=nr rfl
def XwC:YX .pn=true :=nr rfl
def XwD:YX (.fn f cs)=true :=nr rfl
def XwE:YX (.fs cs)=true :=nr rfl
def XwF:YX (.agg cs)=false :=nr rfl
def XwG:YX (.tup cs)=true :=nr rfl
def XwH:XC st z .u=none :=nr rfl
def XwI:XC st z .no=none :=nr rfl
def XwJ:XC st z .ub=none :=nr rfl
def XwK:XC st z (.b x)=none :=nr rfl
def XwL:XC st z (.i k n)=none :=nr rfl
def XwM:XC st z (.s x)=none :=nr rfl
def XwN:XC st z .nil=some [] :=nr rfl
def XwO:XC st z (.p pl)=none :=nr rfl
def XwP:XC st z (.pr cs)=none :=nr rfl
def XwQ:XC st z .pn=none :=nr rfl
def XwR:XC st z (.fn f cs)=none :=nr rfl
def XwS:XC st z (.fs cs)=none :=nr rfl
def XwT:XC st z (.agg cs)=none :=nr rfl
def XwU:XC st z (.tup cs)=none :=nr rfl
def XwV:XC st z (.sl t y es)=if y=z then some es else none :=nr rfl
def XwW:XC st z (.rf pl y lo n)=if y=z then Xy st (.rf pl y lo n) else none :=nr rfl
def XwX:Xk ow av st d .u=some .u :=by cases d<;>simp only[Xk]
def XwY:Xk ow av st d .no=none :=by cases d<;>simp only[Xk]
def XwZ:Xk ow av st d .ub=some .ub :=by cases d<;>simp only[Xk]
def Xw0:Xk ow av st d (.b x)=some (.b x) :=by cases d<;>simp only[Xk]
def Xw1:Xk ow av st d (.i k n)=some (.i k n) :=by cases d<;>simp only[Xk]
def Xw2:Xk ow av st d (.s x)=some (.s x) :=by cases d<;>simp only[Xk]
def Xw3:Xk ow av st d .nil=some .nil :=by cases d<;>simp only[Xk]
def Xw4:Xk ow av st d (.sl t z es)=some (.sl .ro z (XA es)) :=by cases d<;>simp only[Xk]
def Xw5:Xk ow av st d (.pr cs)=some (.pr cs) :=by cases d<;>simp only[Xk]
def Xw6:Xk ow av st d .pn=some .pn :=by cases d<;>simp only[Xk]
def Xw7:Xk ow av st d (.agg cs)=none :=by cases d<;>simp only[Xk]
def Xw8:Xk ow av st d (.tup cs)=none :=by cases d<;>simp only[Xk]
def prO(x:Option (List AV)):Option AV :=match x with
  | some cs => some (.pr cs)
  | none => none
def agO(x:Option (List AV)):Option AV :=match x with
  | some cs => some (.agg cs)
  | none => none
def fnO(f:Nat)(x:Option (List AV)):Option AV :=match x with
  | some cs => some (.fn f cs)
  | none => none
def fsO(x:Option (List AV)):Option AV :=match x with
  | some cs => some (.fs cs)
  | none => none
def coO(a:Option AV)(x:Option (List AV)):Option (List AV) :=match a,x with
  | some a,some l => some (a :: l)
  | _,_ => none
def Xw9:Zk ow av st .u=Xk ow av st 8 .u :=nr rfl
def Xxa:Zk ow av st .no=Xk ow av st 8 .no :=nr rfl
def Xxb:Zk ow av st .ub=Xk ow av st 8 .ub :=nr rfl
def Xxc:Zk ow av st (.b x)=Xk ow av st 8 (.b x) :=nr rfl
def Xxd:Zk ow av st (.i k n)=Xk ow av st 8 (.i k n) :=nr rfl
def Xxe:Zk ow av st (.s x)=Xk ow av st 8 (.s x) :=nr rfl
def Xxf:Zk ow av st .nil=Xk ow av st 8 .nil :=nr rfl
def Xxg:Zk ow av st (.sl t z es)=Xk ow av st 8 (.sl t z es) :=nr rfl
def Xxh:Zk ow av st (.rf pl y lo n)=Xk ow av st 8 (.rf pl y lo n) :=nr rfl
def Xxi:Zk ow av st (.p pl)=Xk ow av st 8 (.p pl) :=nr rfl
def Xxj:Zk ow av st (.pr cs)=Xk ow av st 8 (.pr cs) :=nr rfl
def Xxk:Zk ow av st .pn=Xk ow av st 8 .pn :=nr rfl
def Xxl:Zk ow av st (.fn f cs)=Xk ow av st 8 (.fn f cs) :=nr rfl
def Xxm:Zk ow av st (.fs cs)=Xk ow av st 8 (.fs cs) :=nr rfl
def Xxn:Zk ow av st (.agg cs)=agO (Xn ow av st 8 cs) :=by simp only[Zk,agO]; cases Xn ow av st 8 cs<;>rfl
def Xxo:Zk ow av st (.tup cs)=Xk ow av st 8 (.tup cs) :=nr rfl
def Xxp:prO (some cs)=some (.pr cs) :=nr rfl
def Xxq:agO (some cs)=some (.agg cs) :=nr rfl
def Xxr:fnO f (some cs)=some (.fn f cs) :=nr rfl
def Xxs:fsO (some cs)=some (.fs cs) :=nr rfl
def Xxt:coO (some a) (some l)=some (a :: l) :=nr rfl
def Xxu:Xk ow av st 1 (.p pl)=if(ow&&ZD av pl&&Xv st pl)=true then prO (Xb (node st pl) (λcells => Xn ow av st 0 (cells.drop pl.c))) else none :=by
  simp only[Xk,Xb,prO]
  cases node st pl with
  | none => rfl
  | some cells => simp only[]; cases Xn ow av st 0 (cells.drop pl.c)<;>rfl
def Xxv:Xk ow av st 1 (.fs cs)=fsO (Xn ow av st 0 cs) :=by
  simp only[Xk,fsO]; cases Xn ow av st 0 cs<;>rfl
def Xxw:Xk ow av st 1 (.fn f cs)=fnO f (Xn ow av st 0 cs) :=by
  simp only[Xk,fnO]; cases Xn ow av st 0 cs<;>rfl
def Xxx:Xk ow av st 2 (.p pl)=if(ow&&ZD av pl&&Xv st pl)=true then prO (Xb (node st pl) (λcells => Xn ow av st 1 (cells.drop pl.c))) else none :=by
  simp only[Xk,Xb,prO]
  cases node st pl with
  | none => rfl
  | some cells => simp only[]; cases Xn ow av st 1 (cells.drop pl.c)<;>rfl
def Xxy:Xk ow av st 2 (.fs cs)=fsO (Xn ow av st 1 cs) :=by
  simp only[Xk,fsO]; cases Xn ow av st 1 cs<;>rfl
def Xxz:Xk ow av st 2 (.fn f cs)=fnO f (Xn ow av st 1 cs) :=by
  simp only[Xk,fnO]; cases Xn ow av st 1 cs<;>rfl
def XxA:Xk ow av st 3 (.p pl)=if(ow&&ZD av pl&&Xv st pl)=true then prO (Xb (node st pl) (λcells => Xn ow av st 2 (cells.drop pl.c))) else none :=by
  simp only[Xk,Xb,prO]
  cases node st pl with
  | none => rfl
  | some cells => simp only[]; cases Xn ow av st 2 (cells.drop pl.c)<;>rfl
def XxB:Xk ow av st 3 (.fs cs)=fsO (Xn ow av st 2 cs) :=by
  simp only[Xk,fsO]; cases Xn ow av st 2 cs<;>rfl
def XxC:Xk ow av st 3 (.fn f cs)=fnO f (Xn ow av st 2 cs) :=by
  simp only[Xk,fnO]; cases Xn ow av st 2 cs<;>rfl
def XxD:Xk ow av st 4 (.p pl)=if(ow&&ZD av pl&&Xv st pl)=true then prO (Xb (node st pl) (λcells => Xn ow av st 3 (cells.drop pl.c))) else none :=by
  simp only[Xk,Xb,prO]
  cases node st pl with
  | none => rfl
  | some cells => simp only[]; cases Xn ow av st 3 (cells.drop pl.c)<;>rfl
def XxE:Xk ow av st 4 (.fs cs)=fsO (Xn ow av st 3 cs) :=by
  simp only[Xk,fsO]; cases Xn ow av st 3 cs<;>rfl
def XxF:Xk ow av st 4 (.fn f cs)=fnO f (Xn ow av st 3 cs) :=by
  simp only[Xk,fnO]; cases Xn ow av st 3 cs<;>rfl
def XxG:Xk ow av st 5 (.p pl)=if(ow&&ZD av pl&&Xv st pl)=true then prO (Xb (node st pl) (λcells => Xn ow av st 4 (cells.drop pl.c))) else none :=by
  simp only[Xk,Xb,prO]
  cases node st pl with
  | none => rfl
  | some cells => simp only[]; cases Xn ow av st 4 (cells.drop pl.c)<;>rfl
def XxH:Xk ow av st 5 (.fs cs)=fsO (Xn ow av st 4 cs) :=by
  simp only[Xk,fsO]; cases Xn ow av st 4 cs<;>rfl
def XxI:Xk ow av st 5 (.fn f cs)=fnO f (Xn ow av st 4 cs) :=by
  simp only[Xk,fnO]; cases Xn ow av st 4 cs<;>rfl
def XxJ:Xk ow av st 6 (.p pl)=if(ow&&ZD av pl&&Xv st pl)=true then prO (Xb (node st pl) (λcells => Xn ow av st 5 (cells.drop pl.c))) else none :=by
  simp only[Xk,Xb,prO]
  cases node st pl with
  | none => rfl
  | some cells => simp only[]; cases Xn ow av st 5 (cells.drop pl.c)<;>rfl
def XxK:Xk ow av st 6 (.fs cs)=fsO (Xn ow av st 5 cs) :=by
  simp only[Xk,fsO]; cases Xn ow av st 5 cs<;>rfl
def XxL:Xk ow av st 6 (.fn f cs)=fnO f (Xn ow av st 5 cs) :=by
  simp only[Xk,fnO]; cases Xn ow av st 5 cs<;>rfl
def XxM:Xk ow av st 7 (.p pl)=if(ow&&ZD av pl&&Xv st pl)=true then prO (Xb (node st pl) (λcells => Xn ow av st 6 (cells.drop pl.c))) else none :=by
  simp only[Xk,Xb,prO]
  cases node st pl with
  | none => rfl
  | some cells => simp only[]; cases Xn ow av st 6 (cells.drop pl.c)<;>rfl
def XxN:Xk ow av st 7 (.fs cs)=fsO (Xn ow av st 6 cs) :=by
  simp only[Xk,fsO]; cases Xn ow av st 6 cs<;>rfl
def XxO:Xk ow av st 7 (.fn f cs)=fnO f (Xn ow av st 6 cs) :=by
  simp only[Xk,fnO]; cases Xn ow av st 6 cs<;>rfl
def XxP:Xk ow av st 8 (.p pl)=if(ow&&ZD av pl&&Xv st pl)=true then prO (Xb (node st pl) (λcells => Xn ow av st 7 (cells.drop pl.c))) else none :=by
  simp only[Xk,Xb,prO]
  cases node st pl with
  | none => rfl
  | some cells => simp only[]; cases Xn ow av st 7 (cells.drop pl.c)<;>rfl
def XxQ:Xk ow av st 8 (.fs cs)=fsO (Xn ow av st 7 cs) :=by
  simp only[Xk,fsO]; cases Xn ow av st 7 cs<;>rfl
def XxR:Xk ow av st 8 (.fn f cs)=fnO f (Xn ow av st 7 cs) :=by
  simp only[Xk,fnO]; cases Xn ow av st 7 cs<;>rfl
def XxS:Xn ow av st d []=some [] :=by simp only[Xn]
def XxT:Xn ow av st d (a :: l)=coO (Xk ow av st d a) (Xn ow av st d l) :=by
  simp only[Xn,coO]
  cases Xk ow av st d a with
  | none => rfl
  | some a' => simp only[]; cases Xn ow av st d l<;>rfl
def Xk1(ow:Bool):Tag->Bool
  | .mut => ow
  | _ => true
def Xma(ow:Bool)(y lo n:Nat)(a:Option AV):Option AV :=match a with
  | some (.sl t z es) => if(lo+n<=es.length/\y=z)/\Xk1 ow t=true then some (.sl .ro y (XA ((es.drop lo).take n))) else none
  | _ => none
def XxU:Xk1 ow .mut=ow :=nr rfl
def XxV:Xk1 ow .ro=true :=nr rfl
def XxW:Xk1 ow .app=true :=nr rfl
def XxX:Xk ow av st d (.rf pl y lo n)=if ZD av pl=true then Xb (node st pl) (λcells => Xma ow y lo n cells[pl.c]?) else none :=by
  cases d<;>(simp only[Xk,Xb,Xma]; split<;>(try rfl); cases node st pl with
    | none => rfl
    | some cells => simp only[]; cases cells[pl.c]? with
      | none => rfl
      | some a => cases a<;>(try rfl); rename_i t z es; cases t<;>cases ow<;>simp[Xk1])
def XxY:Xy st .u=none :=nr rfl
def XxZ:Xy st .no=none :=nr rfl
def Xx0:Xy st .ub=none :=nr rfl
def Xx1:Xy st (.b x)=none :=nr rfl
def Xx2:Xy st (.i k n)=none :=nr rfl
def Xx3:Xy st (.s x)=none :=nr rfl
def Xx4:Xy st .nil=some [] :=nr rfl
def Xx5:Xy st (.sl t z es)=some es :=nr rfl
def Xx6:Xy st (.p pl)=none :=nr rfl
def Xx7:Xy st (.pr cs)=none :=nr rfl
def Xx8:Xy st .pn=none :=nr rfl
def Xx9:Xy st (.fn f cs)=none :=nr rfl
def Xya:Xy st (.fs cs)=none :=nr rfl
def Xyb:Xy st (.agg cs)=none :=nr rfl
def Xyc:Xy st (.tup cs)=none :=nr rfl
def Xyd:Xkc st .str (.s x)=some x.size :=nr rfl
def Xye:Xcg .str=true :=nr rfl
def Xyf:Xcg (.slice z b zero)=true :=nr rfl
def Xyg:Xkc st (.slice z b zero) a=lenOf st a :=nr rfl
def Xyh:Q4 .str (.s b) lo hi=Zi (.s b) lo hi :=nr rfl
def Xyi:Q4 (.slice z b zero) (.sl t z es) lo hi=Zi (.sl t z es) lo hi :=by simp only[Q4,if_true]
def Xyj:Q4 (.slice z b zero) (.rf pl z o n) lo hi=Zi (.rf pl z o n) lo hi :=by simp only[Q4,if_true]
def Xyk:lenOf st .u=none :=nr rfl
def Xyl:lenOf st .no=none :=nr rfl
def Xym:lenOf st .ub=none :=nr rfl
def Xyn:lenOf st (.b x)=none :=nr rfl
def Xyo:lenOf st (.i k n)=none :=nr rfl
def Xyp:lenOf st (.s x)=none :=nr rfl
def Xyq:lenOf st .nil=some 0 :=nr rfl
def Xyr:lenOf st (.sl t z es)=some es.length :=nr rfl
def Xys:lenOf st (.p pl)=none :=nr rfl
def Xyt:lenOf st (.pr cs)=none :=nr rfl
def Xyu:lenOf st .pn=none :=nr rfl
def Xyv:lenOf st (.fn f cs)=none :=nr rfl
def Xyw:lenOf st (.fs cs)=some cs.length :=nr rfl
def Xyx:lenOf st (.agg cs)=none :=nr rfl
def Xyy:lenOf st (.tup cs)=none :=nr rfl
def Xmb(y n lo:Nat)(a:Option AV):Option Nat :=match a with
  | some (.sl _ z es) => if lo+n<=es.length/\y=z then some ((es.drop lo).take n).length else none
  | _ => none
def Xmc(y n lo:Nat)(a:Option AV):Option (List (List AV)) :=match a with
  | some (.sl _ z es) => if lo+n<=es.length/\y=z then some ((es.drop lo).take n) else none
  | _ => none
def Xyz:Xy st (.rf pl y lo n)=Xb (node st pl) (λcells => Xmc y n lo cells[pl.c]?) :=by simp only[Xy,Xb,Xmc]; cases node st pl<;>rfl
def XyA:lenOf st (.rf pl y lo n)=Xb (node st pl) (λcells => Xmb y n lo cells[pl.c]?) :=by
  simp only[lenOf,Xy,Xb,Xmb]
  cases node st pl with
  | none => rfl
  | some cells =>
    simp only[]
    cases cells[pl.c]? with
    | none => rfl
    | some a =>
      cases a<;>try rfl
      rename_i t z es
      simp only[]
      by_cases h:lo+n<=es.length/\y=z
      · simp only[if_pos h]
      · simp only[if_neg h]
def XyB:bin ti op (.i k a) (.i k b)=Xc2 op k a b :=by simp only[bin,if_true]
def XyC:bin ti op (.s a) (.s b)=Xii op a b :=nr rfl
def XyD:bin (some .bool) op (.b a) (.b b)=eqB op (a==b) :=nr rfl
def XyE:bin (some .ptr) op (.p q) .pn=eqB op false :=nr rfl
def XyF:bin (some .ptr) op (.pr q) .pn=eqB op false :=nr rfl
def XyG:bin (some .ptr) op .pn .pn=eqB op true :=nr rfl
def XyH:Xc2 .add k a b=some (.i k (k.wrap (a+b))) :=nr rfl
def XyI:Xc2 .sub k a b=some (.i k (k.wrap (a-b))) :=nr rfl
def XyJ:Xc2 .mul k a b=some (.i k (k.wrap (a*b))) :=nr rfl
def XyK:Xc2 .eql k a b=some (.b (a==b)) :=nr rfl
def XyL:Xc2 .neq k a b=some (.b (a !=b)) :=nr rfl
def XyM:Xc2 .lss k a b=some (.b (decide (a<b))) :=nr rfl
def XyN:Xc2 .leq k a b=some (.b (decide (a<=b))) :=nr rfl
def XyO:Xc2 .gtr k a b=some (.b (decide (a>b))) :=nr rfl
def XyP:Xc2 .geq k a b=some (.b (decide (a>=b))) :=nr rfl
def XyQ:Xc2 .quo k a b=if b=0 then none else some (.i k (k.wrap (a.tdiv b))) :=nr rfl
def XyR:Xc2 .rem k a b=if b=0 then none else some (.i k (a.tmod b)) :=nr rfl
def XyS:Xii .eql a b=some (.b (a.toList==b.toList)) :=nr rfl
def XyT:Xii .neq a b=some (.b !(a.toList==b.toList)) :=nr rfl
def XyU:Xii .lss a b=some (.b (Op.bytesLess a.toList b.toList)) :=nr rfl
def XyV:Xii .add a b=if a.size+b.size<=9223372036854775807 then some (.s (a++b)) else none :=nr rfl
def XyW(e:Bool)(x:Option Bool):Option Bool :=match x with
  | some y => some (e&&y)
  | none => none
def XyX:XyW e (some y)=some (e&&y) :=nr rfl
def XyY:unV .not (.b x)=some (.b !x) :=nr rfl
def XyZ:unV .neg (.i k n)=some (.i k (k.wrap (0-n))) :=nr rfl
def Xy0:Xef (.bool x)=.b x :=nr rfl
def Xy1:Xef (.int k n)=.i k n :=nr rfl
def Xy2:Xef (.string x)=.s x :=nr rfl
def Xy3:Xef (.slice none 0 0)=.nil :=nr rfl
def Xy4:Xef (.pointer none)=.pn :=nr rfl
def Xy5:bin T op (.sl t z es) .nil=UR T op es.length :=nr rfl
def Xy6:bin T op (.rf q z lo n) .nil=UR T op n :=nr rfl
def Xy7:UR (some (.slice z b ze)) .eql n=if 0<n then some (.b false) else some .ub :=nr rfl
def Xy8:UR (some (.slice z b ze)) .neq n=if 0<n then some (.b true) else some .ub :=nr rfl
def Xls(f:Nat->AV)(g:Nat->List AV)(t j:Nat)(a:AV):Option (AV×St) :=match a with
  | .tup vs => match vs[j]? with
    | some v => some (v,⟨upd f t (.tup (vs.set j .u)),g⟩)
    | none => none
  | _ => none
def Xmd(f:Nat->AV)(g:Nat->List AV)(t j:Nat)(vs:List AV)(x:Option AV):Option (AV×St) :=match x with
  | some v => some (v,⟨upd f t (.tup (vs.set j .u)),g⟩)
  | none => none
def Xy9:Z5 ⟨f,g⟩ (.tmp t) j=Xls f g t j (f t) :=by simp only[Z5,Xls]; cases f t<;>rfl
def Xza:Xls f g t j (.tup vs)=Xmd f g t j vs vs[j]? :=by simp only[Xls,Xmd]
def Xzb:Xmd f g t j vs (some v)=some (v,⟨upd f t (.tup (vs.set j .u)),g⟩) :=nr rfl
attribute [go_sem ↓] Xhu Xjq Xhv Xjt XeF XcM XbA Xdo Xdp Xeu Xb1 Xdq Xdr Xds Xew Xex XeD XcL Xdu Xdv Xdn XcB Xb0 XfQ XfR XcC XcD XcE XcF XcG ZB Xd6 Xd7 XfX XaE Xby XaF Xbw Xbx XbB XaG XjB Xgd XjE XhB XkU XjF XhC Xdx XcN XhD XcO XhE XkV XlZ XeH XhH Xdy XeI XhI Xb3 XcP XkW Xgg XhJ XkX XkY XjG XhK XjH XhL XhM XjI XhO XhN Xh6 Xm0 Xm1 Xm2 Xm3
attribute [go_sem] Xge Xgf XhF XhG Xky Xgc Xgb Xf9 Xga Xjz Xhz XhA Xf2 Xf3 Xju Xf4 Xf5 XeG Xf6 XlX XfU Xjf Xjh XfV XfW Xhh Xjg XcM XbA Xjs XeE Xl0 XjM XjN XkZ XhU XeK XeL XdA XeM XeN XeO Xgh XcQ Xgi XcR XdB XeP Xgk XhV Xgl XdC XhW XeQ XeR XhX XhY XhZ Xh0 XjR XjS Xh1 XdE XjT Xh2 XdF Xh3 XeS Xh4 Xgo Xgp Xgq Xh5 XeT XdG XcS XcT XdH XeU XdI Xa1 XaH Xb4 XjV Xb5 XjX Xa2 Xey Xez XeA XeB XcJ XcK XeC Xhi Xhj Xhk Xhl Xhm Xjl stU skS Xf8 Xch Qt ZW Xfk Xgm XhP XjJ XjK XjL XeJ Xdz XhR XhS XhT XhQ XjY Xlo Xhw Xjv Xhx Xf7 Xjw trim? Xi5 inE Xhd opU skU ZB Xet XfP Xd6 Xd7 XfX XfY Xhn XcC XcD XcE XcF XcG XaE Xby XaF Xjo XbB XaG XjD XfS XfT Xhg Xho Xhp Xjm XfZ Xhq Xhr Xhs Xf0 Xht Xbw Xbx Xi8 XnI XnJ XnK XlV XkP Xi9 jL Qg jE jB XcH XcI Xjc Xjd
  k0 k1 k2 k3 k4 k5 k6 k7 k8 k9 k10 k11 k12 k13 k14 k15 k16 k17 k18 k19 k20 k21 k22 k23 k24 k25 k26 k27 k28 k29 k30 k31 k32 k33 k34 k35 k36 k37 k38 k39 k40 k41 k42 k43 k44 k45 k46 k47 k48 k49 k50 k51 k52 k53 k54 k55 k56 k57 k58 k59 k60 k61 k62 k63 k64 k65 k66 k67 k68 k69 k70 k71 k72 k73 k74 k75 k76 k77 k78 k79 k80 k81 k82 k83 k84 k85 k86 k87 k88 k89 k90 k91 k92 k93 k94 k95 k96 k97 k98 k99 XnL XnM XnN XnO XnP XnQ XnR XnS XnT XnU XnV XnW XnX XnY XnZ Xn0 Xn1 Xn2 Xn3 Xn4 Xn5 Xn6 Xn7 Xn8 Xn9 Xoa Xob Xoc Xod Xoe Xof Xog Xoh Xoi Xoj Xok Xol Xom Xon Xoo Xop Xoq Xor Xos Xot Xou Xov Xow Xox Xoy Xoz XoA XoB XoC XoD XoE XoF XoG XoH XoI XoJ XoK XoL XoM XoN XoO XoP XoQ XoR XoS XoT XoU XoV XoW XoX XoY XoZ Xo0 Xo1 Xo2 Xo3 Xo4 Xo5 Xo6 Xo7 Xo8 Xo9 Xpa Xpb Xpc Xpd Xpe Xpf Xpg Xph Xpi Xpj Xpk Xpl Xpm Xpn Xpo Xpp Xpq Xpr Xps Xpt Xpu Xpv Xpw Xpx Xpy Xpz XpA XpB XpC XpD XpE XpF XpG XpH XpI XpJ XpK XpL XpM XpN XpO XpP XpQ XpR XpS XpT XpU XpV XpW XpX XpY XpZ Xp0 Xp1 Xp2 Xp3 Xp4 Xp5 Xp6 Xp7 Xp8 Xp9 Xqa Xqb Xqc Xqd Xqe Xqf Xqg Xqh Xqi Xqj Xqk Xql Xqm Xqn Xqo Xqp Xqq Xqr Xqs Xqt Xqu Xqv Xqw Xqx Xqy Xqz XqA XqB XqC XqD XqE XqF XqG XqH XqI XqJ XqK XqL XqM XqN XqO XqP XqQ XqR XqS XqT XqU XqV XqW XqX XqY XqZ Xq0 Xq1 Xq2 Xq3 Xq4 Xq5 Xq6 Xq7 Xq8 Xq9 Xra Xrb Xrc Xrd Xre Xrf Xrg Xrh Xri Xrj Xrk Xrl Xrm Xrn Xro Xrp Xrq Xrr Xrs Xrt Xru Xrv Xrw Xrx Xry Xrz XrA XrB XrC XrD XrE XrF XrG XrH XrI Xm0 Xm1 Xm2 Xm3 XrJ XrK XlT XlU Xdm Xi4 XaD XfM XgF Xes Xhb XfN XfO Xhy Xjx Xjy XrL XrM XrN XrO XrP XrQ XrR XrS XrT XrU XrV XrW XrX XrY XrZ Xr0 Xr1 Xr2 Xr3 Xr4 Xr5 Xr6 Xr7 Xr8 Xr9 Xsa Xsb Xsc Xsd Xse Xsf Xsg Xsh Xsi Xsj Xsk Xsl Xsm Xsn Xso Xsp Xsq Xsr Xss Xst Xsu Xsv Xsw Xsx Xsy Xsz Xm4 XsA XsB Xj1 XsC XsD XsE XsF XsG XsH XsI XsJ XsK XsL XsM XsN XsO XsP XsQ XsR XsS XsT XsU XsV XsW XsX XsY XsZ Xs0 Xs1 Xs2 Xs3 Xs4 Xs5 Xs6 Xs7 Xs8 Xs9 Xta Xtb Xtc Xtd Xte St.cut keepP keepR Xl YG Xp within setCells storeAt takeRf ZU Zi Xan Y2 YB YK XaS Xej Zr Uw XbJ XdT Q5 QH Xai Xei Xc3 Xb7 XmX ZD YQ rwB Xap Qm one eqB Ye XA whole Md.isMv Md.isRw Xtf Xtg Xth Xti Xtj Xtk Xtl Xtm Xtn Xto Xtp Xtq Xtr Xts Xtt Xtu Xtv Xtw Xtx Xty Xtz XtA XtB XtC XtD XtE XtF XtG XtH XtI Xl9 XtJ XtK XtL XtM XtN XtO XtP XtQ XtR XtS XtT XtU XtV XtW XtX XtY XtZ Xt0 Xt1 Xt2 Xt3 Xt4 Xt5 Xt6 Xt7 Xt8 Xt9 Xua Xub Xuc Xud Xue Xuf Xug Xuh Xui Xuj Xuk Xul Xum Xun Xuo Xup Xuq Xur Xus Xut Xuu Xuv Xuw Xux Xuy Xuz XuA XuB XuC XuD XuE XuF XuG XuH XuI XuJ XuK XuL XuM XuN XuO XuP XuQ XuR XuS XuT XuU XuV XuW XuX XuY XuZ Xu0 Xu1 Xu2 Xu3 Xu4 Xu5 Xu6 Xu7 Xu8 Xu9 Xva Xvb Xvc Xvd Xve Xvf Xvg Xvh Xvi Xvj Xvk Xvl Xvm Xvn Xvo Xvp Xvq Xvr Xvs Xvt Xvu Xvv Xvw Xvx Xvy Xvz XvA XvB XvC XvD XvE XvF XvG XvH XvI XvJ XvK XvL XvM XvN XvO XvP XvQ XvR XvS XvT XvU XvV XvW XvX XvY XvZ Xv0 Xv1 Xv2 Xv3 Xv4 Xv5 Xv6 Xv7 Xv8 Xv9 Xwa Xwb Xwc Xwd Xwe Xwf Xwg Xwh Xwi Xwj Xwk Xwl Xwm Xwn Xwo Xwp Xwq Xwr Xws Xwt Xwu Xwv Xww Xwx Xwy Xwz XwA XwB XwC XwD XwE XwF XwG XwH XwI XwJ XwK XwL XwM XwN XwO XwP XwQ XwR XwS XwT XwU XwV XwW XwX XwY XwZ Xw0 Xw1 Xw2 Xw3 Xw4 Xw5 Xw6 Xw7 Xw8 Xw9 Xxa Xxb Xxc Xxd Xxe Xxf Xxg Xxh Xxi Xxj Xxk Xxl Xxm Xxn Xxo Xxp Xxq Xxr Xxs Xxt Xxu Xxv Xxw Xxx Xxy Xxz XxA XxB XxC XxD XxE XxF XxG XxH XxI XxJ XxK XxL XxM XxN XxO XxP XxQ XxR XxS XxT XxU XxV XxW XxX Xma XxY XxZ Xx0 Xx1 Xx2 Xx3 Xx4 Xx5 Xx6 Xx7 Xx8 Xx9 Xya Xyb Xyc Xyd Xye Xyf Xyg Xyh Xyi Xyj Xyk Xyl Xym Xyn Xyo Xyp Xyq Xyr Xys Xyt Xyu Xyv Xyw Xyx Xyy Xyz XyA Xmb Xmc XyB XyC XyD XyE XyF XyG XyH XyI XyJ XyK XyL XyM XyN XyO XyP XyQ XyR XyS XyT XyU XyV XyX XyY XyZ Xy0 Xy1 Xy2 Xy3 Xy4 Xy5 Xy6 Xy7 Xy8 Xy9 Xza Xzb
end Go.Vm
