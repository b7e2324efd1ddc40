/- A part of a reflected evaluator of the program's code, and the proof that what it computes is what the machine does. -/
import Derived.Test.YtbgfaonlbpkfhaaGreatDoorVa
import Derived.Attr
set_option linter.unusedVariables false
set_option linter.unusedSimpArgs false
set_option autoImplicit false
set_option linter.defProp false
namespace Go.Vm
def nr{α:Sort _}{a b:α}(h:a=b):a=b:=h
def E:List (Nat×AV)->Nat->AV
 | [],_=>.u
 | (k,v) :: r,t=>if t=k then v else E r t
def B:List (Nat×List AV)->Nat->List AV
 | [],_=>[]
 | (k,v) :: r,t=>if t=k then v else B r t
def Xvm(t:Nat):E [] t=.u:=nr rfl
def XdB(k:Nat)(v:AV)(r:List (Nat×AV))(t:Nat):E ((k,v) :: r) t=if t=k then v else E r t:=nr rfl
def Xvn(t:Nat):B [] t=[]:=nr rfl
def XeG(k:Nat)(v:List AV)(r:List (Nat×List AV))(t:Nat):B ((k,v) :: r) t=if t=k then v else B r t:=nr rfl
def Xik(l:List (Nat×AV))(t:Nat)(v:AV):upd (E l) t v=E ((t,v) :: l):=by funext x; simp[upd,XdB]
def Xpk(l:List (Nat×List AV))(t:Nat)(v:List AV):upd (B l) t v=B ((t,v) :: l):=by funext x; simp[upd,XeG]
def Xlm(kp kr:Pl->Bool):List (Nat×AV)->List (Nat×AV)
 | []=>[]
 | (k,v) :: r=>(k,filt kp kr v) :: Xlm kp kr r
def Xmk(kp kr:Pl->Bool):List (Nat×List AV)->List (Nat×List AV)
 | []=>[]
 | (k,v) :: r=>(k,Yy kp kr v) :: Xmk kp kr r
def XeH(l:List (Nat×AV))(m:List (Nat×List AV))(kp kr:Pl->Bool):St.filt ⟨E l,B m⟩ kp kr=⟨E (Xlm kp kr l),B (Xmk kp kr m)⟩:=by
 simp only[St.filt,St.mk.injEq]
 constructor
 ·funext t
  induction l with
  | nil=>rfl
  | cons x r ih=>obtain⟨k,v⟩:=x; simp only[Xlm,XdB]; split<;>simp_all
 ·funext t
  induction m with
  | nil=>rfl
  | cons x r ih=>obtain⟨k,v⟩:=x; simp only[Xmk,XeG]; split<;>simp_all
def XjK(f:Nat->AV):List Nat->List (Nat×AV)
 | []=>[]
 | k :: r=>(k,f k) :: XjK f r
def Xm1(f:Nat->List AV):List Nat->List (Nat×List AV)
 | []=>[]
 | k :: r=>(k,f k) :: Xm1 f r
def Xln(ks bs:List Nat)(st:St):keep (some (ks,bs)) st=⟨E (XjK (st.filt (within ks bs) (within ks bs)).env ks),B (Xm1 (st.filt (within ks bs) (within ks bs)).bx bs)⟩:=by
 simp only[keep,St.mk.injEq]
 generalize st.filt (within ks bs) (within ks bs)=s
 constructor
 ·funext t
  induction ks with
  | nil=>rfl
  | cons k r ih =>
   simp only[XjK,XdB,List.contains_cons]
   by_cases h:t=k
   ·subst h; simp
   ·simp[h,<-ih]
 ·funext t
  induction bs with
  | nil=>rfl
  | cons k r ih =>
   simp only[Xm1,XeG,List.contains_cons]
   by_cases h:t=k
   ·subst h; simp
   ·simp[h,<-ih]
def Xlo(st:St):keep none st=st:=nr rfl
def Xpl(ks:List Nat)(l:List (Nat×AV))(m:List (Nat×List AV)):trim ks ⟨E l,B m⟩=⟨E (XjK (E (Xlm (inE ks) (inE ks) l)) ks),B (Xmk (inE ks) (inE ks) m)⟩:=by
 simp only[trim,XeH,St.mk.injEq,and_true]
 generalize E (Xlm (inE ks) (inE ks) l)=s
 funext t
 induction ks with
 | nil=>rfl
 | cons k r ih =>
  simp only[XjK,XdB,List.contains_cons]
  by_cases h:t=k
  ·subst h; simp
  ·simp[h,<-ih]
variable {R : Type}
def Xp{α:Type}(x:Option α)(k:α->Option R):Option R:=match x with
 | some a=>k a
 | none=>none
def UX{α:Type}(a:α)(k:α->Option R):Xp (some a) k=k a:=nr rfl
def XjL{α:Type}(k:α->Option R):Xp none k=none:=nr rfl
@[congr] def Xpm{α:Type}{x y:Option α}{k:α->Option R}(h:x=y):Xp x k=Xp y k:=by rw[h]
def Xlp{α:Type}(c:Prop)[Decidable c](x y:Option α)(k:α->Option R):Xp (if c then x else y) k=if c then Xp x k else Xp y k:=by split<;>rfl
def Zb{α β:Type}(x:Option α)(f:α->Option β):Zg x f=Xp x f:=by cases x<;>rfl
@[congr] def Xm2{cx:Cx}{ops:List Oper}{cs:List (Option (List Nat))}{st st':St}{l:List Oper}(h:st=st'):Yo cx ops cs st l=Yo cx ops cs st' l:=by rw[h]
@[congr] def Xoq{cx:Cx}{st st':St}{o:Oper}(h:st=st'):Xv cx st o=Xv cx st' o:=by rw[h]
@[congr] def Xor{cx:Cx}{blk:Nat}{c:Code}{st st':St}(h:st=st'):Xz cx blk c st=Xz cx blk c st':=by rw[h]
def upE(st:St)(d:Nat)(v:AV):St:=⟨upd st.env d v,st.bx⟩
def Xje(st:St)(d:Nat):upE st d (st.env d)=st:=by
 have:upd st.env d (st.env d)=st.env:=by funext x; unfold upd; split<;>simp_all
 simp only[upE,this]
def Xos(a:AV)(x y z xs ys:Option St):Option St:=match a with
 | .b true=>x
 | .b false=>y
 | .no=>z
 | _=>none
def Xhe(d:Option Nat)(k:Nat->Option St):Option St:=match d with
 | some d=>k d
 | none=>none
@[congr] def Xot{a a':AV}{x y z xs ys:Option St}(h:a=a'):Xos a x y z xs ys=Xos a' x y z xs ys:=by rw[h]
@[congr] def Xou{d d':Option Nat}{k:Nat->Option St}(h:d=d'):Xhe d k=Xhe d' k:=by rw[h]
def XeI(d:Nat)(k:Nat->Option St):Xhe (some d) k=k d:=nr rfl
@[congr] def Xpn{l:List Oper}{n:Nat}:XaG l n=XaG l n:=rfl
def XfG(d op t pos aft g r):XaG (⟨d,op,t,pos,aft,g⟩ :: r) 0=d:=nr rfl
def XfH(o:Oper)(r:List Oper)(n:Nat):XaG (o :: r) (n+1)=XaG r n:=nr rfl
def opS(cx:Cx)(ops:List Oper)(cs:List (Option (List Nat)))(st:St)(o:Oper)(r:List Oper):Option St:=match wanted ops st o with
 | some true=>Xp (Xv cx st o) (λst'=>Yo cx ops cs st' r)
 | some false=>Yo cx ops cs (st.put? o.dst .no) r
 | none=>none
@[congr] def XtM{cx:Cx}{ops:List Oper}{cs:List (Option (List Nat))}{st st':St}{o:Oper}{r:List Oper}(h:st=st'):opS cx ops cs st o r=opS cx ops cs st' o r:=by rw[h]
def Xil(cx:Cx)(ops:List Oper)(cs:List (Option (List Nat)))(st:St):Yo cx ops cs st []=some st:=by simp only[Yo]
def Xhf(cx:Cx)(ops:List Oper)(c:Option (List Nat))(cs:List (Option (List Nat)))(st:St)(o:Oper)(r:List Oper):Yo cx ops (c :: cs) st (o :: r)=opS cx ops cs (trim? c st) o r:=by
 simp only[Yo,opS,hd?,List.tail_cons,Xp]
 cases wanted ops (trim? c st) o with
 | none=>rfl
 | some b =>
  cases b<;>try rfl
  simp only[]; cases Xv cx (trim? c st) o<;>rfl
def Xgg(cx:Cx)(ops:List Oper)(st:St)(o:Oper)(r:List Oper):Yo cx ops [] st (o :: r)=opS cx ops [] st o r:=by
 simp only[Yo,opS,hd?,List.tail_nil,Xp,trim?]
 cases wanted ops st o with
 | none=>rfl
 | some b =>
  cases b<;>try rfl
  simp only[]; cases Xv cx st o<;>rfl
section
variable (cx : Cx) (ops : List Oper) (cs : List (Option (List Nat))) (st : St) (d : Option Nat) (op : Op) (t : TypeId) (pos : String) (aft : Array Edge) (j : Nat) (r : List Oper)
def Xlq:opS cx ops cs st ⟨d,op,t,pos,aft,none⟩ r=Xp (Xv cx st ⟨d,op,t,pos,aft,none⟩) (λst'=>Yo cx ops cs st' r):=nr rfl
def XbC(cx:Cx)(ops:List Oper)(cs:List (Option (List Nat)))(st:St)(o:Oper)(r:List Oper)(want:Bool)(g:Nat)(a:AV):Option St:=match a with
 | .b b=>if b=want then Xp (Xv cx st o) (λst'=>Yo cx ops cs st' r) else Yo cx ops cs (st.put? o.dst .no) r
 | .no=>Yo cx ops cs (st.put? o.dst .no) r
 | _=>none
@[congr] def Xov{cx:Cx}{ops:List Oper}{cs:List (Option (List Nat))}{st:St}{o:Oper}{r:List Oper}{want:Bool}{g:Nat}{a a':AV}(h:a=a'):XbC cx ops cs st o r want g a=XbC cx ops cs st o r want g a':=by rw[h]
def Xlr(want:Bool):opS cx ops cs st ⟨d,op,t,pos,aft,some (j,want)⟩ r=Xhe (XaG ops j) (λg=>XbC cx ops cs st ⟨d,op,t,pos,aft,some (j,want)⟩ r want g (st.env g)):=by
 simp only[opS,wanted,Xhe]
 cases XaG ops j with
 | none=>rfl
 | some g =>
  simp only[XbC]
  cases st.env g with
  | b b=>cases b<;>cases want<;>rfl
  | _=>rfl
end
section
variable (cx : Cx) (ops : List Oper) (cs : List (Option (List Nat))) (st : St) (o : Oper) (r : List Oper) (g : Nat)
def Xhg:XbC cx ops cs st o r true g (.b true)=Xp (Xv cx st o) (λst'=>Yo cx ops cs st' r):=nr rfl
def Xhh:XbC cx ops cs st o r false g (.b false)=Xp (Xv cx st o) (λst'=>Yo cx ops cs st' r):=nr rfl
def Xhi:XbC cx ops cs st o r true g (.b false)=Yo cx ops cs (st.put? o.dst .no) r:=nr rfl
def Xhj:XbC cx ops cs st o r false g (.b true)=Yo cx ops cs (st.put? o.dst .no) r:=nr rfl
def Xhk(want:Bool):XbC cx ops cs st o r want g .no=Yo cx ops cs (st.put? o.dst .no) r:=nr rfl
def opU(cx:Cx)(ops:List Oper)(cs:List (Option (List Nat)))(st:St)(o:Oper)(r:List Oper):Option St:=Xp (Xv cx st o) (λst'=>Yo cx ops cs st' r)
def skU(cx:Cx)(ops:List Oper)(cs:List (Option (List Nat)))(st:St)(o:Oper)(r:List Oper):Option St:=Yo cx ops cs (st.put? o.dst .no) r
@[congr] def XtN{cx:Cx}{ops:List Oper}{cs:List (Option (List Nat))}{st st':St}{o:Oper}{r:List Oper}(h:st=st'):opU cx ops cs st o r=opU cx ops cs st' o r:=by rw[h]
@[congr] def XtO{cx:Cx}{ops:List Oper}{cs:List (Option (List Nat))}{st st':St}{o:Oper}{r:List Oper}(h:st=st'):skU cx ops cs st o r=skU cx ops cs st' o r:=by rw[h]
end
def Xm3(cx:Cx)(ops:List Oper)(cs:List (Option (List Nat)))(l:List (Nat×AV))(m:List (Nat×List AV))(o:Oper)(r:List Oper)(g:Nat)(want b:Bool)(h:E l g=.b b) :
  XbC cx ops cs ⟨E l,B m⟩ o r want g (.b b) =
   if b=true then(if want=true then opU cx ops cs ⟨E ((g,.b true) :: l),B m⟩ o r else skU cx ops cs ⟨E ((g,.b true) :: l),B m⟩ o r)
   else(if want=true then skU cx ops cs ⟨E ((g,.b false) :: l),B m⟩ o r else opU cx ops cs ⟨E ((g,.b false) :: l),B m⟩ o r):=by
 have hs:(⟨E ((g,.b b) :: l),B m⟩:St)=⟨E l,B m⟩:=by
  have:=Xje ⟨E l,B m⟩ g
  simp only[upE,Xik,h] at this
  exact this
 cases b<;>cases want<;>simp only[XbC,opU,skU,hs,if_true,if_false,Bool.false_eq_true,reduceCtorEq]
def jA(c:Prop)[Decidable c](a b:AV):AV:=if c then a else b
section
variable (c : Prop) [Decidable c]
def Xpo(a:AV):jA c a a=a:=by unfold jA; split<;>rfl
def Xw6(x y:Bool):jA c (.b x) (.b y)=.b (if c then x else y):=by unfold jA; split<;>rfl
def Xw7(k:IntKind)(x y:Int):jA c (.i k x) (.i k y)=.i k (if c then x else y):=by unfold jA; split<;>rfl
def Xw8(x y:ByteArray):jA c (.s x) (.s y)=.s (if c then x else y):=by unfold jA; split<;>rfl
def Xvo(t:Tag)(z:Nat)(x y:List (List AV)):jA c (.sl t z x) (.sl t z y)=.sl t z (if c then x else y):=by unfold jA; split<;>rfl
def jL(c:Prop)[Decidable c]:List AV->List AV->List AV
 | a :: l,b :: r=>jA c a b :: jL c l r
 | _,_=>[]
def Xa7:List AV->List AV->Bool
 | _ :: l,_ :: r=>Xa7 l r
 | [],[]=>true
 | _,_=>false
def Xm4:∀(x y:List AV),Xa7 x y=true->(if c then x else y)=jL c x y
 | [],[],_=>by simp[jL]
 | a :: l,b :: r,h=>by
  have ih:=Xm4 l r (by simpa[Xa7] using h)
  simp only[jL,jA,<-ih]
  split<;>rfl
 | [],_ :: _,h=>by simp[Xa7] at h
 | _ :: _,[],h=>by simp[Xa7] at h
def XtP(x y:List AV)(h:Xa7 x y=true):jA c (.agg x) (.agg y)=.agg (jL c x y):=by rw[<-Xm4 c x y h]; unfold jA; split<;>rfl
def Xpp(x:List AV):jL c x x=x:=by
 rw[<-Xm4 c x x (by induction x<;>simp_all [Xa7])]; simp
def jE(c:Prop)[Decidable c]:List (Nat×AV)->List (Nat×AV)->List (Nat×AV)
 | (k,a) :: l,(_,b) :: r=>(k,jA c a b) :: jE c l r
 | _,_=>[]
def jB(c:Prop)[Decidable c]:List (Nat×List AV)->List (Nat×List AV)->List (Nat×List AV)
 | (k,a) :: l,(_,b) :: r=>(k,jL c a b) :: jB c l r
 | _,_=>[]
def Xhl:List (Nat×AV)->List (Nat×AV)->Bool
 | (k,_) :: l,(k',_) :: r=>k==k'&&Xhl l r
 | [],[]=>true
 | _,_=>false
def Xhm:List (Nat×List AV)->List (Nat×List AV)->Bool
 | (k,a) :: l,(k',b) :: r=>k==k'&&(Xa7 a b&&Xhm l r)
 | [],[]=>true
 | _,_=>false
def Xpq:∀(x y:List (Nat×AV)),Xhl x y=true->(if c then E x else E y)=E (jE c x y)
 | [],[],_=>by simp[jE]
 | (k,a) :: l,(k',b) :: r,h=>by
  simp only[Xhl,Bool.and_eq_true,beq_iff_eq] at h
  obtain⟨rfl,h⟩:=h
  have ih:=Xpq l r h
  funext t
  have ih':=congrFun ih t
  simp only[jE,jA]
  rw[XdB,<-ih']
  split<;>simp only[XdB]
 | [],_ :: _,h=>by simp[Xhl] at h
 | _ :: _,[],h=>by simp[Xhl] at h
def Xpr:∀(x y:List (Nat×List AV)),Xhm x y=true->(if c then B x else B y)=B (jB c x y)
 | [],[],_=>by simp[jB]
 | (k,a) :: l,(k',b) :: r,h=>by
  simp only[Xhm,Bool.and_eq_true,beq_iff_eq] at h
  obtain⟨rfl,h1,h⟩:=h
  have ih:=Xpr l r h
  funext t
  have ih':=congrFun ih t
  simp only[jB]
  rw[XeG,<-ih',<-Xm4 c a b h1]
  split<;>simp only[XeG]
 | [],_ :: _,h=>by simp[Xhm] at h
 | _ :: _,[],h=>by simp[Xhm] at h
def Xps(x y:List (Nat×AV))(m n:List (Nat×List AV))(h:Xhl x y=true)(h':Xhm m n=true):(if c then some (⟨E x,B m⟩:St) else some ⟨E y,B n⟩)=some ⟨E (jE c x y),B (jB c m n)⟩:=by
 rw[<-Xpq c x y h,<-Xpr c m n h']; split<;>rfl
def Xpt(e:Ex)(x y:List (Nat×AV))(m n:List (Nat×List AV))(h:Xhl x y=true)(h':Xhm m n=true):(if c then some (e,(⟨E x,B m⟩:St)) else some (e,⟨E y,B n⟩))=some (e,⟨E (jE c x y),B (jB c m n)⟩):=by
 rw[<-Xpq c x y h,<-Xpr c m n h']; split<;>rfl
end
def Xim(cx:Cx)(blk:Nat)(st:St):Xz cx blk .skip st=some (.nor,st):=nr rfl
def Xin(cx:Cx)(blk id:Nat)(st:St):Xz cx blk (.exit id) st=some (.ex id,keep (cx.out id) st):=nr rfl
def XjM(cx:Cx)(blk:Nat)(st:St):Xz cx blk .ret st=some (.ret,keep cx.rets st):=nr rfl
def Xm5(x:Option St):Option (Ex×St):=match x with
 | some s=>some (.nor,s)
 | none=>none
def Xls(s:St):Xm5 (some s)=some (.nor,s):=nr rfl
def Xlt:Xm5 none=none:=nr rfl
def Xm6(c:Prop)[Decidable c](x y:Option St):Xm5 (if c then x else y)=if c then Xm5 x else Xm5 y:=by split<;>rfl
def Xgh(cx:Cx)(blk id:Nat)(l:List Oper)(st:St):Xz cx blk (.region id (List.toArray l) false) st=Xm5 (Xp (Yo cx l (cx.cuts id) st l) (λs=>weakW (keep (cx.rg id) s) (cx.ws id))):=by
 simp only[Xz,Xp,Xm5,Xrr,Bool.false_eq_true,if_false]
 cases Yo cx l (cx.cuts id) st l<;>rfl
def Xio(cx:Cx)(blk id:Nat)(l:List Oper)(st:St):Xz cx blk (.region id (List.toArray l) true) st=Xm5 (Xp (Xp (cx.plan id) (λp=>Zl cx id l p st)) (λs=>weakW s (cx.ws id))):=by
 simp only[Xz,if_true,Xm5,Xrr,Zb]
 cases cx.plan id with
 | none=>rfl
 | some p=>simp only[Xp]; cases Zl cx id l p st<;>rfl
@[congr] def Xpu{st st':St}{l l':List (Bool×Nat×Nat)}(h:st=st')(h2:l=l'):weakW st l=weakW st' l':=by rw[h,h2]
def Xlu(st:St):weakW st []=some st:=nr rfl
def Xpv(st:St)(r c:Nat)(l:List (Bool×Nat×Nat)):weakW st ((true,r,c) :: l)=Xp (weakArg st (.tmp r)) (λs=>weakW s l):=by simp only[weakW,Zb]
def XjN(st:St)(b c:Nat):Option AV->Option St
 | some (.sl .mut z es)=>weakLeaf st (.rf ⟨false,b,[],c⟩ z 0 es.length)
 | _=>some st
def Xlv(st:St)(b c z:Nat)(es:List (List AV)):XjN st b c (some (.sl .mut z es))=weakLeaf st (.rf ⟨false,b,[],c⟩ z 0 es.length):=nr rfl
def Xlw(st:St)(b c z:Nat)(es:List (List AV)):XjN st b c (some (.sl .app z es))=some st:=nr rfl
def Xm7(st:St)(b c z:Nat)(es:List (List AV)):XjN st b c (some (.sl .ro z es))=some st:=nr rfl
def Xpw(st:St)(b c:Nat):XjN st b c (some .u)=some st:=nr rfl
def Xpx(st:St)(r c:Nat)(l:List (Bool×Nat×Nat)):weakW st ((false,r,c) :: l)=Xp (XjN st r c (st.bx r)[c]?) (λs=>weakW s l):=by simp only[weakW,weakAt,XjN,Zb]; rfl
def Xip(cx:Cx)(id:Nat)(ops:List Oper)(st:St):Zl cx id ops .done st=some (keep (cx.rg id) st):=nr rfl
def Xiq(cx:Cx)(id:Nat)(ops:List Oper)(i:Nat)(p:Xe2)(st:St):Zl cx id ops (.take i p) st=Xp (XaW ops i) (λo=>Xeq (XgW o.op) (Xp (UD cx ops st o) (λs=>Zl cx id ops p s))):=by
 simp only[Zl,Zb]
def XjO(cx:Cx)(id:Nat)(ops:List Oper)(i:Nat)(p:Xe2)(st:St):Zl cx id ops (.one i p) st=Xp (XaW ops i) (λo=>Xeq (Xbx cx o.op||XaF cx st o.op) (Xp (UD cx ops st o) (λs=>Zl cx id ops p s))):=by
 simp only[Zl,Zb]
def XjP(cx:Cx)(id:Nat)(ops:List Oper)(i:Nat)(p q:Xe2)(st:St):Zl cx id ops (.alt i p q) st=XjC (Zl cx id ops (.one i p) st) (Zl cx id ops q st):=nr rfl
def XjQ(o:Oper)(r:List Oper):XaW (o :: r) 0=some o:=nr rfl
def XjR(o:Oper)(r:List Oper)(n:Nat):XaW (o :: r) (n+1)=XaW r n:=nr rfl
def XjS(x:Option St):Xeq true x=x:=nr rfl
@[congr] def Xpy{p p':Bool}{x:Option St}(h:p=p'):Xeq p x=Xeq p' x:=by rw[h]
def XjT(x:Option St):XjC x x=x:=by unfold XjC; rw[if_pos rfl]
def Xhn(cx:Cx)(ops:List Oper)(st:St)(d:Option Nat)(op:Op)(t:TypeId)(pos:String)(aft:Array Edge):UD cx ops st ⟨d,op,t,pos,aft,none⟩=Xv cx st ⟨d,op,t,pos,aft,none⟩:=nr rfl
def XdO(cx:Cx)(ops:List Oper)(st:St)(o:Oper)(want:Bool)(g:Nat)(a:AV):Option St:=match a with
 | .b b=>if b=want then Xv cx st o else some (st.put? o.dst .no)
 | .no=>some (st.put? o.dst .no)
 | _=>none
@[congr] def Xpz{cx:Cx}{ops:List Oper}{st:St}{o:Oper}{want:Bool}{g:Nat}{a a':AV}(h:a=a'):XdO cx ops st o want g a=XdO cx ops st o want g a':=by rw[h]
def XpA(cx:Cx)(ops:List Oper)(st:St)(o:Oper)(want:Bool)(d:Option Nat):Option St:=match d with
 | some d=>XdO cx ops st o want d (st.env d)
 | none=>none
def XjU(cx:Cx)(ops:List Oper)(st:St)(o:Oper)(want:Bool)(d:Nat):XpA cx ops st o want (some d)=XdO cx ops st o want d (st.env d):=nr rfl
def Xm8(cx:Cx)(ops:List Oper)(st:St)(o:Oper)(g:Nat):XdO cx ops st o true g (.b true)=Xv cx st o:=nr rfl
def Xm9(cx:Cx)(ops:List Oper)(st:St)(o:Oper)(g:Nat):XdO cx ops st o false g (.b false)=Xv cx st o:=nr rfl
def Xna(cx:Cx)(ops:List Oper)(st:St)(o:Oper)(g:Nat):XdO cx ops st o true g (.b false)=some (st.put? o.dst .no):=nr rfl
def Xnb(cx:Cx)(ops:List Oper)(st:St)(o:Oper)(g:Nat):XdO cx ops st o false g (.b true)=some (st.put? o.dst .no):=nr rfl
def Xnc(cx:Cx)(ops:List Oper)(st:St)(o:Oper)(want:Bool)(g:Nat):XdO cx ops st o want g .no=some (st.put? o.dst .no):=nr rfl
def stU(cx:Cx)(st:St)(o:Oper):Option St:=Xv cx st o
def skS(st:St)(o:Oper):Option St:=some (st.put? o.dst .no)
@[congr] def XtQ{cx:Cx}{st st':St}{o:Oper}(h:st=st'):stU cx st o=stU cx st' o:=by rw[h]
@[congr] def XtR{st st':St}{o:Oper}(h:st=st'):skS st o=skS st' o:=by rw[h]
def XpB(cx:Cx)(ops:List Oper)(l:List (Nat×AV))(m:List (Nat×List AV))(o:Oper)(want:Bool)(g:Nat)(b:Bool)(h:E l g=.b b) :
  XdO cx ops ⟨E l,B m⟩ o want g (.b b) =
   if b=true then(if want=true then stU cx ⟨E ((g,.b true) :: l),B m⟩ o else skS ⟨E ((g,.b true) :: l),B m⟩ o)
   else(if want=true then skS ⟨E ((g,.b false) :: l),B m⟩ o else stU cx ⟨E ((g,.b false) :: l),B m⟩ o):=by
 have hs:(⟨E ((g,.b b) :: l),B m⟩:St)=⟨E l,B m⟩:=by
  have:=Xje ⟨E l,B m⟩ g
  simp only[upE,Xik,h] at this
  exact this
 cases b<;>cases want<;>simp only[XdO,stU,skS,hs,if_true,if_false,Bool.false_eq_true,reduceCtorEq]
def Xho(cx:Cx)(ops:List Oper)(st:St)(d:Option Nat)(op:Op)(t:TypeId)(pos:String)(aft:Array Edge)(j:Nat)(want:Bool):UD cx ops st ⟨d,op,t,pos,aft,some (j,want)⟩=XpA cx ops st ⟨d,op,t,pos,aft,some (j,want)⟩ want (XaG ops j):=by
 unfold UD wanted XpA XdO
 simp only
 cases XaG ops j with
 | none=>rfl
 | some d =>
  simp only
  cases st.env d with
  | b b =>
   cases b<;>cases want<;>rfl
  | _=>rfl
def Xb8(x:Option (Ex×St))(k:St->Option (Ex×St)):Option (Ex×St):=match x with
 | some (.nor,st)=>k st
 | some (.ex j,st)=>some (.ex j,st)
 | some (.ret,st)=>some (.ret,st)
 | none=>none
@[congr] def Xrt{x y:Option (Ex×St)}{k:St->Option (Ex×St)}(h:x=y):Xb8 x k=Xb8 y k:=by rw[h]
def Xjf(st:St)(k:St->Option (Ex×St)):Xb8 (some (.nor,st)) k=k st:=nr rfl
def Xjg(st:St)(k:St->Option (Ex×St)):Xb8 (some (.ret,st)) k=some (.ret,st):=nr rfl
def Xlx(j:Nat)(st:St)(k:St->Option (Ex×St)):Xb8 (some (.ex j,st)) k=some (.ex j,st):=nr rfl
def Xly(k:St->Option (Ex×St)):Xb8 none k=none:=nr rfl
def Xnd(c:Prop)[Decidable c](x y:Option (Ex×St))(k:St->Option (Ex×St)):Xb8 (if c then x else y) k=if c then Xb8 x k else Xb8 y k:=by split<;>rfl
def XjV(cx:Cx)(blk:Nat)(a b:Code)(st:St):Xz cx blk (.seq a b) st=Xb8 (Xz cx blk a st) (λs=>Xz cx blk b s):=by
 simp only[Xz]
 cases Xz cx blk a st with
 | none=>rfl
 | some x=>obtain⟨e,s⟩:=x; cases e<;>rfl
def Xow(id:Nat)(x:Option (Ex×St)):Option (Ex×St):=match x with
 | some (.ex j,st)=>if j=id then some (.nor,st) else some (.ex j,st)
 | some (.nor,st)=>some (.nor,st)
 | some (.ret,st)=>some (.ret,st)
 | none=>none
def Xne(id:Nat)(st:St):Xow id (some (.nor,st))=some (.nor,st):=nr rfl
def Xnf(id:Nat)(st:St):Xow id (some (.ret,st))=some (.ret,st):=nr rfl
def XpC(id j:Nat)(st:St):Xow id (some (.ex j,st))=if j=id then some (.nor,st) else some (.ex j,st):=nr rfl
def Xlz(id:Nat):Xow id none=none:=nr rfl
def Xng(id:Nat)(c:Prop)[Decidable c](x y:Option (Ex×St)):Xow id (if c then x else y)=if c then Xow id x else Xow id y:=by split<;>rfl
def Xhp(cx:Cx)(blk id:Nat)(c:Code)(st:St):Xz cx blk (.block id c) st=Xow id (Xz cx id c st):=by
 simp only[Xz]
 cases Xz cx id c st with
 | none=>rfl
 | some x=>obtain⟨e,s⟩:=x; cases e<;>rfl
def Xir(a:AV)(x y:Option (Ex×St)):Option (Ex×St):=match a with
 | .b b=>if b=true then x else y
 | _=>none
@[congr] def XpD{a a':AV}{x y:Option (Ex×St)}(h:a=a'):Xir a x y=Xir a' x y:=by rw[h]
def XfI(x y:Option (Ex×St)):Xir (.b true) x y=x:=nr rfl
def XeJ(x y:Option (Ex×St)):Xir (.b false) x y=y:=nr rfl
def XpE(b:Bool)(x y:Option (Ex×St)):Xir (.b b) x y=if b=true then x else y:=nr rfl
def Xis(cx:Cx)(blk:Nat)(c:Operand)(a b:Code)(st:St):Xz cx blk (.cond c a b) st=Xir (view st c) (Xz cx blk a st) (Xz cx blk b st):=by
 simp only[Xz,Xir]
 cases view st c with
 | b x=>cases x<;>rfl
 | _=>rfl
noncomputable def QF(cx:Cx)(blk:Nat)(c:Code)(n:Nat)(st:St):Option (Ex×St):=Xoh (λst=>Xz cx blk c (keep (cx.live blk) st)) n st
@[congr] def XpF{cx:Cx}{blk:Nat}{c:Code}{n:Nat}{st st':St}(h:st=st'):QF cx blk c n st=QF cx blk c n st':=by rw[h]
def Xit(cx:Cx)(blk:Nat)(c:Code)(st:St):Xz cx blk (.loop c) st=QF cx blk c cx.rounds st:=nr rfl
def Zj(cx:Cx)(blk:Nat)(c:Code)(n:Nat)(st:St):QF cx blk c (n+1) st=Xb8 (Xz cx blk c (keep (cx.live blk) st)) (λs=>QF cx blk c n s):=by
 simp only[QF,Xoh]
 cases Xz cx blk c (keep (cx.live blk) st) with
 | none=>rfl
 | some x=>obtain⟨e,s⟩:=x; cases e<;>rfl
def Xml(cx:Cx)(md:List Md)(rv:List ResultVar)(x:Option (Ex×St)):Option (AV×List AV):=match x with
 | some (.nor,st)=>UE cx md rv st
 | some (.ret,st)=>UE cx md rv st
 | _=>none
def Xnh(cx:Cx)(md:List Md)(rv:List ResultVar)(st:St):Xml cx md rv (some (.nor,st))=UE cx md rv st:=nr rfl
def Xni(cx:Cx)(md:List Md)(rv:List ResultVar)(st:St):Xml cx md rv (some (.ret,st))=UE cx md rv st:=nr rfl
def XlA(cx:Cx)(md:List Md)(rv:List ResultVar):Xml cx md rv none=none:=nr rfl
def Xnj(cx:Cx)(md:List Md)(rv:List ResultVar)(c:Prop)[Decidable c](x y:Option (Ex×St)):Xml cx md rv (if c then x else y)=if c then Xml cx md rv x else Xml cx md rv y:=by split<;>rfl
def XlB(cx:Cx)(md:List Md)(f:Func)(args:List AV)(c:Code)(rv:List ResultVar)(h:f.body=some c)(hr:f.results=rv.toArray)(hz:cx.nz=false):XaH cx md f args=Xml cx md rv (Xz cx 0 c (Xbq md args)):=by
 simp only[XaH,h,hr,evB,hz,Bool.false_eq_true,if_false]
 cases Xz cx 0 c (Xbq md args) with
 | none=>rfl
 | some x=>obtain⟨e,s⟩:=x; cases e<;>rfl
def XjW(cx:Cx)(md:List Md)(f:Func)(args:List AV)(c:Code)(rv:List ResultVar)(h:f.body=some c)(hr:f.results=rv.toArray)(hz:cx.nz=true):XaH cx md f args=Xml cx md rv (evN cx c (λs=>some (.nor,s)) (Xbq md args)):=by
 simp only[XaH,h,hr,evB,hz,if_true]
 cases evN cx c (λs=>some (.nor,s)) (Xbq md args) with
 | none=>rfl
 | some x=>obtain⟨e,s⟩:=x; cases e<;>rfl
@[congr] def XtS{cx:Cx}{c:Code}{K:St->Option (Ex×St)}{st st':St}(h:st=st'):evN cx c K st=evN cx c K st':=by rw[h]
def Xnk(cx:Cx)(K:St->Option (Ex×St))(st:St):evN cx .skip K st=K st:=nr rfl
def XpG(cx:Cx)(a b:Code)(K:St->Option (Ex×St))(st:St):evN cx (.seq a b) K st=evN cx a (λs=>evN cx b K s) st:=nr rfl
noncomputable def XpH(a:AV)(x y:Option (Ex×St)):Option (Ex×St):=match a with
 | .b true=>x
 | .b false=>y
 | .ub=>Xh3 x y
 | _=>none
@[congr] def Xru{a a':AV}{x y:Option (Ex×St)}(h:a=a'):XpH a x y=XpH a' x y:=by rw[h]
def Xhq(x y:Option (Ex×St)):XpH (.b true) x y=x:=nr rfl
def XfJ(x y:Option (Ex×St)):XpH (.b false) x y=y:=nr rfl
def XpI(x y:Option (Ex×St)):XpH .ub x y=Xh3 x y:=nr rfl
def XjX(x:Option (Ex×St)):Xh3 x x=x:=by unfold Xh3; rw[if_pos rfl]
def Xnl(cx:Cx)(c:Operand)(a b:Code)(K:St->Option (Ex×St))(st:St):evN cx (.cond c a b) K st=XpH (view st c) (evN cx a K st) (evN cx b K st):=by
 simp only[evN,XpH]
 cases view st c with
 | b x=>cases x<;>rfl
 | _=>rfl
def XpJ(cx:Cx)(K:St->Option (Ex×St))(st:St):evN cx .ret K st=some (.ret,keep cx.rets st):=nr rfl
def XjY(cx:Cx)(id:Nat)(ops:Array Oper)(d:Bool)(K:St->Option (Ex×St))(st:St):evN cx (.region id ops d) K st=Xb8 (Xz cx 0 (.region id ops d) st) (λs=>K s):=by
 simp only[evN,Xfq]
 cases Xz cx 0 (.region id ops d) st with
 | none=>rfl
 | some x=>obtain⟨e,s⟩:=x; cases e<;>rfl
def Xvp(md:List Md)(p:List AV×St):Option (AV×List AV):=if(p.1.all YX&&(Xer p.2 md 0).all YX&&Xbm md (Xer p.2 md 0))=true then some (one p.1,Xer p.2 md 0) else none
def XuN(cx:Cx)(md:List Md)(rv:List ResultVar)(st:St):Option (List AV)->Option (AV×List AV)
 | some cs=>XtA md st cs
 | none=>Xp (XdN cx st rv) (Xvp md)
def Xnm(cx:Cx)(md:List Md)(rv:List ResultVar)(st:St):UE cx md rv st=XuN cx md rv st (Xe8 md st rv):=by
 simp only[UE,XuN]
 cases Xe8 md st rv with
 | some cs=>rfl
 | none =>
  simp only[XuM,Xp]
  cases XdN cx st rv<;>rfl
def XlC(cx:Cx)(md:List Md)(rv:List ResultVar)(st:St)(cs:List AV):XuN cx md rv st (some cs)=XtA md st cs:=nr rfl
def XlD(cx:Cx)(md:List Md)(rv:List ResultVar)(st:St):XuN cx md rv st none=Xp (XdN cx st rv) (Xvp md):=nr rfl
def XpK(md:List Md)(st:St)(cs:List AV):XtA md st cs=if(cs.all YA&&!cs.isEmpty&&(Xer st md 0).all YX&&Xbm md (Xer st md 0))=true then some (.tup [.agg cs],Xer st md 0) else none:=nr rfl
def XlE(md:List Md)(st:St):Xe8 md st []=none:=nr rfl
def XlF(md:List Md)(st:St)(t:Nat):Xe8 md st [.tmp t]=npP md st (st.env t):=nr rfl
def XjZ(md:List Md)(st:St)(a t:Nat):Xe8 md st [.cell a t]=none:=nr rfl
def XlG(md:List Md)(st:St)(a b:ResultVar)(l:List ResultVar):Xe8 md st (a :: b :: l)=none:=by cases a<;>rfl
def Xvq(md:List Md)(st:St)(q:Pl):npP md st (.p q)=if(!q.e&&q.path.isEmpty&&q.c==0&&decide (md.length<=q.r))=true then some (st.bx q.r) else none:=nr rfl
def XpL(md:List Md)(l:List AV)(st:St):Xvp md (l,st)=if(l.all YX&&(Xer st md 0).all YX&&Xbm md (Xer st md 0))=true then some (one l,Xer st md 0) else none:=nr rfl
def Xnn(cx:Cx)(st:St):XdN cx st []=some ([],st):=nr rfl
def Xvr(v:AV)(p:List AV×St):Option (List AV×St):=some (v :: p.1,p.2)
def XpM(v:AV)(l:List AV)(st:St):Xvr v (l,st)=some (v :: l,st):=nr rfl
def XlH(cx:Cx)(st:St)(t:Tmp)(r:List ResultVar):XdN cx st (.tmp t :: r)=Xp (take st (.tmp t)) (λp=>Xp (XdN cx p.2 r) (Xvr p.1)):=by
 simp only[XdN,Xp]
 cases take st (.tmp t) with
 | none=>rfl
 | some p=>obtain⟨v,s⟩:=p; simp only; cases XdN cx s r<;>rfl
def XlI(cx:Cx)(st:St)(a t:Nat)(r:List ResultVar):XdN cx st (.cell a t :: r)=Xp (cx.T t) (λti=>Xp (loadAt st ti (view st (.tmp a))) (λv=>Xp (takeVal st v) (λp=>Xp (XdN cx p.2 r) (Xvr p.1)))):=by
 simp only[XdN,Zb,Xp]
 cases cx.T t with
 | none=>rfl
 | some ti =>
  simp only
  cases loadAt st ti (view st (.tmp a)) with
  | none=>rfl
  | some v =>
   simp only
   cases takeVal st v with
   | none=>rfl
   | some p=>obtain⟨v,s⟩:=p; simp only; cases XdN cx s r<;>rfl
def XpN:List Md->List AV->Nat->List (Nat×AV)
 | .rw _ :: ms,_ :: as,j=>(j,.p ⟨false,j,[],0⟩) :: XpN ms as (j+1)
 | .ro _ :: ms,a :: as,j=>(j,a) :: XpN ms as (j+1)
 | .mv :: ms,a :: as,j=>(j,a) :: XpN ms as (j+1)
 | _,_,_=>[]
def XpO:List Md->List AV->Nat->List (Nat×List AV)
 | .rw _ :: ms,a :: as,j=>(j,cellsOf a) :: XpO ms as (j+1)
 | .ro _ :: ms,_ :: as,j=>XpO ms as (j+1)
 | .mv :: ms,_ :: as,j=>XpO ms as (j+1)
 | _,_,_=>[]
def Xno(ms:List Md)(as:List AV):Xbq ms as=⟨E (XpN ms as 0),B (XpO ms as 0)⟩:=by
 have h1:∀(ms:List Md) (as:List AV) (j t:Nat),ZY ms as j t=E (XpN ms as j) t:=by
  intro ms
  induction ms with
  | nil=>intro as j t; cases as<;>rfl
  | cons m ms ih =>
   intro as j t
   cases as with
   | nil=>cases m<;>rfl
   | cons a as=>cases m<;>simp only[ZY,XpN,XdB,ih]
 have h2:∀(ms:List Md) (as:List AV) (j t:Nat),ZI ms as j t=B (XpO ms as j) t:=by
  intro ms
  induction ms with
  | nil=>intro as j t; cases as<;>rfl
  | cons m ms ih =>
   intro as j t
   cases as with
   | nil=>cases m<;>rfl
   | cons a as=>cases m<;>simp only[ZI,XpO,XeG,ih]
 simp only[Xbq,St.mk.injEq]
 exact⟨funext (h1 ms as 0),funext (h2 ms as 0)⟩
section
variable (cx : Cx) (t : TypeId) (pos : String) (aft : Array Edge) (g : Option (Nat × Bool)) (st : St)
def Xai(d:Nat)(x:Option AV):XgD st (some d) x=Xp x (λv=>some (st.put d v)):=by cases x<;>rfl
def Xjh(d:Nat)(x:Option (AV×St)):Xtz (some d) x=Xp x (λy=>some (y.2.put d y.1)):=by cases x<;>rfl
def XtT(d:Option Nat)(x:Option (AV×St)):Xvf d x=Xp x (λy=>putN d y.2 y.1 (Xcd y.1)):=by cases x<;>rfl
def XlJ(d:Option Nat)(st:St)(r:AV):putN d st r none=some (st.put? d r):=nr rfl
def XlK(d:Nat)(st:St)(r:AV)(cs:List AV):putN (some d) st r (some cs)=QM st d cs:=nr rfl
def XpP(cs:List AV):Xcd (.tup [.agg cs])=some cs:=nr rfl
def Xnp:Xcd (.tup [])=none:=nr rfl
def Xnq(a b:AV)(l:List AV):Xcd (.tup (a :: b :: l))=none:=by cases a<;>rfl
def XpQ(st:St)(t:Nat):AV->Option (AV×St)
 | .tup (v :: vs)=>some (.tup (v :: vs),⟨upd st.env t .u,st.bx⟩)
 | _=>none
def XlL(st:St)(t:Nat)(v:AV)(vs:List AV):XpQ st t (.tup (v :: vs))=some (.tup (v :: vs),⟨upd st.env t .u,st.bx⟩):=nr rfl
def XlM(st:St)(t:Nat):Xh2 st (.tmp t)=XpQ st t (st.env t):=by
 simp only[Xh2,XpQ]
 cases st.env t with
 | tup vs=>cases vs<;>rfl
 | _=>rfl
def XpR(d:Nat)(x:Operand):Xv cx st ⟨some d,.move x,t,pos,aft,g⟩=if cx.al.contains d=true then Xp (Xh2 st x) (λy=>some (y.2.put d y.1)) else some (st.put d (fix (zOf cx t) (view st x))):=by
 simp only[Xv,alD,Xjh,St.put?]
def XlN(d:Nat)(x:Operand):Xv cx st ⟨some d,.assign x,t,pos,aft,g⟩ =
  if cx.al.contains d=true then some (st.put d (fix (zOf cx t) (view st x))) else Xp (take st x) (λy=>some (y.2.put d (fix (zOf cx t) y.1))):=by
 simp only[Xv,Zb,UX]
def Xiu(st:St)(d:Nat)(a x y:AV):Option St:=match a with
 | .b b=>if b=true then some (st.put d x) else some (st.put d y)
 | _=>none
@[congr] def XpS{st:St}{d:Nat}{a a' x y:AV}(h:a=a'):Xiu st d a x y=Xiu st d a' x y:=by rw[h]
def XfK(d:Nat)(x y:AV):Xiu st d (.b true) x y=some (st.put d x):=nr rfl
def XeK(d:Nat)(x y:AV):Xiu st d (.b false) x y=some (st.put d y):=nr rfl
def XpT(d:Nat)(b:Bool)(x y:AV):Xiu st d (.b b) x y=if b=true then some (st.put d x) else some (st.put d y):=nr rfl
def XpU(d:Nat)(c x y:Operand):Xv cx st ⟨some d,.pick c x y,t,pos,aft,g⟩=Xiu st d (view st c) (view st x) (view st y):=by
 simp only[Xv,Xiu,St.put?]
 cases view st c with
 | b x=>cases x<;>rfl
 | _=>rfl
def Xnr(d:Nat)(t':TypeId):Xv cx st ⟨some d,.alloc t',t,pos,aft,g⟩=Xp (cx.T t') (λti=>QM st d ti.zero):=Zb _ _
def XtU(d:Nat)(t':TypeId)(x:Operand):Xv cx st ⟨some d,.box t' x,t,pos,aft,g⟩=Xp (cx.T t') (λti=>if cx.fz.contains d=true then Xp (XjB ti (fix ti.z (view st x))) (λcs=>Xbw st d cs) else if cx.al.contains d=true then Xp (XjB ti (fix ti.z (view st x))) (λcs=>QM st d cs) else Xp (take st x) (λy=>Xp (XjB ti (fix ti.z y.1)) λcs=>QM y.2 d cs)):=by
 simp only[Xv,Zb,UX]
def XpV(d:Nat)(t':TypeId)(a:Operand):Xv cx st ⟨some d,.load t' a,t,pos,aft,g⟩=Xp (cx.T t') (λti=>Xp (loadAt st ti (view st a)) (λv=>some (st.put d v))):=by
 simp only[Xv,Zb,Xai]
def Xns(t':TypeId)(a x:Operand):Xv cx st ⟨none,.store t' a x,t,pos,aft,g⟩=Xp (cx.T t') (λti=>Xp (take st x) (λy=>storeAt y.2 ti (view y.2 a) y.1)):=by
 simp only[Xv,Zb,Option.isSome_none,Bool.false_eq_true,if_false]
def Xiv(d:Nat)(x:Operand):Xv cx st ⟨some d,.nilCheck x,t,pos,aft,g⟩=Xp (Xf1 (view st x)) (λv=>some (st.put d v)):=Xai st d _
def Xhr(d:Nat)(t':TypeId)(x:Operand)(f:Nat):Xv cx st ⟨some d,.fieldAddr t' x f,t,pos,aft,g⟩=Xp (cx.T t') (λti=>Xp (Xcv ti f (view st x)) (λv=>some (st.put d v))):=by
 simp only[Xv,Zb,Xai]
def Xnt(d:Nat)(t':TypeId)(x:Operand)(f:Nat):Xv cx st ⟨some d,.field t' x f,t,pos,aft,g⟩=Xp (cx.T t') (λti=>Xp (XgT ti f (view st x)) (λv=>some (st.put d v))):=by
 simp only[Xv,Zb,Xai]
def Xhs(d:Nat)(t':TypeId)(x ix:Operand):Xv cx st ⟨some d,.indexAddr t' x ix,t,pos,aft,g⟩=Xp (cx.T t') (λti=>Xp (XaE st ti (view st x) (view st ix)) (λv=>some (st.put d v))):=by
 simp only[Xv,Zb,Xai]
def Xnu(d:Nat)(t':TypeId)(x ix:Operand):Xv cx st ⟨some d,.index t' x ix,t,pos,aft,g⟩=Xp (cx.T t') (λti=>Xp (Xb7 ti (view st x) (view st ix)) (λv=>some (st.put d v))):=by
 simp only[Xv,Zb,Xai]
def XtV(d:Nat)(op:BinOp)(xt:TypeId)(x y:Operand)(yt:TypeId):Xv cx st ⟨some d,.binOp op xt x y yt,t,pos,aft,g⟩=Xp (Xe4 (cx.T xt) (cx.eqs xt) op (view st x) (view st y)) (λv=>some (st.put d v)):=Xai st d _
def Xvs(d:Nat)(op:UnOp)(xt:TypeId)(x:Operand):Xv cx st ⟨some d,.unOp op xt x,t,pos,aft,g⟩=Xp (unV op (view st x)) (λv=>some (st.put d v)):=Xai st d _
def Xj0(d:Nat)(a b:TypeId)(x:Operand):Xv cx st ⟨some d,.convert a b x,t,pos,aft,g⟩=Xp (cx.T a) (λta=>Xp (cx.T b) (λtb=>Xp (Xjy st ta tb (view st x)) (λv=>some (st.put d v)))):=by
 simp only[Xv,Zb,Xai]
def XlO(src:TI)(k:IntKind)(a:AV):Xjy st src (.int k) a=Xh1 st src (.int k) a:=nr rfl
def XlP(src:TI)(a:AV):Xjy st src .str a=Xh1 st src .str a:=nr rfl
def Xnv(z n:Nat)(zero:List AV)(src:TI)(a:AV):Xjy st src (.slice z n zero) a=XgU src z zero a:=nr rfl
def Xnw(z:Nat)(zero:List AV)(b:ByteArray):XgU .str z zero (.s b)=if z=1/\Xty zero=true/\b.size<=9223372036854775807 then some (.sl .mut 1 (b.data.toList.map Xc4)) else none:=nr rfl
def Xnx(d:Nat)(xt:TypeId)(x:Operand)(lo hi:Option Operand):Xv cx st ⟨some d,.slice xt x lo hi none,t,pos,aft,g⟩=Xp (cx.T xt) (λti=>Xp (Xcs ti (view st x) (lo.map (view st)) (hi.map (view st))) (λv=>some (st.put d v))):=by
 simp only[Xv,Zb,Xai]
def Xiw(d f:Nat)(caps:List Operand):Xv cx st ⟨some d,.makeFunc (.func f) (List.toArray []) (List.toArray caps),t,pos,aft,g⟩=if(caps.map (view st)).all UH=true then some (st.put d (.fn f (caps.map (view st)))) else none:=by
 simp only[Xv,List.isEmpty_toArray,List.isEmpty_nil,Bool.true_and]; rfl
def Xj1(d:Nat)(x:Operand)(j:Nat):Xv cx st ⟨some d,.extract x j,t,pos,aft,g⟩=Xp (XaV st x j) (λy=>some (y.2.put d y.1)):=Xjh d _
def Xny(d:Nat)(t':TypeId)(parts:List (Nat×Operand)):Xv cx st ⟨some d,.build t' (List.toArray parts),t,pos,aft,g⟩=Xp (cx.T t') (λti=>Xp (Xep ti st parts) (λv=>some (st.put d v))):=by
 simp only[Xv,Zb,Xai]
def Xgi(d:Nat)(t':TypeId)(len:Nat)(parts:List (Nat×Operand)):Xv cx st ⟨some d,.buildSlice t' len (List.toArray parts),t,pos,aft,g⟩=Xp (cx.T t') (λti=>Xp (Q4 ti st len parts) (λy=>some (y.2.put d y.1))):=by
 simp only[Xv,Zb,Xjh,St.put?]
def Xht(d:Nat)(t':TypeId)(l c:Operand):Xv cx st ⟨some d,.makeSlice t' l c,t,pos,aft,g⟩=Xp (cx.T t') (λti=>Xp (XjA ti (view st l) (view st c)) (λv=>some (st.put d v))):=by
 simp only[Xv,Zb,Xai]
def XtW(d:Nat)(x:Operand)(tx:TypeId)(ts:List TypeId):Xv cx st ⟨some d,.call {callee:=.builtin .len,args:=List.toArray [x],argTypes:=List.toArray (tx :: ts)},t,pos,aft,g⟩=Xp (cx.T tx) (λti=>Xp (Xrq st ti (view st x)) (λn=>some (st.put d (.i .i64 n)))):=by
 simp only[Xv,Zs,Zb]; rfl
def XlQ(d:Nat)(x y:Operand)(tx ty:TypeId):Xv cx st ⟨some d,.call {callee:=.builtin .append,args:=List.toArray [x,y],argTypes:=List.toArray [tx,ty]},t,pos,aft,g⟩=Xp (cx.T tx) (λti=>Xp (cx.T ty) (λtj=>if XgV tj=true then Xp (Xc5 ti st x y) (λy=>some (y.2.put d y.1)) else none)):=by
 simp only[Xv,Zs,Zb,Xjh]
def Xnz(x:Operand)(tx:TypeId):Xv cx st ⟨none,.call {callee:=.builtin .clear,args:=List.toArray [x],argTypes:=List.toArray [tx]},t,pos,aft,g⟩=Xp (cx.T tx) (λti=>Xdq ti st (view st x)):=by
 simp only[Xv,Zs,Zb,noD]
def XtX(d:Nat)(xs:List Operand)(at_:Array TypeId):Xv cx st ⟨some d,.call {callee:=.builtin .min,args:=List.toArray xs,argTypes:=at_},t,pos,aft,g⟩=Xp (Xjz (λa b=>if b<a then b else a) (xs.map (view st))) (λv=>some (st.put d v)):=by
 simp only[Xv,Zs,Xai]
def XtY(d:Nat)(xs:List Operand)(at_:Array TypeId):Xv cx st ⟨some d,.call {callee:=.builtin .max,args:=List.toArray xs,argTypes:=at_},t,pos,aft,g⟩=Xp (Xjz (λa b=>if b>a then b else a) (xs.map (view st))) (λv=>some (st.put d v)):=by
 simp only[Xv,Zs,Xai]
def XpW(d:Option Nat)(f:Operand)(args:List Operand)(ats:List TypeId):Xv cx st ⟨d,.call {callee:=.value f,args:=List.toArray args,argTypes:=List.toArray ats},t,pos,aft,g⟩ =
  Xp (Xb6 cx st f ats args) (λy=>putN d y.2 y.1 (Xcd y.1)):=by
 simp only[Xv,Zs,XtT]
def XnA(f:Operand)(ts:List TypeId)(xs:List Operand):Xb6 cx st f ts xs=Xp (XaU cx st f ts xs) (λp=>Xp (cx.fns p.1) (λfs=>Xem cx st p.1 fs f ts xs)):=by
 simp only[Xb6,Xp]
 cases XaU cx st f ts xs with
 | none=>rfl
 | some p=>obtain⟨g,as⟩:=p; simp only; cases cx.fns g<;>rfl
def XpX(f:Operand)(ts:List TypeId)(xs:List Operand):XaU cx st f ts xs=fnV (view st f) (XgC cx ts xs (xs.map (view st))):=nr rfl
def XnB(g:Nat)(md:List Md)(F:List AV->Option (AV×List AV))(f:Operand)(ts:List TypeId)(xs:List Operand):Xem cx st g ⟨md,F,false⟩ f ts xs=Xel cx st g ⟨md,F,false⟩ f ts xs:=nr rfl
def XnC(g:Nat)(md:List Md)(F:List AV->Option (AV×List AV))(f:Operand)(ts:List TypeId)(xs:List Operand):Xem cx st g ⟨md,F,true⟩ f ts xs=Xp (weakAll st md xs) (λs=>Xel cx s g ⟨md,F,true⟩ f ts xs):=by
 simp only[Xem,if_true,Xp]
 cases weakAll st md xs<;>rfl
def rwK(cx:Cx)(st:St)(g:Nat)(fs:FS)(f:Operand)(ts:List TypeId)(xs:List Operand):Option (Nat×Nat)->Option (AV×St)
 | some (k,n)=>Xe7 cx st g fs k n f ts xs
 | none=>Xek cx st g fs f ts xs
def XpY(g:Nat)(md:List Md)(F:List AV->Option (AV×List AV))(b:Bool)(f:Operand)(ts:List TypeId)(xs:List Operand):Xel cx st g ⟨md,F,b⟩ f ts xs=rwK cx st g ⟨md,F,b⟩ f ts xs (Xe5 0 md):=by
 unfold Xel rwK
 simp only
 cases Xe5 0 md with
 | none=>rfl
 | some p=>rfl
def XnD(g:Nat)(fs:FS)(f:Operand)(ts:List TypeId)(xs:List Operand)(k n:Nat):rwK cx st g fs f ts xs (some (k,n))=Xe7 cx st g fs k n f ts xs:=nr rfl
def XnE(g:Nat)(fs:FS)(f:Operand)(ts:List TypeId)(xs:List Operand):rwK cx st g fs f ts xs none=Xek cx st g fs f ts xs:=nr rfl
def XnF(k:Nat):Xe5 k []=none:=nr rfl
def XpZ(k n:Nat)(ms:List Md):Xe5 k (.ro n :: ms)=Xe5 (k+1) ms:=nr rfl
def Xp0(k:Nat)(ms:List Md):Xe5 k (.mv :: ms)=Xe5 (k+1) ms:=nr rfl
def Xp1(k n:Nat)(ms:List Md):Xe5 k (.rw n :: ms)=some (k,n):=nr rfl
def inO(a:Option AV)(l:Option (List AV)):Option (List AV):=match a,l with
 | some a,some l=>some (a :: l)
 | _,_=>none
def XnG(a:AV)(l:List AV):inO (some a) (some l)=some (a :: l):=nr rfl
def Xj2(own:Bool)(av:Option (Bool×Nat))(ys:List (AV×List (Option (Pl×Bool)))):ZX own av st [] [] ys=some []:=nr rfl
def Xix(own:Bool)(av:Option (Bool×Nat))(m:Md)(ms:List Md)(a:AV)(as:List AV)(ys:List (AV×List (Option (Pl×Bool)))):ZX own av st (m :: ms) (a :: as) ys=inO (Xcu own av st m a (ys.headD (.u,[]))) (ZX own av st ms as ys.tail):=by
 simp only[ZX,inO]
 cases Xcu own av st m a (ys.headD (.u,[])) with
 | none=>rfl
 | some b=>simp only; cases ZX own av st ms as ys.tail<;>rfl
def XnH(own:Bool)(av:Option (Bool×Nat))(n:Nat)(a:AV)(y:AV×List (Option (Pl×Bool))):Xcu own av st (.ro n) a y=Ut own av st a:=nr rfl
def XnI(own:Bool)(av:Option (Bool×Nat))(a:AV)(x:AV)(l:List (Option (Pl×Bool))):Xcu own av st .mv a (x,l)=some x:=nr rfl
def rwB(n:Nat)(pl:Pl)(w:Bool)(cells:List AV):Option AV:=if(w&&decide (pl.c+n<=cells.length)&&((cells.drop pl.c).take n).all YA)=true then some (.agg ((cells.drop pl.c).take n)) else none
def XnJ(own:Bool)(av:Option (Bool×Nat))(n:Nat)(pl:Pl)(y:AV×List (Option (Pl×Bool))):Xcu own av st (.rw n) (.p pl) y=Xp (node st pl) (rwB n pl (Yh st pl)):=by
 simp only[Xcu,Xp,rwB]
 cases node st pl<;>rfl
def rwP(cx:Cx)(st:St)(fs:FS)(as:List AV)(k n:Nat):Option AV->Option (AV×St)
 | some (.p pl)=>Xfo cx st fs as k n pl
 | _=>none
def Xvt(fs:FS)(as:List AV)(k n:Nat)(pl:Pl):rwP cx st fs as k n (some (.p pl))=Xfo cx st fs as k n pl:=nr rfl
def Xp2(g:Nat)(fs:FS)(k n:Nat)(f:Operand)(ts:List TypeId)(xs:List Operand):Xe7 cx st g fs k n f ts xs=Xp (XaU cx st f ts xs) (λp=>if p.1=g/\Xe6 k fs.md=true then rwP cx st fs p.2 k n p.2[k]? else none):=by
 simp only[Xe7,Xp]
 cases XaU cx st f ts xs with
 | none=>rfl
 | some p =>
  obtain⟨g',as⟩:=p
  simp only
  split
  ·cases as[k]? with
   | none=>rfl
   | some a=>cases a<;>rfl
  ·rfl
def rwA(st:St)(pl:Pl)(n:Nat)(r:AV):Option AV->Option (AV×St)
 | some (.agg cs)=>Xp (node st pl) (λcells=>some (r,(Xw st pl (cells.take pl.c++cs++cells.drop (pl.c+n))).cut pl n))
 | _=>none
def Xp3(pl:Pl)(n:Nat)(r:AV)(cs:List AV):rwA st pl n r (some (.agg cs))=Xp (node st pl) (λcells=>some (r,(Xw st pl (cells.take pl.c++cs++cells.drop (pl.c+n))).cut pl n)):=nr rfl
def rwR(st:St)(pl:Pl)(k n:Nat)(p:AV×List AV):Option (AV×St):=rwA st pl n p.1 p.2[k]?
def XtZ(pl:Pl)(k n:Nat)(r:AV)(os:List AV):rwR st pl k n (r,os)=rwA st pl n r os[k]?:=nr rfl
def XnK(md:List Md)(F:List AV->Option (AV×List AV))(b:Bool)(as:List AV)(k n:Nat)(pl:Pl):Xfo cx st ⟨md,F,b⟩ as k n pl=Xp (ZX (!b) (some (pl.e,pl.r)) st md as []) (λbs=>Xp (F bs) (rwR st pl k n)):=by
 simp only[Xfo,Xp,rwR]
 cases ZX (!b) (some (pl.e,pl.r)) st md as [] with
 | none=>rfl
 | some bs =>
  simp only
  cases F bs with
  | none=>rfl
  | some p =>
   obtain⟨r,os⟩:=p
   simp only[rwA]
   cases os[k]? with
   | none=>rfl
   | some a =>
    cases a<;>try rfl
    simp only[Xp]
    cases node st pl<;>rfl
def Xj3(m:Md)(ms:List Md):Xe6 0 (m :: ms)=ms.all Qh:=nr rfl
def Xj4(k n:Nat)(ms:List Md):Xe6 (k+1) (.ro n :: ms)=Xe6 k ms:=nr rfl
def Xiy(xs:List Operand):weakAll st [] xs=some st:=by cases xs<;>rfl
def Xj5(n:Nat)(ms:List Md)(x:Operand)(xs:List Operand):weakAll st (.ro n :: ms) (x :: xs)=Xp (weakArg st x) (λs=>weakAll s ms xs):=by
 simp only[weakAll,Xp]; cases weakArg st x<;>rfl
def Xj6(n:Nat)(ms:List Md)(x:Operand)(xs:List Operand):weakAll st (.rw n :: ms) (x :: xs)=weakAll st ms xs:=by simp only[weakAll]
def Xj7(ms:List Md)(x:Operand)(xs:List Operand):weakAll st (.mv :: ms) (x :: xs)=weakAll st ms xs:=by simp only[weakAll]
def Xbr(st:St)(x:Operand):AV->Option St
 | .agg cs=>Us x cs.length 0 st
 | a=>weakLeaf st a
def XlR(x:Operand):weakArg st x=Xbr st x (view st x):=by simp only[weakArg,Xbr]; cases view st x<;>rfl
def Xhu(x:Operand)(j:Nat):Us x 0 j st=some st:=nr rfl
def Xp4(x:Operand)(n j:Nat)(st:St):AV->Option St
 | .agg cs=>Xp cs[j]? (λa=>Xp (weakLeaf st a) (λs=>Us x n (j+1) s))
 | _=>none
def XlS(x:Operand)(n j:Nat)(cs:List AV):Xp4 x n j st (.agg cs)=Xp cs[j]? (λa=>Xp (weakLeaf st a) (λs=>Us x n (j+1) s)):=nr rfl
def Xhv(x:Operand)(n j:Nat):Us x (n+1) j st=Xp4 x n j st (view st x):=by
 simp only[Us,Xp4]
 cases view st x with
 | agg cs =>
  simp only[Xp]
  cases cs[j]? with
  | none=>rfl
  | some a=>simp only; cases weakLeaf st a<;>rfl
 | _=>rfl
def XlT(st:St)(pl:Pl)(z':Nat)(cells:List AV):Option AV->Option St
 | some (.sl .mut z es)=>if z'=z then(if Yh st pl then some ((Xw st pl (cells.set pl.c (.sl .app z (XX es)))).filt (keepP pl.e pl.r pl.path pl.c 1) (keepP pl.e pl.r pl.path pl.c 1)) else none) else none
 | _=>some st
def Xp5(st:St)(pl:Pl)(z':Nat):Option (List AV)->Option St
 | some cells=>XlT st pl z' cells cells[pl.c]?
 | none=>some st
def Xiz(pl:Pl)(z' lo n:Nat):weakLeaf st (.rf pl z' lo n)=Xp5 st pl z' (node st pl):=by
 simp only[weakLeaf,Xp5]
 cases node st pl with
 | none=>rfl
 | some cells=>rfl
def Xj8(pl:Pl)(z':Nat)(cells:List AV):Xp5 st pl z' (some cells)=XlT st pl z' cells cells[pl.c]?:=nr rfl
def XlU(pl:Pl)(z':Nat)(cells:List AV)(z:Nat)(es:List (List AV)):XlT st pl z' cells (some (.sl .mut z es))=if z'=z then(if Yh st pl=true then some ((Xw st pl (cells.set pl.c (.sl .app z (XX es)))).filt (keepP pl.e pl.r pl.path pl.c 1) (keepP pl.e pl.r pl.path pl.c 1)) else none) else none:=nr rfl
def XnL(pl:Pl)(z':Nat)(cells:List AV)(z:Nat)(es:List (List AV)):XlT st pl z' cells (some (.sl .ro z es))=some st:=nr rfl
def XlV(pl:Pl)(z':Nat)(cells:List AV)(z:Nat)(es:List (List AV)):XlT st pl z' cells (some (.sl .app z es))=some st:=nr rfl
def XuO(ys:List (AV×List (Option (Pl×Bool))))(st:St)(p:AV×List AV):Option (AV×St):=Xp (Zh st p.2 ys) (λs=>some (p.1,s))
def XlW(g:Nat)(md:List Md)(F:List AV->Option (AV×List AV))(b:Bool)(f:Operand)(ts:List TypeId)(xs:List Operand):Xek cx st g ⟨md,F,b⟩ f ts xs=Xp (YB cx st md ts xs) (λp=>Xp (XaU cx p.2 f ts xs) (λq=>if q.1=g/\(p.1.all λy=>y.2.all (XkR p.2))=true then Xp (ZX (!b) none p.2 md q.2 p.1) (λbs=>Xp (F bs) (XuO p.1 p.2)) else none)):=by
 simp only[Xek,Xp,XuO]
 cases YB cx st md ts xs with
 | none=>rfl
 | some p =>
  obtain⟨ys,s⟩:=p
  simp only
  cases XaU cx s f ts xs with
  | none=>rfl
  | some q =>
   obtain⟨g',as⟩:=q
   simp only[XkS]
   split
   ·cases ZX (!b) none s md as ys with
    | none=>rfl
    | some bs =>
     simp only
     cases F bs with
     | none=>rfl
     | some r =>
      obtain⟨v,os⟩:=r
      simp only
      cases Zh s os ys<;>rfl
   ·rfl
def XiA(ts:List TypeId)(xs:List Operand):YB cx st [] ts xs=some ([],st):=by cases ts<;>cases xs<;>rfl
def XlX(y:AV×List (Option (Pl×Bool)))(q:List (AV×List (Option (Pl×Bool)))×St):Option (List (AV×List (Option (Pl×Bool)))×St):=some (y :: q.1,q.2)
def XnM(y:AV×List (Option (Pl×Bool)))(l:List (AV×List (Option (Pl×Bool))))(s:St):XlX y (l,s)=some (y :: l,s):=nr rfl
def Xj9(ms:List Md)(t:TypeId)(ts:List TypeId)(x:Operand)(xs:List Operand):YB cx st (.mv :: ms) (t :: ts) (x :: xs)=Xp (outArg (zOf cx t) st x) (λp=>Xp (YB cx p.2 ms ts xs) (XlX p.1)):=by
 simp only[YB,Md.isMv,if_true,Xp,XlX]
 cases outArg (zOf cx t) st x with
 | none=>rfl
 | some p=>obtain⟨y,s⟩:=p; simp only; cases YB cx s ms ts xs<;>rfl
def Xka(n:Nat)(ms:List Md)(t:TypeId)(ts:List TypeId)(x:Operand)(xs:List Operand):YB cx st (.ro n :: ms) (t :: ts) (x :: xs)=Xp (YB cx st ms ts xs) (XlX (.u,[])):=by
 simp only[YB,Md.isMv,Bool.false_eq_true,if_false,Xp,XlX]
 cases YB cx st ms ts xs<;>rfl
def Xmm(z:Nat)(st:St)(x:Operand):AV->Option ((AV×List (Option (Pl×Bool)))×St)
 | .agg cs=>match UC x cs.length 0 st with
  | some (ys,st')=>some ((.agg ys.1,ys.2),st')
  | none=>none
 | a=>match outLeaf st (fix z a) with
  | some (y,st')=>some ((y.1,[y.2]),st')
  | none=>none
def XnN(z:Nat)(x:Operand):outArg z st x=Xmm z st x (view st x):=by
 simp only[outArg,Xmm]
 cases view st x<;>rfl
def Xp6(p:(List AV×List (Option (Pl×Bool)))×St):Option ((AV×List (Option (Pl×Bool)))×St):=some ((.agg p.1.1,p.1.2),p.2)
def XnO(l:List AV)(r:List (Option (Pl×Bool)))(s:St):Xp6 ((l,r),s)=some ((.agg l,r),s):=nr rfl
def XiB(p:(AV×Option (Pl×Bool))×St):Option ((AV×List (Option (Pl×Bool)))×St):=some ((p.1.1,[p.1.2]),p.2)
def XnP(a:AV)(r:Option (Pl×Bool))(s:St):XiB ((a,r),s)=some ((a,[r]),s):=nr rfl
def XnQ(z:Nat)(x:Operand)(cs:List AV):Xmm z st x (.agg cs)=Xp (UC x cs.length 0 st) Xp6:=by
 simp only[Xmm,Xp,Xp6]
 cases UC x cs.length 0 st<;>rfl
def Xp7(z:Nat)(x:Operand)(pl:Pl)(y lo n:Nat):Xmm z st x (.rf pl y lo n)=Xp (outLeaf st (.rf pl y lo n)) XiB:=by
 simp only[Xmm,fix,Xp,XiB]
 cases outLeaf st (.rf pl y lo n)<;>rfl
def Xp8(z:Nat)(x:Operand)(t:Tag)(y:Nat)(es:List (List AV)):Xmm z st x (.sl t y es)=Xp (outLeaf st (.sl t y es)) XiB:=by
 simp only[Xmm,fix,Xp,XiB]
 cases outLeaf st (.sl t y es)<;>rfl
def XnR(z:Nat)(x:Operand):Xmm z st x .nil=Xp (outLeaf st (fix z .nil)) XiB:=by
 simp only[Xmm,Xp,XiB]
 cases outLeaf st (fix z .nil)<;>rfl
def XiC(x:Operand)(j:Nat):UC x 0 j st=some (([],[]),st):=nr rfl
def XuP(y:AV×Option (Pl×Bool))(q:(List AV×List (Option (Pl×Bool)))×St):Option ((List AV×List (Option (Pl×Bool)))×St):=some ((y.1 :: q.1.1,y.2 :: q.1.2),q.2)
def Xp9(a:AV)(r:Option (Pl×Bool))(l:List AV)(rs:List (Option (Pl×Bool)))(s:St):XuP (a,r) ((l,rs),s)=some ((a :: l,r :: rs),s):=nr rfl
def Xvu(x:Operand)(n j:Nat)(st:St):AV->Option ((List AV×List (Option (Pl×Bool)))×St)
 | .agg cs=>Xp cs[j]? (λa=>Xp (outLeaf st a) (λp=>Xp (UC x n (j+1) p.2) (XuP p.1)))
 | _=>none
def XnS(x:Operand)(n j:Nat)(cs:List AV):Xvu x n j st (.agg cs)=Xp cs[j]? (λa=>Xp (outLeaf st a) (λp=>Xp (UC x n (j+1) p.2) (XuP p.1))):=nr rfl
def XiD(x:Operand)(n j:Nat):UC x (n+1) j st=Xvu x n j st (view st x):=by
 simp only[UC,Xvu]
 cases view st x with
 | agg cs =>
  simp only[Xp,XuP]
  cases cs[j]? with
  | none=>rfl
  | some a =>
   simp only
   cases outLeaf st a with
   | none=>rfl
   | some p=>obtain⟨y,s⟩:=p; simp only; cases UC x n (j+1) s<;>rfl
 | _=>rfl
def Xvv(st:St)(pl:Pl)(z' lo n:Nat)(cells:List AV):Option AV->Option ((AV×Option (Pl×Bool))×St)
 | some (.sl .mut z es)=>if(lo=0/\n=es.length)/\z'=z then(if Yh st pl=true then some ((.sl .mut z es,some (pl,whole st pl)),(Xw st pl (cells.set pl.c .u)).cut pl 1) else none) else none
 | _=>none
def XnT(pl:Pl)(z' lo n:Nat)(cells:List AV)(z:Nat)(es:List (List AV)):Xvv st pl z' lo n cells (some (.sl .mut z es))=if(lo=0/\n=es.length)/\z'=z then(if Yh st pl=true then some ((.sl .mut z es,some (pl,whole st pl)),(Xw st pl (cells.set pl.c .u)).cut pl 1) else none) else none:=nr rfl
def Xkb(pl:Pl)(z' lo n:Nat):outLeaf st (.rf pl z' lo n)=Xp (node st pl) (λcells=>Xvv st pl z' lo n cells cells[pl.c]?):=by
 simp only[outLeaf,Xp]
 cases node st pl with
 | none=>rfl
 | some cells=>simp only[Xvv]; rfl
def Xvw(st:St)(z:Nat)(pl:Pl)(y lo n:Nat)(cells:List AV):Option AV->Option St
 | some (.sl .mut z' es)=>if((lo+n<=es.length/\z'=z)/\y=z)/\(Yh st pl&&XkR ((Xw st pl (cells.set pl.c .u)).cut pl 1) (some (pl,whole st pl)))=true then Yj ((Xw st pl (cells.set pl.c .u)).cut pl 1) (.sl .mut z (Ql z lo n es)) (some (pl,whole st pl)) else none
 | _=>none
def XnU(z:Nat)(pl:Pl)(y lo n:Nat)(cells:List AV)(z':Nat)(es:List (List AV)):Xvw st z pl y lo n cells (some (.sl .mut z' es))=if((lo+n<=es.length/\z'=z)/\y=z)/\(Yh st pl&&XkR ((Xw st pl (cells.set pl.c .u)).cut pl 1) (some (pl,whole st pl)))=true then Yj ((Xw st pl (cells.set pl.c .u)).cut pl 1) (.sl .mut z (Ql z lo n es)) (some (pl,whole st pl)) else none:=nr rfl
def XlY(z b:Nat)(ze:List AV)(pl:Pl)(y lo n:Nat):Xdq (.slice z b ze) st (.rf pl y lo n)=Xp (node st pl) (λcells=>Xvw st z pl y lo n cells cells[pl.c]?):=by
 simp only[Xdq,Xp]
 cases node st pl with
 | none=>rfl
 | some cells=>simp only[Xvw]; rfl
@[congr] def Xox{ti:TI}{a a':AV}(h:a=a'):Xdq ti st a=Xdq ti st a':=by rw[h]
def XlZ:XkR st none=true:=nr rfl
def Xl0(pl:Pl):XkR st (some (pl,true))=true:=nr rfl
def okN(c:Nat):Option (List AV)->Bool
 | some cells=>decide (c<cells.length)
 | none=>false
def XnV(c:Nat)(cells:List AV):okN c (some cells)=decide (c<cells.length):=nr rfl
def Xkc(pl:Pl):XkR st (some (pl,false))=((!pl.e||top (st.env pl.r))&&okN pl.c (node st pl)):=nr rfl
def XiE(ys:List (AV×List (Option (Pl×Bool)))):Zh st [] ys=some st:=by cases ys<;>rfl
def Xhw(o:AV)(os:List AV)(a:AV)(ys:List (AV×List (Option (Pl×Bool)))):Zh st (o :: os) ((a,[]) :: ys)=Zh st os ys:=nr rfl
def Xhx(o:AV)(os:List AV)(a:AV)(p:Option (Pl×Bool))(ps:List (Option (Pl×Bool)))(ys:List (AV×List (Option (Pl×Bool)))):Zh st (o :: os) ((a,p :: ps) :: ys)=Xp (YY st (cellsOf o) (p :: ps)) (λs=>Zh s os ys):=by
 simp only[Zh,Xp]
 cases YY st (cellsOf o) (p :: ps)<;>rfl
def XiF(os:List AV):Zh st os []=some st:=by cases os<;>rfl
def Xfc:YY st [] []=some st:=nr rfl
def XeL(a:AV)(as:List AV)(p:Option (Pl×Bool))(ps:List (Option (Pl×Bool))):YY st (a :: as) (p :: ps)=Xp (Yj st a p) (λs=>YY s as ps):=by
 simp only[YY,Xp]
 cases Yj st a p<;>rfl
def Xgj(a:AV):Yj st a none=some st:=nr rfl
def Xqa(st:St)(r:Nat)(a:AV):AV->Option St
 | .u=>some (st.put r a)
 | _=>none
def Xqb(r:Nat)(a:AV):Xqa st r a .u=some (st.put r a):=nr rfl
def Xgk(pl:Pl)(t:Tag)(z:Nat)(es:List (List AV)):Yj st (.sl t z es) (some (pl,true))=Xqa st pl.r (.sl t z es) (st.env pl.r):=by
 simp only[Yj,Xqa]
 cases st.env pl.r<;>rfl
def Xqc(st:St)(pl:Pl)(a:AV)(cells:List AV):Option AV->Option St
 | some .u=>if(Yh st pl&&(!pl.e||top (st.env pl.r)))=true then some (Xw st pl (cells.set pl.c a)) else none
 | _=>none
def Xqd(pl:Pl)(a:AV)(cells:List AV):Xqc st pl a cells (some .u)=if(Yh st pl&&(!pl.e||top (st.env pl.r)))=true then some (Xw st pl (cells.set pl.c a)) else none:=nr rfl
def Xfd(pl:Pl)(t:Tag)(z:Nat)(es:List (List AV)):Yj st (.sl t z es) (some (pl,false))=Xp (node st pl) (λcells=>Xqc st pl (.sl t z es) cells cells[pl.c]?):=by
 simp only[Yj,Xp]
 cases node st pl with
 | none=>rfl
 | some cells =>
  simp only[Xqc]
  cases cells[pl.c]? with
  | none=>rfl
  | some a=>cases a<;>rfl
def Xvx(st:St)(p:AV×List AV):Option (AV×St):=some (p.1,st)
def Xqe(v:AV)(os:List AV):Xvx st (v,os)=some (v,st):=nr rfl
def XnW(g:Nat)(md:List Md)(F:List AV->Option (AV×List AV))(b:Bool)(f:Operand)(ts:List TypeId)(xs:List Operand)(h:md.all Qh=true) :
  Xek cx st g ⟨md,F,b⟩ f ts xs=Xp (XaU cx st f ts xs) (λq=>if q.1=g then Xp (ZX (!b) none st md q.2 []) (λbs=>Xp (F bs) (Xvx st)) else none):=by
 have h1:∀(ms:List Md) (ts:List TypeId) (xs:List Operand),ms.all Qh=true->∃ys,YB cx st ms ts xs=some (ys,st)/\∀y∈ys,y=(AV.u,[]):=by
  intro ms
  induction ms with
  | nil=>intro ts xs _; exact⟨[],by simp[YB],by simp⟩
  | cons m ms ih =>
   intro ts xs hm
   simp only[List.all_cons,Bool.and_eq_true] at hm
   cases ts with
   | nil=>exact⟨[],by simp[YB],by simp⟩
   | cons t ts =>
    cases xs with
    | nil=>exact⟨[],by simp[YB],by simp⟩
    | cons x xs =>
     obtain⟨ys,e1,e2⟩:=ih ts xs hm.2
     have:m.isMv=false:=by cases m<;>first | rfl | cases hm.1
     exact⟨(.u,[]) :: ys,by simp only[YB,this,Bool.false_eq_true,if_false,e1],by simpa using e2⟩
 obtain⟨ys,e1,e2⟩:=h1 md ts xs h
 have h2:∀(ms:List Md) (as:List AV) (ys:List (AV×List (Option (Pl×Bool)))),ms.all Qh=true->(∀y∈ys,y=(AV.u,[]))->ZX (!b) none st ms as ys=ZX (!b) none st ms as []:=by
  intro ms
  induction ms with
  | nil=>intro as ys _ _; cases as<;>rfl
  | cons m ms ih =>
   intro as ys hm hy
   simp only[List.all_cons,Bool.and_eq_true] at hm
   cases as with
   | nil=>rfl
   | cons a as =>
    cases m with
    | ro n =>
     simp only[ZX,Xcu,List.tail_nil]
     rw[ih as ys.tail hm.2 (λy hy'=>hy y (List.mem_of_mem_tail hy'))]
    | _=>cases hm.1
 have h3:∀(os:List AV) (ys:List (AV×List (Option (Pl×Bool)))),(∀y∈ys,y=(AV.u,[]))->Zh st os ys=some st:=by
  intro os
  induction os with
  | nil=>intro ys _; cases ys<;>rfl
  | cons o os ih =>
   intro ys hy
   cases ys with
   | nil=>rfl
   | cons y ys =>
    have:=hy y (by simp)
    subst this
    simp only[Zh]
    exact ih ys (λy hy'=>hy y (by simp[hy']))
 have h4:(ys.all λy=>y.2.all (XkR st))=true:=by
  rw[List.all_eq_true]
  intro y hy
  rw[e2 y hy]; rfl
 rw[XlW,e1]
 simp only[UX,h4,and_true]
 congr 1
 funext q
 split
 ·rw[h2 md q.2 ys h e2]
  congr 1
  funext bs
  congr 1
  funext p
  simp only[XuO,Xvx,h3 p.2 ys e2,UX]
 ·rfl
end
end Go.Vm
set_option autoImplicit true
set_option relaxedAutoImplicit true
namespace Go.Vm
def k0:Yi q .u=.u :=nr rfl
def k1:Yi q .no=.no :=nr rfl
def k2:Yi q .ub=.ub :=nr rfl
def k3:Yi q (.b x)=(.b x) :=nr rfl
def k4:Yi q (.i k n)=(.i k n) :=nr rfl
def k5:Yi q (.s x)=(.s x) :=nr rfl
def k6:Yi q .nil=.nil :=nr rfl
def k7:Yi q (.rf pl y lo n)=(.rf pl y lo n) :=nr rfl
def k8:Yi q (.p pl)=(.p pl) :=nr rfl
def k9:Yi q (.pr cs)=(.pr cs) :=nr rfl
def k10:Yi q .pn=.pn :=nr rfl
def k11:Yi q (.fn f cs)=(.fn f cs) :=nr rfl
def k12:Yi q (.fs cs)=(.fs cs) :=nr rfl
def k13:Yi q (.agg cs)=(.agg cs) :=nr rfl
def k14:Yi q (.tup cs)=(.tup cs) :=nr rfl
def k15:Yi q (.sl .app z es)=.rf q z 0 es.length :=nr rfl
def k16:Yi q (.sl .mut z es)=.rf q z 0 es.length :=nr rfl
def k17:Yi q (.sl .ro z es)=.sl .ro z es :=nr rfl
def Xa8(x:Nat)(a:AV):AV :=match a with
  | .agg cs => .agg (YT ⟨true,x,[],0⟩ 0 cs)
  | .tup _ => .u
  | a => Yi ⟨true,x,[],0⟩ a
def k18:view st (.tmp x)=Xa8 x (st.env x) :=nr rfl
def k19:view st (.const v)=Xjx v :=nr rfl
def k20:view st (.func f)=.fn f [] :=nr rfl
def k21:Xa8 x .u=.u :=nr rfl
def k22:Xa8 x .no=.no :=nr rfl
def k23:Xa8 x .ub=.ub :=nr rfl
def k24:Xa8 x (.i k n)=(.i k n) :=nr rfl
def k25:Xa8 x .nil=.nil :=nr rfl
def k26:Xa8 x (.rf pl y lo n)=(.rf pl y lo n) :=nr rfl
def k27:Xa8 x (.p pl)=(.p pl) :=nr rfl
def k28:Xa8 x (.pr cs)=(.pr cs) :=nr rfl
def k29:Xa8 x .pn=.pn :=nr rfl
def k30:Xa8 x (.fn f cs)=(.fn f cs) :=nr rfl
def k31:Xa8 x (.fs cs)=(.fs cs) :=nr rfl
def k32:Xa8 x (.agg cs)=.agg (YT ⟨true,x,[],0⟩ 0 cs) :=nr rfl
def k33:Xa8 x (.tup cs)=.u :=nr rfl
def k34:Xa8 x (.b y)=.b y :=nr rfl
def k35:Xa8 x (.s y)=.s y :=nr rfl
def k36:Xa8 x (.sl .app z es)=.rf ⟨true,x,[],0⟩ z 0 es.length :=nr rfl
def k37:Xa8 x (.sl .mut z es)=.rf ⟨true,x,[],0⟩ z 0 es.length :=nr rfl
def k38:Xa8 x (.sl .ro z es)=.sl .ro z es :=nr rfl
def k39:YT q j []=[] :=nr rfl
def k40:YT q j (a :: l)=Yi {q with c :=j} a :: YT q (j+1) l :=nr rfl
def k41:Ug .u=false :=nr rfl
def k42:Ug .no=false :=nr rfl
def k43:Ug .ub=false :=nr rfl
def k44:Ug (.b x)=false :=nr rfl
def k45:Ug (.i k n)=false :=nr rfl
def k46:Ug (.s x)=false :=nr rfl
def k47:Ug .nil=false :=nr rfl
def k48:Ug (.sl t z es)=true :=nr rfl
def k49:Ug (.rf pl y lo n)=false :=nr rfl
def k50:Ug (.p pl)=false :=nr rfl
def k51:Ug (.pr cs)=false :=nr rfl
def k52:Ug .pn=false :=nr rfl
def k53:Ug (.fn f cs)=false :=nr rfl
def k54:Ug (.fs cs)=false :=nr rfl
def k55:Ug (.agg cs)=false :=nr rfl
def k56:Ug (.tup cs)=false :=nr rfl
def k57:Xcd .u=none :=nr rfl
def k58:Xcd .no=none :=nr rfl
def k59:Xcd .ub=none :=nr rfl
def k60:Xcd (.b x)=none :=nr rfl
def k61:Xcd (.i k n)=none :=nr rfl
def k62:Xcd (.s x)=none :=nr rfl
def k63:Xcd .nil=none :=nr rfl
def k64:Xcd (.sl t z es)=none :=nr rfl
def k65:Xcd (.rf pl y lo n)=none :=nr rfl
def k66:Xcd (.p pl)=none :=nr rfl
def k67:Xcd (.pr cs)=none :=nr rfl
def k68:Xcd .pn=none :=nr rfl
def k69:Xcd (.fn f cs)=none :=nr rfl
def k70:Xcd (.fs cs)=none :=nr rfl
def k71:Xcd (.agg cs)=none :=nr rfl
def k72:npP md st .u=none :=nr rfl
def k73:npP md st .no=none :=nr rfl
def k74:npP md st .ub=none :=nr rfl
def k75:npP md st (.b x)=none :=nr rfl
def k76:npP md st (.i k n)=none :=nr rfl
def k77:npP md st (.s x)=none :=nr rfl
def k78:npP md st .nil=none :=nr rfl
def k79:npP md st (.sl t z es)=none :=nr rfl
def k80:npP md st (.rf pl y lo n)=none :=nr rfl
def k81:npP md st (.pr cs)=none :=nr rfl
def k82:npP md st .pn=none :=nr rfl
def k83:npP md st (.fn f cs)=none :=nr rfl
def k84:npP md st (.fs cs)=none :=nr rfl
def k85:npP md st (.agg cs)=none :=nr rfl
def k86:npP md st (.tup cs)=none :=nr rfl
def k87:Zu .u=false :=nr rfl
def k88:Zu .no=false :=nr rfl
def k89:Zu .ub=false :=nr rfl
def k90:Zu (.b x)=false :=nr rfl
def k91:Zu (.i k n)=false :=nr rfl
def k92:Zu (.s x)=false :=nr rfl
def k93:Zu .nil=false :=nr rfl
def k94:Zu (.sl t z es)=true :=nr rfl
def k95:Zu (.rf pl y lo n)=false :=nr rfl
def k96:Zu (.p pl)=false :=nr rfl
def k97:Zu (.pr cs)=false :=nr rfl
def k98:Zu .pn=false :=nr rfl
def k99:Zu (.fn f cs)=false :=nr rfl
def Xw9:Zu (.fs cs)=false :=nr rfl
def Xxa:Zu (.agg cs)=cs.any Ug :=nr rfl
def Xxb:Zu (.tup cs)=false :=nr rfl
def Xxc:Xbv .u=true :=nr rfl
def Xxd:Xbv .no=false :=nr rfl
def Xxe:Xbv .ub=true :=nr rfl
def Xxf:Xbv (.b x)=true :=nr rfl
def Xxg:Xbv (.i k n)=true :=nr rfl
def Xxh:Xbv (.s x)=true :=nr rfl
def Xxi:Xbv .nil=true :=nr rfl
def Xxj:Xbv (.sl t z es)=true :=nr rfl
def Xxk:Xbv (.rf pl y lo n)=false :=nr rfl
def Xxl:Xbv (.p pl)=true :=nr rfl
def Xxm:Xbv (.pr cs)=true :=nr rfl
def Xxn:Xbv .pn=true :=nr rfl
def Xxo:Xbv (.fn f cs)=false :=nr rfl
def Xxp:Xbv (.fs cs)=false :=nr rfl
def Xxq:Xbv (.agg cs)=false :=nr rfl
def Xxr:Xbv (.tup cs)=false :=nr rfl
def Xxs:YA .u=true :=nr rfl
def Xxt:YA .no=false :=nr rfl
def Xxu:YA .ub=true :=nr rfl
def Xxv:YA (.b x)=true :=nr rfl
def Xxw:YA (.i k n)=true :=nr rfl
def Xxx:YA (.s x)=true :=nr rfl
def Xxy:YA .nil=true :=nr rfl
def Xxz:YA (.sl t z es)=true :=nr rfl
def XxA:YA (.rf pl y lo n)=false :=nr rfl
def XxB:YA (.p pl)=false :=nr rfl
def XxC:YA (.pr cs)=true :=nr rfl
def XxD:YA .pn=true :=nr rfl
def XxE:YA (.fn f cs)=false :=nr rfl
def XxF:YA (.fs cs)=false :=nr rfl
def XxG:YA (.agg cs)=false :=nr rfl
def XxH:YA (.tup cs)=false :=nr rfl
def XxI:top .u=false :=nr rfl
def XxJ:top .no=false :=nr rfl
def XxK:top .ub=true :=nr rfl
def XxL:top (.b x)=true :=nr rfl
def XxM:top (.i k n)=true :=nr rfl
def XxN:top (.s x)=true :=nr rfl
def XxO:top .nil=true :=nr rfl
def XxP:top (.sl t z es)=true :=nr rfl
def XxQ:top (.rf pl y lo n)=true :=nr rfl
def XxR:top (.p pl)=true :=nr rfl
def XxS:top (.pr cs)=true :=nr rfl
def XxT:top .pn=true :=nr rfl
def XxU:top (.fn f cs)=true :=nr rfl
def XxV:top (.fs cs)=true :=nr rfl
def XxW:top (.agg cs)=true :=nr rfl
def XxX:top (.tup cs)=false :=nr rfl
def XxY:Xfp .u=false :=nr rfl
def XxZ:Xfp .no=false :=nr rfl
def Xx0:Xfp .ub=false :=nr rfl
def Xx1:Xfp (.b x)=false :=nr rfl
def Xx2:Xfp (.i k n)=false :=nr rfl
def Xx3:Xfp (.s x)=false :=nr rfl
def Xx4:Xfp .nil=false :=nr rfl
def Xx5:Xfp (.sl t z es)=false :=nr rfl
def Xx6:Xfp (.rf pl y lo n)=false :=nr rfl
def Xx7:Xfp (.p pl)=false :=nr rfl
def Xx8:Xfp (.pr cs)=false :=nr rfl
def Xx9:Xfp .pn=false :=nr rfl
def Xya:Xfp (.fn f cs)=true :=nr rfl
def Xyb:Xfp (.fs cs)=false :=nr rfl
def Xyc:Xfp (.agg cs)=false :=nr rfl
def Xyd:Xfp (.tup cs)=false :=nr rfl
def Xye:UH .u=false :=nr rfl
def Xyf:UH .no=false :=nr rfl
def Xyg:UH .ub=true :=nr rfl
def Xyh:UH (.b x)=true :=nr rfl
def Xyi:UH (.i k n)=true :=nr rfl
def Xyj:UH (.s x)=true :=nr rfl
def Xyk:UH .nil=true :=nr rfl
def Xyl:UH (.sl t z es)=true :=nr rfl
def Xym:UH (.rf pl y lo n)=true :=nr rfl
def Xyn:UH (.p pl)=true :=nr rfl
def Xyo:UH (.pr cs)=true :=nr rfl
def Xyp:UH .pn=true :=nr rfl
def Xyq:UH (.fn f cs)=true :=nr rfl
def Xyr:UH (.fs cs)=true :=nr rfl
def Xys:UH (.agg cs)=false :=nr rfl
def Xyt:UH (.tup cs)=false :=nr rfl
def Xyu:fsV len st i []=if i=len then some [] else none :=nr rfl
def fsK(x:Bool)(a:AV)(r:Option (List AV)):Option (List AV) :=if x then(match r with | some l => some (a :: l) | none => none) else none
def Xyv:fsK true a (some l)=some (a :: l) :=nr rfl
def Xyw:fsV len st i ((j,x) :: r)=if i=j then fsK (Xfp (view st x)) (view st x) (fsV len st (i+1) r) else none :=by simp only[fsV,fsK]; split<;>rfl
def Xyx:cellsOf .u=[.u] :=nr rfl
def Xyy:cellsOf .no=[.no] :=nr rfl
def Xyz:cellsOf .ub=[.ub] :=nr rfl
def XyA:cellsOf (.b x)=[(.b x)] :=nr rfl
def XyB:cellsOf (.i k n)=[(.i k n)] :=nr rfl
def XyC:cellsOf (.s x)=[(.s x)] :=nr rfl
def XyD:cellsOf .nil=[.nil] :=nr rfl
def XyE:cellsOf (.sl t z es)=[(.sl t z es)] :=nr rfl
def XyF:cellsOf (.rf pl y lo n)=[(.rf pl y lo n)] :=nr rfl
def XyG:cellsOf (.p pl)=[(.p pl)] :=nr rfl
def XyH:cellsOf (.pr cs)=[(.pr cs)] :=nr rfl
def XyI:cellsOf .pn=[.pn] :=nr rfl
def XyJ:cellsOf (.fn f cs)=[(.fn f cs)] :=nr rfl
def XyK:cellsOf (.fs cs)=[(.fs cs)] :=nr rfl
def XyL:cellsOf (.agg cs)=cs :=nr rfl
def XyM:cellsOf (.tup cs)=[(.tup cs)] :=nr rfl
def XyN:plain .u=false :=nr rfl
def XyO:plain .no=false :=nr rfl
def XyP:plain .ub=false :=nr rfl
def XyQ:plain (.b x)=true :=nr rfl
def XyR:plain (.i k n)=true :=nr rfl
def XyS:plain (.s x)=true :=nr rfl
def XyT:plain .nil=false :=nr rfl
def XyU:plain (.rf pl y lo n)=false :=nr rfl
def XyV:plain (.p pl)=false :=nr rfl
def XyW:plain (.pr cs)=false :=nr rfl
def XyX:plain .pn=true :=nr rfl
def XyY:plain (.fn f cs)=false :=nr rfl
def XyZ:plain (.fs cs)=false :=nr rfl
def Xy0:plain (.agg cs)=false :=nr rfl
def Xy1:plain (.tup cs)=false :=nr rfl
def Xy2:plain (.sl .ro z es)=true :=nr rfl
def Xy3:fix m .u=.u :=nr rfl
def Xy4:fix m .no=.no :=nr rfl
def Xy5:fix m .ub=.ub :=nr rfl
def Xy6:fix m (.b x)=(.b x) :=nr rfl
def Xy7:fix m (.i k n)=(.i k n) :=nr rfl
def Xy8:fix m (.s x)=(.s x) :=nr rfl
def Xy9:fix m (.sl t z es)=(.sl t z es) :=nr rfl
def Xza:fix m (.rf pl y lo n)=(.rf pl y lo n) :=nr rfl
def Xzb:fix m (.p pl)=(.p pl) :=nr rfl
def Xzc:fix m (.pr cs)=(.pr cs) :=nr rfl
def Xzd:fix m .pn=.pn :=nr rfl
def Xze:fix m (.fn f cs)=(.fn f cs) :=nr rfl
def Xzf:fix m (.fs cs)=(.fs cs) :=nr rfl
def Xzg:fix m (.agg cs)=(.agg cs) :=nr rfl
def Xzh:fix m (.tup cs)=(.tup cs) :=nr rfl
def Xzi:fix 0 .nil=.nil :=nr rfl
def Xzj:fix (m+1) .nil=.sl .mut (m+1) [] :=nr rfl
def Xzk:fix 1 .nil=.sl .mut 1 [] :=nr rfl
def Xzl:fix 2 .nil=.sl .mut 2 [] :=nr rfl
def Xzm:fix 3 .nil=.sl .mut 3 [] :=nr rfl
def Xzn:fix 4 .nil=.sl .mut 4 [] :=nr rfl
def Xzo:fix 5 .nil=.sl .mut 5 [] :=nr rfl
def Xzp:fix 6 .nil=.sl .mut 6 [] :=nr rfl
def Xzq:fix 7 .nil=.sl .mut 7 [] :=nr rfl
def Xzr:fix 8 .nil=.sl .mut 8 [] :=nr rfl
def Xzs:fix 9 .nil=.sl .mut 9 [] :=nr rfl
def Xzt:fix 10 .nil=.sl .mut 10 [] :=nr rfl
def Xzu:fix 11 .nil=.sl .mut 11 [] :=nr rfl
def Xzv:filt kp kr .u=.u :=nr rfl
def Xzw:filt kp kr .no=.no :=nr rfl
def Xzx:filt kp kr .ub=.ub :=nr rfl
def Xzy:filt kp kr (.b x)=(.b x) :=nr rfl
def Xzz:filt kp kr (.i k n)=(.i k n) :=nr rfl
def XzA:filt kp kr (.s x)=(.s x) :=nr rfl
def XzB:filt kp kr .nil=.nil :=nr rfl
def XzC:filt kp kr (.sl t z es)=(.sl t z es) :=nr rfl
def XzD:filt kp kr (.pr cs)=(.pr cs) :=nr rfl
def XzE:filt kp kr .pn=.pn :=nr rfl
def XzF:filt kp kr (.fn f cs)=.fn f (Yy kp kr cs) :=nr rfl
def XzG:filt kp kr (.fs cs)=.fs (Yy kp kr cs) :=nr rfl
def XzH:filt kp kr (.agg cs)=.agg (Yy kp kr cs) :=nr rfl
def XzI:filt kp kr (.tup cs)=.tup (Yy kp kr cs) :=nr rfl
def fA(b:Bool)(a:AV):AV :=if b then a else .u
def XzJ:fA true a=a :=nr rfl
def XzK:fA false a=.u :=nr rfl
def XzL:filt kp kr (.p q)=fA (kp q) (.p q) :=nr rfl
def XzM:filt kp kr (.rf q y lo n)=fA (kr q) (.rf q y lo n) :=nr rfl
def XzN:Yy kp kr []=[] :=nr rfl
def XzO:Yy kp kr (a :: l)=filt kp kr a :: Yy kp kr l :=nr rfl
def XzP:YM st .u=some (.u,st) :=nr rfl
def XzQ:YM st .no=some (.no,st) :=nr rfl
def XzR:YM st .ub=some (.ub,st) :=nr rfl
def XzS:YM st (.b x)=some ((.b x),st) :=nr rfl
def XzT:YM st (.i k n)=some ((.i k n),st) :=nr rfl
def XzU:YM st (.s x)=some ((.s x),st) :=nr rfl
def XzV:YM st .nil=some (.nil,st) :=nr rfl
def XzW:YM st (.sl t z es)=some ((.sl t z es),st) :=nr rfl
def XzX:YM st (.rf pl y lo n)=takeRf st pl y lo n :=nr rfl
def XzY:YM st (.p pl)=some ((.p pl),st) :=nr rfl
def XzZ:YM st (.pr cs)=some ((.pr cs),st) :=nr rfl
def Xz0:YM st .pn=some (.pn,st) :=nr rfl
def Xz1:YM st (.fn f cs)=some ((.fn f cs),st) :=nr rfl
def Xz2:YM st (.fs cs)=some ((.fs cs),st) :=nr rfl
def Xz3:YM st (.agg cs)=some ((.agg cs),st) :=nr rfl
def Xz4:YM st (.tup cs)=none :=nr rfl
def Xz5:takeVal st .u=some (.u,st) :=nr rfl
def Xz6:takeVal st .no=some (.no,st) :=nr rfl
def Xz7:takeVal st .ub=some (.ub,st) :=nr rfl
def Xz8:takeVal st (.b x)=some ((.b x),st) :=nr rfl
def Xz9:takeVal st (.i k n)=some ((.i k n),st) :=nr rfl
def XAa:takeVal st (.s x)=some ((.s x),st) :=nr rfl
def XAb:takeVal st .nil=some (.nil,st) :=nr rfl
def XAc:takeVal st (.sl t z es)=some ((.sl t z es),st) :=nr rfl
def XAd:takeVal st (.rf pl y lo n)=takeRf st pl y lo n :=nr rfl
def XAe:takeVal st (.p pl)=some ((.p pl),st) :=nr rfl
def XAf:takeVal st (.pr cs)=some ((.pr cs),st) :=nr rfl
def XAg:takeVal st .pn=some (.pn,st) :=nr rfl
def XAh:takeVal st (.fn f cs)=some ((.fn f cs),st) :=nr rfl
def XAi:takeVal st (.fs cs)=some ((.fs cs),st) :=nr rfl
def XAj:takeVal st (.tup cs)=none :=nr rfl
def Xvy(x:Option (List AV×St)):Option (AV×St) :=match x with
  | some (cs,st) => some (.agg cs,st)
  | none => none
def XAk:takeVal st (.agg cs)=if cs.any XgB then Xvy (takeL st cs) else some (.agg cs,st) :=by simp only[takeVal,Xvy]; split<;>cases takeL st cs<;>rfl
def XAl:XgB .u=false :=nr rfl
def XAm:XgB .no=false :=nr rfl
def XAn:XgB .ub=false :=nr rfl
def XAo:XgB (.b x)=false :=nr rfl
def XAp:XgB (.i k n)=false :=nr rfl
def XAq:XgB (.s x)=false :=nr rfl
def XAr:XgB .nil=false :=nr rfl
def XAs:XgB (.sl t z es)=false :=nr rfl
def XAt:XgB (.rf pl y lo n)=true :=nr rfl
def XAu:XgB (.p pl)=false :=nr rfl
def XAv:XgB (.pr cs)=false :=nr rfl
def XAw:XgB .pn=false :=nr rfl
def XAx:XgB (.fn f cs)=false :=nr rfl
def XAy:XgB (.fs cs)=false :=nr rfl
def XAz:XgB (.agg cs)=false :=nr rfl
def XAA:XgB (.tup cs)=false :=nr rfl
def XAB:gone q=false :=nr rfl
def XAC:Xvy (some (cs,st))=some (.agg cs,st) :=nr rfl
def Xqf(a:AV)(x:Option (List AV×St)):Option (List AV×St) :=match x with
  | some (cs,st) => some (a :: cs,st)
  | none => none
def XAD:Xqf a (some (cs,st))=some (a :: cs,st) :=nr rfl
def XAE:takeL st []=some ([],st) :=nr rfl
def XAF:takeL st (a :: l)=Xp (YM st a) (λy => Xqf (filt gone gone y.1) (takeL y.2 l)) :=by simp only[takeL,Xp,Xqf]; cases YM st a<;>rfl
def Xkd(st:St)(x:Nat)(b:Bool)(a:AV):Option (AV×St) :=if b then takeVal (clear st x) (filt (XZ true x) (XZ true x) a) else takeVal st a
@[congr] def Xqg{st:St}{x:Nat}{b b':Bool}{a:AV}(h:b=b'):Xkd st x b a=Xkd st x b' a :=by rw[h]
def XbD(st:St)(x:Nat)(a:AV):Option (AV×St) :=Xkd st x (Zu a) a
def XAG:take st (.tmp x)=XbD st x (st.env x) :=nr rfl
def XAH:XbD st x .u=some (.u,st) :=nr rfl
def XAI:XbD st x .no=some (.no,st) :=nr rfl
def XAJ:XbD st x .ub=some (.ub,st) :=nr rfl
def XAK:XbD st x (.b y)=some (.b y,st) :=nr rfl
def XAL:XbD st x (.i k n)=some ((.i k n),st) :=nr rfl
def XAM:XbD st x (.s y)=some (.s y,st) :=nr rfl
def XAN:XbD st x .nil=some (.nil,st) :=nr rfl
def XAO:XbD st x (.sl t z es)=some (.sl t z es,clear st x) :=nr rfl
def XAP:XbD st x (.rf pl y lo n)=takeRf st pl y lo n :=nr rfl
def XAQ:XbD st x (.p pl)=some ((.p pl),st) :=nr rfl
def XAR:XbD st x (.pr cs)=some ((.pr cs),st) :=nr rfl
def XAS:XbD st x .pn=some (.pn,st) :=nr rfl
def XAT:XbD st x (.fn f cs)=some ((.fn f cs),st) :=nr rfl
def XAU:XbD st x (.fs cs)=some ((.fs cs),st) :=nr rfl
def XAV:XbD st x (.agg cs)=Xkd st x (cs.any Ug) (.agg cs) :=nr rfl
def XAW:XbD st x (.tup cs)=none :=nr rfl
def XAX:Xkd st x true a=takeVal (clear st x) (filt (XZ true x) (XZ true x) a) :=nr rfl
def XAY:Xkd st x false a=takeVal st a :=nr rfl
def XAZ:take st (.const v)=some (Xjx v,st) :=nr rfl
def XA0:take st (.func f)=some (.fn f [],st) :=nr rfl
def Xrv(b:Bool)(l:List (Nat×AV))(m:List (Nat×List AV))(d:Nat)(v:AV):St :=if b then⟨E ((d,filt (XZ true d) (XZ true d) v) :: Xlm (XZ true d) (XZ true d) l),B (Xmk (XZ true d) (XZ true d) m)⟩ else⟨E ((d,v) :: l),B m⟩
@[congr] def Xrw{b b':Bool}{l:List (Nat×AV)}{m:List (Nat×List AV)}{d:Nat}{v v':AV}(h:b=b')(h':v=v'):Xrv b l m d v=Xrv b' l m d v' :=by rw[h,h']
def XA1:St.put ⟨E l,B m⟩ d v=Xrv (Zu (E l d)) l m d v :=by simp only[St.put,Xrv,St.dropRoot,XeH,Xik]
def XA2:Xrv false l m d v=⟨E ((d,v) :: l),B m⟩ :=nr rfl
def XA3:Xrv true l m d v=⟨E ((d,filt (XZ true d) (XZ true d) v) :: Xlm (XZ true d) (XZ true d) l),B (Xmk (XZ true d) (XZ true d) m)⟩ :=nr rfl
def XA4:St.put? st (some d) v=St.put st d v :=nr rfl
def XA5:St.put? st none v=st :=nr rfl
def isK(t k:Nat):Bool :=t==k
def XA6:isK t k=(t==k) :=nr rfl
def eK(b:Bool)(v x:AV):AV :=if b then v else x
@[congr] def XuQ{b b':Bool}{v x:AV}(h:b=b'):eK b v x=eK b' v x :=by rw[h]
def eB(b:Bool)(v x:List AV):List AV :=if b then v else x
@[congr] def XuR{b b':Bool}{v x:List AV}(h:b=b'):eB b v x=eB b' v x :=by rw[h]
def Xwz:eK true v x=v :=nr rfl
def XwA:eK false v x=x :=nr rfl
def XwB:eB true v x=v :=nr rfl
def XwC:eB false v x=x :=nr rfl
def XA7:E ((k,v) :: r) t=eK (isK t k) v (E r t) :=by simp only[XdB,eK,isK,beq_iff_eq]
def XA8:B ((k,v) :: r) t=eB (isK t k) v (B r t) :=by simp only[XeG,eB,isK,beq_iff_eq]
def XA9:clear ⟨E l,B m⟩ x=⟨E ((x,.u) :: Xlm (XZ true x) (XZ true x) l),B (Xmk (XZ true x) (XZ true x) m)⟩ :=by simp only[clear,St.dropRoot,XeH,Xik]
def XBa:St.env ⟨f,g⟩=f :=nr rfl
def XBb:St.bx ⟨f,g⟩=g :=nr rfl
def Xrx(b:Bool)(l:List (Nat×AV))(m:List (Nat×List AV))(d:Nat)(cs:List AV):St :=if b then⟨E ((d,.p ⟨false,d,[],0⟩) :: l),B ((d,cs) :: m)⟩ else⟨E ((d,.p ⟨false,d,[],0⟩) :: Xlm (XZ false d) (XZ false d) l),B ((d,Yy (XZ false d) (XZ false d) cs) :: Xmk (XZ false d) (XZ false d) m)⟩
@[congr] def Xry{b b':Bool}{l:List (Nat×AV)}{m:List (Nat×List AV)}{d:Nat}{cs cs':List AV}(h:b=b')(h':cs=cs'):Xrx b l m d cs=Xrx b' l m d cs' :=by rw[h,h']
def XBc:newBox ⟨E l,B m⟩ d cs=Xrx (B m d).isEmpty l m d cs :=by
  cases h:(B m d).isEmpty<;>simp only[newBox,Xrx,h,if_true,if_false,Bool.false_eq_true,St.dropRoot,XeH,Xik,Xpk]
def XBd:QM st d (c :: cs)=if Zu (st.env d)=true then none else some (newBox st d (c :: cs)) :=nr rfl
def XBe:Xrx true l m d cs=⟨E ((d,.p ⟨false,d,[],0⟩) :: l),B ((d,cs) :: m)⟩ :=nr rfl
def XBf:Xrx false l m d cs=⟨E ((d,.p ⟨false,d,[],0⟩) :: Xlm (XZ false d) (XZ false d) l),B ((d,Yy (XZ false d) (XZ false d) cs) :: Xmk (XZ false d) (XZ false d) m)⟩ :=nr rfl
def XBg:TI.size .bool=1 :=nr rfl
def XBh:TI.ag .bool=false :=nr rfl
def XBi:TI.z .bool=0 :=nr rfl
def XBj:TI.zero .bool=[.b false] :=nr rfl
def XBk:TI.size (.int k)=1 :=nr rfl
def XBl:TI.ag (.int k)=false :=nr rfl
def XBm:TI.z (.int k)=0 :=nr rfl
def XBn:TI.zero (.int k)=[.i k 0] :=nr rfl
def XBo:TI.size .str=1 :=nr rfl
def XBp:TI.ag .str=false :=nr rfl
def XBq:TI.z .str=0 :=nr rfl
def XBr:TI.zero .str=[.s ⟨#[]⟩] :=nr rfl
def XBs:TI.size .ptr=1 :=nr rfl
def XBt:TI.ag .ptr=false :=nr rfl
def XBu:TI.z .ptr=0 :=nr rfl
def XBv:TI.zero .ptr=[.pn] :=nr rfl
def XBw:TI.size .fn=1 :=nr rfl
def XBx:TI.ag .fn=false :=nr rfl
def XBy:TI.z .fn=0 :=nr rfl
def XBz:TI.zero .fn=[.u] :=nr rfl
def XBA:TI.size (.slice z b w)=1 :=nr rfl
def XBB:TI.ag (.slice z b w)=false :=nr rfl
def XBC:TI.z (.slice z b w)=z :=nr rfl
def XBD:TI.zero (.slice z b w)=[.sl .mut z []] :=nr rfl
def XBE:TI.size (.struct n fl w)=n :=nr rfl
def XBF:TI.ag (.struct n fl w)=true :=nr rfl
def XBG:TI.z (.struct n fl w)=0 :=nr rfl
def XBH:TI.zero (.struct n fl w)=w :=nr rfl
def XBI:TI.size (.array n z ag w)=n*z :=nr rfl
def XBJ:TI.ag (.array n z ag w)=true :=nr rfl
def XBK:TI.z (.array n z ag w)=0 :=nr rfl
def XBL:TI.zero (.array n z ag w)=w :=nr rfl
def zK(x:Option TI):Nat :=match x with
  | some ti => ti.z
  | none => 0
def XBM:zOf cx t=zK (cx.T t) :=nr rfl
def XBN:zK (some ti)=ti.z :=nr rfl
def XBO:zK none=0 :=nr rfl
def Xvz(x:Option (Nat×Nat×Bool×Nat))(a:AV):Option AV :=match x with
  | some (off,_) => match a with
    | .p q => some (.p {q with c :=q.c+off})
    | .pr q => some (.pr (q.drop off))
    | _ => none
  | none => none
def XBP:Xcv (.struct n fl w) f a=Xvz (fl[f]?) a :=nr rfl
def XBQ:Xvz (some (off,y)) (.p ⟨e,r,path,c⟩)=some (.p ⟨e,r,path,c+off⟩) :=nr rfl
def XBR:Xvz (some (off,y)) (.pr q)=some (.pr (q.drop off)) :=nr rfl
def XBS:List.drop 0 l=l :=nr rfl
def XBT:List.drop (n+1) (a :: l)=List.drop n l :=nr rfl
def XBU:List.take 0 l=[] :=List.take_zero
def XBV:List.take (n+1) (a :: l)=a :: List.take n l :=nr rfl
def XBW:List.drop n ([]:List AV)=[] :=List.drop_nil
def XwD(x:Option (Nat×Nat×Bool×Nat))(cs:List AV):Option AV :=match x with
  | some (off,n,ag,_) => if off+n<=cs.length then some (if ag then .agg ((cs.drop off).take n) else cs.getD off .u) else none
  | none => none
def XBX:XgT (.struct m fl w) f (.agg cs)=XwD (fl[f]?) cs :=nr rfl
def Xqh(ti:TI)(pl:Pl)(cells:List AV):Option AV :=if pl.c+ti.size<=cells.length then(if ti.ag then some (.agg (YT pl pl.c ((cells.drop pl.c).take ti.size))) else some (Yi pl (cells.getD pl.c .u))) else none
def XBY:loadAt st ti (.p pl)=Xp (node st pl) (Xqh ti pl) :=by simp only[loadAt,Xp,Xqh]; cases node st pl<;>rfl
def XBZ:loadAt st ti (.pr cs)=if ti.size<=cs.length then(if ti.ag then some (.agg (cs.take ti.size)) else some (cs.getD 0 .u)) else none :=nr rfl
def XB0:node st ⟨e,r,path,c⟩=nav (Xf st e r) path :=nr rfl
def XB1:Yh st ⟨e,r,path,c⟩=wrt (Xf st e r) path :=nr rfl
def XB2:Xf st true r=cellsOf (st.env r) :=nr rfl
def XB3:Xf st false r=st.bx r :=nr rfl
def XB4:nav cs []=some cs :=nr rfl
def XB5:wrt cs []=true :=nr rfl
def XvA(x:Option (Tag×List AV))(ps:List (Nat×Nat×Nat)):Option (List AV) :=match x with
  | some (_,row) => nav row ps
  | none => none
def Xt0(x:Option (Tag×List AV))(ps:List (Nat×Nat×Nat)):Bool :=match x with
  | some (.mut,row) => wrt row ps
  | _ => false
def Xke(i z:Nat)(a:Option AV):Option (Tag×List AV) :=match a with
  | some (.sl t z' es) => if z'=z then rowK t es[i]? else none
  | _ => none
  where rowK (t:Tag):Option (List AV)->Option (Tag×List AV)
  | some row => some (t,row)
  | none => none
def XB6:nav cs ((c,i,z) :: ps)=XvA (ZW cs c i z) ps :=by simp only[nav,XvA]; cases ZW cs c i z<;>rfl
def XB7:XvA (some (t,row)) ps=nav row ps :=nr rfl
def XB8:wrt cs ((c,i,z) :: ps)=Xt0 (ZW cs c i z) ps :=by
  simp only[wrt,Xt0]
  cases ZW cs c i z with
  | none => rfl
  | some x => obtain⟨t,row⟩ :=x; cases t<;>rfl
def XB9:Xt0 (some (.mut,row)) ps=wrt row ps :=nr rfl
def XCa:Xt0 (some (.ro,row)) ps=false :=nr rfl
def XCb:Xt0 (some (.app,row)) ps=false :=nr rfl
def XCc:ZW cs c i z=Xke i z cs[c]? :=by
  simp only[ZW,Xke]
  cases cs[c]? with
  | none => rfl
  | some a =>
    cases a<;>rfl
def XCd:Xke i z (some (.sl t z es))=Xke.rowK t es[i]? :=by simp only[Xke,if_true]
def XCe:Xke.rowK t (some row)=some (t,row) :=nr rfl
def XCf:Ys cs [] new=new :=nr rfl
def XvB(cs:List AV)(c i:Nat)(ps:List (Nat×Nat×Nat))(new:List AV)(a:Option AV):List AV :=match a with
  | some (.sl t z es) => cs.set c (.sl t z (es.set i (Ys (es.getD i []) ps new)))
  | _ => cs
def XCg:Ys cs ((c,i,z) :: ps) new=XvB cs c i ps new cs[c]? :=by
  simp only[Ys,XvB]
  cases cs[c]? with
  | none => rfl
  | some a => cases a<;>rfl
def XCh:XvB cs c i ps new (some (.sl t z es))=cs.set c (.sl t z (es.set i (Ys (es.getD i []) ps new))) :=nr rfl
def XCi:List.set (a :: l) 0 b=b :: l :=nr rfl
def XCj:List.set (a :: l) (n+1) b=a :: List.set l n b :=nr rfl
def XCk:Xw ⟨E l,B m⟩ ⟨false,r,path,c⟩ new=⟨E l,B ((r,Ys (B m r) path new) :: m)⟩ :=by simp only[Xw,Xpk,Bool.false_eq_true,if_false]
def XCl:Xw ⟨E l,B m⟩ ⟨true,r,path,c⟩ new=⟨E ((r,Uq (E l r) (Ys (cellsOf (E l r)) path new)) :: l),B m⟩ :=by simp only[Xw,Xik,if_true,Xf]
def XCm:Uq .u new=new.headD .u :=nr rfl
def XCn:Uq .no new=new.headD .u :=nr rfl
def XCo:Uq .ub new=new.headD .u :=nr rfl
def XCp:Uq (.b x) new=new.headD .u :=nr rfl
def XCq:Uq (.i k n) new=new.headD .u :=nr rfl
def XCr:Uq (.s x) new=new.headD .u :=nr rfl
def XCs:Uq .nil new=new.headD .u :=nr rfl
def XCt:Uq (.sl t z es) new=new.headD .u :=nr rfl
def XCu:Uq (.rf pl y lo n) new=new.headD .u :=nr rfl
def XCv:Uq (.p pl) new=new.headD .u :=nr rfl
def XCw:Uq (.pr cs) new=new.headD .u :=nr rfl
def XCx:Uq .pn new=new.headD .u :=nr rfl
def XCy:Uq (.fn f cs) new=new.headD .u :=nr rfl
def XCz:Uq (.fs cs) new=new.headD .u :=nr rfl
def XCA:Uq (.agg cs) new=.agg new :=nr rfl
def XCB:Uq (.tup cs) new=new.headD .u :=nr rfl
def XCC:List.headD (a :: l) AV.u=a :=nr rfl
def XCD:XaE st (.slice z b w) x (.i k n)=indexAddr st z x n :=nr rfl
def iaR(es:List (List AV)):Option Nat->Option AV
  | some j => some (.pr (es.getD j []))
  | none => none
def iaF(es:List AV):Option Nat->Option AV
  | some j => some (.pr [Vm.filt gone gone (es.getD j .u)])
  | none => none
def iaM(t:Tag)(pl:Pl)(z lo:Nat)(es:List (List AV)):Option Nat->Option AV
  | some j => (match t with
    | .mut => some (.p ⟨pl.e,pl.r,pl.path++[(pl.c,lo+j,z)],0⟩)
    | _ => some (.pr (YG (es.getD (lo+j) []))))
  | none => none
def iaC(pl:Pl)(z zr lo n:Nat)(i:Int):Option AV->Option AV
  | some (.sl t z' es) => if(z=z'/\zr=z)/\lo+n<=es.length then iaM t pl z lo es (Qj n i) else none
  | _ => none
def ixS(b:ByteArray):Option Nat->Option AV
  | some j => some (.i .u8 (b.data[j]?.getD 0).toNat)
  | none => none
def XCE:iaR es (some j)=some (.pr (es.getD j [])) :=nr rfl
def XCF:iaF es (some j)=some (.pr [Vm.filt gone gone (es.getD j .u)]) :=nr rfl
def XCG:iaM .mut pl z lo es (some j)=some (.p ⟨pl.e,pl.r,pl.path++[(pl.c,lo+j,z)],0⟩) :=nr rfl
def XCH:iaM .ro pl z lo es (some j)=some (.pr (YG (es.getD (lo+j) []))) :=nr rfl
def XCI:iaM .app pl z lo es (some j)=some (.pr (YG (es.getD (lo+j) []))) :=nr rfl
def XCJ:iaC pl z zr lo n i (some (.sl t z' es))=if(z=z'/\zr=z)/\lo+n<=es.length then iaM t pl z lo es (Qj n i) else none :=nr rfl
def XCK:ixS b (some j)=some (.i .u8 (b.data[j]?.getD 0).toNat) :=nr rfl
def XCL:indexAddr st z (.sl .ro z' es) i=if z=z' then iaR es (Qj es.length i) else none :=by
  by_cases h:z=z'
  · simp only[indexAddr,if_pos h]; cases Qj es.length i<;>rfl
  · simp only[indexAddr,if_neg h]
def XCM:indexAddr st z (.fs es) i=if z=1 then iaF es (Qj es.length i) else none :=by
  by_cases h:z=1
  · simp only[indexAddr,if_pos h]; cases Qj es.length i<;>rfl
  · simp only[indexAddr,if_neg h]
def XCN:indexAddr st z (.rf pl zr lo n) i=Xp (node st pl) (λcells => iaC pl z zr lo n i cells[pl.c]?) :=by
  simp only[indexAddr,Xp]
  cases node st pl with
  | none => rfl
  | some cells =>
    simp only
    cases cells[pl.c]? with
    | none => rfl
    | some a =>
      cases a<;>rfl
def XCO:Xb7 (.array m z ag w) (.agg cs) (.i k n)=if z=1/\ag=false then XkT m cs n else none :=nr rfl
def XCP:Xen 5 1 false=[(0,1,false,0),(1,1,false,0),(2,1,false,0),(3,1,false,0),(4,1,false,0)] :=nr rfl
def XCQ:Xb7 .str (.s b) (.i k n)=ixS b (Qj b.size n) :=by simp only[Xb7,ixS]; cases Qj b.size n<;>rfl
def XCR:Xf1 .u=none :=nr rfl
def XCS:Xf1 .no=none :=nr rfl
def XCT:Xf1 .ub=none :=nr rfl
def XCU:Xf1 (.b x)=none :=nr rfl
def XCV:Xf1 (.i k n)=none :=nr rfl
def XCW:Xf1 (.s x)=none :=nr rfl
def XCX:Xf1 .nil=none :=nr rfl
def XCY:Xf1 (.sl t z es)=none :=nr rfl
def XCZ:Xf1 (.rf pl y lo n)=none :=nr rfl
def XC0:Xf1 (.p pl)=some (.p pl) :=nr rfl
def XC1:Xf1 (.pr cs)=some (.pr cs) :=nr rfl
def XC2:Xf1 .pn=none :=nr rfl
def XC3:Xf1 (.fn f cs)=none :=nr rfl
def XC4:Xf1 (.fs cs)=none :=nr rfl
def XC5:Xf1 (.agg cs)=none :=nr rfl
def XC6:Xf1 (.tup cs)=none :=nr rfl
def XvC(f:Nat)(cs xs:List AV):fnV (.fn f cs) xs=some (f,xs++cs) :=nr rfl
def XC7:strip .u=.u :=nr rfl
def XC8:strip .no=.u :=nr rfl
def XC9:strip .ub=.ub :=nr rfl
def XDa:strip (.b x)=(.b x) :=nr rfl
def XDb:strip (.i k n)=(.i k n) :=nr rfl
def XDc:strip (.s x)=(.s x) :=nr rfl
def XDd:strip .nil=.nil :=nr rfl
def XDe:strip (.sl t z es)=.sl .ro z (XX es) :=nr rfl
def XDf:strip (.rf pl y lo n)=.u :=nr rfl
def XDg:strip (.p pl)=.u :=nr rfl
def XDh:strip (.pr cs)=(.pr cs) :=nr rfl
def XDi:strip .pn=.pn :=nr rfl
def XDj:strip (.fn f cs)=.u :=nr rfl
def XDk:strip (.fs cs)=.u :=nr rfl
def XDl:strip (.agg cs)=.u :=nr rfl
def XDm:strip (.tup cs)=.u :=nr rfl
def XDn:XI .u=false :=nr rfl
def XDo:XI .no=false :=nr rfl
def XDp:XI .ub=false :=nr rfl
def XDq:XI (.b x)=false :=nr rfl
def XDr:XI (.i k n)=false :=nr rfl
def XDs:XI (.s x)=false :=nr rfl
def XDt:XI .nil=false :=nr rfl
def XDu:XI (.rf pl y lo n)=false :=nr rfl
def XDv:XI (.p pl)=false :=nr rfl
def XDw:XI (.pr cs)=true :=nr rfl
def XDx:XI .pn=false :=nr rfl
def XDy:XI (.fn f cs)=true :=nr rfl
def XDz:XI (.fs cs)=true :=nr rfl
def XDA:XI (.agg cs)=XM cs :=nr rfl
def XDB:XI (.tup cs)=XM cs :=nr rfl
def XDC:XI (.sl .ro z es)=true :=nr rfl
def XDD:XI (.sl .app z es)=true :=nr rfl
def XDE:XI (.sl .mut z es)=Yt es :=nr rfl
def XDF:XM []=false :=nr rfl
def XDG:XM (a :: l)=(XI a||XM l) :=nr rfl
def XDH:YX .u=true :=nr rfl
def XDI:YX .no=false :=nr rfl
def XDJ:YX .ub=true :=nr rfl
def XDK:YX (.b x)=true :=nr rfl
def XDL:YX (.i k n)=true :=nr rfl
def XDM:YX (.s x)=true :=nr rfl
def XDN:YX .nil=true :=nr rfl
def XDO:YX (.sl t z es)=true :=nr rfl
def XDP:YX (.rf pl y lo n)=false :=nr rfl
def XDQ:YX (.p pl)=false :=nr rfl
def XDR:YX (.pr cs)=true :=nr rfl
def XDS:YX .pn=true :=nr rfl
def XDT:YX (.fn f cs)=cs.all ZU :=nr rfl
def XDU:YX (.fs cs)=false :=nr rfl
def XDV:YX (.agg cs)=cs.all YA :=nr rfl
def XDW:YX (.tup cs)=false :=nr rfl
def XDX:Xe4 ti0 E0 op0 .u a0=bin ti0 op0 .u a0 :=nr rfl
def XDY:Xe4 ti0 E0 op0 .no a0=bin ti0 op0 .no a0 :=nr rfl
def XDZ:Xe4 ti0 E0 op0 .ub a0=bin ti0 op0 .ub a0 :=nr rfl
def XD0:Xe4 ti0 E0 op0 (.b x) a0=bin ti0 op0 (.b x) a0 :=nr rfl
def XD1:Xe4 ti0 E0 op0 (.i k n) a0=bin ti0 op0 (.i k n) a0 :=nr rfl
def XD2:Xe4 ti0 E0 op0 (.s x) a0=bin ti0 op0 (.s x) a0 :=nr rfl
def XD3:Xe4 ti0 E0 op0 .nil a0=bin ti0 op0 .nil a0 :=nr rfl
def XD4:Xe4 ti0 E0 op0 (.sl t z es) a0=bin ti0 op0 (.sl t z es) a0 :=nr rfl
def XD5:Xe4 ti0 E0 op0 (.rf pl y lo n) a0=bin ti0 op0 (.rf pl y lo n) a0 :=nr rfl
def XD6:Xe4 ti0 E0 op0 (.p pl) a0=bin ti0 op0 (.p pl) a0 :=nr rfl
def XD7:Xe4 ti0 E0 op0 (.pr cs) a0=bin ti0 op0 (.pr cs) a0 :=nr rfl
def XD8:Xe4 ti0 E0 op0 .pn a0=bin ti0 op0 .pn a0 :=nr rfl
def XD9:Xe4 ti0 E0 op0 (.fn f cs) a0=bin ti0 op0 (.fn f cs) a0 :=nr rfl
def XEa:Xe4 ti0 E0 op0 (.fs cs) a0=bin ti0 op0 (.fs cs) a0 :=nr rfl
def XEb:Xe4 ti0 E0 op0 (.tup cs) a0=bin ti0 op0 (.tup cs) a0 :=nr rfl
def eqR(op:BinOp)(e:Option Bool):Option AV :=match e with | some e => eqB op e | none => none
def XEc:Xe4 ti0 (some ks) op0 (.agg a) (.agg b)=eqR op0 (YU ks a b) :=by simp only[Xe4,XkQ,eqR]; cases YU ks a b<;>rfl
def XEd:eqR op (some e)=eqB op e :=nr rfl
def Xqi(p:Bool)(e:Option Bool):Option Bool :=match e with | some e => some (p&&e) | none => none
def XEe:Xqi p (some e)=some (p&&e) :=nr rfl
def XEf:YU [] [] []=some true :=nr rfl
def XEg:YU (0 :: ks) (.b x :: a) (.b y :: b)=Xqi (x==y) (YU ks a b) :=by simp only[YU,Xqi]; cases YU ks a b<;>rfl
def XEh:YU (1 :: ks) (.i k x :: a) (.i k y :: b)=Xqi (x==y) (YU ks a b) :=by simp only[YU,Xqi,if_true]; cases YU ks a b<;>rfl
def XEi:YU (2 :: ks) (.s x :: a) (.s y :: b)=Xqi (x.toList==y.toList) (YU ks a b) :=by simp only[YU,Xqi]; cases YU ks a b<;>rfl
def XEj:ZU .u=false :=nr rfl
def XEk:ZU .no=false :=nr rfl
def XEl:ZU .ub=false :=nr rfl
def XEm:ZU (.b x)=true :=nr rfl
def XEn:ZU (.i k n)=true :=nr rfl
def XEo:ZU (.s x)=true :=nr rfl
def XEp:ZU .nil=false :=nr rfl
def XEq:ZU (.rf pl y lo n)=false :=nr rfl
def XEr:ZU (.p pl)=false :=nr rfl
def XEs:ZU (.pr cs)=true :=nr rfl
def XEt:ZU .pn=true :=nr rfl
def XEu:ZU (.fn f cs)=false :=nr rfl
def XEv:ZU (.fs cs)=false :=nr rfl
def XEw:ZU (.agg cs)=false :=nr rfl
def XEx:ZU (.tup cs)=false :=nr rfl
def XEy:ZU (.sl .ro z es)=true :=nr rfl
def XEz:XaT .u=ZU .u :=nr rfl
def XEA:XaT .no=ZU .no :=nr rfl
def XEB:XaT .ub=ZU .ub :=nr rfl
def XEC:XaT (.b x)=ZU (.b x) :=nr rfl
def XED:XaT (.i k n)=ZU (.i k n) :=nr rfl
def XEE:XaT (.s x)=ZU (.s x) :=nr rfl
def XEF:XaT .nil=ZU .nil :=nr rfl
def XEG:XaT (.sl t z es)=ZU (.sl t z es) :=nr rfl
def XEH:XaT (.rf pl y lo n)=ZU (.rf pl y lo n) :=nr rfl
def XEI:XaT (.p pl)=ZU (.p pl) :=nr rfl
def XEJ:XaT (.pr cs)=ZU (.pr cs) :=nr rfl
def XEK:XaT .pn=ZU .pn :=nr rfl
def XEL:XaT (.fn f cs)=cs.all ZU :=nr rfl
def XEM:XaT (.fs cs)=ZU (.fs cs) :=nr rfl
def XEN:XaT (.agg cs)=ZU (.agg cs) :=nr rfl
def XEO:XaT (.tup cs)=ZU (.tup cs) :=nr rfl
def XEP:Xbw st d cs=if cs.all XaT=true then some (st.put d (.pr cs)) else none :=nr rfl
def XEQ:outLeaf st .u=if YA .u=true then some ((.u,none),st) else none :=nr rfl
def XER:outLeaf st .no=if YA .no=true then some ((.no,none),st) else none :=nr rfl
def XES:outLeaf st .ub=if YA .ub=true then some ((.ub,none),st) else none :=nr rfl
def XET:outLeaf st (.b x)=if YA (.b x)=true then some (((.b x),none),st) else none :=nr rfl
def XEU:outLeaf st (.i k n)=if YA (.i k n)=true then some (((.i k n),none),st) else none :=nr rfl
def XEV:outLeaf st (.s x)=if YA (.s x)=true then some (((.s x),none),st) else none :=nr rfl
def XEW:outLeaf st .nil=if YA .nil=true then some ((.nil,none),st) else none :=nr rfl
def XEX:outLeaf st (.sl t z es)=if YA (.sl t z es)=true then some (((.sl t z es),none),st) else none :=nr rfl
def XEY:outLeaf st (.p pl)=if YA (.p pl)=true then some (((.p pl),none),st) else none :=nr rfl
def XEZ:outLeaf st (.pr cs)=if YA (.pr cs)=true then some (((.pr cs),none),st) else none :=nr rfl
def XE0:outLeaf st .pn=if YA .pn=true then some ((.pn,none),st) else none :=nr rfl
def XE1:outLeaf st (.fn f cs)=if YA (.fn f cs)=true then some (((.fn f cs),none),st) else none :=nr rfl
def XE2:outLeaf st (.fs cs)=if YA (.fs cs)=true then some (((.fs cs),none),st) else none :=nr rfl
def XE3:outLeaf st (.agg cs)=if YA (.agg cs)=true then some (((.agg cs),none),st) else none :=nr rfl
def XE4:outLeaf st (.tup cs)=if YA (.tup cs)=true then some (((.tup cs),none),st) else none :=nr rfl
def XE5:Yj st .u (some (pl0,b0))=some st :=nr rfl
def XE6:Yj st .no (some (pl0,b0))=some st :=nr rfl
def XE7:Yj st .ub (some (pl0,b0))=some st :=nr rfl
def XE8:Yj st (.b x) (some (pl0,b0))=some st :=nr rfl
def XE9:Yj st (.i k n) (some (pl0,b0))=some st :=nr rfl
def XFa:Yj st (.s x) (some (pl0,b0))=some st :=nr rfl
def XFb:Yj st .nil (some (pl0,b0))=some st :=nr rfl
def XFc:Yj st (.rf pl y lo n) (some (pl0,b0))=some st :=nr rfl
def XFd:Yj st (.p pl) (some (pl0,b0))=some st :=nr rfl
def XFe:Yj st (.pr cs) (some (pl0,b0))=some st :=nr rfl
def XFf:Yj st .pn (some (pl0,b0))=some st :=nr rfl
def XFg:Yj st (.fn f cs) (some (pl0,b0))=some st :=nr rfl
def XFh:Yj st (.fs cs) (some (pl0,b0))=some st :=nr rfl
def XFi:Yj st (.agg cs) (some (pl0,b0))=some st :=nr rfl
def XFj:Yj st (.tup cs) (some (pl0,b0))=some st :=nr rfl
def XFk:weakLeaf st .u=some st :=nr rfl
def XFl:weakLeaf st .no=some st :=nr rfl
def XFm:weakLeaf st .ub=some st :=nr rfl
def XFn:weakLeaf st (.b x)=some st :=nr rfl
def XFo:weakLeaf st (.i k n)=some st :=nr rfl
def XFp:weakLeaf st (.s x)=some st :=nr rfl
def XFq:weakLeaf st .nil=some st :=nr rfl
def XFr:weakLeaf st (.sl t z es)=some st :=nr rfl
def XFs:weakLeaf st (.p pl)=none :=nr rfl
def XFt:weakLeaf st (.pr cs)=some st :=nr rfl
def XFu:weakLeaf st .pn=some st :=nr rfl
def XFv:weakLeaf st (.fn f cs)=none :=nr rfl
def XFw:weakLeaf st (.fs cs)=none :=nr rfl
def XFx:weakLeaf st (.agg cs)=none :=nr rfl
def XFy:weakLeaf st (.tup cs)=none :=nr rfl
def XFz:Xbr st x0 .u=weakLeaf st .u :=nr rfl
def XFA:Xbr st x0 .no=weakLeaf st .no :=nr rfl
def XFB:Xbr st x0 .ub=weakLeaf st .ub :=nr rfl
def XFC:Xbr st x0 (.b x)=weakLeaf st (.b x) :=nr rfl
def XFD:Xbr st x0 (.i k n)=weakLeaf st (.i k n) :=nr rfl
def XFE:Xbr st x0 (.s x)=weakLeaf st (.s x) :=nr rfl
def XFF:Xbr st x0 .nil=weakLeaf st .nil :=nr rfl
def XFG:Xbr st x0 (.sl t z es)=weakLeaf st (.sl t z es) :=nr rfl
def XFH:Xbr st x0 (.rf pl y lo n)=weakLeaf st (.rf pl y lo n) :=nr rfl
def XFI:Xbr st x0 (.p pl)=weakLeaf st (.p pl) :=nr rfl
def XFJ:Xbr st x0 (.pr cs)=weakLeaf st (.pr cs) :=nr rfl
def XFK:Xbr st x0 .pn=weakLeaf st .pn :=nr rfl
def XFL:Xbr st x0 (.fn f cs)=weakLeaf st (.fn f cs) :=nr rfl
def XFM:Xbr st x0 (.fs cs)=weakLeaf st (.fs cs) :=nr rfl
def XFN:Xbr st x0 (.agg cs)=Us x0 cs.length 0 st :=nr rfl
def XFO:Xbr st x0 (.tup cs)=weakLeaf st (.tup cs) :=nr rfl
def XFP:QY .u=true :=nr rfl
def XFQ:QY .no=true :=nr rfl
def XFR:QY .ub=true :=nr rfl
def XFS:QY (.b x)=true :=nr rfl
def XFT:QY (.i k n)=true :=nr rfl
def XFU:QY (.s x)=true :=nr rfl
def XFV:QY .nil=true :=nr rfl
def XFW:QY (.sl t z es)=true :=nr rfl
def XFX:QY (.rf pl y lo n)=true :=nr rfl
def XFY:QY (.p pl)=true :=nr rfl
def XFZ:QY (.pr cs)=true :=nr rfl
def XF0:QY .pn=true :=nr rfl
def XF1:QY (.fn f cs)=true :=nr rfl
def XF2:QY (.fs cs)=true :=nr rfl
def XF3:QY (.agg cs)=false :=nr rfl
def XF4:QY (.tup cs)=true :=nr rfl
def XF5:Yw st z .u=none :=nr rfl
def XF6:Yw st z .no=none :=nr rfl
def XF7:Yw st z .ub=none :=nr rfl
def XF8:Yw st z (.b x)=none :=nr rfl
def XF9:Yw st z (.i k n)=none :=nr rfl
def XGa:Yw st z (.s x)=none :=nr rfl
def XGb:Yw st z .nil=some [] :=nr rfl
def XGc:Yw st z (.p pl)=none :=nr rfl
def XGd:Yw st z (.pr cs)=none :=nr rfl
def XGe:Yw st z .pn=none :=nr rfl
def XGf:Yw st z (.fn f cs)=none :=nr rfl
def XGg:Yw st z (.fs cs)=none :=nr rfl
def XGh:Yw st z (.agg cs)=none :=nr rfl
def XGi:Yw st z (.tup cs)=none :=nr rfl
def XGj:Yw st z (.sl t y es)=if y=z then some es else none :=nr rfl
def XGk:Yw st z (.rf pl y lo n)=if y=z then Ym st (.rf pl y lo n) else none :=nr rfl
def XGl:XO ow av st d .u=some .u :=by cases d<;>simp only[XO]
def XGm:XO ow av st d .no=none :=by cases d<;>simp only[XO]
def XGn:XO ow av st d .ub=some .ub :=by cases d<;>simp only[XO]
def XGo:XO ow av st d (.b x)=some (.b x) :=by cases d<;>simp only[XO]
def XGp:XO ow av st d (.i k n)=some (.i k n) :=by cases d<;>simp only[XO]
def XGq:XO ow av st d (.s x)=some (.s x) :=by cases d<;>simp only[XO]
def XGr:XO ow av st d .nil=some .nil :=by cases d<;>simp only[XO]
def XGs:XO ow av st d (.sl t z es)=some (.sl .ro z (XX es)) :=by cases d<;>simp only[XO]
def XGt:XO ow av st d (.pr cs)=some (.pr cs) :=by cases d<;>simp only[XO]
def XGu:XO ow av st d .pn=some .pn :=by cases d<;>simp only[XO]
def XGv:XO ow av st d (.agg cs)=none :=by cases d<;>simp only[XO]
def XGw:XO ow av st d (.tup cs)=none :=by cases d<;>simp only[XO]
def prO(x:Option (List AV)):Option AV :=match x with
  | some cs => some (.pr cs)
  | none => none
def agO(x:Option (List AV)):Option AV :=match x with
  | some cs => some (.agg cs)
  | none => none
def fnO(f:Nat)(x:Option (List AV)):Option AV :=match x with
  | some cs => some (.fn f cs)
  | none => none
def fsO(x:Option (List AV)):Option AV :=match x with
  | some cs => some (.fs cs)
  | none => none
def coO(a:Option AV)(x:Option (List AV)):Option (List AV) :=match a,x with
  | some a,some l => some (a :: l)
  | _,_ => none
def XGx:Ut ow av st .u=XO ow av st 8 .u :=nr rfl
def XGy:Ut ow av st .no=XO ow av st 8 .no :=nr rfl
def XGz:Ut ow av st .ub=XO ow av st 8 .ub :=nr rfl
def XGA:Ut ow av st (.b x)=XO ow av st 8 (.b x) :=nr rfl
def XGB:Ut ow av st (.i k n)=XO ow av st 8 (.i k n) :=nr rfl
def XGC:Ut ow av st (.s x)=XO ow av st 8 (.s x) :=nr rfl
def XGD:Ut ow av st .nil=XO ow av st 8 .nil :=nr rfl
def XGE:Ut ow av st (.sl t z es)=XO ow av st 8 (.sl t z es) :=nr rfl
def XGF:Ut ow av st (.rf pl y lo n)=XO ow av st 8 (.rf pl y lo n) :=nr rfl
def XGG:Ut ow av st (.p pl)=XO ow av st 8 (.p pl) :=nr rfl
def XGH:Ut ow av st (.pr cs)=XO ow av st 8 (.pr cs) :=nr rfl
def XGI:Ut ow av st .pn=XO ow av st 8 .pn :=nr rfl
def XGJ:Ut ow av st (.fn f cs)=XO ow av st 8 (.fn f cs) :=nr rfl
def XGK:Ut ow av st (.fs cs)=XO ow av st 8 (.fs cs) :=nr rfl
def XGL:Ut ow av st (.agg cs)=agO (XS ow av st 8 cs) :=by simp only[Ut,agO]; cases XS ow av st 8 cs<;>rfl
def XGM:Ut ow av st (.tup cs)=XO ow av st 8 (.tup cs) :=nr rfl
def XGN:prO (some cs)=some (.pr cs) :=nr rfl
def XGO:agO (some cs)=some (.agg cs) :=nr rfl
def XGP:fnO f (some cs)=some (.fn f cs) :=nr rfl
def XGQ:fsO (some cs)=some (.fs cs) :=nr rfl
def XGR:coO (some a) (some l)=some (a :: l) :=nr rfl
def XGS:XO ow av st 1 (.p pl)=if(ow&&U0 av pl&&Yh st pl)=true then prO (Xp (node st pl) (λcells => XS ow av st 0 (cells.drop pl.c))) else none :=by
  simp only[XO,Xp,prO]
  cases node st pl with
  | none => rfl
  | some cells => simp only[]; cases XS ow av st 0 (cells.drop pl.c)<;>rfl
def XGT:XO ow av st 1 (.fs cs)=fsO (XS ow av st 0 cs) :=by
  simp only[XO,fsO]; cases XS ow av st 0 cs<;>rfl
def XGU:XO ow av st 1 (.fn f cs)=fnO f (XS ow av st 0 cs) :=by
  simp only[XO,fnO]; cases XS ow av st 0 cs<;>rfl
def XGV:XO ow av st 2 (.p pl)=if(ow&&U0 av pl&&Yh st pl)=true then prO (Xp (node st pl) (λcells => XS ow av st 1 (cells.drop pl.c))) else none :=by
  simp only[XO,Xp,prO]
  cases node st pl with
  | none => rfl
  | some cells => simp only[]; cases XS ow av st 1 (cells.drop pl.c)<;>rfl
def XGW:XO ow av st 2 (.fs cs)=fsO (XS ow av st 1 cs) :=by
  simp only[XO,fsO]; cases XS ow av st 1 cs<;>rfl
def XGX:XO ow av st 2 (.fn f cs)=fnO f (XS ow av st 1 cs) :=by
  simp only[XO,fnO]; cases XS ow av st 1 cs<;>rfl
def XGY:XO ow av st 3 (.p pl)=if(ow&&U0 av pl&&Yh st pl)=true then prO (Xp (node st pl) (λcells => XS ow av st 2 (cells.drop pl.c))) else none :=by
  simp only[XO,Xp,prO]
  cases node st pl with
  | none => rfl
  | some cells => simp only[]; cases XS ow av st 2 (cells.drop pl.c)<;>rfl
def XGZ:XO ow av st 3 (.fs cs)=fsO (XS ow av st 2 cs) :=by
  simp only[XO,fsO]; cases XS ow av st 2 cs<;>rfl
def XG0:XO ow av st 3 (.fn f cs)=fnO f (XS ow av st 2 cs) :=by
  simp only[XO,fnO]; cases XS ow av st 2 cs<;>rfl
def XG1:XO ow av st 4 (.p pl)=if(ow&&U0 av pl&&Yh st pl)=true then prO (Xp (node st pl) (λcells => XS ow av st 3 (cells.drop pl.c))) else none :=by
  simp only[XO,Xp,prO]
  cases node st pl with
  | none => rfl
  | some cells => simp only[]; cases XS ow av st 3 (cells.drop pl.c)<;>rfl
def XG2:XO ow av st 4 (.fs cs)=fsO (XS ow av st 3 cs) :=by
  simp only[XO,fsO]; cases XS ow av st 3 cs<;>rfl
def XG3:XO ow av st 4 (.fn f cs)=fnO f (XS ow av st 3 cs) :=by
  simp only[XO,fnO]; cases XS ow av st 3 cs<;>rfl
def XG4:XO ow av st 5 (.p pl)=if(ow&&U0 av pl&&Yh st pl)=true then prO (Xp (node st pl) (λcells => XS ow av st 4 (cells.drop pl.c))) else none :=by
  simp only[XO,Xp,prO]
  cases node st pl with
  | none => rfl
  | some cells => simp only[]; cases XS ow av st 4 (cells.drop pl.c)<;>rfl
def XG5:XO ow av st 5 (.fs cs)=fsO (XS ow av st 4 cs) :=by
  simp only[XO,fsO]; cases XS ow av st 4 cs<;>rfl
def XG6:XO ow av st 5 (.fn f cs)=fnO f (XS ow av st 4 cs) :=by
  simp only[XO,fnO]; cases XS ow av st 4 cs<;>rfl
def XG7:XO ow av st 6 (.p pl)=if(ow&&U0 av pl&&Yh st pl)=true then prO (Xp (node st pl) (λcells => XS ow av st 5 (cells.drop pl.c))) else none :=by
  simp only[XO,Xp,prO]
  cases node st pl with
  | none => rfl
  | some cells => simp only[]; cases XS ow av st 5 (cells.drop pl.c)<;>rfl
def XG8:XO ow av st 6 (.fs cs)=fsO (XS ow av st 5 cs) :=by
  simp only[XO,fsO]; cases XS ow av st 5 cs<;>rfl
def XG9:XO ow av st 6 (.fn f cs)=fnO f (XS ow av st 5 cs) :=by
  simp only[XO,fnO]; cases XS ow av st 5 cs<;>rfl
def XHa:XO ow av st 7 (.p pl)=if(ow&&U0 av pl&&Yh st pl)=true then prO (Xp (node st pl) (λcells => XS ow av st 6 (cells.drop pl.c))) else none :=by
  simp only[XO,Xp,prO]
  cases node st pl with
  | none => rfl
  | some cells => simp only[]; cases XS ow av st 6 (cells.drop pl.c)<;>rfl
def XHb:XO ow av st 7 (.fs cs)=fsO (XS ow av st 6 cs) :=by
  simp only[XO,fsO]; cases XS ow av st 6 cs<;>rfl
def XHc:XO ow av st 7 (.fn f cs)=fnO f (XS ow av st 6 cs) :=by
  simp only[XO,fnO]; cases XS ow av st 6 cs<;>rfl
def XHd:XO ow av st 8 (.p pl)=if(ow&&U0 av pl&&Yh st pl)=true then prO (Xp (node st pl) (λcells => XS ow av st 7 (cells.drop pl.c))) else none :=by
  simp only[XO,Xp,prO]
  cases node st pl with
  | none => rfl
  | some cells => simp only[]; cases XS ow av st 7 (cells.drop pl.c)<;>rfl
def XHe:XO ow av st 8 (.fs cs)=fsO (XS ow av st 7 cs) :=by
  simp only[XO,fsO]; cases XS ow av st 7 cs<;>rfl
def XHf:XO ow av st 8 (.fn f cs)=fnO f (XS ow av st 7 cs) :=by
  simp only[XO,fnO]; cases XS ow av st 7 cs<;>rfl
def XHg:XS ow av st d []=some [] :=by simp only[XS]
def XHh:XS ow av st d (a :: l)=coO (XO ow av st d a) (XS ow av st d l) :=by
  simp only[XS,coO]
  cases XO ow av st d a with
  | none => rfl
  | some a' => simp only[]; cases XS ow av st d l<;>rfl
def Xt1(ow:Bool):Tag->Bool
  | .mut => ow
  | _ => true
def XvD(ow:Bool)(y lo n:Nat)(a:Option AV):Option AV :=match a with
  | some (.sl t z es) => if(lo+n<=es.length/\y=z)/\Xt1 ow t=true then some (.sl .ro y (XX ((es.drop lo).take n))) else none
  | _ => none
def XHi:Xt1 ow .mut=ow :=nr rfl
def XHj:Xt1 ow .ro=true :=nr rfl
def XHk:Xt1 ow .app=true :=nr rfl
def XHl:XO ow av st d (.rf pl y lo n)=if U0 av pl=true then Xp (node st pl) (λcells => XvD ow y lo n cells[pl.c]?) else none :=by
  cases d<;>(simp only[XO,Xp,XvD]; split<;>(try rfl); cases node st pl with
    | none => rfl
    | some cells => simp only[]; cases cells[pl.c]? with
      | none => rfl
      | some a => cases a<;>(try rfl); rename_i t z es; cases t<;>cases ow<;>simp[Xt1])
def XHm:Ym st .u=none :=nr rfl
def XHn:Ym st .no=none :=nr rfl
def XHo:Ym st .ub=none :=nr rfl
def XHp:Ym st (.b x)=none :=nr rfl
def XHq:Ym st (.i k n)=none :=nr rfl
def XHr:Ym st (.s x)=none :=nr rfl
def XHs:Ym st .nil=some [] :=nr rfl
def XHt:Ym st (.sl t z es)=some es :=nr rfl
def XHu:Ym st (.p pl)=none :=nr rfl
def XHv:Ym st (.pr cs)=none :=nr rfl
def XHw:Ym st .pn=none :=nr rfl
def XHx:Ym st (.fn f cs)=none :=nr rfl
def XHy:Ym st (.fs cs)=none :=nr rfl
def XHz:Ym st (.agg cs)=none :=nr rfl
def XHA:Ym st (.tup cs)=none :=nr rfl
def XHB:Xrq st .str (.s x)=some x.size :=nr rfl
def XHC:XgV .str=true :=nr rfl
def XHD:XgV (.slice z b zero)=true :=nr rfl
def XHE:Xrq st (.slice z b zero) a=lenOf st a :=nr rfl
def XHF:Xcs .str (.s b) lo hi=Ur (.s b) lo hi :=nr rfl
def XHG:Xcs (.slice z b zero) (.sl t z es) lo hi=Ur (.sl t z es) lo hi :=by simp only[Xcs,if_true]
def XHH:Xcs (.slice z b zero) (.rf pl z o n) lo hi=Ur (.rf pl z o n) lo hi :=by simp only[Xcs,if_true]
def XHI:lenOf st .u=none :=nr rfl
def XHJ:lenOf st .no=none :=nr rfl
def XHK:lenOf st .ub=none :=nr rfl
def XHL:lenOf st (.b x)=none :=nr rfl
def XHM:lenOf st (.i k n)=none :=nr rfl
def XHN:lenOf st (.s x)=none :=nr rfl
def XHO:lenOf st .nil=some 0 :=nr rfl
def XHP:lenOf st (.sl t z es)=some es.length :=nr rfl
def XHQ:lenOf st (.p pl)=none :=nr rfl
def XHR:lenOf st (.pr cs)=none :=nr rfl
def XHS:lenOf st .pn=none :=nr rfl
def XHT:lenOf st (.fn f cs)=none :=nr rfl
def XHU:lenOf st (.fs cs)=some cs.length :=nr rfl
def XHV:lenOf st (.agg cs)=none :=nr rfl
def XHW:lenOf st (.tup cs)=none :=nr rfl
def XvE(y n lo:Nat)(a:Option AV):Option Nat :=match a with
  | some (.sl _ z es) => if lo+n<=es.length/\y=z then some ((es.drop lo).take n).length else none
  | _ => none
def XvF(y n lo:Nat)(a:Option AV):Option (List (List AV)) :=match a with
  | some (.sl _ z es) => if lo+n<=es.length/\y=z then some ((es.drop lo).take n) else none
  | _ => none
def XHX:Ym st (.rf pl y lo n)=Xp (node st pl) (λcells => XvF y n lo cells[pl.c]?) :=by simp only[Ym,Xp,XvF]; cases node st pl<;>rfl
def XHY:lenOf st (.rf pl y lo n)=Xp (node st pl) (λcells => XvE y n lo cells[pl.c]?) :=by
  simp only[lenOf,Ym,Xp,XvE]
  cases node st pl with
  | none => rfl
  | some cells =>
    simp only[]
    cases cells[pl.c]? with
    | none => rfl
    | some a =>
      cases a<;>try rfl
      rename_i t z es
      simp only[]
      by_cases h:lo+n<=es.length/\y=z
      · simp only[if_pos h]
      · simp only[if_neg h]
def XHZ:bin ti op (.i k a) (.i k b)=Xh0 op k a b :=by simp only[bin,if_true]
def XH0:bin ti op (.s a) (.s b)=Xog op a b :=nr rfl
def XH1:bin (some .bool) op (.b a) (.b b)=eqB op (a==b) :=nr rfl
def XH2:bin (some .ptr) op (.p q) .pn=eqB op false :=nr rfl
def XH3:bin (some .ptr) op (.pr q) .pn=eqB op false :=nr rfl
def XH4:bin (some .ptr) op .pn .pn=eqB op true :=nr rfl
def XH5:Xh0 .add k a b=some (.i k (k.wrap (a+b))) :=nr rfl
def XH6:Xh0 .sub k a b=some (.i k (k.wrap (a-b))) :=nr rfl
def XH7:Xh0 .mul k a b=some (.i k (k.wrap (a*b))) :=nr rfl
def XH8:Xh0 .eql k a b=some (.b (a==b)) :=nr rfl
def XH9:Xh0 .neq k a b=some (.b (a !=b)) :=nr rfl
def XIa:Xh0 .lss k a b=some (.b (decide (a<b))) :=nr rfl
def XIb:Xh0 .leq k a b=some (.b (decide (a<=b))) :=nr rfl
def XIc:Xh0 .gtr k a b=some (.b (decide (a>b))) :=nr rfl
def XId:Xh0 .geq k a b=some (.b (decide (a>=b))) :=nr rfl
def XIe:Xh0 .quo k a b=if b=0 then none else some (.i k (k.wrap (a.tdiv b))) :=nr rfl
def XIf:Xh0 .rem k a b=if b=0 then none else some (.i k (a.tmod b)) :=nr rfl
def XIg:Xog .eql a b=some (.b (a.toList==b.toList)) :=nr rfl
def XIh:Xog .neq a b=some (.b !(a.toList==b.toList)) :=nr rfl
def XIi:Xog .lss a b=some (.b (Op.bytesLess a.toList b.toList)) :=nr rfl
def XIj:Xog .add a b=if a.size+b.size<=9223372036854775807 then some (.s (a++b)) else none :=nr rfl
def XIk(e:Bool)(x:Option Bool):Option Bool :=match x with
  | some y => some (e&&y)
  | none => none
def XIl:XIk e (some y)=some (e&&y) :=nr rfl
def XIm:unV .not (.b x)=some (.b !x) :=nr rfl
def XIn:unV .neg (.i k n)=some (.i k (k.wrap (0-n))) :=nr rfl
def XIo:Xjx (.bool x)=.b x :=nr rfl
def XIp:Xjx (.int k n)=.i k n :=nr rfl
def XIq:Xjx (.string x)=.s x :=nr rfl
def XIr:Xjx (.slice none 0 0)=.nil :=nr rfl
def XIs:Xjx (.pointer none)=.pn :=nr rfl
def XIt:bin T op (.sl t z es) .nil=Xdp T op es.length :=nr rfl
def XIu:bin T op (.rf q z lo n) .nil=Xdp T op n :=nr rfl
def XIv:Xdp (some (.slice z b ze)) .eql n=if 0<n then some (.b false) else some .ub :=nr rfl
def XIw:Xdp (some (.slice z b ze)) .neq n=if 0<n then some (.b true) else some .ub :=nr rfl
def XuS(f:Nat->AV)(g:Nat->List AV)(t j:Nat)(a:AV):Option (AV×St) :=match a with
  | .tup vs => match vs[j]? with
    | some v => some (v,⟨upd f t (.tup (vs.set j .u)),g⟩)
    | none => none
  | _ => none
def XvG(f:Nat->AV)(g:Nat->List AV)(t j:Nat)(vs:List AV)(x:Option AV):Option (AV×St) :=match x with
  | some v => some (v,⟨upd f t (.tup (vs.set j .u)),g⟩)
  | none => none
def XIx:XaV ⟨f,g⟩ (.tmp t) j=XuS f g t j (f t) :=by simp only[XaV,XuS]; cases f t<;>rfl
def XIy:XuS f g t j (.tup vs)=XvG f g t j vs vs[j]? :=by simp only[XuS,XvG]
def XIz:XvG f g t j vs (some v)=some (v,⟨upd f t (.tup (vs.set j .u)),g⟩) :=nr rfl
attribute [go_sem ↓] Xnk XpG Xnl XpJ XjY Xhq XfJ Xim Xin XjM Xgh Xio Xip Xiq XjO XjP XjV Xhp Xis Xit Xil Xhf Xgg Xlq Xlr Xhg Xhh Xhi Xhj Xhk UX Xjf Xjg Xlx XeI XfI XeJ XfG XfH XfK XeK XpR XlN XpU Xnr XtU XpV Xns Xiv Xhr Xnt Xhs Xnu XtV Xvs Xj0 Xnx Xiw Xj1 Xny Xgi Xht XtW XlQ Xnz XtX XtY XpW XnA XpX XnB XnC XpY XnE XnD XnW Xwz XwA XwB XwC
attribute [go_sem] XlO XlP Xnv Xnw Xty XlM XlL XlJ XlK XpP Xnp Xnq XlC XlD XpK XlE XlF XjZ XlG Xvq Xlu Xpv Xpx Xlv Xlw Xm7 Xpw Xhq XfJ XpI XjX Xvt Xp2 Xp3 XtZ XnK Xj3 Xj4 Xiy Xj5 Xj6 Xj7 XlR Xhu XlS Xhv Xiz Xj8 XlU XnL XlV XiA XnM Xj9 Xka XnN XnO XnP XnQ Xp7 Xp8 XnR XiC Xp9 XnS XiD XnT Xkb XnU XlY XlZ Xl0 XnV Xkc XiE Xhw Xhx XiF Xfc XeL Xgj Xqb Xgk Xqd Xfd XjQ XjR XjS XjT Xhn Xho XjU Xm8 Xm9 Xna Xnb Xnc XpB stU skS XlI XgW Xbx XaF XkU XlW XnF XpZ Xp0 Xp1 Xj2 Xix XnH XnI XnJ XnG Xqe XuO Xnm XpL Xnn XlH XpM trim? Xpl inE Xm3 opU skU UX XjL Xlp Xjf Xjg Xlx Xly Xnd Xhg Xhh Xhi Xhj Xhk XeI XfI XeJ XpE XfK XeK XpT Xls Xlt Xm6 Xne Xnf XpC Xlz Xng Xnh Xni XlA Xnj XfG XfH Xpo Xw6 Xw7 Xw8 Xvo XtP Xpp jL Xa7 jE jB Xhl Xhm Xps Xpt
  k0 k1 k2 k3 k4 k5 k6 k7 k8 k9 k10 k11 k12 k13 k14 k15 k16 k17 k18 k19 k20 k21 k22 k23 k24 k25 k26 k27 k28 k29 k30 k31 k32 k33 k34 k35 k36 k37 k38 k39 k40 k41 k42 k43 k44 k45 k46 k47 k48 k49 k50 k51 k52 k53 k54 k55 k56 k57 k58 k59 k60 k61 k62 k63 k64 k65 k66 k67 k68 k69 k70 k71 k72 k73 k74 k75 k76 k77 k78 k79 k80 k81 k82 k83 k84 k85 k86 k87 k88 k89 k90 k91 k92 k93 k94 k95 k96 k97 k98 k99 Xw9 Xxa Xxb Xxc Xxd Xxe Xxf Xxg Xxh Xxi Xxj Xxk Xxl Xxm Xxn Xxo Xxp Xxq Xxr Xxs Xxt Xxu Xxv Xxw Xxx Xxy Xxz XxA XxB XxC XxD XxE XxF XxG XxH XxI XxJ XxK XxL XxM XxN XxO XxP XxQ XxR XxS XxT XxU XxV XxW XxX XxY XxZ Xx0 Xx1 Xx2 Xx3 Xx4 Xx5 Xx6 Xx7 Xx8 Xx9 Xya Xyb Xyc Xyd Xye Xyf Xyg Xyh Xyi Xyj Xyk Xyl Xym Xyn Xyo Xyp Xyq Xyr Xys Xyt Xyu Xyv Xyw Xyx Xyy Xyz XyA XyB XyC XyD XyE XyF XyG XyH XyI XyJ XyK XyL XyM XyN XyO XyP XyQ XyR XyS XyT XyU XyV XyW XyX XyY XyZ Xy0 Xy1 Xy2 Xy3 Xy4 Xy5 Xy6 Xy7 Xy8 Xy9 Xza Xzb Xzc Xzd Xze Xzf Xzg Xzh Xzi Xzj Xzk Xzl Xzm Xzn Xzo Xzp Xzq Xzr Xzs Xzt Xzu Xzv Xzw Xzx Xzy Xzz XzA XzB XzC XzD XzE XzF XzG XzH XzI XzJ XzK XzL XzM XzN XzO XzP XzQ XzR XzS XzT XzU XzV XzW XzX XzY XzZ Xz0 Xz1 Xz2 Xz3 Xz4 Xz5 Xz6 Xz7 Xz8 Xz9 XAa XAb XAc XAd XAe XAf XAg XAh XAi XAj XAk XAl XAm XAn XAo XAp XAq XAr XAs XAt XAu XAv XAw XAx XAy XAz XAA XAB XAC XAD XAE XAF XAG XAH XAI XAJ XAK XAL XAM XAN XAO XAP XAQ XAR XAS XAT XAU XAV XAW XAX XAY XAZ XA0 XA1 XA2 XA3 XA4 XA5 XA6 Xwz XwA XwB XwC XA7 XA8 Xvm Xvn Xik Xpk XeH Xlm Xmk XjK Xm1 Xln Xlo Xno XpN XpO XA9 XBa XBb XBc XBd XBe XBf XBg XBh XBi XBj XBk XBl XBm XBn XBo XBp XBq XBr XBs XBt XBu XBv XBw XBx XBy XBz XBA XBB XBC XBD XBE XBF XBG XBH XBI XBJ XBK XBL XBM XBN XBO XBP XBQ XBR XBS XBT XBU XBV XBW XBX XwD XBY XBZ Xqh XB0 XB1 XB2 XB3 XB4 XB5 XB6 XB7 XB8 XB9 XCa XCb XCc XCd XCe XCf XCg XCh XCi XCj XCk XCl XCm XCn XCo XCp XCq XCr XCs XCt XCu XCv XCw XCx XCy XCz XCA XCB XCC St.cut keepP keepR XR Qr XZ within setCells storeAt takeRf XaD Ur Xep Q4 Qk QA Xe3 XjB UG Xc5 Xf0 Xi2 Xct XbQ Xej XjA Xh1 XgC Xww U0 Qh rwB Xer Xbm one eqB YG XX whole Md.isMv Md.isRw XCD XCE XCF XCG XCH XCI XCJ XCK XCL XCM XCN XCO XCP XCQ XCR XCS XCT XCU XCV XCW XCX XCY XCZ XC0 XC1 XC2 XC3 XC4 XC5 XC6 XvC XC7 XC8 XC9 XDa XDb XDc XDd XDe XDf XDg XDh XDi XDj XDk XDl XDm XDn XDo XDp XDq XDr XDs XDt XDu XDv XDw XDx XDy XDz XDA XDB XDC XDD XDE XDF XDG XDH XDI XDJ XDK XDL XDM XDN XDO XDP XDQ XDR XDS XDT XDU XDV XDW XDX XDY XDZ XD0 XD1 XD2 XD3 XD4 XD5 XD6 XD7 XD8 XD9 XEa XEb XEc XEd XEe XEf XEg XEh XEi XEj XEk XEl XEm XEn XEo XEp XEq XEr XEs XEt XEu XEv XEw XEx XEy XEz XEA XEB XEC XED XEE XEF XEG XEH XEI XEJ XEK XEL XEM XEN XEO XEP XEQ XER XES XET XEU XEV XEW XEX XEY XEZ XE0 XE1 XE2 XE3 XE4 XE5 XE6 XE7 XE8 XE9 XFa XFb XFc XFd XFe XFf XFg XFh XFi XFj XFk XFl XFm XFn XFo XFp XFq XFr XFs XFt XFu XFv XFw XFx XFy XFz XFA XFB XFC XFD XFE XFF XFG XFH XFI XFJ XFK XFL XFM XFN XFO XFP XFQ XFR XFS XFT XFU XFV XFW XFX XFY XFZ XF0 XF1 XF2 XF3 XF4 XF5 XF6 XF7 XF8 XF9 XGa XGb XGc XGd XGe XGf XGg XGh XGi XGj XGk XGl XGm XGn XGo XGp XGq XGr XGs XGt XGu XGv XGw XGx XGy XGz XGA XGB XGC XGD XGE XGF XGG XGH XGI XGJ XGK XGL XGM XGN XGO XGP XGQ XGR XGS XGT XGU XGV XGW XGX XGY XGZ XG0 XG1 XG2 XG3 XG4 XG5 XG6 XG7 XG8 XG9 XHa XHb XHc XHd XHe XHf XHg XHh XHi XHj XHk XHl XvD XHm XHn XHo XHp XHq XHr XHs XHt XHu XHv XHw XHx XHy XHz XHA XHB XHC XHD XHE XHF XHG XHH XHI XHJ XHK XHL XHM XHN XHO XHP XHQ XHR XHS XHT XHU XHV XHW XHX XHY XvE XvF XHZ XH0 XH1 XH2 XH3 XH4 XH5 XH6 XH7 XH8 XH9 XIa XIb XIc XId XIe XIf XIg XIh XIi XIj XIl XIm XIn XIo XIp XIq XIr XIs XIt XIu XIv XIw XIx XIy XIz
end Go.Vm
