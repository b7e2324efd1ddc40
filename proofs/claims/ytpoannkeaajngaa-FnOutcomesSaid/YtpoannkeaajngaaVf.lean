/- A part of a reflected evaluator of the program's code, and the proof that what it computes is what the machine does. -/
import Derived.Test.YtpoannkeaajngaaVa
import Derived.Attr
set_option linter.unusedVariables false
set_option linter.unusedSimpArgs false
set_option autoImplicit false
set_option linter.defProp false
namespace Go.Vm
def nr{α:Sort _}{a b:α}(h:a=b):a=b:=h
def E:List (Nat×AV)->Nat->AV
 | [],_=>.u
 | (k,v) :: r,t=>if t=k then v else E r t
def B:List (Nat×List AV)->Nat->List AV
 | [],_=>[]
 | (k,v) :: r,t=>if t=k then v else B r t
def Xmr(t:Nat):E [] t=.u:=nr rfl
def Xac(k:Nat)(v:AV)(r:List (Nat×AV))(t:Nat):E ((k,v) :: r) t=if t=k then v else E r t:=nr rfl
def Xms(t:Nat):B [] t=[]:=nr rfl
def XaL(k:Nat)(v:List AV)(r:List (Nat×List AV))(t:Nat):B ((k,v) :: r) t=if t=k then v else B r t:=nr rfl
def Xdv(l:List (Nat×AV))(t:Nat)(v:AV):upd (E l) t v=E ((t,v) :: l):=by funext x; simp[upd,Xac]
def Xjl(l:List (Nat×List AV))(t:Nat)(v:List AV):upd (B l) t v=B ((t,v) :: l):=by funext x; simp[upd,XaL]
def XfV(kp kr:Pl->Bool):List (Nat×AV)->List (Nat×AV)
 | []=>[]
 | (k,v) :: r=>(k,filt kp kr v) :: XfV kp kr r
def XgM(kp kr:Pl->Bool):List (Nat×List AV)->List (Nat×List AV)
 | []=>[]
 | (k,v) :: r=>(k,XR kp kr v) :: XgM kp kr r
def XaM(l:List (Nat×AV))(m:List (Nat×List AV))(kp kr:Pl->Bool):St.filt ⟨E l,B m⟩ kp kr=⟨E (XfV kp kr l),B (XgM kp kr m)⟩:=by
 simp only[St.filt,St.mk.injEq]
 constructor
 ·funext t
  induction l with
  | nil=>rfl
  | cons x r ih=>obtain⟨k,v⟩:=x; simp only[XfV,Xac]; split<;>simp_all
 ·funext t
  induction m with
  | nil=>rfl
  | cons x r ih=>obtain⟨k,v⟩:=x; simp only[XgM,XaL]; split<;>simp_all
def XeD(f:Nat->AV):List Nat->List (Nat×AV)
 | []=>[]
 | k :: r=>(k,f k) :: XeD f r
def Xhm(f:Nat->List AV):List Nat->List (Nat×List AV)
 | []=>[]
 | k :: r=>(k,f k) :: Xhm f r
def XfW(ks bs:List Nat)(st:St):keep (some (ks,bs)) st=⟨E (XeD (st.filt (within ks bs) (within ks bs)).env ks),B (Xhm (st.filt (within ks bs) (within ks bs)).bx bs)⟩:=by
 simp only[keep,St.mk.injEq]
 generalize st.filt (within ks bs) (within ks bs)=s
 constructor
 ·funext t
  induction ks with
  | nil=>rfl
  | cons k r ih =>
   simp only[XeD,Xac,List.contains_cons]
   by_cases h:t=k
   ·subst h; simp
   ·simp[h,<-ih]
 ·funext t
  induction bs with
  | nil=>rfl
  | cons k r ih =>
   simp only[Xhm,XaL,List.contains_cons]
   by_cases h:t=k
   ·subst h; simp
   ·simp[h,<-ih]
def XfX(st:St):keep none st=st:=nr rfl
def Xjm(ks:List Nat)(l:List (Nat×AV))(m:List (Nat×List AV)):trim ks ⟨E l,B m⟩=⟨E (XeD (E (XfV (inE ks) (inE ks) l)) ks),B (XgM (inE ks) (inE ks) m)⟩:=by
 simp only[trim,XaM,St.mk.injEq,and_true]
 generalize E (XfV (inE ks) (inE ks) l)=s
 funext t
 induction ks with
 | nil=>rfl
 | cons k r ih =>
  simp only[XeD,Xac,List.contains_cons]
  by_cases h:t=k
  ·subst h; simp
  ·simp[h,<-ih]
variable {R : Type}
def Xc{α:Type}(x:Option α)(k:α->Option R):Option R:=match x with
 | some a=>k a
 | none=>none
def ZM{α:Type}(a:α)(k:α->Option R):Xc (some a) k=k a:=nr rfl
def XeE{α:Type}(k:α->Option R):Xc none k=none:=nr rfl
@[congr] def Xjn{α:Type}{x y:Option α}{k:α->Option R}(h:x=y):Xc x k=Xc y k:=by rw[h]
def XfY{α:Type}(c:Prop)[Decidable c](x y:Option α)(k:α->Option R):Xc (if c then x else y) k=if c then Xc x k else Xc y k:=by split<;>rfl
def Yb{α β:Type}(x:Option α)(f:α->Option β):Ye x f=Xc x f:=by cases x<;>rfl
@[congr] def Xhn{cx:Cx}{ops:List Oper}{cs:List (Option (List Nat))}{st st':St}{l:List Oper}(h:st=st'):XE cx ops cs st l=XE cx ops cs st' l:=by rw[h]
@[congr] def XiH{cx:Cx}{st st':St}{o:Oper}(h:st=st'):Xg cx st o=Xg cx st' o:=by rw[h]
@[congr] def XiI{cx:Cx}{blk:Nat}{c:Code}{st st':St}(h:st=st'):Xl cx blk c st=Xl cx blk c st':=by rw[h]
def upE(st:St)(d:Nat)(v:AV):St:=⟨upd st.env d v,st.bx⟩
def Xef(st:St)(d:Nat):upE st d (st.env d)=st:=by
 have:upd st.env d (st.env d)=st.env:=by funext x; unfold upd; split<;>simp_all
 simp only[upE,this]
def XiJ(a:AV)(x y z xs ys:Option St):Option St:=match a with
 | .b true=>x
 | .b false=>y
 | .no=>z
 | _=>none
def XcH(d:Option Nat)(k:Nat->Option St):Option St:=match d with
 | some d=>k d
 | none=>none
@[congr] def XiK{a a':AV}{x y z xs ys:Option St}(h:a=a'):XiJ a x y z xs ys=XiJ a' x y z xs ys:=by rw[h]
@[congr] def XiL{d d':Option Nat}{k:Nat->Option St}(h:d=d'):XcH d k=XcH d' k:=by rw[h]
def XaN(d:Nat)(k:Nat->Option St):XcH (some d) k=k d:=nr rfl
@[congr] def Xjo{l:List Oper}{n:Nat}:Z8 l n=Z8 l n:=rfl
def Xbz(d op t pos aft g r):Z8 (⟨d,op,t,pos,aft,g⟩ :: r) 0=d:=nr rfl
def XbA(o:Oper)(r:List Oper)(n:Nat):Z8 (o :: r) (n+1)=Z8 r n:=nr rfl
def opS(cx:Cx)(ops:List Oper)(cs:List (Option (List Nat)))(st:St)(o:Oper)(r:List Oper):Option St:=match wanted ops st o with
 | some true=>Xc (Xg cx st o) (λst'=>XE cx ops cs st' r)
 | some false=>XE cx ops cs (st.put? o.dst .no) r
 | none=>none
@[congr] def Xlh{cx:Cx}{ops:List Oper}{cs:List (Option (List Nat))}{st st':St}{o:Oper}{r:List Oper}(h:st=st'):opS cx ops cs st o r=opS cx ops cs st' o r:=by rw[h]
def Xdw(cx:Cx)(ops:List Oper)(cs:List (Option (List Nat)))(st:St):XE cx ops cs st []=some st:=by simp only[XE]
def XcI(cx:Cx)(ops:List Oper)(c:Option (List Nat))(cs:List (Option (List Nat)))(st:St)(o:Oper)(r:List Oper):XE cx ops (c :: cs) st (o :: r)=opS cx ops cs (trim? c st) o r:=by
 simp only[XE,opS,hd?,List.tail_cons,Xc]
 cases wanted ops (trim? c st) o with
 | none=>rfl
 | some b =>
  cases b<;>try rfl
  simp only[]; cases Xg cx (trim? c st) o<;>rfl
def Xb8(cx:Cx)(ops:List Oper)(st:St)(o:Oper)(r:List Oper):XE cx ops [] st (o :: r)=opS cx ops [] st o r:=by
 simp only[XE,opS,hd?,List.tail_nil,Xc,trim?]
 cases wanted ops st o with
 | none=>rfl
 | some b =>
  cases b<;>try rfl
  simp only[]; cases Xg cx st o<;>rfl
section
variable (cx : Cx) (ops : List Oper) (cs : List (Option (List Nat))) (st : St) (d : Option Nat) (op : Op) (t : TypeId) (pos : String) (aft : Array Edge) (j : Nat) (r : List Oper)
def XfZ:opS cx ops cs st ⟨d,op,t,pos,aft,none⟩ r=Xc (Xg cx st ⟨d,op,t,pos,aft,none⟩) (λst'=>XE cx ops cs st' r):=nr rfl
def QW(cx:Cx)(ops:List Oper)(cs:List (Option (List Nat)))(st:St)(o:Oper)(r:List Oper)(want:Bool)(g:Nat)(a:AV):Option St:=match a with
 | .b b=>if b=want then Xc (Xg cx st o) (λst'=>XE cx ops cs st' r) else XE cx ops cs (st.put? o.dst .no) r
 | .no=>XE cx ops cs (st.put? o.dst .no) r
 | _=>none
@[congr] def XiM{cx:Cx}{ops:List Oper}{cs:List (Option (List Nat))}{st:St}{o:Oper}{r:List Oper}{want:Bool}{g:Nat}{a a':AV}(h:a=a'):QW cx ops cs st o r want g a=QW cx ops cs st o r want g a':=by rw[h]
def Xf0(want:Bool):opS cx ops cs st ⟨d,op,t,pos,aft,some (j,want)⟩ r=XcH (Z8 ops j) (λg=>QW cx ops cs st ⟨d,op,t,pos,aft,some (j,want)⟩ r want g (st.env g)):=by
 simp only[opS,wanted,XcH]
 cases Z8 ops j with
 | none=>rfl
 | some g =>
  simp only[QW]
  cases st.env g with
  | b b=>cases b<;>cases want<;>rfl
  | _=>rfl
end
section
variable (cx : Cx) (ops : List Oper) (cs : List (Option (List Nat))) (st : St) (o : Oper) (r : List Oper) (g : Nat)
def XcJ:QW cx ops cs st o r true g (.b true)=Xc (Xg cx st o) (λst'=>XE cx ops cs st' r):=nr rfl
def XcK:QW cx ops cs st o r false g (.b false)=Xc (Xg cx st o) (λst'=>XE cx ops cs st' r):=nr rfl
def XcL:QW cx ops cs st o r true g (.b false)=XE cx ops cs (st.put? o.dst .no) r:=nr rfl
def XcM:QW cx ops cs st o r false g (.b true)=XE cx ops cs (st.put? o.dst .no) r:=nr rfl
def XcN(want:Bool):QW cx ops cs st o r want g .no=XE cx ops cs (st.put? o.dst .no) r:=nr rfl
def opU(cx:Cx)(ops:List Oper)(cs:List (Option (List Nat)))(st:St)(o:Oper)(r:List Oper):Option St:=Xc (Xg cx st o) (λst'=>XE cx ops cs st' r)
def skU(cx:Cx)(ops:List Oper)(cs:List (Option (List Nat)))(st:St)(o:Oper)(r:List Oper):Option St:=XE cx ops cs (st.put? o.dst .no) r
@[congr] def Xli{cx:Cx}{ops:List Oper}{cs:List (Option (List Nat))}{st st':St}{o:Oper}{r:List Oper}(h:st=st'):opU cx ops cs st o r=opU cx ops cs st' o r:=by rw[h]
@[congr] def Xlj{cx:Cx}{ops:List Oper}{cs:List (Option (List Nat))}{st st':St}{o:Oper}{r:List Oper}(h:st=st'):skU cx ops cs st o r=skU cx ops cs st' o r:=by rw[h]
end
def Xho(cx:Cx)(ops:List Oper)(cs:List (Option (List Nat)))(l:List (Nat×AV))(m:List (Nat×List AV))(o:Oper)(r:List Oper)(g:Nat)(want b:Bool)(h:E l g=.b b) :
  QW cx ops cs ⟨E l,B m⟩ o r want g (.b b) =
   if b=true then(if want=true then opU cx ops cs ⟨E ((g,.b true) :: l),B m⟩ o r else skU cx ops cs ⟨E ((g,.b true) :: l),B m⟩ o r)
   else(if want=true then skU cx ops cs ⟨E ((g,.b false) :: l),B m⟩ o r else opU cx ops cs ⟨E ((g,.b false) :: l),B m⟩ o r):=by
 have hs:(⟨E ((g,.b b) :: l),B m⟩:St)=⟨E l,B m⟩:=by
  have:=Xef ⟨E l,B m⟩ g
  simp only[upE,Xdv,h] at this
  exact this
 cases b<;>cases want<;>simp only[QW,opU,skU,hs,if_true,if_false,Bool.false_eq_true,reduceCtorEq]
def jA(c:Prop)[Decidable c](a b:AV):AV:=if c then a else b
section
variable (c : Prop) [Decidable c]
def Xjp(a:AV):jA c a a=a:=by unfold jA; split<;>rfl
def Xn5(x y:Bool):jA c (.b x) (.b y)=.b (if c then x else y):=by unfold jA; split<;>rfl
def Xn6(k:IntKind)(x y:Int):jA c (.i k x) (.i k y)=.i k (if c then x else y):=by unfold jA; split<;>rfl
def Xn7(x y:ByteArray):jA c (.s x) (.s y)=.s (if c then x else y):=by unfold jA; split<;>rfl
def Xmt(t:Tag)(z:Nat)(x y:List (List AV)):jA c (.sl t z x) (.sl t z y)=.sl t z (if c then x else y):=by unfold jA; split<;>rfl
def jL(c:Prop)[Decidable c]:List AV->List AV->List AV
 | a :: l,b :: r=>jA c a b :: jL c l r
 | _,_=>[]
def Qw:List AV->List AV->Bool
 | _ :: l,_ :: r=>Qw l r
 | [],[]=>true
 | _,_=>false
def Xhp:∀(x y:List AV),Qw x y=true->(if c then x else y)=jL c x y
 | [],[],_=>by simp[jL]
 | a :: l,b :: r,h=>by
  have ih:=Xhp l r (by simpa[Qw] using h)
  simp only[jL,jA,<-ih]
  split<;>rfl
 | [],_ :: _,h=>by simp[Qw] at h
 | _ :: _,[],h=>by simp[Qw] at h
def Xlk(x y:List AV)(h:Qw x y=true):jA c (.agg x) (.agg y)=.agg (jL c x y):=by rw[<-Xhp c x y h]; unfold jA; split<;>rfl
def Xjq(x:List AV):jL c x x=x:=by
 rw[<-Xhp c x x (by induction x<;>simp_all [Qw])]; simp
def jE(c:Prop)[Decidable c]:List (Nat×AV)->List (Nat×AV)->List (Nat×AV)
 | (k,a) :: l,(_,b) :: r=>(k,jA c a b) :: jE c l r
 | _,_=>[]
def jB(c:Prop)[Decidable c]:List (Nat×List AV)->List (Nat×List AV)->List (Nat×List AV)
 | (k,a) :: l,(_,b) :: r=>(k,jL c a b) :: jB c l r
 | _,_=>[]
def XcO:List (Nat×AV)->List (Nat×AV)->Bool
 | (k,_) :: l,(k',_) :: r=>k==k'&&XcO l r
 | [],[]=>true
 | _,_=>false
def XcP:List (Nat×List AV)->List (Nat×List AV)->Bool
 | (k,a) :: l,(k',b) :: r=>k==k'&&(Qw a b&&XcP l r)
 | [],[]=>true
 | _,_=>false
def Xjr:∀(x y:List (Nat×AV)),XcO x y=true->(if c then E x else E y)=E (jE c x y)
 | [],[],_=>by simp[jE]
 | (k,a) :: l,(k',b) :: r,h=>by
  simp only[XcO,Bool.and_eq_true,beq_iff_eq] at h
  obtain⟨rfl,h⟩:=h
  have ih:=Xjr l r h
  funext t
  have ih':=congrFun ih t
  simp only[jE,jA]
  rw[Xac,<-ih']
  split<;>simp only[Xac]
 | [],_ :: _,h=>by simp[XcO] at h
 | _ :: _,[],h=>by simp[XcO] at h
def Xjs:∀(x y:List (Nat×List AV)),XcP x y=true->(if c then B x else B y)=B (jB c x y)
 | [],[],_=>by simp[jB]
 | (k,a) :: l,(k',b) :: r,h=>by
  simp only[XcP,Bool.and_eq_true,beq_iff_eq] at h
  obtain⟨rfl,h1,h⟩:=h
  have ih:=Xjs l r h
  funext t
  have ih':=congrFun ih t
  simp only[jB]
  rw[XaL,<-ih',<-Xhp c a b h1]
  split<;>simp only[XaL]
 | [],_ :: _,h=>by simp[XcP] at h
 | _ :: _,[],h=>by simp[XcP] at h
def Xjt(x y:List (Nat×AV))(m n:List (Nat×List AV))(h:XcO x y=true)(h':XcP m n=true):(if c then some (⟨E x,B m⟩:St) else some ⟨E y,B n⟩)=some ⟨E (jE c x y),B (jB c m n)⟩:=by
 rw[<-Xjr c x y h,<-Xjs c m n h']; split<;>rfl
def Xju(e:Ex)(x y:List (Nat×AV))(m n:List (Nat×List AV))(h:XcO x y=true)(h':XcP m n=true):(if c then some (e,(⟨E x,B m⟩:St)) else some (e,⟨E y,B n⟩))=some (e,⟨E (jE c x y),B (jB c m n)⟩):=by
 rw[<-Xjr c x y h,<-Xjs c m n h']; split<;>rfl
end
def Xdx(cx:Cx)(blk:Nat)(st:St):Xl cx blk .skip st=some (.nor,st):=nr rfl
def Xdy(cx:Cx)(blk id:Nat)(st:St):Xl cx blk (.exit id) st=some (.ex id,keep (cx.out id) st):=nr rfl
def XeF(cx:Cx)(blk:Nat)(st:St):Xl cx blk .ret st=some (.ret,keep cx.rets st):=nr rfl
def Xhq(x:Option St):Option (Ex×St):=match x with
 | some s=>some (.nor,s)
 | none=>none
def Xf1(s:St):Xhq (some s)=some (.nor,s):=nr rfl
def Xf2:Xhq none=none:=nr rfl
def Xhr(c:Prop)[Decidable c](x y:Option St):Xhq (if c then x else y)=if c then Xhq x else Xhq y:=by split<;>rfl
def Xb9(cx:Cx)(blk id:Nat)(l:List Oper)(st:St):Xl cx blk (.region id (List.toArray l) false) st=Xhq (Xc (XE cx l (cx.cuts id) st l) (λs=>weakW (keep (cx.rg id) s) (cx.ws id))):=by
 simp only[Xl,Xc,Xhq,XkH,Bool.false_eq_true,if_false]
 cases XE cx l (cx.cuts id) st l<;>rfl
def Xdz(cx:Cx)(blk id:Nat)(l:List Oper)(st:St):Xl cx blk (.region id (List.toArray l) true) st=Xhq (Xc (Xc (cx.plan id) (λp=>Yi cx id l p st)) (λs=>weakW s (cx.ws id))):=by
 simp only[Xl,if_true,Xhq,XkH,Yb]
 cases cx.plan id with
 | none=>rfl
 | some p=>simp only[Xc]; cases Yi cx id l p st<;>rfl
@[congr] def Xjv{st st':St}{l l':List (Bool×Nat×Nat)}(h:st=st')(h2:l=l'):weakW st l=weakW st' l':=by rw[h,h2]
def Xf3(st:St):weakW st []=some st:=nr rfl
def Xjw(st:St)(r c:Nat)(l:List (Bool×Nat×Nat)):weakW st ((true,r,c) :: l)=Xc (weakArg st (.tmp r)) (λs=>weakW s l):=by simp only[weakW,Yb]
def XeG(st:St)(b c:Nat):Option AV->Option St
 | some (.sl .mut z es)=>weakLeaf st (.rf ⟨false,b,[],c⟩ z 0 es.length)
 | _=>some st
def Xf4(st:St)(b c z:Nat)(es:List (List AV)):XeG st b c (some (.sl .mut z es))=weakLeaf st (.rf ⟨false,b,[],c⟩ z 0 es.length):=nr rfl
def Xf5(st:St)(b c z:Nat)(es:List (List AV)):XeG st b c (some (.sl .app z es))=some st:=nr rfl
def Xhs(st:St)(b c z:Nat)(es:List (List AV)):XeG st b c (some (.sl .ro z es))=some st:=nr rfl
def Xjx(st:St)(b c:Nat):XeG st b c (some .u)=some st:=nr rfl
def Xjy(st:St)(r c:Nat)(l:List (Bool×Nat×Nat)):weakW st ((false,r,c) :: l)=Xc (XeG st r c (st.bx r)[c]?) (λs=>weakW s l):=by simp only[weakW,weakAt,XeG,Yb]; rfl
def XdA(cx:Cx)(id:Nat)(ops:List Oper)(st:St):Yi cx id ops .done st=some (keep (cx.rg id) st):=nr rfl
def XdB(cx:Cx)(id:Nat)(ops:List Oper)(i:Nat)(p:XaY)(st:St):Yi cx id ops (.take i p) st=Xc (Ql ops i) (λo=>Xaw (Xcn o.op) (Xc (Zy cx ops st o) (λs=>Yi cx id ops p s))):=by
 simp only[Yi,Yb]
def XeH(cx:Cx)(id:Nat)(ops:List Oper)(i:Nat)(p:XaY)(st:St):Yi cx id ops (.one i p) st=Xc (Ql ops i) (λo=>Xaw (QM cx o.op||Z7 cx st o.op) (Xc (Zy cx ops st o) (λs=>Yi cx id ops p s))):=by
 simp only[Yi,Yb]
def XeI(cx:Cx)(id:Nat)(ops:List Oper)(i:Nat)(p q:XaY)(st:St):Yi cx id ops (.alt i p q) st=Xet (Yi cx id ops (.one i p) st) (Yi cx id ops q st):=nr rfl
def XeJ(o:Oper)(r:List Oper):Ql (o :: r) 0=some o:=nr rfl
def XeK(o:Oper)(r:List Oper)(n:Nat):Ql (o :: r) (n+1)=Ql r n:=nr rfl
def XeL(x:Option St):Xaw true x=x:=nr rfl
@[congr] def Xjz{p p':Bool}{x:Option St}(h:p=p'):Xaw p x=Xaw p' x:=by rw[h]
def XeM(x:Option St):Xet x x=x:=by unfold Xet; rw[if_pos rfl]
def XcQ(cx:Cx)(ops:List Oper)(st:St)(d:Option Nat)(op:Op)(t:TypeId)(pos:String)(aft:Array Edge):Zy cx ops st ⟨d,op,t,pos,aft,none⟩=Xg cx st ⟨d,op,t,pos,aft,none⟩:=nr rfl
def Xaf(cx:Cx)(ops:List Oper)(st:St)(o:Oper)(want:Bool)(g:Nat)(a:AV):Option St:=match a with
 | .b b=>if b=want then Xg cx st o else some (st.put? o.dst .no)
 | .no=>some (st.put? o.dst .no)
 | _=>none
@[congr] def XjA{cx:Cx}{ops:List Oper}{st:St}{o:Oper}{want:Bool}{g:Nat}{a a':AV}(h:a=a'):Xaf cx ops st o want g a=Xaf cx ops st o want g a':=by rw[h]
def XjB(cx:Cx)(ops:List Oper)(st:St)(o:Oper)(want:Bool)(d:Option Nat):Option St:=match d with
 | some d=>Xaf cx ops st o want d (st.env d)
 | none=>none
def XeN(cx:Cx)(ops:List Oper)(st:St)(o:Oper)(want:Bool)(d:Nat):XjB cx ops st o want (some d)=Xaf cx ops st o want d (st.env d):=nr rfl
def Xht(cx:Cx)(ops:List Oper)(st:St)(o:Oper)(g:Nat):Xaf cx ops st o true g (.b true)=Xg cx st o:=nr rfl
def Xhu(cx:Cx)(ops:List Oper)(st:St)(o:Oper)(g:Nat):Xaf cx ops st o false g (.b false)=Xg cx st o:=nr rfl
def Xhv(cx:Cx)(ops:List Oper)(st:St)(o:Oper)(g:Nat):Xaf cx ops st o true g (.b false)=some (st.put? o.dst .no):=nr rfl
def Xhw(cx:Cx)(ops:List Oper)(st:St)(o:Oper)(g:Nat):Xaf cx ops st o false g (.b true)=some (st.put? o.dst .no):=nr rfl
def Xhx(cx:Cx)(ops:List Oper)(st:St)(o:Oper)(want:Bool)(g:Nat):Xaf cx ops st o want g .no=some (st.put? o.dst .no):=nr rfl
def stU(cx:Cx)(st:St)(o:Oper):Option St:=Xg cx st o
def skS(st:St)(o:Oper):Option St:=some (st.put? o.dst .no)
@[congr] def Xll{cx:Cx}{st st':St}{o:Oper}(h:st=st'):stU cx st o=stU cx st' o:=by rw[h]
@[congr] def Xlm{st st':St}{o:Oper}(h:st=st'):skS st o=skS st' o:=by rw[h]
def XjC(cx:Cx)(ops:List Oper)(l:List (Nat×AV))(m:List (Nat×List AV))(o:Oper)(want:Bool)(g:Nat)(b:Bool)(h:E l g=.b b) :
  Xaf cx ops ⟨E l,B m⟩ o want g (.b b) =
   if b=true then(if want=true then stU cx ⟨E ((g,.b true) :: l),B m⟩ o else skS ⟨E ((g,.b true) :: l),B m⟩ o)
   else(if want=true then skS ⟨E ((g,.b false) :: l),B m⟩ o else stU cx ⟨E ((g,.b false) :: l),B m⟩ o):=by
 have hs:(⟨E ((g,.b b) :: l),B m⟩:St)=⟨E l,B m⟩:=by
  have:=Xef ⟨E l,B m⟩ g
  simp only[upE,Xdv,h] at this
  exact this
 cases b<;>cases want<;>simp only[Xaf,stU,skS,hs,if_true,if_false,Bool.false_eq_true,reduceCtorEq]
def XcR(cx:Cx)(ops:List Oper)(st:St)(d:Option Nat)(op:Op)(t:TypeId)(pos:String)(aft:Array Edge)(j:Nat)(want:Bool):Zy cx ops st ⟨d,op,t,pos,aft,some (j,want)⟩=XjB cx ops st ⟨d,op,t,pos,aft,some (j,want)⟩ want (Z8 ops j):=by
 unfold Zy wanted XjB Xaf
 simp only
 cases Z8 ops j with
 | none=>rfl
 | some d =>
  simp only
  cases st.env d with
  | b b =>
   cases b<;>cases want<;>rfl
  | _=>rfl
def Xa9(x:Option (Ex×St))(k:St->Option (Ex×St)):Option (Ex×St):=match x with
 | some (.nor,st)=>k st
 | some (.ex j,st)=>some (.ex j,st)
 | some (.ret,st)=>some (.ret,st)
 | none=>none
@[congr] def XkJ{x y:Option (Ex×St)}{k:St->Option (Ex×St)}(h:x=y):Xa9 x k=Xa9 y k:=by rw[h]
def Xeg(st:St)(k:St->Option (Ex×St)):Xa9 (some (.nor,st)) k=k st:=nr rfl
def Xeh(st:St)(k:St->Option (Ex×St)):Xa9 (some (.ret,st)) k=some (.ret,st):=nr rfl
def Xf6(j:Nat)(st:St)(k:St->Option (Ex×St)):Xa9 (some (.ex j,st)) k=some (.ex j,st):=nr rfl
def Xf7(k:St->Option (Ex×St)):Xa9 none k=none:=nr rfl
def Xhy(c:Prop)[Decidable c](x y:Option (Ex×St))(k:St->Option (Ex×St)):Xa9 (if c then x else y) k=if c then Xa9 x k else Xa9 y k:=by split<;>rfl
def XeO(cx:Cx)(blk:Nat)(a b:Code)(st:St):Xl cx blk (.seq a b) st=Xa9 (Xl cx blk a st) (λs=>Xl cx blk b s):=by
 simp only[Xl]
 cases Xl cx blk a st with
 | none=>rfl
 | some x=>obtain⟨e,s⟩:=x; cases e<;>rfl
def XiN(id:Nat)(x:Option (Ex×St)):Option (Ex×St):=match x with
 | some (.ex j,st)=>if j=id then some (.nor,st) else some (.ex j,st)
 | some (.nor,st)=>some (.nor,st)
 | some (.ret,st)=>some (.ret,st)
 | none=>none
def Xhz(id:Nat)(st:St):XiN id (some (.nor,st))=some (.nor,st):=nr rfl
def XhA(id:Nat)(st:St):XiN id (some (.ret,st))=some (.ret,st):=nr rfl
def XjD(id j:Nat)(st:St):XiN id (some (.ex j,st))=if j=id then some (.nor,st) else some (.ex j,st):=nr rfl
def Xf8(id:Nat):XiN id none=none:=nr rfl
def XhB(id:Nat)(c:Prop)[Decidable c](x y:Option (Ex×St)):XiN id (if c then x else y)=if c then XiN id x else XiN id y:=by split<;>rfl
def XcS(cx:Cx)(blk id:Nat)(c:Code)(st:St):Xl cx blk (.block id c) st=XiN id (Xl cx id c st):=by
 simp only[Xl]
 cases Xl cx id c st with
 | none=>rfl
 | some x=>obtain⟨e,s⟩:=x; cases e<;>rfl
def XdC(a:AV)(x y:Option (Ex×St)):Option (Ex×St):=match a with
 | .b b=>if b=true then x else y
 | _=>none
@[congr] def XjE{a a':AV}{x y:Option (Ex×St)}(h:a=a'):XdC a x y=XdC a' x y:=by rw[h]
def XbB(x y:Option (Ex×St)):XdC (.b true) x y=x:=nr rfl
def XaO(x y:Option (Ex×St)):XdC (.b false) x y=y:=nr rfl
def XjF(b:Bool)(x y:Option (Ex×St)):XdC (.b b) x y=if b=true then x else y:=nr rfl
def XdD(cx:Cx)(blk:Nat)(c:Operand)(a b:Code)(st:St):Xl cx blk (.cond c a b) st=XdC (view st c) (Xl cx blk a st) (Xl cx blk b st):=by
 simp only[Xl,XdC]
 cases view st c with
 | b x=>cases x<;>rfl
 | _=>rfl
noncomputable def XaP(cx:Cx)(blk:Nat)(c:Code)(n:Nat)(st:St):Option (Ex×St):=Xiw (λst=>Xl cx blk c (keep (cx.live blk) st)) n st
@[congr] def XjG{cx:Cx}{blk:Nat}{c:Code}{n:Nat}{st st':St}(h:st=st'):XaP cx blk c n st=XaP cx blk c n st':=by rw[h]
def XdE(cx:Cx)(blk:Nat)(c:Code)(st:St):Xl cx blk (.loop c) st=XaP cx blk c cx.rounds st:=nr rfl
def XbC(cx:Cx)(blk:Nat)(c:Code)(n:Nat)(st:St):XaP cx blk c (n+1) st=Xa9 (Xl cx blk c (keep (cx.live blk) st)) (λs=>XaP cx blk c n s):=by
 simp only[XaP,Xiw]
 cases Xl cx blk c (keep (cx.live blk) st) with
 | none=>rfl
 | some x=>obtain⟨e,s⟩:=x; cases e<;>rfl
def XgN(cx:Cx)(md:List Md)(rv:List ResultVar)(x:Option (Ex×St)):Option (AV×List AV):=match x with
 | some (.nor,st)=>ZA cx md rv st
 | some (.ret,st)=>ZA cx md rv st
 | _=>none
def XhC(cx:Cx)(md:List Md)(rv:List ResultVar)(st:St):XgN cx md rv (some (.nor,st))=ZA cx md rv st:=nr rfl
def XhD(cx:Cx)(md:List Md)(rv:List ResultVar)(st:St):XgN cx md rv (some (.ret,st))=ZA cx md rv st:=nr rfl
def Xf9(cx:Cx)(md:List Md)(rv:List ResultVar):XgN cx md rv none=none:=nr rfl
def XhE(cx:Cx)(md:List Md)(rv:List ResultVar)(c:Prop)[Decidable c](x y:Option (Ex×St)):XgN cx md rv (if c then x else y)=if c then XgN cx md rv x else XgN cx md rv y:=by split<;>rfl
def Xga(cx:Cx)(md:List Md)(f:Func)(args:List AV)(c:Code)(rv:List ResultVar)(h:f.body=some c)(hr:f.results=rv.toArray)(hz:cx.nz=false):Z9 cx md f args=XgN cx md rv (Xl cx 0 c (QE md args)):=by
 simp only[Z9,h,hr,evB,hz,Bool.false_eq_true,if_false]
 cases Xl cx 0 c (QE md args) with
 | none=>rfl
 | some x=>obtain⟨e,s⟩:=x; cases e<;>rfl
def XeP(cx:Cx)(md:List Md)(f:Func)(args:List AV)(c:Code)(rv:List ResultVar)(h:f.body=some c)(hr:f.results=rv.toArray)(hz:cx.nz=true):Z9 cx md f args=XgN cx md rv (evN cx c (λs=>some (.nor,s)) (QE md args)):=by
 simp only[Z9,h,hr,evB,hz,if_true]
 cases evN cx c (λs=>some (.nor,s)) (QE md args) with
 | none=>rfl
 | some x=>obtain⟨e,s⟩:=x; cases e<;>rfl
@[congr] def Xln{cx:Cx}{c:Code}{K:St->Option (Ex×St)}{st st':St}(h:st=st'):evN cx c K st=evN cx c K st':=by rw[h]
def XhF(cx:Cx)(K:St->Option (Ex×St))(st:St):evN cx .skip K st=K st:=nr rfl
def XjH(cx:Cx)(a b:Code)(K:St->Option (Ex×St))(st:St):evN cx (.seq a b) K st=evN cx a (λs=>evN cx b K s) st:=nr rfl
noncomputable def XjI(a:AV)(x y:Option (Ex×St)):Option (Ex×St):=match a with
 | .b true=>x
 | .b false=>y
 | .ub=>Xde x y
 | _=>none
@[congr] def XkK{a a':AV}{x y:Option (Ex×St)}(h:a=a'):XjI a x y=XjI a' x y:=by rw[h]
def XcT(x y:Option (Ex×St)):XjI (.b true) x y=x:=nr rfl
def XbD(x y:Option (Ex×St)):XjI (.b false) x y=y:=nr rfl
def XjJ(x y:Option (Ex×St)):XjI .ub x y=Xde x y:=nr rfl
def XeQ(x:Option (Ex×St)):Xde x x=x:=by unfold Xde; rw[if_pos rfl]
def XhG(cx:Cx)(c:Operand)(a b:Code)(K:St->Option (Ex×St))(st:St):evN cx (.cond c a b) K st=XjI (view st c) (evN cx a K st) (evN cx b K st):=by
 simp only[evN,XjI]
 cases view st c with
 | b x=>cases x<;>rfl
 | _=>rfl
def XjK(cx:Cx)(K:St->Option (Ex×St))(st:St):evN cx .ret K st=some (.ret,keep cx.rets st):=nr rfl
def XeR(cx:Cx)(id:Nat)(ops:Array Oper)(d:Bool)(K:St->Option (Ex×St))(st:St):evN cx (.region id ops d) K st=Xa9 (Xl cx 0 (.region id ops d) st) (λs=>K s):=by
 simp only[evN,Xbh]
 cases Xl cx 0 (.region id ops d) st with
 | none=>rfl
 | some x=>obtain⟨e,s⟩:=x; cases e<;>rfl
def Xmu(md:List Md)(cx:Cx)(rv:List ResultVar)(st:St)(p:List AV×St):Option (AV×List AV):=if(p.1.all XL&&(QN p.2 md 0).all XL&&Zz md (QN p.2 md 0))=true then some (one p.1,QN p.2 md 0) else Xi1 cx md rv st
def XlU(cx:Cx)(md:List Md)(rv:List ResultVar)(st:St):Option (List AV)->Option (AV×List AV)
 | some cs=>Xk3 md st cs
 | none=>Xc (Uv cx st rv) (Xmu md cx rv st)
def XhH(cx:Cx)(md:List Md)(rv:List ResultVar)(st:St):ZA cx md rv st=XlU cx md rv st (Xa5 md st rv):=by
 simp only[ZA,XlU]
 cases Xa5 md st rv with
 | some cs=>rfl
 | none =>
  simp only[XlT,Xc]
  cases Uv cx st rv<;>rfl
def Xgb(cx:Cx)(md:List Md)(rv:List ResultVar)(st:St)(cs:List AV):XlU cx md rv st (some cs)=Xk3 md st cs:=nr rfl
def Xgc(cx:Cx)(md:List Md)(rv:List ResultVar)(st:St):XlU cx md rv st none=Xc (Uv cx st rv) (Xmu md cx rv st):=nr rfl
def XjL(md:List Md)(st:St)(cs:List AV):Xk3 md st cs=if(cs.all XK&&!cs.isEmpty&&(QN st md 0).all XL&&Zz md (QN st md 0))=true then some (.tup [.agg cs],QN st md 0) else none:=nr rfl
def Xgd(md:List Md)(st:St):Xa5 md st []=none:=nr rfl
def Xge(md:List Md)(st:St)(t:Nat):Xa5 md st [.tmp t]=npP md st (st.env t):=nr rfl
def XeS(md:List Md)(st:St)(a t:Nat):Xa5 md st [.cell a t]=none:=nr rfl
def Xgf(md:List Md)(st:St)(a b:ResultVar)(l:List ResultVar):Xa5 md st (a :: b :: l)=none:=by cases a<;>rfl
def Xmv(md:List Md)(st:St)(q:Pl):npP md st (.p q)=if(!q.e&&q.path.isEmpty&&q.c==0&&decide (md.length<=q.r))=true then some (st.bx q.r) else none:=nr rfl
def XjM(md:List Md)(cx:Cx)(rv:List ResultVar)(s0:St)(l:List AV)(st:St):Xmu md cx rv s0 (l,st)=if(l.all XL&&(QN st md 0).all XL&&Zz md (QN st md 0))=true then some (one l,QN st md 0) else Xi1 cx md rv s0:=nr rfl
def XlV(md:List Md)(t:Nat)(p:List AV×St):Option (AV×List AV):=Xc (npP md p.2 (p.2.env t)) (λcs=>if(p.1.all XL&&!p.1.isEmpty&&cs.all XK&&!cs.isEmpty&&(QN p.2 md 0).all XL&&Zz md (QN p.2 md 0))=true then some (.tup [.tup [.agg cs],.tup p.1],QN p.2 md 0) else none)
def XjN(md:List Md)(t:Nat)(l:List AV)(st:St):XlV md t (l,st)=Xc (npP md st (st.env t)) (λcs=>if(l.all XL&&!l.isEmpty&&cs.all XK&&!cs.isEmpty&&(QN st md 0).all XL&&Zz md (QN st md 0))=true then some (.tup [.tup [.agg cs],.tup l],QN st md 0) else none):=nr rfl
def Xmw(cx:Cx)(md:List Md)(st:St)(q:List ResultVar×Nat):Option (AV×List AV):=Xc (Uv cx st q.1) (XlV md q.2)
def XjO(cx:Cx)(md:List Md)(st:St)(rs:List ResultVar)(t:Nat):Xmw cx md st (rs,t)=Xc (Uv cx st rs) (XlV md t):=nr rfl
def Xlo(cx:Cx)(md:List Md)(rv:List ResultVar)(st:St):Xi1 cx md rv st=Xc (rvQ rv) (Xmw cx md st):=by
 unfold Xi1
 cases rvQ rv with
 | none=>rfl
 | some p =>
  obtain⟨rs,t⟩:=p
  simp only[Xc,Xmw]
  cases Uv cx st rs with
  | none=>rfl
  | some q =>
   simp only[XlV]
   unfold Xc
   cases npP md q.2 (q.2.env t)<;>rfl
def XhI(cx:Cx)(st:St):Uv cx st []=some ([],st):=nr rfl
def Xmx(v:AV)(p:List AV×St):Option (List AV×St):=some (v :: p.1,p.2)
def XjP(v:AV)(l:List AV)(st:St):Xmx v (l,st)=some (v :: l,st):=nr rfl
def Xgg(cx:Cx)(st:St)(t:Tmp)(r:List ResultVar):Uv cx st (.tmp t :: r)=Xc (take st (.tmp t)) (λp=>Xc (Uv cx p.2 r) (Xmx p.1)):=by
 simp only[Uv,Xc]
 cases take st (.tmp t) with
 | none=>rfl
 | some p=>obtain⟨v,s⟩:=p; simp only; cases Uv cx s r<;>rfl
def Xgh(cx:Cx)(st:St)(a t:Nat)(r:List ResultVar):Uv cx st (.cell a t :: r)=Xc (cx.T t) (λti=>Xc (loadAt st ti (view st (.tmp a))) (λv=>Xc (takeVal st v) (λp=>Xc (Uv cx p.2 r) (Xmx p.1)))):=by
 simp only[Uv,Yb,Xc]
 cases cx.T t with
 | none=>rfl
 | some ti =>
  simp only
  cases loadAt st ti (view st (.tmp a)) with
  | none=>rfl
  | some v =>
   simp only
   cases takeVal st v with
   | none=>rfl
   | some p=>obtain⟨v,s⟩:=p; simp only; cases Uv cx s r<;>rfl
def XjQ:List Md->List AV->Nat->List (Nat×AV)
 | .rw _ :: ms,_ :: as,j=>(j,.p ⟨false,j,[],0⟩) :: XjQ ms as (j+1)
 | .ro _ :: ms,a :: as,j=>(j,a) :: XjQ ms as (j+1)
 | .mv :: ms,a :: as,j=>(j,a) :: XjQ ms as (j+1)
 | _,_,_=>[]
def XjR:List Md->List AV->Nat->List (Nat×List AV)
 | .rw _ :: ms,a :: as,j=>(j,cellsOf a) :: XjR ms as (j+1)
 | .ro _ :: ms,_ :: as,j=>XjR ms as (j+1)
 | .mv :: ms,_ :: as,j=>XjR ms as (j+1)
 | _,_,_=>[]
def XhJ(ms:List Md)(as:List AV):QE ms as=⟨E (XjQ ms as 0),B (XjR ms as 0)⟩:=by
 have h1:∀(ms:List Md) (as:List AV) (j t:Nat),YD ms as j t=E (XjQ ms as j) t:=by
  intro ms
  induction ms with
  | nil=>intro as j t; cases as<;>rfl
  | cons m ms ih =>
   intro as j t
   cases as with
   | nil=>cases m<;>rfl
   | cons a as=>cases m<;>simp only[YD,XjQ,Xac,ih]
 have h2:∀(ms:List Md) (as:List AV) (j t:Nat),Yx ms as j t=B (XjR ms as j) t:=by
  intro ms
  induction ms with
  | nil=>intro as j t; cases as<;>rfl
  | cons m ms ih =>
   intro as j t
   cases as with
   | nil=>cases m<;>rfl
   | cons a as=>cases m<;>simp only[Yx,XjR,XaL,ih]
 simp only[QE,St.mk.injEq]
 exact⟨funext (h1 ms as 0),funext (h2 ms as 0)⟩
section
variable (cx : Cx) (t : TypeId) (pos : String) (aft : Array Edge) (g : Option (Nat × Bool)) (st : St)
def ZZ(d:Nat)(x:Option AV):Xch st (some d) x=Xc x (λv=>some (st.put d v)):=by cases x<;>rfl
def Xei(d:Nat)(x:Option (AV×St)):XkF (some d) x=Xc x (λy=>some (y.2.put d y.1)):=by cases x<;>rfl
def Xlp(d:Option Nat)(x:Option (AV×St)):Xmj d x=Xc x (λy=>putN d y.2 y.1 (UK y.1)):=by cases x<;>rfl
def Xgi(d:Option Nat)(st:St)(r:AV):putN d st r none=XkG d st r (Z6 r):=nr rfl
def Xgj(d:Option Nat)(st:St)(r:AV):XkG d st r none=some (st.put? d r):=nr rfl
def Xgk(d:Nat)(st:St)(r:AV)(cs l:List AV):XkG (some d) st r (some (cs,l))=Xk2 st d cs l:=nr rfl
def Xlq(st:St)(d:Nat)(cs l:List AV):Xk2 st d cs l=Xc (YB st d cs) (λst'=>some (st'.put d (.tup (l++[.p ⟨false,d,[],0⟩])))):=by
 unfold Xk2 Xc
 cases YB st d cs<;>rfl
def XjS(cs l:List AV):Z6 (.tup [.tup [.agg cs],.tup l])=some (cs,l):=nr rfl
def Xgl(d:Nat)(st:St)(r:AV)(cs:List AV):putN (some d) st r (some cs)=YB st d cs:=nr rfl
def XjT(cs:List AV):UK (.tup [.agg cs])=some cs:=nr rfl
def XhK:UK (.tup [])=none:=nr rfl
def XhL(a b:AV)(l:List AV):UK (.tup (a :: b :: l))=none:=by cases a<;>rfl
def XjU(st:St)(t:Nat):AV->Option (AV×St)
 | .tup (v :: vs)=>some (.tup (v :: vs),⟨upd st.env t .u,st.bx⟩)
 | _=>none
def Xgm(st:St)(t:Nat)(v:AV)(vs:List AV):XjU st t (.tup (v :: vs))=some (.tup (v :: vs),⟨upd st.env t .u,st.bx⟩):=nr rfl
def Xgn(st:St)(t:Nat):Xdd st (.tmp t)=XjU st t (st.env t):=by
 simp only[Xdd,XjU]
 cases st.env t with
 | tup vs=>cases vs<;>rfl
 | _=>rfl
def XjV(d:Nat)(x:Operand):Xg cx st ⟨some d,.move x,t,pos,aft,g⟩=if cx.al.contains d=true then Xc (Xdd st x) (λy=>some (y.2.put d y.1)) else some (st.put d (fix (zOf cx t) (view st x))):=by
 simp only[Xg,alD,Xei,St.put?]
def Xgo(d:Nat)(x:Operand):Xg cx st ⟨some d,.assign x,t,pos,aft,g⟩ =
  if cx.al.contains d=true then some (st.put d (fix (zOf cx t) (view st x))) else Xc (take st x) (λy=>some (y.2.put d (fix (zOf cx t) y.1))):=by
 simp only[Xg,Yb,ZM]
def XdF(st:St)(d:Nat)(a x y:AV):Option St:=match a with
 | .b b=>if b=true then some (st.put d x) else some (st.put d y)
 | _=>none
@[congr] def XjW{st:St}{d:Nat}{a a' x y:AV}(h:a=a'):XdF st d a x y=XdF st d a' x y:=by rw[h]
def XbE(d:Nat)(x y:AV):XdF st d (.b true) x y=some (st.put d x):=nr rfl
def XaQ(d:Nat)(x y:AV):XdF st d (.b false) x y=some (st.put d y):=nr rfl
def XjX(d:Nat)(b:Bool)(x y:AV):XdF st d (.b b) x y=if b=true then some (st.put d x) else some (st.put d y):=nr rfl
def XjY(d:Nat)(c x y:Operand):Xg cx st ⟨some d,.pick c x y,t,pos,aft,g⟩=XdF st d (view st c) (view st x) (view st y):=by
 simp only[Xg,XdF,St.put?]
 cases view st c with
 | b x=>cases x<;>rfl
 | _=>rfl
def XhM(d:Nat)(t':TypeId):Xg cx st ⟨some d,.alloc t',t,pos,aft,g⟩=Xc (cx.T t') (λti=>YB st d ti.zero):=Yb _ _
def Xlr(d:Nat)(t':TypeId)(x:Operand):Xg cx st ⟨some d,.box t' x,t,pos,aft,g⟩=Xc (cx.T t') (λti=>if cx.fz.contains d=true then Xc (Xes ti (fix ti.z (view st x))) (λcs=>QL st d cs) else if cx.al.contains d=true then Xc (Xes ti (fix ti.z (view st x))) (λcs=>YB st d cs) else Xc (take st x) (λy=>Xc (Xes ti (fix ti.z y.1)) λcs=>YB y.2 d cs)):=by
 simp only[Xg,Yb,ZM]
def XjZ(d:Nat)(t':TypeId)(a:Operand):Xg cx st ⟨some d,.load t' a,t,pos,aft,g⟩=Xc (cx.T t') (λti=>Xc (loadAt st ti (view st a)) (λv=>some (st.put d v))):=by
 simp only[Xg,Yb,ZZ]
def XhN(t':TypeId)(a x:Operand):Xg cx st ⟨none,.store t' a x,t,pos,aft,g⟩=Xc (cx.T t') (λti=>Xc (take st x) (λy=>storeAt y.2 ti (view y.2 a) y.1)):=by
 simp only[Xg,Yb,Option.isSome_none,Bool.false_eq_true,if_false]
def XdG(d:Nat)(x:Operand):Xg cx st ⟨some d,.nilCheck x,t,pos,aft,g⟩=Xc (XbQ (view st x)) (λv=>some (st.put d v)):=ZZ st d _
def XcU(d:Nat)(t':TypeId)(x:Operand)(f:Nat):Xg cx st ⟨some d,.fieldAddr t' x f,t,pos,aft,g⟩=Xc (cx.T t') (λti=>Xc (Uu ti f (view st x)) (λv=>some (st.put d v))):=by
 simp only[Xg,Yb,ZZ]
def XhO(d:Nat)(t':TypeId)(x:Operand)(f:Nat):Xg cx st ⟨some d,.field t' x f,t,pos,aft,g⟩=Xc (cx.T t') (λti=>Xc (Xcl ti f (view st x)) (λv=>some (st.put d v))):=by
 simp only[Xg,Yb,ZZ]
def XcV(d:Nat)(t':TypeId)(x ix:Operand):Xg cx st ⟨some d,.indexAddr t' x ix,t,pos,aft,g⟩=Xc (cx.T t') (λti=>Xc (Z5 st ti (view st x) (view st ix)) (λv=>some (st.put d v))):=by
 simp only[Xg,Yb,ZZ]
def XhP(d:Nat)(t':TypeId)(x ix:Operand):Xg cx st ⟨some d,.index t' x ix,t,pos,aft,g⟩=Xc (cx.T t') (λti=>Xc (Ug ti (view st x) (view st ix)) (λv=>some (st.put d v))):=by
 simp only[Xg,Yb,ZZ]
def Xls(d:Nat)(op:BinOp)(xt:TypeId)(x y:Operand)(yt:TypeId):Xg cx st ⟨some d,.binOp op xt x y yt,t,pos,aft,g⟩=Xc (Xa0 (cx.T xt) (cx.eqs xt) op (view st x) (view st y)) (λv=>some (st.put d v)):=ZZ st d _
def Xmy(d:Nat)(op:UnOp)(xt:TypeId)(x:Operand):Xg cx st ⟨some d,.unOp op xt x,t,pos,aft,g⟩=Xc (unV op (view st x)) (λv=>some (st.put d v)):=ZZ st d _
def XeT(d:Nat)(a b:TypeId)(x:Operand):Xg cx st ⟨some d,.convert a b x,t,pos,aft,g⟩=Xc (cx.T a) (λta=>Xc (cx.T b) (λtb=>Xc (Xeq st ta tb (view st x)) (λv=>some (st.put d v)))):=by
 simp only[Xg,Yb,ZZ]
def Xgp(src:TI)(k:IntKind)(a:AV):Xeq st src (.int k) a=Xda st src (.int k) a:=nr rfl
def Xgq(src:TI)(a:AV):Xeq st src .str a=Xda st src .str a:=nr rfl
def XhQ(z n:Nat)(zero:List AV)(src:TI)(a:AV):Xeq st src (.slice z n zero) a=Xcm src z zero a:=nr rfl
def XhR(z:Nat)(zero:List AV)(b:ByteArray):Xcm .str z zero (.s b)=if z=1/\Xk1 zero=true/\b.size<=9223372036854775807 then some (.sl .mut 1 (b.data.toList.map Xau)) else none:=nr rfl
def XhS(d:Nat)(xt:TypeId)(x:Operand)(lo hi:Option Operand):Xg cx st ⟨some d,.slice xt x lo hi none,t,pos,aft,g⟩=Xc (cx.T xt) (λti=>Xc (Us ti (view st x) (lo.map (view st)) (hi.map (view st))) (λv=>some (st.put d v))):=by
 simp only[Xg,Yb,ZZ]
def XdH(d f:Nat)(caps:List Operand):Xg cx st ⟨some d,.makeFunc (.func f) (List.toArray []) (List.toArray caps),t,pos,aft,g⟩=if(caps.map (view st)).all ZC=true then some (st.put d (.fn f (caps.map (view st)))) else none:=by
 simp only[Xg,List.isEmpty_toArray,List.isEmpty_nil,Bool.true_and]; rfl
def XeU(d:Nat)(x:Operand)(j:Nat):Xg cx st ⟨some d,.extract x j,t,pos,aft,g⟩=Xc (Qk st x j) (λy=>some (y.2.put d y.1)):=Xei d _
def XhT(d:Nat)(t':TypeId)(parts:List (Nat×Operand)):Xg cx st ⟨some d,.build t' (List.toArray parts),t,pos,aft,g⟩=Xc (cx.T t') (λti=>Xc (Xav ti st parts) (λv=>some (st.put d v))):=by
 simp only[Xg,Yb,ZZ]
def Xca(d:Nat)(t':TypeId)(len:Nat)(parts:List (Nat×Operand)):Xg cx st ⟨some d,.buildSlice t' len (List.toArray parts),t,pos,aft,g⟩=Xc (cx.T t') (λti=>Xc (Zg ti st len parts) (λy=>some (y.2.put d y.1))):=by
 simp only[Xg,Yb,Xei,St.put?]
def XcW(d:Nat)(t':TypeId)(l c:Operand):Xg cx st ⟨some d,.makeSlice t' l c,t,pos,aft,g⟩=Xc (cx.T t') (λti=>Xc (Xer ti (view st l) (view st c)) (λv=>some (st.put d v))):=by
 simp only[Xg,Yb,ZZ]
def Xlt(d:Nat)(x:Operand)(tx:TypeId)(ts:List TypeId):Xg cx st ⟨some d,.call {callee:=.builtin .len,args:=List.toArray [x],argTypes:=List.toArray (tx :: ts)},t,pos,aft,g⟩=Xc (cx.T tx) (λti=>Xc (XkE st ti (view st x)) (λn=>some (st.put d (.i .i64 n)))):=by
 simp only[Xg,Yo,Yb]; rfl
def Xgr(d:Nat)(x y:Operand)(tx ty:TypeId):Xg cx st ⟨some d,.call {callee:=.builtin .append,args:=List.toArray [x,y],argTypes:=List.toArray [tx,ty]},t,pos,aft,g⟩=Xc (cx.T tx) (λti=>Xc (cx.T ty) (λtj=>if Xbf tj=true then Xc (UO ti st x y) (λy=>some (y.2.put d y.1)) else Xc (Q4 ti tj st x (view st y)) (λy=>some (y.2.put d y.1)))):=by
 simp only[Xg,Yo,Yb,Xei]
def XhU(x:Operand)(tx:TypeId):Xg cx st ⟨none,.call {callee:=.builtin .clear,args:=List.toArray [x],argTypes:=List.toArray [tx]},t,pos,aft,g⟩=Xc (cx.T tx) (λti=>U1 ti st (view st x)):=by
 simp only[Xg,Yo,Yb,noD]
def Xlu(d:Nat)(xs:List Operand)(at_:Array TypeId):Xg cx st ⟨some d,.call {callee:=.builtin .min,args:=List.toArray xs,argTypes:=at_},t,pos,aft,g⟩=Xc (Xdb (λa b=>if b<a then b else a) (xs.map (view st))) (λv=>some (st.put d v)):=by
 simp only[Xg,Yo,ZZ]
def Xlv(d:Nat)(xs:List Operand)(at_:Array TypeId):Xg cx st ⟨some d,.call {callee:=.builtin .max,args:=List.toArray xs,argTypes:=at_},t,pos,aft,g⟩=Xc (Xdb (λa b=>if b>a then b else a) (xs.map (view st))) (λv=>some (st.put d v)):=by
 simp only[Xg,Yo,ZZ]
def Xj0(d:Option Nat)(f:Operand)(args:List Operand)(ats:List TypeId):Xg cx st ⟨d,.call {callee:=.value f,args:=List.toArray args,argTypes:=List.toArray ats},t,pos,aft,g⟩ =
  Xc (Uf cx st f ats args) (λy=>putN d y.2 y.1 (UK y.1)):=by
 simp only[Xg,Yo,Xlp]
def XhV(f:Operand)(ts:List TypeId)(xs:List Operand):Uf cx st f ts xs=Xc (Qj cx st f ts xs) (λp=>Xc (cx.fns p.1) (λfs=>Xas cx st p.1 fs f ts xs)):=by
 simp only[Uf,Xc]
 cases Qj cx st f ts xs with
 | none=>rfl
 | some p=>obtain⟨g,as⟩:=p; simp only; cases cx.fns g<;>rfl
def Xj1(f:Operand)(ts:List TypeId)(xs:List Operand):Qj cx st f ts xs=fnV (view st f) (Xcg cx ts xs (xs.map (view st))):=nr rfl
def XhW(g:Nat)(md:List Md)(F:List AV->Option (AV×List AV))(f:Operand)(ts:List TypeId)(xs:List Operand):Xas cx st g ⟨md,F,false⟩ f ts xs=Xar cx st g ⟨md,F,false⟩ f ts xs:=nr rfl
def XhX(g:Nat)(md:List Md)(F:List AV->Option (AV×List AV))(f:Operand)(ts:List TypeId)(xs:List Operand):Xas cx st g ⟨md,F,true⟩ f ts xs=Xc (weakAll st md xs) (λs=>Xar cx s g ⟨md,F,true⟩ f ts xs):=by
 simp only[Xas,if_true,Xc]
 cases weakAll st md xs<;>rfl
def rwK(cx:Cx)(st:St)(g:Nat)(fs:FS)(f:Operand)(ts:List TypeId)(xs:List Operand):Option (Nat×Nat)->Option (AV×St)
 | some (k,n)=>Xa3 cx st g fs k n f ts xs
 | none=>Xaq cx st g fs f ts xs
def Xj2(g:Nat)(md:List Md)(F:List AV->Option (AV×List AV))(b:Bool)(f:Operand)(ts:List TypeId)(xs:List Operand):Xar cx st g ⟨md,F,b⟩ f ts xs=rwK cx st g ⟨md,F,b⟩ f ts xs (Xa1 0 md):=by
 unfold Xar rwK
 simp only
 cases Xa1 0 md with
 | none=>rfl
 | some p=>rfl
def XhY(g:Nat)(fs:FS)(f:Operand)(ts:List TypeId)(xs:List Operand)(k n:Nat):rwK cx st g fs f ts xs (some (k,n))=Xa3 cx st g fs k n f ts xs:=nr rfl
def XhZ(g:Nat)(fs:FS)(f:Operand)(ts:List TypeId)(xs:List Operand):rwK cx st g fs f ts xs none=Xaq cx st g fs f ts xs:=nr rfl
def Xh0(k:Nat):Xa1 k []=none:=nr rfl
def Xj3(k n:Nat)(ms:List Md):Xa1 k (.ro n :: ms)=Xa1 (k+1) ms:=nr rfl
def Xj4(k:Nat)(ms:List Md):Xa1 k (.mv :: ms)=Xa1 (k+1) ms:=nr rfl
def Xj5(k n:Nat)(ms:List Md):Xa1 k (.rw n :: ms)=some (k,n):=nr rfl
def inO(a:Option AV)(l:Option (List AV)):Option (List AV):=match a,l with
 | some a,some l=>some (a :: l)
 | _,_=>none
def Xh1(a:AV)(l:List AV):inO (some a) (some l)=some (a :: l):=nr rfl
def XeV(own:Bool)(av:Option (Bool×Nat))(ys:List (AV×List (Option (Pl×Bool)))):Ym own av st [] [] ys=some []:=nr rfl
def XdI(own:Bool)(av:Option (Bool×Nat))(m:Md)(ms:List Md)(a:AV)(as:List AV)(ys:List (AV×List (Option (Pl×Bool)))):Ym own av st (m :: ms) (a :: as) ys=inO (QK own av st m a (ys.headD (.u,[]))) (Ym own av st ms as ys.tail):=by
 simp only[Ym,inO]
 cases QK own av st m a (ys.headD (.u,[])) with
 | none=>rfl
 | some b=>simp only; cases Ym own av st ms as ys.tail<;>rfl
def Xh2(own:Bool)(av:Option (Bool×Nat))(n:Nat)(a:AV)(y:AV×List (Option (Pl×Bool))):QK own av st (.ro n) a y=Zv own av st a:=nr rfl
def Xh3(own:Bool)(av:Option (Bool×Nat))(a:AV)(x:AV)(l:List (Option (Pl×Bool))):QK own av st .mv a (x,l)=some x:=nr rfl
def rwB(n:Nat)(pl:Pl)(w:Bool)(cells:List AV):Option AV:=if(w&&decide (pl.c+n<=cells.length)&&((cells.drop pl.c).take n).all XK)=true then some (.agg ((cells.drop pl.c).take n)) else none
def Xh4(own:Bool)(av:Option (Bool×Nat))(n:Nat)(pl:Pl)(y:AV×List (Option (Pl×Bool))):QK own av st (.rw n) (.p pl) y=Xc (node st pl) (rwB n pl (Xz st pl)):=by
 simp only[QK,Xc,rwB]
 cases node st pl<;>rfl
def rwP(cx:Cx)(st:St)(fs:FS)(as:List AV)(k n:Nat):Option AV->Option (AV×St)
 | some (.p pl)=>Xbe cx st fs as k n pl
 | _=>none
def Xmz(fs:FS)(as:List AV)(k n:Nat)(pl:Pl):rwP cx st fs as k n (some (.p pl))=Xbe cx st fs as k n pl:=nr rfl
def Xj6(g:Nat)(fs:FS)(k n:Nat)(f:Operand)(ts:List TypeId)(xs:List Operand):Xa3 cx st g fs k n f ts xs=Xc (Qj cx st f ts xs) (λp=>if p.1=g/\Xa2 k fs.md=true then rwP cx st fs p.2 k n p.2[k]? else(if p.1=g then Xfr st fs p.2 else none)):=by
 simp only[Xa3,Xc]
 cases Qj cx st f ts xs with
 | none=>rfl
 | some p =>
  obtain⟨g',as⟩:=p
  simp only
  split
  ·cases as[k]? with
   | none=>rfl
   | some a=>cases a<;>rfl
  ·rfl
def rwA(st:St)(pl:Pl)(n:Nat)(r:AV):Option AV->Option (AV×St)
 | some (.agg cs)=>Xc (node st pl) (λcells=>some (r,(Xi st pl (cells.take pl.c++cs++cells.drop (pl.c+n))).cut pl n))
 | _=>none
def Xj7(pl:Pl)(n:Nat)(r:AV)(cs:List AV):rwA st pl n r (some (.agg cs))=Xc (node st pl) (λcells=>some (r,(Xi st pl (cells.take pl.c++cs++cells.drop (pl.c+n))).cut pl n)):=nr rfl
def rwR(st:St)(pl:Pl)(k n:Nat)(p:AV×List AV):Option (AV×St):=rwA st pl n p.1 p.2[k]?
def Xlw(pl:Pl)(k n:Nat)(r:AV)(os:List AV):rwR st pl k n (r,os)=rwA st pl n r os[k]?:=nr rfl
def Xh5(md:List Md)(F:List AV->Option (AV×List AV))(b:Bool)(as:List AV)(k n:Nat)(pl:Pl):Xbe cx st ⟨md,F,b⟩ as k n pl=Xc (Ym (!b) (some (pl.e,pl.r)) st md as []) (λbs=>Xc (F bs) (rwR st pl k n)):=by
 simp only[Xbe,Xc,rwR]
 cases Ym (!b) (some (pl.e,pl.r)) st md as [] with
 | none=>rfl
 | some bs =>
  simp only
  cases F bs with
  | none=>rfl
  | some p =>
   obtain⟨r,os⟩:=p
   simp only[rwA]
   cases os[k]? with
   | none=>rfl
   | some a =>
    cases a<;>try rfl
    simp only[Xc]
    cases node st pl<;>rfl
def Xh6(n n2:Nat)(ms:List Md)(F:List AV->Option (AV×List AV))(b:Bool)(pl q:Pl)(as:List AV):Xfr st ⟨.rw n :: .rw n2 :: ms,F,b⟩ (.p pl :: .p q :: as)=if(b&&ms.all YZ&&(!q.e&&q.path.isEmpty&&(pl.e||!(pl.r==q.r))))=true then Xck st ⟨.rw n :: .rw n2 :: ms,F,b⟩ (.p pl :: .p q :: as) n n2 pl q else none:=nr rfl
def rbA(st:St)(pl q:Pl)(n n2:Nat)(r:AV):List AV->Option (AV×St)
 | .agg cs :: .agg ds :: _=>Xc (node st pl) (λcells=>Xc (node st q) (λdells=>if sameI ds ((dells.drop q.c).take n2)=true then some (r,(Xi st pl (cells.take pl.c++cs++cells.drop (pl.c+n))).cut pl n) else none))
 | _=>none
def Xj8(pl q:Pl)(n n2:Nat)(r:AV)(cs ds os:List AV):rbA st pl q n n2 r (.agg cs :: .agg ds :: os)=Xc (node st pl) (λcells=>Xc (node st q) (λdells=>if sameI ds ((dells.drop q.c).take n2)=true then some (r,(Xi st pl (cells.take pl.c++cs++cells.drop (pl.c+n))).cut pl n) else none)):=nr rfl
def rbR(st:St)(pl q:Pl)(n n2:Nat)(p:AV×List AV):Option (AV×St):=rbA st pl q n n2 p.1 p.2
def Xlx(pl q:Pl)(n n2:Nat)(r:AV)(os:List AV):rbR st pl q n n2 (r,os)=rbA st pl q n n2 r os:=nr rfl
def Xh7(md:List Md)(F:List AV->Option (AV×List AV))(b:Bool)(as:List AV)(n n2:Nat)(pl q:Pl):Xck st ⟨md,F,b⟩ as n n2 pl q=Xc (Ym false (some (pl.e,pl.r)) st md as []) (λbs=>Xc (F bs) (rbR st pl q n n2)):=by
 simp only[Xck,Xc,rbR]
 cases Ym false (some (pl.e,pl.r)) st md as [] with
 | none=>rfl
 | some bs =>
  simp only
  cases F bs with
  | none=>rfl
  | some p =>
   obtain⟨r,os⟩:=p
   simp only
   have fin:∀cs ds os,(match node st pl with
     | some cells=>match node st q with
      | some dells=>if sameI ds ((dells.drop q.c).take n2)=true then some (r,(Xi st pl (cells.take pl.c++cs++cells.drop (pl.c+n))).cut pl n) else none
      | none=>none
     | none=>none)=rbA st pl q n n2 r (.agg cs :: .agg ds :: os):=λcs ds os=>by
    simp only[rbA,Xc]
    cases node st pl with
    | none=>rfl
    | some cells =>
     simp only
     cases node st q<;>rfl
   rcases os with _ | ⟨a,_ | ⟨b,os⟩⟩
   ·rfl
   ·cases a<;>rfl
   ·cases a with
    | agg cs=>cases b with
     | agg ds=>exact fin cs ds os
     | _=>rfl
    | _=>rfl
def Xgs:sameI [] []=true:=nr rfl
def Xj9(k:IntKind)(a:Int)(r r':List AV):sameI (.i k a :: r) (.i k a :: r')=sameI r r':=by simp[sameI]
def XeW(m:Md)(ms:List Md):Xa2 0 (m :: ms)=ms.all YZ:=nr rfl
def XeX(k n:Nat)(ms:List Md):Xa2 (k+1) (.ro n :: ms)=Xa2 k ms:=nr rfl
def XdJ(xs:List Operand):weakAll st [] xs=some st:=by cases xs<;>rfl
def XeY(n:Nat)(ms:List Md)(x:Operand)(xs:List Operand):weakAll st (.ro n :: ms) (x :: xs)=Xc (weakArg st x) (λs=>weakAll s ms xs):=by
 simp only[weakAll,Xc]; cases weakArg st x<;>rfl
def XeZ(n:Nat)(ms:List Md)(x:Operand)(xs:List Operand):weakAll st (.rw n :: ms) (x :: xs)=weakAll st ms xs:=by simp only[weakAll]
def Xe0(ms:List Md)(x:Operand)(xs:List Operand):weakAll st (.mv :: ms) (x :: xs)=weakAll st ms xs:=by simp only[weakAll]
def QH(st:St)(x:Operand):AV->Option St
 | .agg cs=>Zu x cs.length 0 st
 | a=>weakLeaf st a
def Xgt(x:Operand):weakArg st x=QH st x (view st x):=by simp only[weakArg,QH]; cases view st x<;>rfl
def XcX(x:Operand)(j:Nat):Zu x 0 j st=some st:=nr rfl
def Xka(x:Operand)(n j:Nat)(st:St):AV->Option St
 | .agg cs=>Xc cs[j]? (λa=>Xc (weakLeaf st a) (λs=>Zu x n (j+1) s))
 | _=>none
def Xgu(x:Operand)(n j:Nat)(cs:List AV):Xka x n j st (.agg cs)=Xc cs[j]? (λa=>Xc (weakLeaf st a) (λs=>Zu x n (j+1) s)):=nr rfl
def XcY(x:Operand)(n j:Nat):Zu x (n+1) j st=Xka x n j st (view st x):=by
 simp only[Zu,Xka]
 cases view st x with
 | agg cs =>
  simp only[Xc]
  cases cs[j]? with
  | none=>rfl
  | some a=>simp only; cases weakLeaf st a<;>rfl
 | _=>rfl
def Xgv(st:St)(pl:Pl)(z':Nat)(cells:List AV):Option AV->Option St
 | some (.sl .mut z es)=>if z'=z then(if Xz st pl then some ((Xi st pl (cells.set pl.c (.sl .app z (XH es)))).filt (keepP pl.e pl.r pl.path pl.c 1) (keepP pl.e pl.r pl.path pl.c 1)) else none) else none
 | _=>some st
def Xkb(st:St)(pl:Pl)(z':Nat):Option (List AV)->Option St
 | some cells=>Xgv st pl z' cells cells[pl.c]?
 | none=>some st
def XdK(pl:Pl)(z' lo n:Nat):weakLeaf st (.rf pl z' lo n)=Xkb st pl z' (node st pl):=by
 simp only[weakLeaf,Xkb]
 cases node st pl with
 | none=>rfl
 | some cells=>rfl
def Xe1(pl:Pl)(z':Nat)(cells:List AV):Xkb st pl z' (some cells)=Xgv st pl z' cells cells[pl.c]?:=nr rfl
def Xgw(pl:Pl)(z':Nat)(cells:List AV)(z:Nat)(es:List (List AV)):Xgv st pl z' cells (some (.sl .mut z es))=if z'=z then(if Xz st pl=true then some ((Xi st pl (cells.set pl.c (.sl .app z (XH es)))).filt (keepP pl.e pl.r pl.path pl.c 1) (keepP pl.e pl.r pl.path pl.c 1)) else none) else none:=nr rfl
def Xh8(pl:Pl)(z':Nat)(cells:List AV)(z:Nat)(es:List (List AV)):Xgv st pl z' cells (some (.sl .ro z es))=some st:=nr rfl
def Xgx(pl:Pl)(z':Nat)(cells:List AV)(z:Nat)(es:List (List AV)):Xgv st pl z' cells (some (.sl .app z es))=some st:=nr rfl
def XlW(ys:List (AV×List (Option (Pl×Bool))))(st:St)(p:AV×List AV):Option (AV×St):=Xc (XS st p.2 ys) (λs=>some (p.1,s))
def Xgy(g:Nat)(md:List Md)(F:List AV->Option (AV×List AV))(b:Bool)(f:Operand)(ts:List TypeId)(xs:List Operand):Xaq cx st g ⟨md,F,b⟩ f ts xs=Xc (XO cx st md ts xs) (λp=>Xc (Qj cx p.2 f ts xs) (λq=>if q.1=g/\(p.1.all λy=>y.2.all (Xfp p.2))=true then Xc (Ym (!b) none p.2 md q.2 p.1) (λbs=>Xc (F bs) (XlW p.1 p.2)) else none)):=by
 simp only[Xaq,Xc,XlW]
 cases XO cx st md ts xs with
 | none=>rfl
 | some p =>
  obtain⟨ys,s⟩:=p
  simp only
  cases Qj cx s f ts xs with
  | none=>rfl
  | some q =>
   obtain⟨g',as⟩:=q
   simp only[Xfs]
   split
   ·cases Ym (!b) none s md as ys with
    | none=>rfl
    | some bs =>
     simp only
     cases F bs with
     | none=>rfl
     | some r =>
      obtain⟨v,os⟩:=r
      simp only
      cases XS s os ys<;>rfl
   ·rfl
def XdL(ts:List TypeId)(xs:List Operand):XO cx st [] ts xs=some ([],st):=by cases ts<;>cases xs<;>rfl
def Xgz(y:AV×List (Option (Pl×Bool)))(q:List (AV×List (Option (Pl×Bool)))×St):Option (List (AV×List (Option (Pl×Bool)))×St):=some (y :: q.1,q.2)
def Xh9(y:AV×List (Option (Pl×Bool)))(l:List (AV×List (Option (Pl×Bool))))(s:St):Xgz y (l,s)=some (y :: l,s):=nr rfl
def Xe2(ms:List Md)(t:TypeId)(ts:List TypeId)(x:Operand)(xs:List Operand):XO cx st (.mv :: ms) (t :: ts) (x :: xs)=Xc (outArg (zOf cx t) st x) (λp=>Xc (XO cx p.2 ms ts xs) (Xgz p.1)):=by
 simp only[XO,Md.isMv,if_true,Xc,Xgz]
 cases outArg (zOf cx t) st x with
 | none=>rfl
 | some p=>obtain⟨y,s⟩:=p; simp only; cases XO cx s ms ts xs<;>rfl
def Xe3(n:Nat)(ms:List Md)(t:TypeId)(ts:List TypeId)(x:Operand)(xs:List Operand):XO cx st (.ro n :: ms) (t :: ts) (x :: xs)=Xc (XO cx st ms ts xs) (Xgz (.u,[])):=by
 simp only[XO,Md.isMv,Bool.false_eq_true,if_false,Xc,Xgz]
 cases XO cx st ms ts xs<;>rfl
def XgO(z:Nat)(st:St)(x:Operand):AV->Option ((AV×List (Option (Pl×Bool)))×St)
 | .agg cs=>match Zx x cs.length 0 st with
  | some (ys,st')=>some ((.agg ys.1,ys.2),st')
  | none=>none
 | a=>match outLeaf st (fix z a) with
  | some (y,st')=>some ((y.1,[y.2]),st')
  | none=>none
def Xia(z:Nat)(x:Operand):outArg z st x=XgO z st x (view st x):=by
 simp only[outArg,XgO]
 cases view st x<;>rfl
def Xkc(p:(List AV×List (Option (Pl×Bool)))×St):Option ((AV×List (Option (Pl×Bool)))×St):=some ((.agg p.1.1,p.1.2),p.2)
def Xib(l:List AV)(r:List (Option (Pl×Bool)))(s:St):Xkc ((l,r),s)=some ((.agg l,r),s):=nr rfl
def XdM(p:(AV×Option (Pl×Bool))×St):Option ((AV×List (Option (Pl×Bool)))×St):=some ((p.1.1,[p.1.2]),p.2)
def Xic(a:AV)(r:Option (Pl×Bool))(s:St):XdM ((a,r),s)=some ((a,[r]),s):=nr rfl
def Xid(z:Nat)(x:Operand)(cs:List AV):XgO z st x (.agg cs)=Xc (Zx x cs.length 0 st) Xkc:=by
 simp only[XgO,Xc,Xkc]
 cases Zx x cs.length 0 st<;>rfl
def Xkd(z:Nat)(x:Operand)(pl:Pl)(y lo n:Nat):XgO z st x (.rf pl y lo n)=Xc (outLeaf st (.rf pl y lo n)) XdM:=by
 simp only[XgO,fix,Xc,XdM]
 cases outLeaf st (.rf pl y lo n)<;>rfl
def Xke(z:Nat)(x:Operand)(t:Tag)(y:Nat)(es:List (List AV)):XgO z st x (.sl t y es)=Xc (outLeaf st (.sl t y es)) XdM:=by
 simp only[XgO,fix,Xc,XdM]
 cases outLeaf st (.sl t y es)<;>rfl
def Xie(z:Nat)(x:Operand):XgO z st x .nil=Xc (outLeaf st (fix z .nil)) XdM:=by
 simp only[XgO,Xc,XdM]
 cases outLeaf st (fix z .nil)<;>rfl
def XdN(x:Operand)(j:Nat):Zx x 0 j st=some (([],[]),st):=nr rfl
def XlX(y:AV×Option (Pl×Bool))(q:(List AV×List (Option (Pl×Bool)))×St):Option ((List AV×List (Option (Pl×Bool)))×St):=some ((y.1 :: q.1.1,y.2 :: q.1.2),q.2)
def Xkf(a:AV)(r:Option (Pl×Bool))(l:List AV)(rs:List (Option (Pl×Bool)))(s:St):XlX (a,r) ((l,rs),s)=some ((a :: l,r :: rs),s):=nr rfl
def XmA(x:Operand)(n j:Nat)(st:St):AV->Option ((List AV×List (Option (Pl×Bool)))×St)
 | .agg cs=>Xc cs[j]? (λa=>Xc (outLeaf st a) (λp=>Xc (Zx x n (j+1) p.2) (XlX p.1)))
 | _=>none
def Xif(x:Operand)(n j:Nat)(cs:List AV):XmA x n j st (.agg cs)=Xc cs[j]? (λa=>Xc (outLeaf st a) (λp=>Xc (Zx x n (j+1) p.2) (XlX p.1))):=nr rfl
def XdO(x:Operand)(n j:Nat):Zx x (n+1) j st=XmA x n j st (view st x):=by
 simp only[Zx,XmA]
 cases view st x with
 | agg cs =>
  simp only[Xc,XlX]
  cases cs[j]? with
  | none=>rfl
  | some a =>
   simp only
   cases outLeaf st a with
   | none=>rfl
   | some p=>obtain⟨y,s⟩:=p; simp only; cases Zx x n (j+1) s<;>rfl
 | _=>rfl
def XmB(st:St)(pl:Pl)(z' lo n:Nat)(cells:List AV):Option AV->Option ((AV×Option (Pl×Bool))×St)
 | some (.sl .mut z es)=>if(lo=0/\n=es.length)/\z'=z then(if Xz st pl=true then some ((.sl .mut z es,some (pl,UN st pl)),(Xi st pl (cells.set pl.c .u)).cut pl 1) else none) else none
 | _=>none
def Xig(pl:Pl)(z' lo n:Nat)(cells:List AV)(z:Nat)(es:List (List AV)):XmB st pl z' lo n cells (some (.sl .mut z es))=if(lo=0/\n=es.length)/\z'=z then(if Xz st pl=true then some ((.sl .mut z es,some (pl,UN st pl)),(Xi st pl (cells.set pl.c .u)).cut pl 1) else none) else none:=nr rfl
def Xe4(pl:Pl)(z' lo n:Nat):outLeaf st (.rf pl z' lo n)=Xc (node st pl) (λcells=>XmB st pl z' lo n cells cells[pl.c]?):=by
 simp only[outLeaf,Xc]
 cases node st pl with
 | none=>rfl
 | some cells=>simp only[XmB]; rfl
def XmC(st:St)(z:Nat)(pl:Pl)(y lo n:Nat)(cells:List AV):Option AV->Option St
 | some (.sl .mut z' es)=>if((lo+n<=es.length/\z'=z)/\y=z)/\(Xz st pl&&Xfp ((Xi st pl (cells.set pl.c .u)).cut pl 1) (some (pl,UN st pl)))=true then XB ((Xi st pl (cells.set pl.c .u)).cut pl 1) (.sl .mut z (Yh z lo n es)) (some (pl,UN st pl)) else none
 | _=>none
def Xih(z:Nat)(pl:Pl)(y lo n:Nat)(cells:List AV)(z':Nat)(es:List (List AV)):XmC st z pl y lo n cells (some (.sl .mut z' es))=if((lo+n<=es.length/\z'=z)/\y=z)/\(Xz st pl&&Xfp ((Xi st pl (cells.set pl.c .u)).cut pl 1) (some (pl,UN st pl)))=true then XB ((Xi st pl (cells.set pl.c .u)).cut pl 1) (.sl .mut z (Yh z lo n es)) (some (pl,UN st pl)) else none:=nr rfl
def XgA(z b:Nat)(ze:List AV)(pl:Pl)(y lo n:Nat):U1 (.slice z b ze) st (.rf pl y lo n)=Xc (node st pl) (λcells=>XmC st z pl y lo n cells cells[pl.c]?):=by
 simp only[U1,Xc]
 cases node st pl with
 | none=>rfl
 | some cells=>simp only[XmC]; rfl
@[congr] def XiO{ti:TI}{a a':AV}(h:a=a'):U1 ti st a=U1 ti st a':=by rw[h]
def XgB:Xfp st none=true:=nr rfl
def XgC(pl:Pl):Xfp st (some (pl,true))=true:=nr rfl
def okN(c:Nat):Option (List AV)->Bool
 | some cells=>decide (c<cells.length)
 | none=>false
def Xii(c:Nat)(cells:List AV):okN c (some cells)=decide (c<cells.length):=nr rfl
def Xe5(pl:Pl):Xfp st (some (pl,false))=((!pl.e||top (st.env pl.r))&&okN pl.c (node st pl)):=nr rfl
def XdP(ys:List (AV×List (Option (Pl×Bool)))):XS st [] ys=some st:=by cases ys<;>rfl
def XcZ(o:AV)(os:List AV)(a:AV)(ys:List (AV×List (Option (Pl×Bool)))):XS st (o :: os) ((a,[]) :: ys)=XS st os ys:=nr rfl
def Xc0(os:List AV)(a:AV)(p:Option (Pl×Bool))(ps:List (Option (Pl×Bool)))(ys:List (AV×List (Option (Pl×Bool)))):XS st (.u :: os) ((a,p :: ps) :: ys)=XS st os ys:=nr rfl
def XdQ(cs os:List AV)(a:AV)(p:Option (Pl×Bool))(ps:List (Option (Pl×Bool)))(ys:List (AV×List (Option (Pl×Bool)))):XS st (.agg cs :: os) ((a,p :: ps) :: ys)=Xc (XV st cs (p :: ps)) (λs=>XS s os ys):=by
 simp only[XS,Xc,Xfq,cellsOf]
 cases XV st cs (p :: ps)<;>rfl
def Xe6(t:Tag)(z:Nat)(es:List (List AV))(os:List AV)(a:AV)(p:Option (Pl×Bool))(ps:List (Option (Pl×Bool)))(ys:List (AV×List (Option (Pl×Bool)))):XS st (.sl t z es :: os) ((a,p :: ps) :: ys)=Xc (XV st [.sl t z es] (p :: ps)) (λs=>XS s os ys):=by
 simp only[XS,Xc,Xfq,cellsOf]
 cases XV st [.sl t z es] (p :: ps)<;>rfl
def XdR(os:List AV):XS st os []=some st:=by cases os<;>rfl
def Xba:XV st [] []=some st:=nr rfl
def XaR(a:AV)(as:List AV)(p:Option (Pl×Bool))(ps:List (Option (Pl×Bool))):XV st (a :: as) (p :: ps)=Xc (XB st a p) (λs=>XV s as ps):=by
 simp only[XV,Xc]
 cases XB st a p<;>rfl
def Xcb(a:AV):XB st a none=some st:=nr rfl
def Xkg(st:St)(r:Nat)(a:AV):AV->Option St
 | .u=>some (st.put r a)
 | _=>none
def Xkh(r:Nat)(a:AV):Xkg st r a .u=some (st.put r a):=nr rfl
def Xcc(pl:Pl)(t:Tag)(z:Nat)(es:List (List AV)):XB st (.sl t z es) (some (pl,true))=Xkg st pl.r (.sl t z es) (st.env pl.r):=by
 simp only[XB,Xkg]
 cases st.env pl.r<;>rfl
def Xki(st:St)(pl:Pl)(a:AV)(cells:List AV):Option AV->Option St
 | some .u=>if(Xz st pl&&(!pl.e||top (st.env pl.r)))=true then some (Xi st pl (cells.set pl.c a)) else none
 | _=>none
def Xkj(pl:Pl)(a:AV)(cells:List AV):Xki st pl a cells (some .u)=if(Xz st pl&&(!pl.e||top (st.env pl.r)))=true then some (Xi st pl (cells.set pl.c a)) else none:=nr rfl
def Xbb(pl:Pl)(t:Tag)(z:Nat)(es:List (List AV)):XB st (.sl t z es) (some (pl,false))=Xc (node st pl) (λcells=>Xki st pl (.sl t z es) cells cells[pl.c]?):=by
 simp only[XB,Xc]
 cases node st pl with
 | none=>rfl
 | some cells =>
  simp only[Xki]
  cases cells[pl.c]? with
  | none=>rfl
  | some a=>cases a<;>rfl
def XmD(st:St)(p:AV×List AV):Option (AV×St):=some (p.1,st)
def Xkk(v:AV)(os:List AV):XmD st (v,os)=some (v,st):=nr rfl
def Xij(g:Nat)(md:List Md)(F:List AV->Option (AV×List AV))(b:Bool)(f:Operand)(ts:List TypeId)(xs:List Operand)(h:md.all YZ=true) :
  Xaq cx st g ⟨md,F,b⟩ f ts xs=Xc (Qj cx st f ts xs) (λq=>if q.1=g then Xc (Ym (!b) none st md q.2 []) (λbs=>Xc (F bs) (XmD st)) else none):=by
 have h1:∀(ms:List Md) (ts:List TypeId) (xs:List Operand),ms.all YZ=true->∃ys,XO cx st ms ts xs=some (ys,st)/\∀y∈ys,y=(AV.u,[]):=by
  intro ms
  induction ms with
  | nil=>intro ts xs _; exact⟨[],by simp[XO],by simp⟩
  | cons m ms ih =>
   intro ts xs hm
   simp only[List.all_cons,Bool.and_eq_true] at hm
   cases ts with
   | nil=>exact⟨[],by simp[XO],by simp⟩
   | cons t ts =>
    cases xs with
    | nil=>exact⟨[],by simp[XO],by simp⟩
    | cons x xs =>
     obtain⟨ys,e1,e2⟩:=ih ts xs hm.2
     have:m.isMv=false:=by cases m<;>first | rfl | cases hm.1
     exact⟨(.u,[]) :: ys,by simp only[XO,this,Bool.false_eq_true,if_false,e1],by simpa using e2⟩
 obtain⟨ys,e1,e2⟩:=h1 md ts xs h
 have h2:∀(ms:List Md) (as:List AV) (ys:List (AV×List (Option (Pl×Bool)))),ms.all YZ=true->(∀y∈ys,y=(AV.u,[]))->Ym (!b) none st ms as ys=Ym (!b) none st ms as []:=by
  intro ms
  induction ms with
  | nil=>intro as ys _ _; cases as<;>rfl
  | cons m ms ih =>
   intro as ys hm hy
   simp only[List.all_cons,Bool.and_eq_true] at hm
   cases as with
   | nil=>rfl
   | cons a as =>
    cases m with
    | ro n =>
     simp only[Ym,QK,List.tail_nil]
     rw[ih as ys.tail hm.2 (λy hy'=>hy y (List.mem_of_mem_tail hy'))]
    | _=>cases hm.1
 have h3:∀(os:List AV) (ys:List (AV×List (Option (Pl×Bool)))),(∀y∈ys,y=(AV.u,[]))->XS st os ys=some st:=by
  intro os
  induction os with
  | nil=>intro ys _; cases ys<;>rfl
  | cons o os ih =>
   intro ys hy
   cases ys with
   | nil=>rfl
   | cons y ys =>
    have:=hy y (by simp)
    subst this
    simp only[XS]
    exact ih ys (λy hy'=>hy y (by simp[hy']))
 have h4:(ys.all λy=>y.2.all (Xfp st))=true:=by
  rw[List.all_eq_true]
  intro y hy
  rw[e2 y hy]; rfl
 rw[Xgy,e1]
 simp only[ZM,h4,and_true]
 congr 1
 funext q
 split
 ·rw[h2 md q.2 ys h e2]
  congr 1
  funext bs
  congr 1
  funext p
  simp only[XlW,XmD,h3 p.2 ys e2,ZM]
 ·rfl
end
end Go.Vm
set_option autoImplicit true
set_option relaxedAutoImplicit true
namespace Go.Vm
def k0:XA q .u=.u :=nr rfl
def k1:XA q .no=.no :=nr rfl
def k2:XA q .ub=.ub :=nr rfl
def k3:XA q (.b x)=(.b x) :=nr rfl
def k4:XA q (.i k n)=(.i k n) :=nr rfl
def k5:XA q (.s x)=(.s x) :=nr rfl
def k6:XA q .nil=.nil :=nr rfl
def k7:XA q (.rf pl y lo n)=(.rf pl y lo n) :=nr rfl
def k8:XA q (.p pl)=(.p pl) :=nr rfl
def k9:XA q (.pr cs)=(.pr cs) :=nr rfl
def k10:XA q .pn=.pn :=nr rfl
def k11:XA q (.fn f cs)=(.fn f cs) :=nr rfl
def k12:XA q (.fs cs)=(.fs cs) :=nr rfl
def k13:XA q (.agg cs)=(.agg cs) :=nr rfl
def k14:XA q (.tup cs)=(.tup cs) :=nr rfl
def k15:XA q (.sl .app z es)=.rf q z 0 es.length :=nr rfl
def k16:XA q (.sl .mut z es)=.rf q z 0 es.length :=nr rfl
def k17:XA q (.sl .ro z es)=.sl .ro z es :=nr rfl
def Qx(x:Nat)(a:AV):AV :=match a with
  | .agg cs => .agg (X7 ⟨true,x,[],0⟩ 0 cs)
  | .tup _ => .u
  | a => XA ⟨true,x,[],0⟩ a
def k18:view st (.tmp x)=Qx x (st.env x) :=nr rfl
def k19:view st (.const v)=Xep v :=nr rfl
def k20:view st (.func f)=.fn f [] :=nr rfl
def k21:Qx x .u=.u :=nr rfl
def k22:Qx x .no=.no :=nr rfl
def k23:Qx x .ub=.ub :=nr rfl
def k24:Qx x (.i k n)=(.i k n) :=nr rfl
def k25:Qx x .nil=.nil :=nr rfl
def k26:Qx x (.rf pl y lo n)=(.rf pl y lo n) :=nr rfl
def k27:Qx x (.p pl)=(.p pl) :=nr rfl
def k28:Qx x (.pr cs)=(.pr cs) :=nr rfl
def k29:Qx x .pn=.pn :=nr rfl
def k30:Qx x (.fn f cs)=(.fn f cs) :=nr rfl
def k31:Qx x (.fs cs)=(.fs cs) :=nr rfl
def k32:Qx x (.agg cs)=.agg (X7 ⟨true,x,[],0⟩ 0 cs) :=nr rfl
def k33:Qx x (.tup cs)=.u :=nr rfl
def k34:Qx x (.b y)=.b y :=nr rfl
def k35:Qx x (.s y)=.s y :=nr rfl
def k36:Qx x (.sl .app z es)=.rf ⟨true,x,[],0⟩ z 0 es.length :=nr rfl
def k37:Qx x (.sl .mut z es)=.rf ⟨true,x,[],0⟩ z 0 es.length :=nr rfl
def k38:Qx x (.sl .ro z es)=.sl .ro z es :=nr rfl
def k39:X7 q j []=[] :=nr rfl
def k40:X7 q j (a :: l)=XA {q with c :=j} a :: X7 q (j+1) l :=nr rfl
def k41:Zo .u=false :=nr rfl
def k42:Zo .no=false :=nr rfl
def k43:Zo .ub=false :=nr rfl
def k44:Zo (.b x)=false :=nr rfl
def k45:Zo (.i k n)=false :=nr rfl
def k46:Zo (.s x)=false :=nr rfl
def k47:Zo .nil=false :=nr rfl
def k48:Zo (.sl t z es)=true :=nr rfl
def k49:Zo (.rf pl y lo n)=false :=nr rfl
def k50:Zo (.p pl)=false :=nr rfl
def k51:Zo (.pr cs)=false :=nr rfl
def k52:Zo .pn=false :=nr rfl
def k53:Zo (.fn f cs)=false :=nr rfl
def k54:Zo (.fs cs)=false :=nr rfl
def k55:Zo (.agg cs)=false :=nr rfl
def k56:Zo (.tup cs)=false :=nr rfl
def k57:UK .u=none :=nr rfl
def k58:UK .no=none :=nr rfl
def k59:UK .ub=none :=nr rfl
def k60:UK (.b x)=none :=nr rfl
def k61:UK (.i k n)=none :=nr rfl
def k62:UK (.s x)=none :=nr rfl
def k63:UK .nil=none :=nr rfl
def k64:UK (.sl t z es)=none :=nr rfl
def k65:UK (.rf pl y lo n)=none :=nr rfl
def k66:UK (.p pl)=none :=nr rfl
def k67:UK (.pr cs)=none :=nr rfl
def k68:UK .pn=none :=nr rfl
def k69:UK (.fn f cs)=none :=nr rfl
def k70:UK (.fs cs)=none :=nr rfl
def k71:UK (.agg cs)=none :=nr rfl
def k72:Z6 .u=none :=nr rfl
def k73:Z6 .no=none :=nr rfl
def k74:Z6 .ub=none :=nr rfl
def k75:Z6 (.b x)=none :=nr rfl
def k76:Z6 (.i k n)=none :=nr rfl
def k77:Z6 (.s x)=none :=nr rfl
def k78:Z6 .nil=none :=nr rfl
def k79:Z6 (.sl t z es)=none :=nr rfl
def k80:Z6 (.rf pl y lo n)=none :=nr rfl
def k81:Z6 (.p pl)=none :=nr rfl
def k82:Z6 (.pr cs)=none :=nr rfl
def k83:Z6 .pn=none :=nr rfl
def k84:Z6 (.fn f cs)=none :=nr rfl
def k85:Z6 (.fs cs)=none :=nr rfl
def k86:Z6 (.agg cs)=none :=nr rfl
def k87:Z6 (.tup [])=none :=nr rfl
def k88:Z6 (.tup (.u :: l))=none :=by
  cases l with
  | nil => rfl
  | cons b l => cases l<;>rfl
def k89:Z6 (.tup (.no :: l))=none :=by
  cases l with
  | nil => rfl
  | cons b l => cases l<;>rfl
def k90:Z6 (.tup (.ub :: l))=none :=by
  cases l with
  | nil => rfl
  | cons b l => cases l<;>rfl
def k91:Z6 (.tup ((.b x) :: l))=none :=by
  cases l with
  | nil => rfl
  | cons b l => cases l<;>rfl
def k92:Z6 (.tup ((.i k n) :: l))=none :=by
  cases l with
  | nil => rfl
  | cons b l => cases l<;>rfl
def k93:Z6 (.tup ((.s x) :: l))=none :=by
  cases l with
  | nil => rfl
  | cons b l => cases l<;>rfl
def k94:Z6 (.tup (.nil :: l))=none :=by
  cases l with
  | nil => rfl
  | cons b l => cases l<;>rfl
def k95:Z6 (.tup ((.sl t z es) :: l))=none :=by
  cases l with
  | nil => rfl
  | cons b l => cases l<;>rfl
def k96:Z6 (.tup ((.rf pl y lo n) :: l))=none :=by
  cases l with
  | nil => rfl
  | cons b l => cases l<;>rfl
def k97:Z6 (.tup ((.p pl) :: l))=none :=by
  cases l with
  | nil => rfl
  | cons b l => cases l<;>rfl
def k98:Z6 (.tup ((.pr cs) :: l))=none :=by
  cases l with
  | nil => rfl
  | cons b l => cases l<;>rfl
def k99:Z6 (.tup (.pn :: l))=none :=by
  cases l with
  | nil => rfl
  | cons b l => cases l<;>rfl
def Xn8:Z6 (.tup ((.fn f cs) :: l))=none :=by
  cases l with
  | nil => rfl
  | cons b l => cases l<;>rfl
def Xn9:Z6 (.tup ((.fs cs) :: l))=none :=by
  cases l with
  | nil => rfl
  | cons b l => cases l<;>rfl
def Xoa:Z6 (.tup ((.agg cs) :: l))=none :=by
  cases l with
  | nil => rfl
  | cons b l => cases l<;>rfl
def Xob:npP md st .u=none :=nr rfl
def Xoc:npP md st .no=none :=nr rfl
def Xod:npP md st .ub=none :=nr rfl
def Xoe:npP md st (.b x)=none :=nr rfl
def Xof:npP md st (.i k n)=none :=nr rfl
def Xog:npP md st (.s x)=none :=nr rfl
def Xoh:npP md st .nil=none :=nr rfl
def Xoi:npP md st (.sl t z es)=none :=nr rfl
def Xoj:npP md st (.rf pl y lo n)=none :=nr rfl
def Xok:npP md st (.pr cs)=none :=nr rfl
def Xol:npP md st .pn=none :=nr rfl
def Xom:npP md st (.fn f cs)=none :=nr rfl
def Xon:npP md st (.fs cs)=none :=nr rfl
def Xoo:npP md st (.agg cs)=none :=nr rfl
def Xop:npP md st (.tup cs)=none :=nr rfl
def Xoq:Yp .u=false :=nr rfl
def Xor:Yp .no=false :=nr rfl
def Xos:Yp .ub=false :=nr rfl
def Xot:Yp (.b x)=false :=nr rfl
def Xou:Yp (.i k n)=false :=nr rfl
def Xov:Yp (.s x)=false :=nr rfl
def Xow:Yp .nil=false :=nr rfl
def Xox:Yp (.sl t z es)=true :=nr rfl
def Xoy:Yp (.rf pl y lo n)=false :=nr rfl
def Xoz:Yp (.p pl)=false :=nr rfl
def XoA:Yp (.pr cs)=false :=nr rfl
def XoB:Yp .pn=false :=nr rfl
def XoC:Yp (.fn f cs)=false :=nr rfl
def XoD:Yp (.fs cs)=false :=nr rfl
def XoE:Yp (.agg cs)=cs.any Zo :=nr rfl
def XoF:Yp (.tup cs)=false :=nr rfl
def XoG:QJ .u=true :=nr rfl
def XoH:QJ .no=false :=nr rfl
def XoI:QJ .ub=true :=nr rfl
def XoJ:QJ (.b x)=true :=nr rfl
def XoK:QJ (.i k n)=true :=nr rfl
def XoL:QJ (.s x)=true :=nr rfl
def XoM:QJ .nil=true :=nr rfl
def XoN:QJ (.sl t z es)=true :=nr rfl
def XoO:QJ (.rf pl y lo n)=false :=nr rfl
def XoP:QJ (.p pl)=true :=nr rfl
def XoQ:QJ (.pr cs)=true :=nr rfl
def XoR:QJ .pn=true :=nr rfl
def XoS:QJ (.fn f cs)=false :=nr rfl
def XoT:QJ (.fs cs)=false :=nr rfl
def XoU:QJ (.agg cs)=false :=nr rfl
def XoV:QJ (.tup cs)=false :=nr rfl
def XoW:XK .u=true :=nr rfl
def XoX:XK .no=false :=nr rfl
def XoY:XK .ub=true :=nr rfl
def XoZ:XK (.b x)=true :=nr rfl
def Xo0:XK (.i k n)=true :=nr rfl
def Xo1:XK (.s x)=true :=nr rfl
def Xo2:XK .nil=true :=nr rfl
def Xo3:XK (.sl t z es)=true :=nr rfl
def Xo4:XK (.rf pl y lo n)=false :=nr rfl
def Xo5:XK (.p pl)=false :=nr rfl
def Xo6:XK (.pr cs)=true :=nr rfl
def Xo7:XK .pn=true :=nr rfl
def Xo8:XK (.fn f cs)=false :=nr rfl
def Xo9:XK (.fs cs)=false :=nr rfl
def Xpa:XK (.agg cs)=false :=nr rfl
def Xpb:XK (.tup cs)=false :=nr rfl
def Xpc:top .u=false :=nr rfl
def Xpd:top .no=false :=nr rfl
def Xpe:top .ub=true :=nr rfl
def Xpf:top (.b x)=true :=nr rfl
def Xpg:top (.i k n)=true :=nr rfl
def Xph:top (.s x)=true :=nr rfl
def Xpi:top .nil=true :=nr rfl
def Xpj:top (.sl t z es)=true :=nr rfl
def Xpk:top (.rf pl y lo n)=true :=nr rfl
def Xpl:top (.p pl)=true :=nr rfl
def Xpm:top (.pr cs)=true :=nr rfl
def Xpn:top .pn=true :=nr rfl
def Xpo:top (.fn f cs)=true :=nr rfl
def Xpp:top (.fs cs)=true :=nr rfl
def Xpq:top (.agg cs)=true :=nr rfl
def Xpr:top (.tup cs)=false :=nr rfl
def Xps:Xbg .u=false :=nr rfl
def Xpt:Xbg .no=false :=nr rfl
def Xpu:Xbg .ub=false :=nr rfl
def Xpv:Xbg (.b x)=false :=nr rfl
def Xpw:Xbg (.i k n)=false :=nr rfl
def Xpx:Xbg (.s x)=false :=nr rfl
def Xpy:Xbg .nil=false :=nr rfl
def Xpz:Xbg (.sl t z es)=false :=nr rfl
def XpA:Xbg (.rf pl y lo n)=false :=nr rfl
def XpB:Xbg (.p pl)=false :=nr rfl
def XpC:Xbg (.pr cs)=false :=nr rfl
def XpD:Xbg .pn=false :=nr rfl
def XpE:Xbg (.fn f cs)=true :=nr rfl
def XpF:Xbg (.fs cs)=false :=nr rfl
def XpG:Xbg (.agg cs)=false :=nr rfl
def XpH:Xbg (.tup cs)=false :=nr rfl
def XpI:ZC .u=false :=nr rfl
def XpJ:ZC .no=false :=nr rfl
def XpK:ZC .ub=true :=nr rfl
def XpL:ZC (.b x)=true :=nr rfl
def XpM:ZC (.i k n)=true :=nr rfl
def XpN:ZC (.s x)=true :=nr rfl
def XpO:ZC .nil=true :=nr rfl
def XpP:ZC (.sl t z es)=true :=nr rfl
def XpQ:ZC (.rf pl y lo n)=true :=nr rfl
def XpR:ZC (.p pl)=true :=nr rfl
def XpS:ZC (.pr cs)=true :=nr rfl
def XpT:ZC .pn=true :=nr rfl
def XpU:ZC (.fn f cs)=true :=nr rfl
def XpV:ZC (.fs cs)=true :=nr rfl
def XpW:ZC (.agg cs)=false :=nr rfl
def XpX:ZC (.tup cs)=false :=nr rfl
def XpY:fsV len st i []=if i=len then some [] else none :=nr rfl
def fsK(x:Bool)(a:AV)(r:Option (List AV)):Option (List AV) :=if x then(match r with | some l => some (a :: l) | none => none) else none
def XpZ:fsK true a (some l)=some (a :: l) :=nr rfl
def Xp0:fsV len st i ((j,x) :: r)=if i=j then fsK (Xbg (view st x)) (view st x) (fsV len st (i+1) r) else none :=by simp only[fsV,fsK]; split<;>rfl
def Xp1:cellsOf .u=[.u] :=nr rfl
def Xp2:cellsOf .no=[.no] :=nr rfl
def Xp3:cellsOf .ub=[.ub] :=nr rfl
def Xp4:cellsOf (.b x)=[(.b x)] :=nr rfl
def Xp5:cellsOf (.i k n)=[(.i k n)] :=nr rfl
def Xp6:cellsOf (.s x)=[(.s x)] :=nr rfl
def Xp7:cellsOf .nil=[.nil] :=nr rfl
def Xp8:cellsOf (.sl t z es)=[(.sl t z es)] :=nr rfl
def Xp9:cellsOf (.rf pl y lo n)=[(.rf pl y lo n)] :=nr rfl
def Xqa:cellsOf (.p pl)=[(.p pl)] :=nr rfl
def Xqb:cellsOf (.pr cs)=[(.pr cs)] :=nr rfl
def Xqc:cellsOf .pn=[.pn] :=nr rfl
def Xqd:cellsOf (.fn f cs)=[(.fn f cs)] :=nr rfl
def Xqe:cellsOf (.fs cs)=[(.fs cs)] :=nr rfl
def Xqf:cellsOf (.agg cs)=cs :=nr rfl
def Xqg:cellsOf (.tup cs)=[(.tup cs)] :=nr rfl
def Xqh:plain .u=false :=nr rfl
def Xqi:plain .no=false :=nr rfl
def Xqj:plain .ub=false :=nr rfl
def Xqk:plain (.b x)=true :=nr rfl
def Xql:plain (.i k n)=true :=nr rfl
def Xqm:plain (.s x)=true :=nr rfl
def Xqn:plain .nil=false :=nr rfl
def Xqo:plain (.rf pl y lo n)=false :=nr rfl
def Xqp:plain (.p pl)=false :=nr rfl
def Xqq:plain (.pr cs)=false :=nr rfl
def Xqr:plain .pn=true :=nr rfl
def Xqs:plain (.fn f cs)=false :=nr rfl
def Xqt:plain (.fs cs)=false :=nr rfl
def Xqu:plain (.agg cs)=false :=nr rfl
def Xqv:plain (.tup cs)=false :=nr rfl
def Xqw:plain (.sl .ro z es)=true :=nr rfl
def Xqx:fix m .u=.u :=nr rfl
def Xqy:fix m .no=.no :=nr rfl
def Xqz:fix m .ub=.ub :=nr rfl
def XqA:fix m (.b x)=(.b x) :=nr rfl
def XqB:fix m (.i k n)=(.i k n) :=nr rfl
def XqC:fix m (.s x)=(.s x) :=nr rfl
def XqD:fix m (.sl t z es)=(.sl t z es) :=nr rfl
def XqE:fix m (.rf pl y lo n)=(.rf pl y lo n) :=nr rfl
def XqF:fix m (.p pl)=(.p pl) :=nr rfl
def XqG:fix m (.pr cs)=(.pr cs) :=nr rfl
def XqH:fix m .pn=.pn :=nr rfl
def XqI:fix m (.fn f cs)=(.fn f cs) :=nr rfl
def XqJ:fix m (.fs cs)=(.fs cs) :=nr rfl
def XqK:fix m (.agg cs)=(.agg cs) :=nr rfl
def XqL:fix m (.tup cs)=(.tup cs) :=nr rfl
def XqM:fix 0 .nil=.nil :=nr rfl
def XqN:fix (m+1) .nil=.sl .mut (m+1) [] :=nr rfl
def XqO:fix 1 .nil=.sl .mut 1 [] :=nr rfl
def XqP:fix 2 .nil=.sl .mut 2 [] :=nr rfl
def XqQ:fix 3 .nil=.sl .mut 3 [] :=nr rfl
def XqR:fix 4 .nil=.sl .mut 4 [] :=nr rfl
def XqS:fix 5 .nil=.sl .mut 5 [] :=nr rfl
def XqT:fix 6 .nil=.sl .mut 6 [] :=nr rfl
def XqU:fix 7 .nil=.sl .mut 7 [] :=nr rfl
def XqV:fix 8 .nil=.sl .mut 8 [] :=nr rfl
def XqW:fix 9 .nil=.sl .mut 9 [] :=nr rfl
def XqX:fix 10 .nil=.sl .mut 10 [] :=nr rfl
def XqY:fix 11 .nil=.sl .mut 11 [] :=nr rfl
def XqZ:filt kp kr .u=.u :=nr rfl
def Xq0:filt kp kr .no=.no :=nr rfl
def Xq1:filt kp kr .ub=.ub :=nr rfl
def Xq2:filt kp kr (.b x)=(.b x) :=nr rfl
def Xq3:filt kp kr (.i k n)=(.i k n) :=nr rfl
def Xq4:filt kp kr (.s x)=(.s x) :=nr rfl
def Xq5:filt kp kr .nil=.nil :=nr rfl
def Xq6:filt kp kr (.sl t z es)=(.sl t z es) :=nr rfl
def Xq7:filt kp kr (.pr cs)=(.pr cs) :=nr rfl
def Xq8:filt kp kr .pn=.pn :=nr rfl
def Xq9:filt kp kr (.fn f cs)=.fn f (XR kp kr cs) :=nr rfl
def Xra:filt kp kr (.fs cs)=.fs (XR kp kr cs) :=nr rfl
def Xrb:filt kp kr (.agg cs)=.agg (XR kp kr cs) :=nr rfl
def Xrc:filt kp kr (.tup cs)=.tup (XR kp kr cs) :=nr rfl
def fA(b:Bool)(a:AV):AV :=if b then a else .u
def Xrd:fA true a=a :=nr rfl
def Xre:fA false a=.u :=nr rfl
def Xrf:filt kp kr (.p q)=fA (kp q) (.p q) :=nr rfl
def Xrg:filt kp kr (.rf q y lo n)=fA (kr q) (.rf q y lo n) :=nr rfl
def Xrh:XR kp kr []=[] :=nr rfl
def Xri:XR kp kr (a :: l)=filt kp kr a :: XR kp kr l :=nr rfl
def Xrj:XX st .u=some (.u,st) :=nr rfl
def Xrk:XX st .no=some (.no,st) :=nr rfl
def Xrl:XX st .ub=some (.ub,st) :=nr rfl
def Xrm:XX st (.b x)=some ((.b x),st) :=nr rfl
def Xrn:XX st (.i k n)=some ((.i k n),st) :=nr rfl
def Xro:XX st (.s x)=some ((.s x),st) :=nr rfl
def Xrp:XX st .nil=some (.nil,st) :=nr rfl
def Xrq:XX st (.sl t z es)=some ((.sl t z es),st) :=nr rfl
def Xrr:XX st (.rf pl y lo n)=takeRf st pl y lo n :=nr rfl
def Xrs:XX st (.p pl)=some ((.p pl),st) :=nr rfl
def Xrt:XX st (.pr cs)=some ((.pr cs),st) :=nr rfl
def Xru:XX st .pn=some (.pn,st) :=nr rfl
def Xrv:XX st (.fn f cs)=some ((.fn f cs),st) :=nr rfl
def Xrw:XX st (.fs cs)=some ((.fs cs),st) :=nr rfl
def Xrx:XX st (.agg cs)=some ((.agg cs),st) :=nr rfl
def Xry:XX st (.tup cs)=none :=nr rfl
def Xrz:takeVal st .u=some (.u,st) :=nr rfl
def XrA:takeVal st .no=some (.no,st) :=nr rfl
def XrB:takeVal st .ub=some (.ub,st) :=nr rfl
def XrC:takeVal st (.b x)=some ((.b x),st) :=nr rfl
def XrD:takeVal st (.i k n)=some ((.i k n),st) :=nr rfl
def XrE:takeVal st (.s x)=some ((.s x),st) :=nr rfl
def XrF:takeVal st .nil=some (.nil,st) :=nr rfl
def XrG:takeVal st (.sl t z es)=some ((.sl t z es),st) :=nr rfl
def XrH:takeVal st (.rf pl y lo n)=takeRf st pl y lo n :=nr rfl
def XrI:takeVal st (.p pl)=some ((.p pl),st) :=nr rfl
def XrJ:takeVal st (.pr cs)=some ((.pr cs),st) :=nr rfl
def XrK:takeVal st .pn=some (.pn,st) :=nr rfl
def XrL:takeVal st (.fn f cs)=some ((.fn f cs),st) :=nr rfl
def XrM:takeVal st (.fs cs)=some ((.fs cs),st) :=nr rfl
def XrN:takeVal st (.tup cs)=none :=nr rfl
def XmE(x:Option (List AV×St)):Option (AV×St) :=match x with
  | some (cs,st) => some (.agg cs,st)
  | none => none
def XrO:takeVal st (.agg cs)=if cs.any Xcf then XmE (takeL st cs) else some (.agg cs,st) :=by simp only[takeVal,XmE]; split<;>cases takeL st cs<;>rfl
def XrP:Xcf .u=false :=nr rfl
def XrQ:Xcf .no=false :=nr rfl
def XrR:Xcf .ub=false :=nr rfl
def XrS:Xcf (.b x)=false :=nr rfl
def XrT:Xcf (.i k n)=false :=nr rfl
def XrU:Xcf (.s x)=false :=nr rfl
def XrV:Xcf .nil=false :=nr rfl
def XrW:Xcf (.sl t z es)=false :=nr rfl
def XrX:Xcf (.rf pl y lo n)=true :=nr rfl
def XrY:Xcf (.p pl)=false :=nr rfl
def XrZ:Xcf (.pr cs)=false :=nr rfl
def Xr0:Xcf .pn=false :=nr rfl
def Xr1:Xcf (.fn f cs)=false :=nr rfl
def Xr2:Xcf (.fs cs)=false :=nr rfl
def Xr3:Xcf (.agg cs)=false :=nr rfl
def Xr4:Xcf (.tup cs)=false :=nr rfl
def Xr5:gone q=false :=nr rfl
def Xr6:XmE (some (cs,st))=some (.agg cs,st) :=nr rfl
def Xkl(a:AV)(x:Option (List AV×St)):Option (List AV×St) :=match x with
  | some (cs,st) => some (a :: cs,st)
  | none => none
def Xr7:Xkl a (some (cs,st))=some (a :: cs,st) :=nr rfl
def Xr8:takeL st []=some ([],st) :=nr rfl
def Xr9:takeL st (a :: l)=Xc (XX st a) (λy => Xkl (filt gone gone y.1) (takeL y.2 l)) :=by simp only[takeL,Xc,Xkl]; cases XX st a<;>rfl
def Xe7(st:St)(x:Nat)(b:Bool)(a:AV):Option (AV×St) :=if b then takeVal (clear st x) (filt (Xu true x) (Xu true x) a) else takeVal st a
@[congr] def Xkm{st:St}{x:Nat}{b b':Bool}{a:AV}(h:b=b'):Xe7 st x b a=Xe7 st x b' a :=by rw[h]
def QX(st:St)(x:Nat)(a:AV):Option (AV×St) :=Xe7 st x (Yp a) a
def Xsa:take st (.tmp x)=QX st x (st.env x) :=nr rfl
def Xsb:QX st x .u=some (.u,st) :=nr rfl
def Xsc:QX st x .no=some (.no,st) :=nr rfl
def Xsd:QX st x .ub=some (.ub,st) :=nr rfl
def Xse:QX st x (.b y)=some (.b y,st) :=nr rfl
def Xsf:QX st x (.i k n)=some ((.i k n),st) :=nr rfl
def Xsg:QX st x (.s y)=some (.s y,st) :=nr rfl
def Xsh:QX st x .nil=some (.nil,st) :=nr rfl
def Xsi:QX st x (.sl t z es)=some (.sl t z es,clear st x) :=nr rfl
def Xsj:QX st x (.rf pl y lo n)=takeRf st pl y lo n :=nr rfl
def Xsk:QX st x (.p pl)=some ((.p pl),st) :=nr rfl
def Xsl:QX st x (.pr cs)=some ((.pr cs),st) :=nr rfl
def Xsm:QX st x .pn=some (.pn,st) :=nr rfl
def Xsn:QX st x (.fn f cs)=some ((.fn f cs),st) :=nr rfl
def Xso:QX st x (.fs cs)=some ((.fs cs),st) :=nr rfl
def Xsp:QX st x (.agg cs)=Xe7 st x (cs.any Zo) (.agg cs) :=nr rfl
def Xsq:QX st x (.tup cs)=none :=nr rfl
def Xsr:Xe7 st x true a=takeVal (clear st x) (filt (Xu true x) (Xu true x) a) :=nr rfl
def Xss:Xe7 st x false a=takeVal st a :=nr rfl
def Xst:take st (.const v)=some (Xep v,st) :=nr rfl
def Xsu:take st (.func f)=some (.fn f [],st) :=nr rfl
def XkL(b:Bool)(l:List (Nat×AV))(m:List (Nat×List AV))(d:Nat)(v:AV):St :=if b then⟨E ((d,filt (Xu true d) (Xu true d) v) :: XfV (Xu true d) (Xu true d) l),B (XgM (Xu true d) (Xu true d) m)⟩ else⟨E ((d,v) :: l),B m⟩
@[congr] def XkM{b b':Bool}{l:List (Nat×AV)}{m:List (Nat×List AV)}{d:Nat}{v v':AV}(h:b=b')(h':v=v'):XkL b l m d v=XkL b' l m d v' :=by rw[h,h']
def Xsv:St.put ⟨E l,B m⟩ d v=XkL (Yp (E l d)) l m d v :=by simp only[St.put,XkL,St.dropRoot,XaM,Xdv]
def Xsw:XkL false l m d v=⟨E ((d,v) :: l),B m⟩ :=nr rfl
def Xsx:XkL true l m d v=⟨E ((d,filt (Xu true d) (Xu true d) v) :: XfV (Xu true d) (Xu true d) l),B (XgM (Xu true d) (Xu true d) m)⟩ :=nr rfl
def Xsy:St.put? st (some d) v=St.put st d v :=nr rfl
def Xsz:St.put? st none v=st :=nr rfl
def isK(t k:Nat):Bool :=t==k
def XsA:isK t k=(t==k) :=nr rfl
def eK(b:Bool)(v x:AV):AV :=if b then v else x
@[congr] def XlY{b b':Bool}{v x:AV}(h:b=b'):eK b v x=eK b' v x :=by rw[h]
def eB(b:Bool)(v x:List AV):List AV :=if b then v else x
@[congr] def XlZ{b b':Bool}{v x:List AV}(h:b=b'):eB b v x=eB b' v x :=by rw[h]
def XnE:eK true v x=v :=nr rfl
def XnF:eK false v x=x :=nr rfl
def XnG:eB true v x=v :=nr rfl
def XnH:eB false v x=x :=nr rfl
def XsB:E ((k,v) :: r) t=eK (isK t k) v (E r t) :=by simp only[Xac,eK,isK,beq_iff_eq]
def XsC:B ((k,v) :: r) t=eB (isK t k) v (B r t) :=by simp only[XaL,eB,isK,beq_iff_eq]
def XsD:clear ⟨E l,B m⟩ x=⟨E ((x,.u) :: XfV (Xu true x) (Xu true x) l),B (XgM (Xu true x) (Xu true x) m)⟩ :=by simp only[clear,St.dropRoot,XaM,Xdv]
def XsE:St.env ⟨f,g⟩=f :=nr rfl
def XsF:St.bx ⟨f,g⟩=g :=nr rfl
def XkN(b:Bool)(l:List (Nat×AV))(m:List (Nat×List AV))(d:Nat)(cs:List AV):St :=if b then⟨E ((d,.p ⟨false,d,[],0⟩) :: l),B ((d,cs) :: m)⟩ else⟨E ((d,.p ⟨false,d,[],0⟩) :: XfV (Xu false d) (Xu false d) l),B ((d,XR (Xu false d) (Xu false d) cs) :: XgM (Xu false d) (Xu false d) m)⟩
@[congr] def XkO{b b':Bool}{l:List (Nat×AV)}{m:List (Nat×List AV)}{d:Nat}{cs cs':List AV}(h:b=b')(h':cs=cs'):XkN b l m d cs=XkN b' l m d cs' :=by rw[h,h']
def XsG:newBox ⟨E l,B m⟩ d cs=XkN (B m d).isEmpty l m d cs :=by
  cases h:(B m d).isEmpty<;>simp only[newBox,XkN,h,if_true,if_false,Bool.false_eq_true,St.dropRoot,XaM,Xdv,Xjl]
def XsH:YB st d (c :: cs)=if Yp (st.env d)=true then none else some (newBox st d (c :: cs)) :=nr rfl
def XsI:XkN true l m d cs=⟨E ((d,.p ⟨false,d,[],0⟩) :: l),B ((d,cs) :: m)⟩ :=nr rfl
def XsJ:XkN false l m d cs=⟨E ((d,.p ⟨false,d,[],0⟩) :: XfV (Xu false d) (Xu false d) l),B ((d,XR (Xu false d) (Xu false d) cs) :: XgM (Xu false d) (Xu false d) m)⟩ :=nr rfl
def XsK:TI.size .bool=1 :=nr rfl
def XsL:TI.ag .bool=false :=nr rfl
def XsM:TI.z .bool=0 :=nr rfl
def XsN:TI.zero .bool=[.b false] :=nr rfl
def XsO:TI.size (.int k)=1 :=nr rfl
def XsP:TI.ag (.int k)=false :=nr rfl
def XsQ:TI.z (.int k)=0 :=nr rfl
def XsR:TI.zero (.int k)=[.i k 0] :=nr rfl
def XsS:TI.size .str=1 :=nr rfl
def XsT:TI.ag .str=false :=nr rfl
def XsU:TI.z .str=0 :=nr rfl
def XsV:TI.zero .str=[.s ⟨#[]⟩] :=nr rfl
def XsW:TI.size .ptr=1 :=nr rfl
def XsX:TI.ag .ptr=false :=nr rfl
def XsY:TI.z .ptr=0 :=nr rfl
def XsZ:TI.zero .ptr=[.pn] :=nr rfl
def Xs0:TI.size .fn=1 :=nr rfl
def Xs1:TI.ag .fn=false :=nr rfl
def Xs2:TI.z .fn=0 :=nr rfl
def Xs3:TI.zero .fn=[.u] :=nr rfl
def Xs4:TI.size (.slice z b w)=1 :=nr rfl
def Xs5:TI.ag (.slice z b w)=false :=nr rfl
def Xs6:TI.z (.slice z b w)=z :=nr rfl
def Xs7:TI.zero (.slice z b w)=[.sl .mut z []] :=nr rfl
def Xs8:TI.size (.struct n fl w)=n :=nr rfl
def Xs9:TI.ag (.struct n fl w)=true :=nr rfl
def Xta:TI.z (.struct n fl w)=0 :=nr rfl
def Xtb:TI.zero (.struct n fl w)=w :=nr rfl
def Xtc:TI.size (.array n z ag w)=n*z :=nr rfl
def Xtd:TI.ag (.array n z ag w)=true :=nr rfl
def Xte:TI.z (.array n z ag w)=0 :=nr rfl
def Xtf:TI.zero (.array n z ag w)=w :=nr rfl
def zK(x:Option TI):Nat :=match x with
  | some ti => ti.z
  | none => 0
def Xtg:zOf cx t=zK (cx.T t) :=nr rfl
def Xth:zK (some ti)=ti.z :=nr rfl
def Xti:zK none=0 :=nr rfl
def XmF(x:Option (Nat×Nat×Bool×Nat))(a:AV):Option AV :=match x with
  | some (off,_) => match a with
    | .p q => some (.p {q with c :=q.c+off})
    | .pr q => some (.pr (q.drop off))
    | _ => none
  | none => none
def Xtj:Uu (.struct n fl w) f a=XmF (fl[f]?) a :=nr rfl
def Xtk:XmF (some (off,y)) (.p ⟨e,r,path,c⟩)=some (.p ⟨e,r,path,c+off⟩) :=nr rfl
def Xtl:XmF (some (off,y)) (.pr q)=some (.pr (q.drop off)) :=nr rfl
def Xtm:List.drop 0 l=l :=nr rfl
def Xtn:List.drop (n+1) (a :: l)=List.drop n l :=nr rfl
def Xto:List.take 0 l=[] :=List.take_zero
def Xtp:List.take (n+1) (a :: l)=a :: List.take n l :=nr rfl
def Xtq:List.drop n ([]:List AV)=[] :=List.drop_nil
def XnI(x:Option (Nat×Nat×Bool×Nat))(cs:List AV):Option AV :=match x with
  | some (off,n,ag,_) => if off+n<=cs.length then some (if ag then .agg ((cs.drop off).take n) else cs.getD off .u) else none
  | none => none
def Xtr:Xcl (.struct m fl w) f (.agg cs)=XnI (fl[f]?) cs :=nr rfl
def Xkn(ti:TI)(pl:Pl)(cells:List AV):Option AV :=if pl.c+ti.size<=cells.length then(if ti.ag then some (.agg (X7 pl pl.c ((cells.drop pl.c).take ti.size))) else some (XA pl (cells.getD pl.c .u))) else none
def Xts:loadAt st ti (.p pl)=Xc (node st pl) (Xkn ti pl) :=by simp only[loadAt,Xc,Xkn]; cases node st pl<;>rfl
def Xtt:loadAt st ti (.pr cs)=if ti.size<=cs.length then(if ti.ag then some (.agg (cs.take ti.size)) else some (cs.getD 0 .u)) else none :=nr rfl
def Xtu:node st ⟨e,r,path,c⟩=nav (Xa st e r) path :=nr rfl
def Xtv:Xz st ⟨e,r,path,c⟩=wrt (Xa st e r) path :=nr rfl
def Xtw:Xa st true r=cellsOf (st.env r) :=nr rfl
def Xtx:Xa st false r=st.bx r :=nr rfl
def Xty:nav cs []=some cs :=nr rfl
def Xtz:wrt cs []=true :=nr rfl
def XmG(x:Option (Tag×List AV))(ps:List (Nat×Nat×Nat)):Option (List AV) :=match x with
  | some (_,row) => nav row ps
  | none => none
def Xly(x:Option (Tag×List AV))(ps:List (Nat×Nat×Nat)):Bool :=match x with
  | some (.mut,row) => wrt row ps
  | _ => false
def Xe8(i z:Nat)(a:Option AV):Option (Tag×List AV) :=match a with
  | some (.sl t z' es) => if z'=z then rowK t es[i]? else none
  | _ => none
  where rowK (t:Tag):Option (List AV)->Option (Tag×List AV)
  | some row => some (t,row)
  | none => none
def XtA:nav cs ((c,i,z) :: ps)=XmG (YC cs c i z) ps :=by simp only[nav,XmG]; cases YC cs c i z<;>rfl
def XtB:XmG (some (t,row)) ps=nav row ps :=nr rfl
def XtC:wrt cs ((c,i,z) :: ps)=Xly (YC cs c i z) ps :=by
  simp only[wrt,Xly]
  cases YC cs c i z with
  | none => rfl
  | some x => obtain⟨t,row⟩ :=x; cases t<;>rfl
def XtD:Xly (some (.mut,row)) ps=wrt row ps :=nr rfl
def XtE:Xly (some (.ro,row)) ps=false :=nr rfl
def XtF:Xly (some (.app,row)) ps=false :=nr rfl
def XtG:YC cs c i z=Xe8 i z cs[c]? :=by
  simp only[YC,Xe8]
  cases cs[c]? with
  | none => rfl
  | some a =>
    cases a<;>rfl
def XtH:Xe8 i z (some (.sl t z es))=Xe8.rowK t es[i]? :=by simp only[Xe8,if_true]
def XtI:Xe8.rowK t (some row)=some (t,row) :=nr rfl
def XtJ:XG cs [] new=new :=nr rfl
def XmH(cs:List AV)(c i:Nat)(ps:List (Nat×Nat×Nat))(new:List AV)(a:Option AV):List AV :=match a with
  | some (.sl t z es) => cs.set c (.sl t z (es.set i (XG (es.getD i []) ps new)))
  | _ => cs
def XtK:XG cs ((c,i,z) :: ps) new=XmH cs c i ps new cs[c]? :=by
  simp only[XG,XmH]
  cases cs[c]? with
  | none => rfl
  | some a => cases a<;>rfl
def XtL:XmH cs c i ps new (some (.sl t z es))=cs.set c (.sl t z (es.set i (XG (es.getD i []) ps new))) :=nr rfl
def XtM:List.set (a :: l) 0 b=b :: l :=nr rfl
def XtN:List.set (a :: l) (n+1) b=a :: List.set l n b :=nr rfl
def XtO:Xi ⟨E l,B m⟩ ⟨false,r,path,c⟩ new=⟨E l,B ((r,XG (B m r) path new) :: m)⟩ :=by simp only[Xi,Xjl,Bool.false_eq_true,if_false]
def XtP:Xi ⟨E l,B m⟩ ⟨true,r,path,c⟩ new=⟨E ((r,Zs (E l r) (XG (cellsOf (E l r)) path new)) :: l),B m⟩ :=by simp only[Xi,Xdv,if_true,Xa]
def XtQ:Zs .u new=new.headD .u :=nr rfl
def XtR:Zs .no new=new.headD .u :=nr rfl
def XtS:Zs .ub new=new.headD .u :=nr rfl
def XtT:Zs (.b x) new=new.headD .u :=nr rfl
def XtU:Zs (.i k n) new=new.headD .u :=nr rfl
def XtV:Zs (.s x) new=new.headD .u :=nr rfl
def XtW:Zs .nil new=new.headD .u :=nr rfl
def XtX:Zs (.sl t z es) new=new.headD .u :=nr rfl
def XtY:Zs (.rf pl y lo n) new=new.headD .u :=nr rfl
def XtZ:Zs (.p pl) new=new.headD .u :=nr rfl
def Xt0:Zs (.pr cs) new=new.headD .u :=nr rfl
def Xt1:Zs .pn new=new.headD .u :=nr rfl
def Xt2:Zs (.fn f cs) new=new.headD .u :=nr rfl
def Xt3:Zs (.fs cs) new=new.headD .u :=nr rfl
def Xt4:Zs (.agg cs) new=.agg new :=nr rfl
def Xt5:Zs (.tup cs) new=new.headD .u :=nr rfl
def Xt6:List.headD (a :: l) AV.u=a :=nr rfl
def Xt7:Z5 st (.slice z b w) x (.i k n)=indexAddr st z x n :=nr rfl
def iaR(es:List (List AV)):Option Nat->Option AV
  | some j => some (.pr (es.getD j []))
  | none => none
def iaF(es:List AV):Option Nat->Option AV
  | some j => some (.pr [Vm.filt gone gone (es.getD j .u)])
  | none => none
def iaM(t:Tag)(pl:Pl)(z lo:Nat)(es:List (List AV)):Option Nat->Option AV
  | some j => (match t with
    | .mut => some (.p ⟨pl.e,pl.r,pl.path++[(pl.c,lo+j,z)],0⟩)
    | _ => some (.pr (Yz (es.getD (lo+j) []))))
  | none => none
def iaC(pl:Pl)(z zr lo n:Nat)(i:Int):Option AV->Option AV
  | some (.sl t z' es) => if(z=z'/\zr=z)/\lo+n<=es.length then iaM t pl z lo es (YY n i) else none
  | _ => none
def ixS(b:ByteArray):Option Nat->Option AV
  | some j => some (.i .u8 (b.data[j]?.getD 0).toNat)
  | none => none
def Xt8:iaR es (some j)=some (.pr (es.getD j [])) :=nr rfl
def Xt9:iaF es (some j)=some (.pr [Vm.filt gone gone (es.getD j .u)]) :=nr rfl
def Xua:iaM .mut pl z lo es (some j)=some (.p ⟨pl.e,pl.r,pl.path++[(pl.c,lo+j,z)],0⟩) :=nr rfl
def Xub:iaM .ro pl z lo es (some j)=some (.pr (Yz (es.getD (lo+j) []))) :=nr rfl
def Xuc:iaM .app pl z lo es (some j)=some (.pr (Yz (es.getD (lo+j) []))) :=nr rfl
def Xud:iaC pl z zr lo n i (some (.sl t z' es))=if(z=z'/\zr=z)/\lo+n<=es.length then iaM t pl z lo es (YY n i) else none :=nr rfl
def Xue:ixS b (some j)=some (.i .u8 (b.data[j]?.getD 0).toNat) :=nr rfl
def Xuf:indexAddr st z (.sl .ro z' es) i=if z=z' then iaR es (YY es.length i) else none :=by
  by_cases h:z=z'
  · simp only[indexAddr,if_pos h]; cases YY es.length i<;>rfl
  · simp only[indexAddr,if_neg h]
def Xug:indexAddr st z (.fs es) i=if z=1 then iaF es (YY es.length i) else none :=by
  by_cases h:z=1
  · simp only[indexAddr,if_pos h]; cases YY es.length i<;>rfl
  · simp only[indexAddr,if_neg h]
def Xuh:indexAddr st z (.rf pl zr lo n) i=Xc (node st pl) (λcells => iaC pl z zr lo n i cells[pl.c]?) :=by
  simp only[indexAddr,Xc]
  cases node st pl with
  | none => rfl
  | some cells =>
    simp only
    cases cells[pl.c]? with
    | none => rfl
    | some a =>
      cases a<;>rfl
def Xui:Ug (.array m z ag w) (.agg cs) (.i k n)=if z=1/\ag=false then XiZ m cs n else none :=nr rfl
def Xuj:Xat 5 1 false=[(0,1,false,0),(1,1,false,0),(2,1,false,0),(3,1,false,0),(4,1,false,0)] :=nr rfl
def Xuk:Ug .str (.s b) (.i k n)=ixS b (YY b.size n) :=by simp only[Ug,ixS]; cases YY b.size n<;>rfl
def Xul:XbQ .u=none :=nr rfl
def Xum:XbQ .no=none :=nr rfl
def Xun:XbQ .ub=none :=nr rfl
def Xuo:XbQ (.b x)=none :=nr rfl
def Xup:XbQ (.i k n)=none :=nr rfl
def Xuq:XbQ (.s x)=none :=nr rfl
def Xur:XbQ .nil=none :=nr rfl
def Xus:XbQ (.sl t z es)=none :=nr rfl
def Xut:XbQ (.rf pl y lo n)=none :=nr rfl
def Xuu:XbQ (.p pl)=some (.p pl) :=nr rfl
def Xuv:XbQ (.pr cs)=some (.pr cs) :=nr rfl
def Xuw:XbQ .pn=none :=nr rfl
def Xux:XbQ (.fn f cs)=none :=nr rfl
def Xuy:XbQ (.fs cs)=none :=nr rfl
def Xuz:XbQ (.agg cs)=none :=nr rfl
def XuA:XbQ (.tup cs)=none :=nr rfl
def XmI(f:Nat)(cs xs:List AV):fnV (.fn f cs) xs=some (f,xs++cs) :=nr rfl
def XuB:strip .u=.u :=nr rfl
def XuC:strip .no=.u :=nr rfl
def XuD:strip .ub=.ub :=nr rfl
def XuE:strip (.b x)=(.b x) :=nr rfl
def XuF:strip (.i k n)=(.i k n) :=nr rfl
def XuG:strip (.s x)=(.s x) :=nr rfl
def XuH:strip .nil=.nil :=nr rfl
def XuI:strip (.sl t z es)=.sl .ro z (XH es) :=nr rfl
def XuJ:strip (.rf pl y lo n)=.u :=nr rfl
def XuK:strip (.p pl)=.u :=nr rfl
def XuL:strip (.pr cs)=(.pr cs) :=nr rfl
def XuM:strip .pn=.pn :=nr rfl
def XuN:strip (.fn f cs)=.u :=nr rfl
def XuO:strip (.fs cs)=.u :=nr rfl
def XuP:strip (.agg cs)=.u :=nr rfl
def XuQ:strip (.tup cs)=.u :=nr rfl
def XuR:XW .u=false :=nr rfl
def XuS:XW .no=false :=nr rfl
def XuT:XW .ub=false :=nr rfl
def XuU:XW (.b x)=false :=nr rfl
def XuV:XW (.i k n)=false :=nr rfl
def XuW:XW (.s x)=false :=nr rfl
def XuX:XW .nil=false :=nr rfl
def XuY:XW (.rf pl y lo n)=false :=nr rfl
def XuZ:XW (.p pl)=false :=nr rfl
def Xu0:XW (.pr cs)=true :=nr rfl
def Xu1:XW .pn=false :=nr rfl
def Xu2:XW (.fn f cs)=true :=nr rfl
def Xu3:XW (.fs cs)=true :=nr rfl
def Xu4:XW (.agg cs)=X4 cs :=nr rfl
def Xu5:XW (.tup cs)=X4 cs :=nr rfl
def Xu6:XW (.sl .ro z es)=true :=nr rfl
def Xu7:XW (.sl .app z es)=true :=nr rfl
def Xu8:XW (.sl .mut z es)=X8 es :=nr rfl
def Xu9:X4 []=false :=nr rfl
def Xva:X4 (a :: l)=(XW a||X4 l) :=nr rfl
def Xvb:XL .u=true :=nr rfl
def Xvc:XL .no=false :=nr rfl
def Xvd:XL .ub=true :=nr rfl
def Xve:XL (.b x)=true :=nr rfl
def Xvf:XL (.i k n)=true :=nr rfl
def Xvg:XL (.s x)=true :=nr rfl
def Xvh:XL .nil=true :=nr rfl
def Xvi:XL (.sl t z es)=true :=nr rfl
def Xvj:XL (.rf pl y lo n)=false :=nr rfl
def Xvk:XL (.p pl)=false :=nr rfl
def Xvl:XL (.pr cs)=true :=nr rfl
def Xvm:XL .pn=true :=nr rfl
def Xvn:XL (.fn f cs)=cs.all YA :=nr rfl
def Xvo:XL (.fs cs)=false :=nr rfl
def Xvp:XL (.agg cs)=cs.all XK :=nr rfl
def Xvq:XL (.tup cs)=false :=nr rfl
def Xvr:Xa0 ti0 E0 op0 .u a0=bin ti0 op0 .u a0 :=nr rfl
def Xvs:Xa0 ti0 E0 op0 .no a0=bin ti0 op0 .no a0 :=nr rfl
def Xvt:Xa0 ti0 E0 op0 .ub a0=bin ti0 op0 .ub a0 :=nr rfl
def Xvu:Xa0 ti0 E0 op0 (.b x) a0=bin ti0 op0 (.b x) a0 :=nr rfl
def Xvv:Xa0 ti0 E0 op0 (.i k n) a0=bin ti0 op0 (.i k n) a0 :=nr rfl
def Xvw:Xa0 ti0 E0 op0 (.s x) a0=bin ti0 op0 (.s x) a0 :=nr rfl
def Xvx:Xa0 ti0 E0 op0 .nil a0=bin ti0 op0 .nil a0 :=nr rfl
def Xvy:Xa0 ti0 E0 op0 (.sl t z es) a0=bin ti0 op0 (.sl t z es) a0 :=nr rfl
def Xvz:Xa0 ti0 E0 op0 (.rf pl y lo n) a0=bin ti0 op0 (.rf pl y lo n) a0 :=nr rfl
def XvA:Xa0 ti0 E0 op0 (.p pl) a0=bin ti0 op0 (.p pl) a0 :=nr rfl
def XvB:Xa0 ti0 E0 op0 (.pr cs) a0=bin ti0 op0 (.pr cs) a0 :=nr rfl
def XvC:Xa0 ti0 E0 op0 .pn a0=bin ti0 op0 .pn a0 :=nr rfl
def XvD:Xa0 ti0 E0 op0 (.fn f cs) a0=bin ti0 op0 (.fn f cs) a0 :=nr rfl
def XvE:Xa0 ti0 E0 op0 (.fs cs) a0=bin ti0 op0 (.fs cs) a0 :=nr rfl
def XvF:Xa0 ti0 E0 op0 (.tup cs) a0=bin ti0 op0 (.tup cs) a0 :=nr rfl
def eqR(op:BinOp)(e:Option Bool):Option AV :=match e with | some e => eqB op e | none => none
def XvG:Xa0 ti0 (some ks) op0 (.agg a) (.agg b)=eqR op0 (X0 ks a b) :=by simp only[Xa0,Xfo,eqR]; cases X0 ks a b<;>rfl
def XvH:eqR op (some e)=eqB op e :=nr rfl
def Xko(p:Bool)(e:Option Bool):Option Bool :=match e with | some e => some (p&&e) | none => none
def XvI:Xko p (some e)=some (p&&e) :=nr rfl
def XvJ:X0 [] [] []=some true :=nr rfl
def XvK:X0 (0 :: ks) (.b x :: a) (.b y :: b)=Xko (x==y) (X0 ks a b) :=by simp only[X0,Xko]; cases X0 ks a b<;>rfl
def XvL:X0 (1 :: ks) (.i k x :: a) (.i k y :: b)=Xko (x==y) (X0 ks a b) :=by simp only[X0,Xko,if_true]; cases X0 ks a b<;>rfl
def XvM:X0 (2 :: ks) (.s x :: a) (.s y :: b)=Xko (x.toList==y.toList) (X0 ks a b) :=by simp only[X0,Xko]; cases X0 ks a b<;>rfl
def XvN:YA .u=false :=nr rfl
def XvO:YA .no=false :=nr rfl
def XvP:YA .ub=false :=nr rfl
def XvQ:YA (.b x)=true :=nr rfl
def XvR:YA (.i k n)=true :=nr rfl
def XvS:YA (.s x)=true :=nr rfl
def XvT:YA .nil=false :=nr rfl
def XvU:YA (.rf pl y lo n)=false :=nr rfl
def XvV:YA (.p pl)=false :=nr rfl
def XvW:YA (.pr cs)=true :=nr rfl
def XvX:YA .pn=true :=nr rfl
def XvY:YA (.fn f cs)=false :=nr rfl
def XvZ:YA (.fs cs)=false :=nr rfl
def Xv0:YA (.agg cs)=false :=nr rfl
def Xv1:YA (.tup cs)=false :=nr rfl
def Xv2:YA (.sl .ro z es)=true :=nr rfl
def Xv3:Qi .u=YA .u :=nr rfl
def Xv4:Qi .no=YA .no :=nr rfl
def Xv5:Qi .ub=YA .ub :=nr rfl
def Xv6:Qi (.b x)=YA (.b x) :=nr rfl
def Xv7:Qi (.i k n)=YA (.i k n) :=nr rfl
def Xv8:Qi (.s x)=YA (.s x) :=nr rfl
def Xv9:Qi .nil=YA .nil :=nr rfl
def Xwa:Qi (.sl t z es)=YA (.sl t z es) :=nr rfl
def Xwb:Qi (.rf pl y lo n)=YA (.rf pl y lo n) :=nr rfl
def Xwc:Qi (.p pl)=YA (.p pl) :=nr rfl
def Xwd:Qi (.pr cs)=YA (.pr cs) :=nr rfl
def Xwe:Qi .pn=YA .pn :=nr rfl
def Xwf:Qi (.fn f cs)=cs.all YA :=nr rfl
def Xwg:Qi (.fs cs)=YA (.fs cs) :=nr rfl
def Xwh:Qi (.agg cs)=YA (.agg cs) :=nr rfl
def Xwi:Qi (.tup cs)=YA (.tup cs) :=nr rfl
def Xwj:QL st d cs=if cs.all Qi=true then some (st.put d (.pr cs)) else none :=nr rfl
def Xwk:outLeaf st .u=if XK .u=true then some ((.u,none),st) else none :=nr rfl
def Xwl:outLeaf st .no=if XK .no=true then some ((.no,none),st) else none :=nr rfl
def Xwm:outLeaf st .ub=if XK .ub=true then some ((.ub,none),st) else none :=nr rfl
def Xwn:outLeaf st (.b x)=if XK (.b x)=true then some (((.b x),none),st) else none :=nr rfl
def Xwo:outLeaf st (.i k n)=if XK (.i k n)=true then some (((.i k n),none),st) else none :=nr rfl
def Xwp:outLeaf st (.s x)=if XK (.s x)=true then some (((.s x),none),st) else none :=nr rfl
def Xwq:outLeaf st .nil=if XK .nil=true then some ((.nil,none),st) else none :=nr rfl
def Xwr:outLeaf st (.sl t z es)=if XK (.sl t z es)=true then some (((.sl t z es),none),st) else none :=nr rfl
def Xws:outLeaf st (.p pl)=if XK (.p pl)=true then some (((.p pl),none),st) else none :=nr rfl
def Xwt:outLeaf st (.pr cs)=if XK (.pr cs)=true then some (((.pr cs),none),st) else none :=nr rfl
def Xwu:outLeaf st .pn=if XK .pn=true then some ((.pn,none),st) else none :=nr rfl
def Xwv:outLeaf st (.fn f cs)=if XK (.fn f cs)=true then some (((.fn f cs),none),st) else none :=nr rfl
def Xww:outLeaf st (.fs cs)=if XK (.fs cs)=true then some (((.fs cs),none),st) else none :=nr rfl
def Xwx:outLeaf st (.agg cs)=if XK (.agg cs)=true then some (((.agg cs),none),st) else none :=nr rfl
def Xwy:outLeaf st (.tup cs)=if XK (.tup cs)=true then some (((.tup cs),none),st) else none :=nr rfl
def Xwz:XB st .u (some (pl0,b0))=some st :=nr rfl
def XwA:XB st .no (some (pl0,b0))=some st :=nr rfl
def XwB:XB st .ub (some (pl0,b0))=some st :=nr rfl
def XwC:XB st (.b x) (some (pl0,b0))=some st :=nr rfl
def XwD:XB st (.i k n) (some (pl0,b0))=some st :=nr rfl
def XwE:XB st (.s x) (some (pl0,b0))=some st :=nr rfl
def XwF:XB st .nil (some (pl0,b0))=some st :=nr rfl
def XwG:XB st (.rf pl y lo n) (some (pl0,b0))=some st :=nr rfl
def XwH:XB st (.p pl) (some (pl0,b0))=some st :=nr rfl
def XwI:XB st (.pr cs) (some (pl0,b0))=some st :=nr rfl
def XwJ:XB st .pn (some (pl0,b0))=some st :=nr rfl
def XwK:XB st (.fn f cs) (some (pl0,b0))=some st :=nr rfl
def XwL:XB st (.fs cs) (some (pl0,b0))=some st :=nr rfl
def XwM:XB st (.agg cs) (some (pl0,b0))=some st :=nr rfl
def XwN:XB st (.tup cs) (some (pl0,b0))=some st :=nr rfl
def XwO:weakLeaf st .u=some st :=nr rfl
def XwP:weakLeaf st .no=some st :=nr rfl
def XwQ:weakLeaf st .ub=some st :=nr rfl
def XwR:weakLeaf st (.b x)=some st :=nr rfl
def XwS:weakLeaf st (.i k n)=some st :=nr rfl
def XwT:weakLeaf st (.s x)=some st :=nr rfl
def XwU:weakLeaf st .nil=some st :=nr rfl
def XwV:weakLeaf st (.sl t z es)=some st :=nr rfl
def XwW:weakLeaf st (.p pl)=none :=nr rfl
def XwX:weakLeaf st (.pr cs)=some st :=nr rfl
def XwY:weakLeaf st .pn=some st :=nr rfl
def XwZ:weakLeaf st (.fn f cs)=none :=nr rfl
def Xw0:weakLeaf st (.fs cs)=none :=nr rfl
def Xw1:weakLeaf st (.agg cs)=none :=nr rfl
def Xw2:weakLeaf st (.tup cs)=none :=nr rfl
def Xw3:QH st x0 .u=weakLeaf st .u :=nr rfl
def Xw4:QH st x0 .no=weakLeaf st .no :=nr rfl
def Xw5:QH st x0 .ub=weakLeaf st .ub :=nr rfl
def Xw6:QH st x0 (.b x)=weakLeaf st (.b x) :=nr rfl
def Xw7:QH st x0 (.i k n)=weakLeaf st (.i k n) :=nr rfl
def Xw8:QH st x0 (.s x)=weakLeaf st (.s x) :=nr rfl
def Xw9:QH st x0 .nil=weakLeaf st .nil :=nr rfl
def Xxa:QH st x0 (.sl t z es)=weakLeaf st (.sl t z es) :=nr rfl
def Xxb:QH st x0 (.rf pl y lo n)=weakLeaf st (.rf pl y lo n) :=nr rfl
def Xxc:QH st x0 (.p pl)=weakLeaf st (.p pl) :=nr rfl
def Xxd:QH st x0 (.pr cs)=weakLeaf st (.pr cs) :=nr rfl
def Xxe:QH st x0 .pn=weakLeaf st .pn :=nr rfl
def Xxf:QH st x0 (.fn f cs)=weakLeaf st (.fn f cs) :=nr rfl
def Xxg:QH st x0 (.fs cs)=weakLeaf st (.fs cs) :=nr rfl
def Xxh:QH st x0 (.agg cs)=Zu x0 cs.length 0 st :=nr rfl
def Xxi:QH st x0 (.tup cs)=weakLeaf st (.tup cs) :=nr rfl
def Xxj:Ze .u=true :=nr rfl
def Xxk:Ze .no=true :=nr rfl
def Xxl:Ze .ub=true :=nr rfl
def Xxm:Ze (.b x)=true :=nr rfl
def Xxn:Ze (.i k n)=true :=nr rfl
def Xxo:Ze (.s x)=true :=nr rfl
def Xxp:Ze .nil=true :=nr rfl
def Xxq:Ze (.sl t z es)=true :=nr rfl
def Xxr:Ze (.rf pl y lo n)=true :=nr rfl
def Xxs:Ze (.p pl)=true :=nr rfl
def Xxt:Ze (.pr cs)=true :=nr rfl
def Xxu:Ze .pn=true :=nr rfl
def Xxv:Ze (.fn f cs)=true :=nr rfl
def Xxw:Ze (.fs cs)=true :=nr rfl
def Xxx:Ze (.agg cs)=false :=nr rfl
def Xxy:Ze (.tup cs)=true :=nr rfl
def Xxz:XI st z .u=none :=nr rfl
def XxA:XI st z .no=none :=nr rfl
def XxB:XI st z .ub=none :=nr rfl
def XxC:XI st z (.b x)=none :=nr rfl
def XxD:XI st z (.i k n)=none :=nr rfl
def XxE:XI st z (.s x)=none :=nr rfl
def XxF:XI st z .nil=some [] :=nr rfl
def XxG:XI st z (.p pl)=none :=nr rfl
def XxH:XI st z (.pr cs)=none :=nr rfl
def XxI:XI st z .pn=none :=nr rfl
def XxJ:XI st z (.fn f cs)=none :=nr rfl
def XxK:XI st z (.fs cs)=none :=nr rfl
def XxL:XI st z (.agg cs)=none :=nr rfl
def XxM:XI st z (.tup cs)=none :=nr rfl
def XxN:XI st z (.sl t y es)=if y=z then some es else none :=nr rfl
def XxO:XI st z (.rf pl y lo n)=if y=z then XC st (.rf pl y lo n) else none :=nr rfl
def XxP:Xm ow av st d .u=some .u :=by cases d<;>simp only[Xm]
def XxQ:Xm ow av st d .no=none :=by cases d<;>simp only[Xm]
def XxR:Xm ow av st d .ub=some .ub :=by cases d<;>simp only[Xm]
def XxS:Xm ow av st d (.b x)=some (.b x) :=by cases d<;>simp only[Xm]
def XxT:Xm ow av st d (.i k n)=some (.i k n) :=by cases d<;>simp only[Xm]
def XxU:Xm ow av st d (.s x)=some (.s x) :=by cases d<;>simp only[Xm]
def XxV:Xm ow av st d .nil=some .nil :=by cases d<;>simp only[Xm]
def XxW:Xm ow av st d (.sl t z es)=some (.sl .ro z (XH es)) :=by cases d<;>simp only[Xm]
def XxX:Xm ow av st d (.pr cs)=some (.pr cs) :=by cases d<;>simp only[Xm]
def XxY:Xm ow av st d .pn=some .pn :=by cases d<;>simp only[Xm]
def XxZ:Xm ow av st d (.agg cs)=none :=by cases d<;>simp only[Xm]
def Xx0:Xm ow av st d (.tup cs)=none :=by cases d<;>simp only[Xm]
def prO(x:Option (List AV)):Option AV :=match x with
  | some cs => some (.pr cs)
  | none => none
def agO(x:Option (List AV)):Option AV :=match x with
  | some cs => some (.agg cs)
  | none => none
def fnO(f:Nat)(x:Option (List AV)):Option AV :=match x with
  | some cs => some (.fn f cs)
  | none => none
def fsO(x:Option (List AV)):Option AV :=match x with
  | some cs => some (.fs cs)
  | none => none
def coO(a:Option AV)(x:Option (List AV)):Option (List AV) :=match a,x with
  | some a,some l => some (a :: l)
  | _,_ => none
def Xx1:Zv ow av st .u=Xm ow av st 8 .u :=nr rfl
def Xx2:Zv ow av st .no=Xm ow av st 8 .no :=nr rfl
def Xx3:Zv ow av st .ub=Xm ow av st 8 .ub :=nr rfl
def Xx4:Zv ow av st (.b x)=Xm ow av st 8 (.b x) :=nr rfl
def Xx5:Zv ow av st (.i k n)=Xm ow av st 8 (.i k n) :=nr rfl
def Xx6:Zv ow av st (.s x)=Xm ow av st 8 (.s x) :=nr rfl
def Xx7:Zv ow av st .nil=Xm ow av st 8 .nil :=nr rfl
def Xx8:Zv ow av st (.sl t z es)=Xm ow av st 8 (.sl t z es) :=nr rfl
def Xx9:Zv ow av st (.rf pl y lo n)=Xm ow av st 8 (.rf pl y lo n) :=nr rfl
def Xya:Zv ow av st (.p pl)=Xm ow av st 8 (.p pl) :=nr rfl
def Xyb:Zv ow av st (.pr cs)=Xm ow av st 8 (.pr cs) :=nr rfl
def Xyc:Zv ow av st .pn=Xm ow av st 8 .pn :=nr rfl
def Xyd:Zv ow av st (.fn f cs)=Xm ow av st 8 (.fn f cs) :=nr rfl
def Xye:Zv ow av st (.fs cs)=Xm ow av st 8 (.fs cs) :=nr rfl
def Xyf:Zv ow av st (.agg cs)=agO (Xs ow av st 8 cs) :=by simp only[Zv,agO]; cases Xs ow av st 8 cs<;>rfl
def Xyg:Zv ow av st (.tup cs)=Xm ow av st 8 (.tup cs) :=nr rfl
def Xyh:prO (some cs)=some (.pr cs) :=nr rfl
def Xyi:agO (some cs)=some (.agg cs) :=nr rfl
def Xyj:fnO f (some cs)=some (.fn f cs) :=nr rfl
def Xyk:fsO (some cs)=some (.fs cs) :=nr rfl
def Xyl:coO (some a) (some l)=some (a :: l) :=nr rfl
def Xym:Xm ow av st 1 (.p pl)=if(ow&&ZO av pl&&Xz st pl)=true then prO (Xc (node st pl) (λcells => Xs ow av st 0 (cells.drop pl.c))) else none :=by
  simp only[Xm,Xc,prO]
  cases node st pl with
  | none => rfl
  | some cells => simp only[]; cases Xs ow av st 0 (cells.drop pl.c)<;>rfl
def Xyn:Xm ow av st 1 (.fs cs)=fsO (Xs ow av st 0 cs) :=by
  simp only[Xm,fsO]; cases Xs ow av st 0 cs<;>rfl
def Xyo:Xm ow av st 1 (.fn f cs)=fnO f (Xs ow av st 0 cs) :=by
  simp only[Xm,fnO]; cases Xs ow av st 0 cs<;>rfl
def Xyp:Xm ow av st 2 (.p pl)=if(ow&&ZO av pl&&Xz st pl)=true then prO (Xc (node st pl) (λcells => Xs ow av st 1 (cells.drop pl.c))) else none :=by
  simp only[Xm,Xc,prO]
  cases node st pl with
  | none => rfl
  | some cells => simp only[]; cases Xs ow av st 1 (cells.drop pl.c)<;>rfl
def Xyq:Xm ow av st 2 (.fs cs)=fsO (Xs ow av st 1 cs) :=by
  simp only[Xm,fsO]; cases Xs ow av st 1 cs<;>rfl
def Xyr:Xm ow av st 2 (.fn f cs)=fnO f (Xs ow av st 1 cs) :=by
  simp only[Xm,fnO]; cases Xs ow av st 1 cs<;>rfl
def Xys:Xm ow av st 3 (.p pl)=if(ow&&ZO av pl&&Xz st pl)=true then prO (Xc (node st pl) (λcells => Xs ow av st 2 (cells.drop pl.c))) else none :=by
  simp only[Xm,Xc,prO]
  cases node st pl with
  | none => rfl
  | some cells => simp only[]; cases Xs ow av st 2 (cells.drop pl.c)<;>rfl
def Xyt:Xm ow av st 3 (.fs cs)=fsO (Xs ow av st 2 cs) :=by
  simp only[Xm,fsO]; cases Xs ow av st 2 cs<;>rfl
def Xyu:Xm ow av st 3 (.fn f cs)=fnO f (Xs ow av st 2 cs) :=by
  simp only[Xm,fnO]; cases Xs ow av st 2 cs<;>rfl
def Xyv:Xm ow av st 4 (.p pl)=if(ow&&ZO av pl&&Xz st pl)=true then prO (Xc (node st pl) (λcells => Xs ow av st 3 (cells.drop pl.c))) else none :=by
  simp only[Xm,Xc,prO]
  cases node st pl with
  | none => rfl
  | some cells => simp only[]; cases Xs ow av st 3 (cells.drop pl.c)<;>rfl
def Xyw:Xm ow av st 4 (.fs cs)=fsO (Xs ow av st 3 cs) :=by
  simp only[Xm,fsO]; cases Xs ow av st 3 cs<;>rfl
def Xyx:Xm ow av st 4 (.fn f cs)=fnO f (Xs ow av st 3 cs) :=by
  simp only[Xm,fnO]; cases Xs ow av st 3 cs<;>rfl
def Xyy:Xm ow av st 5 (.p pl)=if(ow&&ZO av pl&&Xz st pl)=true then prO (Xc (node st pl) (λcells => Xs ow av st 4 (cells.drop pl.c))) else none :=by
  simp only[Xm,Xc,prO]
  cases node st pl with
  | none => rfl
  | some cells => simp only[]; cases Xs ow av st 4 (cells.drop pl.c)<;>rfl
def Xyz:Xm ow av st 5 (.fs cs)=fsO (Xs ow av st 4 cs) :=by
  simp only[Xm,fsO]; cases Xs ow av st 4 cs<;>rfl
def XyA:Xm ow av st 5 (.fn f cs)=fnO f (Xs ow av st 4 cs) :=by
  simp only[Xm,fnO]; cases Xs ow av st 4 cs<;>rfl
def XyB:Xm ow av st 6 (.p pl)=if(ow&&ZO av pl&&Xz st pl)=true then prO (Xc (node st pl) (λcells => Xs ow av st 5 (cells.drop pl.c))) else none :=by
  simp only[Xm,Xc,prO]
  cases node st pl with
  | none => rfl
  | some cells => simp only[]; cases Xs ow av st 5 (cells.drop pl.c)<;>rfl
def XyC:Xm ow av st 6 (.fs cs)=fsO (Xs ow av st 5 cs) :=by
  simp only[Xm,fsO]; cases Xs ow av st 5 cs<;>rfl
def XyD:Xm ow av st 6 (.fn f cs)=fnO f (Xs ow av st 5 cs) :=by
  simp only[Xm,fnO]; cases Xs ow av st 5 cs<;>rfl
def XyE:Xm ow av st 7 (.p pl)=if(ow&&ZO av pl&&Xz st pl)=true then prO (Xc (node st pl) (λcells => Xs ow av st 6 (cells.drop pl.c))) else none :=by
  simp only[Xm,Xc,prO]
  cases node st pl with
  | none => rfl
  | some cells => simp only[]; cases Xs ow av st 6 (cells.drop pl.c)<;>rfl
def XyF:Xm ow av st 7 (.fs cs)=fsO (Xs ow av st 6 cs) :=by
  simp only[Xm,fsO]; cases Xs ow av st 6 cs<;>rfl
def XyG:Xm ow av st 7 (.fn f cs)=fnO f (Xs ow av st 6 cs) :=by
  simp only[Xm,fnO]; cases Xs ow av st 6 cs<;>rfl
def XyH:Xm ow av st 8 (.p pl)=if(ow&&ZO av pl&&Xz st pl)=true then prO (Xc (node st pl) (λcells => Xs ow av st 7 (cells.drop pl.c))) else none :=by
  simp only[Xm,Xc,prO]
  cases node st pl with
  | none => rfl
  | some cells => simp only[]; cases Xs ow av st 7 (cells.drop pl.c)<;>rfl
def XyI:Xm ow av st 8 (.fs cs)=fsO (Xs ow av st 7 cs) :=by
  simp only[Xm,fsO]; cases Xs ow av st 7 cs<;>rfl
def XyJ:Xm ow av st 8 (.fn f cs)=fnO f (Xs ow av st 7 cs) :=by
  simp only[Xm,fnO]; cases Xs ow av st 7 cs<;>rfl
def XyK:Xs ow av st d []=some [] :=by simp only[Xs]
def XyL:Xs ow av st d (a :: l)=coO (Xm ow av st d a) (Xs ow av st d l) :=by
  simp only[Xs,coO]
  cases Xm ow av st d a with
  | none => rfl
  | some a' => simp only[]; cases Xs ow av st d l<;>rfl
def Xlz(ow:Bool):Tag->Bool
  | .mut => ow
  | _ => true
def XmJ(ow:Bool)(y lo n:Nat)(a:Option AV):Option AV :=match a with
  | some (.sl t z es) => if(lo+n<=es.length/\y=z)/\Xlz ow t=true then some (.sl .ro y (XH ((es.drop lo).take n))) else none
  | _ => none
def XyM:Xlz ow .mut=ow :=nr rfl
def XyN:Xlz ow .ro=true :=nr rfl
def XyO:Xlz ow .app=true :=nr rfl
def XyP:Xm ow av st d (.rf pl y lo n)=if ZO av pl=true then Xc (node st pl) (λcells => XmJ ow y lo n cells[pl.c]?) else none :=by
  cases d<;>(simp only[Xm,Xc,XmJ]; split<;>(try rfl); cases node st pl with
    | none => rfl
    | some cells => simp only[]; cases cells[pl.c]? with
      | none => rfl
      | some a => cases a<;>(try rfl); rename_i t z es; cases t<;>cases ow<;>simp[Xlz])
def XyQ:XC st .u=none :=nr rfl
def XyR:XC st .no=none :=nr rfl
def XyS:XC st .ub=none :=nr rfl
def XyT:XC st (.b x)=none :=nr rfl
def XyU:XC st (.i k n)=none :=nr rfl
def XyV:XC st (.s x)=none :=nr rfl
def XyW:XC st .nil=some [] :=nr rfl
def XyX:XC st (.sl t z es)=some es :=nr rfl
def XyY:XC st (.p pl)=none :=nr rfl
def XyZ:XC st (.pr cs)=none :=nr rfl
def Xy0:XC st .pn=none :=nr rfl
def Xy1:XC st (.fn f cs)=none :=nr rfl
def Xy2:XC st (.fs cs)=none :=nr rfl
def Xy3:XC st (.agg cs)=none :=nr rfl
def Xy4:XC st (.tup cs)=none :=nr rfl
def Xy5:XkE st .str (.s x)=some x.size :=nr rfl
def Xy6:Xbf (.int k)=false :=nr rfl
def Xy7:Xbf .str=true :=nr rfl
def Xy8:Xbf (.slice z b zero)=true :=nr rfl
def Xy9:XkE st (.slice z b zero) a=lenOf st a :=nr rfl
def Xza:Us .str (.s b) lo hi=Zt (.s b) lo hi :=nr rfl
def Xzb:Us (.slice z b zero) (.sl t z es) lo hi=Zt (.sl t z es) lo hi :=by simp only[Us,if_true]
def Xzc:Us (.slice z b zero) (.rf pl z o n) lo hi=Zt (.rf pl z o n) lo hi :=by simp only[Us,if_true]
def Xzd:lenOf st .u=none :=nr rfl
def Xze:lenOf st .no=none :=nr rfl
def Xzf:lenOf st .ub=none :=nr rfl
def Xzg:lenOf st (.b x)=none :=nr rfl
def Xzh:lenOf st (.i k n)=none :=nr rfl
def Xzi:lenOf st (.s x)=none :=nr rfl
def Xzj:lenOf st .nil=some 0 :=nr rfl
def Xzk:lenOf st (.sl t z es)=some es.length :=nr rfl
def Xzl:lenOf st (.p pl)=none :=nr rfl
def Xzm:lenOf st (.pr cs)=none :=nr rfl
def Xzn:lenOf st .pn=none :=nr rfl
def Xzo:lenOf st (.fn f cs)=none :=nr rfl
def Xzp:lenOf st (.fs cs)=some cs.length :=nr rfl
def Xzq:lenOf st (.agg cs)=none :=nr rfl
def Xzr:lenOf st (.tup cs)=none :=nr rfl
def XmK(y n lo:Nat)(a:Option AV):Option Nat :=match a with
  | some (.sl _ z es) => if lo+n<=es.length/\y=z then some ((es.drop lo).take n).length else none
  | _ => none
def XmL(y n lo:Nat)(a:Option AV):Option (List (List AV)) :=match a with
  | some (.sl _ z es) => if lo+n<=es.length/\y=z then some ((es.drop lo).take n) else none
  | _ => none
def Xzs:XC st (.rf pl y lo n)=Xc (node st pl) (λcells => XmL y n lo cells[pl.c]?) :=by simp only[XC,Xc,XmL]; cases node st pl<;>rfl
def Xzt:lenOf st (.rf pl y lo n)=Xc (node st pl) (λcells => XmK y n lo cells[pl.c]?) :=by
  simp only[lenOf,XC,Xc,XmK]
  cases node st pl with
  | none => rfl
  | some cells =>
    simp only[]
    cases cells[pl.c]? with
    | none => rfl
    | some a =>
      cases a<;>try rfl
      rename_i t z es
      simp only[]
      by_cases h:lo+n<=es.length/\y=z
      · simp only[if_pos h]
      · simp only[if_neg h]
def Xzu:bin ti op (.i k a) (.i k b)=Xc9 op k a b :=by simp only[bin,if_true]
def Xzv:bin ti op (.s a) (.s b)=Xiv op a b :=nr rfl
def Xzw:bin (some .bool) op (.b a) (.b b)=eqB op (a==b) :=nr rfl
def Xzx:bin (some .ptr) op (.p q) .pn=eqB op false :=nr rfl
def Xzy:bin (some .ptr) op (.pr q) .pn=eqB op false :=nr rfl
def Xzz:bin (some .ptr) op .pn .pn=eqB op true :=nr rfl
def XzA:Xc9 .add k a b=some (.i k (k.wrap (a+b))) :=nr rfl
def XzB:Xc9 .sub k a b=some (.i k (k.wrap (a-b))) :=nr rfl
def XzC:Xc9 .mul k a b=some (.i k (k.wrap (a*b))) :=nr rfl
def XzD:Xc9 .eql k a b=some (.b (a==b)) :=nr rfl
def XzE:Xc9 .neq k a b=some (.b (a !=b)) :=nr rfl
def XzF:Xc9 .lss k a b=some (.b (decide (a<b))) :=nr rfl
def XzG:Xc9 .leq k a b=some (.b (decide (a<=b))) :=nr rfl
def XzH:Xc9 .gtr k a b=some (.b (decide (a>b))) :=nr rfl
def XzI:Xc9 .geq k a b=some (.b (decide (a>=b))) :=nr rfl
def XzJ:Xc9 .quo k a b=if b=0 then none else some (.i k (k.wrap (a.tdiv b))) :=nr rfl
def XzK:Xc9 .rem k a b=if b=0 then none else some (.i k (a.tmod b)) :=nr rfl
def XzL:Xiv .eql a b=some (.b (a.toList==b.toList)) :=nr rfl
def XzM:Xiv .neq a b=some (.b !(a.toList==b.toList)) :=nr rfl
def XzN:Xiv .lss a b=some (.b (Op.bytesLess a.toList b.toList)) :=nr rfl
def XzO:Xiv .add a b=if a.size+b.size<=9223372036854775807 then some (.s (a++b)) else none :=nr rfl
def XzP(e:Bool)(x:Option Bool):Option Bool :=match x with
  | some y => some (e&&y)
  | none => none
def XzQ:XzP e (some y)=some (e&&y) :=nr rfl
def XzR:unV .not (.b x)=some (.b !x) :=nr rfl
def XzS:unV .neg (.i k n)=some (.i k (k.wrap (0-n))) :=nr rfl
def XzT:Xep (.bool x)=.b x :=nr rfl
def XzU:Xep (.int k n)=.i k n :=nr rfl
def XzV:Xep (.string x)=.s x :=nr rfl
def XzW:Xep (.slice none 0 0)=.nil :=nr rfl
def XzX:Xep (.pointer none)=.pn :=nr rfl
def XzY:bin T op (.sl t z es) .nil=U0 T op es.length :=nr rfl
def XzZ:bin T op (.rf q z lo n) .nil=U0 T op n :=nr rfl
def Xz0:U0 (some (.slice z b ze)) .eql n=if 0<n then some (.b false) else some .ub :=nr rfl
def Xz1:U0 (some (.slice z b ze)) .neq n=if 0<n then some (.b true) else some .ub :=nr rfl
def Xl0(f:Nat->AV)(g:Nat->List AV)(t j:Nat)(a:AV):Option (AV×St) :=match a with
  | .tup vs => match vs[j]? with
    | some v => some (v,⟨upd f t (.tup (vs.set j .u)),g⟩)
    | none => none
  | _ => none
def XmM(f:Nat->AV)(g:Nat->List AV)(t j:Nat)(vs:List AV)(x:Option AV):Option (AV×St) :=match x with
  | some v => some (v,⟨upd f t (.tup (vs.set j .u)),g⟩)
  | none => none
def Xz2:Qk ⟨f,g⟩ (.tmp t) j=Xl0 f g t j (f t) :=by simp only[Qk,Xl0]; cases f t<;>rfl
def Xz3:Xl0 f g t j (.tup vs)=XmM f g t j vs vs[j]? :=by simp only[Xl0,XmM]
def Xz4:XmM f g t j vs (some v)=some (v,⟨upd f t (.tup (vs.set j .u)),g⟩) :=nr rfl
attribute [go_sem ↓] XhF XjH XhG XjK XeR XcT XbD Xdx Xdy XeF Xb9 Xdz XdA XdB XeH XeI XeO XcS XdD XdE Xdw XcI Xb8 XfZ Xf0 XcJ XcK XcL XcM XcN ZM Xeg Xeh Xf6 XaN XbB XaO Xbz XbA XbE XaQ XjV Xgo XjY XhM Xlr XjZ XhN XdG XcU XhO XcV XhP Xls Xmy XeT XhS XdH XeU XhT Xca XcW Xlt Xgr XhU Xlu Xlv Xj0 XhV Xj1 XhW XhX Xj2 XhZ XhY Xij XnE XnF XnG XnH
attribute [go_sem] Xgp Xgq XhQ XhR Xk1 Xgn Xgm Xgi Xgj Xgk Xlq XjS Xlo XjO XjN Xgl XjT XhK XhL Xgb Xgc XjL Xgd Xge XeS Xgf Xmv Xf3 Xjw Xjy Xf4 Xf5 Xhs Xjx XcT XbD XjJ XeQ Xmz Xj6 Xh6 Xh7 Xj8 Xlx Xgs Xj9 Xj7 Xlw Xh5 XeW XeX XdJ XeY XeZ Xe0 Xgt XcX Xgu XcY XdK Xe1 Xgw Xh8 Xgx XdL Xh9 Xe2 Xe3 Xia Xib Xic Xid Xkd Xke Xie XdN Xkf Xif XdO Xig Xe4 Xih XgA XgB XgC Xii Xe5 XdP XcZ Xc0 XdQ Xe6 XdR Xba XaR Xcb Xkh Xcc Xkj Xbb XeJ XeK XeL XeM XcQ XcR XeN Xht Xhu Xhv Xhw Xhx XjC stU skS Xgh Xcn QM Z7 Xft Xgy Xh0 Xj3 Xj4 Xj5 XeV XdI Xh2 Xh3 Xh4 Xh1 Xkk XlW XhH XjM XhI Xgg XjP trim? Xjm inE Xho opU skU ZM XeE XfY Xeg Xeh Xf6 Xf7 Xhy XcJ XcK XcL XcM XcN XaN XbB XaO XjF XbE XaQ XjX Xf1 Xf2 Xhr Xhz XhA XjD Xf8 XhB XhC XhD Xf9 XhE Xbz XbA Xjp Xn5 Xn6 Xn7 Xmt Xlk Xjq jL Qw jE jB XcO XcP Xjt Xju
  k0 k1 k2 k3 k4 k5 k6 k7 k8 k9 k10 k11 k12 k13 k14 k15 k16 k17 k18 k19 k20 k21 k22 k23 k24 k25 k26 k27 k28 k29 k30 k31 k32 k33 k34 k35 k36 k37 k38 k39 k40 k41 k42 k43 k44 k45 k46 k47 k48 k49 k50 k51 k52 k53 k54 k55 k56 k57 k58 k59 k60 k61 k62 k63 k64 k65 k66 k67 k68 k69 k70 k71 k72 k73 k74 k75 k76 k77 k78 k79 k80 k81 k82 k83 k84 k85 k86 k87 rvQ k88 k89 k90 k91 k92 k93 k94 k95 k96 k97 k98 k99 Xn8 Xn9 Xoa Xob Xoc Xod Xoe Xof Xog Xoh Xoi Xoj Xok Xol Xom Xon Xoo Xop Xoq Xor Xos Xot Xou Xov Xow Xox Xoy Xoz XoA XoB XoC XoD XoE XoF XoG XoH XoI XoJ XoK XoL XoM XoN XoO XoP XoQ XoR XoS XoT XoU XoV XoW XoX XoY XoZ Xo0 Xo1 Xo2 Xo3 Xo4 Xo5 Xo6 Xo7 Xo8 Xo9 Xpa Xpb Xpc Xpd Xpe Xpf Xpg Xph Xpi Xpj Xpk Xpl Xpm Xpn Xpo Xpp Xpq Xpr Xps Xpt Xpu Xpv Xpw Xpx Xpy Xpz XpA XpB XpC XpD XpE XpF XpG XpH XpI XpJ XpK XpL XpM XpN XpO XpP XpQ XpR XpS XpT XpU XpV XpW XpX XpY XpZ Xp0 Xp1 Xp2 Xp3 Xp4 Xp5 Xp6 Xp7 Xp8 Xp9 Xqa Xqb Xqc Xqd Xqe Xqf Xqg Xqh Xqi Xqj Xqk Xql Xqm Xqn Xqo Xqp Xqq Xqr Xqs Xqt Xqu Xqv Xqw Xqx Xqy Xqz XqA XqB XqC XqD XqE XqF XqG XqH XqI XqJ XqK XqL XqM XqN XqO XqP XqQ XqR XqS XqT XqU XqV XqW XqX XqY XqZ Xq0 Xq1 Xq2 Xq3 Xq4 Xq5 Xq6 Xq7 Xq8 Xq9 Xra Xrb Xrc Xrd Xre Xrf Xrg Xrh Xri Xrj Xrk Xrl Xrm Xrn Xro Xrp Xrq Xrr Xrs Xrt Xru Xrv Xrw Xrx Xry Xrz XrA XrB XrC XrD XrE XrF XrG XrH XrI XrJ XrK XrL XrM XrN XrO XrP XrQ XrR XrS XrT XrU XrV XrW XrX XrY XrZ Xr0 Xr1 Xr2 Xr3 Xr4 Xr5 Xr6 Xr7 Xr8 Xr9 Xsa Xsb Xsc Xsd Xse Xsf Xsg Xsh Xsi Xsj Xsk Xsl Xsm Xsn Xso Xsp Xsq Xsr Xss Xst Xsu Xsv Xsw Xsx Xsy Xsz XsA XnE XnF XnG XnH XsB XsC Xmr Xms Xdv Xjl XaM XfV XgM XeD Xhm XfW XfX XhJ XjQ XjR XsD XsE XsF XsG XsH XsI XsJ XsK XsL XsM XsN XsO XsP XsQ XsR XsS XsT XsU XsV XsW XsX XsY XsZ Xs0 Xs1 Xs2 Xs3 Xs4 Xs5 Xs6 Xs7 Xs8 Xs9 Xta Xtb Xtc Xtd Xte Xtf Xtg Xth Xti Xtj Xtk Xtl Xtm Xtn Xto Xtp Xtq Xtr XnI Xts Xtt Xkn Xtu Xtv Xtw Xtx Xty Xtz XtA XtB XtC XtD XtE XtF XtG XtH XtI XtJ XtK XtL XtM XtN XtO XtP XtQ XtR XtS XtT XtU XtV XtW XtX XtY XtZ Xt0 Xt1 Xt2 Xt3 Xt4 Xt5 Xt6 St.cut keepP keepR Xq YV Xu within setCells storeAt takeRf Z4 Zt Xav Zg YP Y0 XaZ Xes Y6 UO Q4 Xdc Xmi XbP Xd3 Ut Q3 Xap Xer Xda Xcg XnB ZO YZ rwB QN Zz one eqB Yz XH UN Md.isMv Md.isRw Xt7 Xt8 Xt9 Xua Xub Xuc Xud Xue Xuf Xug Xuh Xui Xuj Xuk Xul Xum Xun Xuo Xup Xuq Xur Xus Xut Xuu Xuv Xuw Xux Xuy Xuz XuA XmI XuB XuC XuD XuE XuF XuG XuH XuI XuJ XuK XuL XuM XuN XuO XuP XuQ XuR XuS XuT XuU XuV XuW XuX XuY XuZ Xu0 Xu1 Xu2 Xu3 Xu4 Xu5 Xu6 Xu7 Xu8 Xu9 Xva Xvb Xvc Xvd Xve Xvf Xvg Xvh Xvi Xvj Xvk Xvl Xvm Xvn Xvo Xvp Xvq Xvr Xvs Xvt Xvu Xvv Xvw Xvx Xvy Xvz XvA XvB XvC XvD XvE XvF XvG XvH XvI XvJ XvK XvL XvM XvN XvO XvP XvQ XvR XvS XvT XvU XvV XvW XvX XvY XvZ Xv0 Xv1 Xv2 Xv3 Xv4 Xv5 Xv6 Xv7 Xv8 Xv9 Xwa Xwb Xwc Xwd Xwe Xwf Xwg Xwh Xwi Xwj Xwk Xwl Xwm Xwn Xwo Xwp Xwq Xwr Xws Xwt Xwu Xwv Xww Xwx Xwy Xwz XwA XwB XwC XwD XwE XwF XwG XwH XwI XwJ XwK XwL XwM XwN XwO XwP XwQ XwR XwS XwT XwU XwV XwW XwX XwY XwZ Xw0 Xw1 Xw2 Xw3 Xw4 Xw5 Xw6 Xw7 Xw8 Xw9 Xxa Xxb Xxc Xxd Xxe Xxf Xxg Xxh Xxi Xxj Xxk Xxl Xxm Xxn Xxo Xxp Xxq Xxr Xxs Xxt Xxu Xxv Xxw Xxx Xxy Xxz XxA XxB XxC XxD XxE XxF XxG XxH XxI XxJ XxK XxL XxM XxN XxO XxP XxQ XxR XxS XxT XxU XxV XxW XxX XxY XxZ Xx0 Xx1 Xx2 Xx3 Xx4 Xx5 Xx6 Xx7 Xx8 Xx9 Xya Xyb Xyc Xyd Xye Xyf Xyg Xyh Xyi Xyj Xyk Xyl Xym Xyn Xyo Xyp Xyq Xyr Xys Xyt Xyu Xyv Xyw Xyx Xyy Xyz XyA XyB XyC XyD XyE XyF XyG XyH XyI XyJ XyK XyL XyM XyN XyO XyP XmJ XyQ XyR XyS XyT XyU XyV XyW XyX XyY XyZ Xy0 Xy1 Xy2 Xy3 Xy4 Xy5 Xy6 Xy7 Xy8 Xy9 Xza Xzb Xzc Xzd Xze Xzf Xzg Xzh Xzi Xzj Xzk Xzl Xzm Xzn Xzo Xzp Xzq Xzr Xzs Xzt XmK XmL Xzu Xzv Xzw Xzx Xzy Xzz XzA XzB XzC XzD XzE XzF XzG XzH XzI XzJ XzK XzL XzM XzN XzO XzQ XzR XzS XzT XzU XzV XzW XzX XzY XzZ Xz0 Xz1 Xz2 Xz3 Xz4
end Go.Vm
