/- A part of a reflected evaluator of the program's code, and the proof that what it computes is what the machine does. -/
import Derived.Test.YtbgfaonlbpkfhaaGreatDoorVa
import Derived.Attr
set_option linter.unusedVariables false
set_option linter.unusedSimpArgs false
set_option autoImplicit false
set_option linter.defProp false
namespace Go.Vm
def nr{α:Sort _}{a b:α}(h:a=b):a=b:=h
def E:List (Nat×AV)->Nat->AV
 | [],_=>.u
 | (k,v) :: r,t=>if t=k then v else E r t
def B:List (Nat×List AV)->Nat->List AV
 | [],_=>[]
 | (k,v) :: r,t=>if t=k then v else B r t
def Xrn(t:Nat):E [] t=.u:=nr rfl
def Xca(k:Nat)(v:AV)(r:List (Nat×AV))(t:Nat):E ((k,v) :: r) t=if t=k then v else E r t:=nr rfl
def Xro(t:Nat):B [] t=[]:=nr rfl
def XcY(k:Nat)(v:List AV)(r:List (Nat×List AV))(t:Nat):B ((k,v) :: r) t=if t=k then v else B r t:=nr rfl
def Xf7(l:List (Nat×AV))(t:Nat)(v:AV):upd (E l) t v=E ((t,v) :: l):=by funext x; simp[upd,Xca]
def Xmw(l:List (Nat×List AV))(t:Nat)(v:List AV):upd (B l) t v=B ((t,v) :: l):=by funext x; simp[upd,XcY]
def XiQ(kp kr:Pl->Bool):List (Nat×AV)->List (Nat×AV)
 | []=>[]
 | (k,v) :: r=>(k,filt kp kr v) :: XiQ kp kr r
def XjH(kp kr:Pl->Bool):List (Nat×List AV)->List (Nat×List AV)
 | []=>[]
 | (k,v) :: r=>(k,Yd kp kr v) :: XjH kp kr r
def XcZ(l:List (Nat×AV))(m:List (Nat×List AV))(kp kr:Pl->Bool):St.filt ⟨E l,B m⟩ kp kr=⟨E (XiQ kp kr l),B (XjH kp kr m)⟩:=by
 simp only[St.filt,St.mk.injEq]
 constructor
 ·funext t
  induction l with
  | nil=>rfl
  | cons x r ih=>obtain⟨k,v⟩:=x; simp only[XiQ,Xca]; split<;>simp_all
 ·funext t
  induction m with
  | nil=>rfl
  | cons x r ih=>obtain⟨k,v⟩:=x; simp only[XjH,XcY]; split<;>simp_all
def Xhl(f:Nat->AV):List Nat->List (Nat×AV)
 | []=>[]
 | k :: r=>(k,f k) :: Xhl f r
def Xko(f:Nat->List AV):List Nat->List (Nat×List AV)
 | []=>[]
 | k :: r=>(k,f k) :: Xko f r
def XiR(ks bs:List Nat)(st:St):keep (some (ks,bs)) st=⟨E (Xhl (st.filt (within ks bs) (within ks bs)).env ks),B (Xko (st.filt (within ks bs) (within ks bs)).bx bs)⟩:=by
 simp only[keep,St.mk.injEq]
 generalize st.filt (within ks bs) (within ks bs)=s
 constructor
 ·funext t
  induction ks with
  | nil=>rfl
  | cons k r ih =>
   simp only[Xhl,Xca,List.contains_cons]
   by_cases h:t=k
   ·subst h; simp
   ·simp[h,<-ih]
 ·funext t
  induction bs with
  | nil=>rfl
  | cons k r ih =>
   simp only[Xko,XcY,List.contains_cons]
   by_cases h:t=k
   ·subst h; simp
   ·simp[h,<-ih]
def XiS(st:St):keep none st=st:=nr rfl
def Xmx(ks:List Nat)(l:List (Nat×AV))(m:List (Nat×List AV)):trim ks ⟨E l,B m⟩=⟨E (Xhl (E (XiQ (inE ks) (inE ks) l)) ks),B (XjH (inE ks) (inE ks) m)⟩:=by
 simp only[trim,XcZ,St.mk.injEq,and_true]
 generalize E (XiQ (inE ks) (inE ks) l)=s
 funext t
 induction ks with
 | nil=>rfl
 | cons k r ih =>
  simp only[Xhl,Xca,List.contains_cons]
  by_cases h:t=k
  ·subst h; simp
  ·simp[h,<-ih]
variable {R : Type}
def Xf{α:Type}(x:Option α)(k:α->Option R):Option R:=match x with
 | some a=>k a
 | none=>none
def QY{α:Type}(a:α)(k:α->Option R):Xf (some a) k=k a:=nr rfl
def Xhm{α:Type}(k:α->Option R):Xf none k=none:=nr rfl
@[congr] def Xmy{α:Type}{x y:Option α}{k:α->Option R}(h:x=y):Xf x k=Xf y k:=by rw[h]
def XiT{α:Type}(c:Prop)[Decidable c](x y:Option α)(k:α->Option R):Xf (if c then x else y) k=if c then Xf x k else Xf y k:=by split<;>rfl
def YZ{α β:Type}(x:Option α)(f:α->Option β):Y4 x f=Xf x f:=by cases x<;>rfl
@[congr] def Xkp{cx:Cx}{ops:List Oper}{cs:List (Option (List Nat))}{st st':St}{l:List Oper}(h:st=st'):X2 cx ops cs st l=X2 cx ops cs st' l:=by rw[h]
@[congr] def XlL{cx:Cx}{st st':St}{o:Oper}(h:st=st'):Xj cx st o=Xj cx st' o:=by rw[h]
@[congr] def XlM{cx:Cx}{blk:Nat}{c:Code}{st st':St}(h:st=st'):Xs cx blk c st=Xs cx blk c st':=by rw[h]
def upE(st:St)(d:Nat)(v:AV):St:=⟨upd st.env d v,st.bx⟩
def XgT(st:St)(d:Nat):upE st d (st.env d)=st:=by
 have:upd st.env d (st.env d)=st.env:=by funext x; unfold upd; split<;>simp_all
 simp only[upE,this]
def XlN(a:AV)(x y z xs ys:Option St):Option St:=match a with
 | .b true=>x
 | .b false=>y
 | .no=>z
 | _=>none
def Xe4(d:Option Nat)(k:Nat->Option St):Option St:=match d with
 | some d=>k d
 | none=>none
@[congr] def XlO{a a':AV}{x y z xs ys:Option St}(h:a=a'):XlN a x y z xs ys=XlN a' x y z xs ys:=by rw[h]
@[congr] def XlP{d d':Option Nat}{k:Nat->Option St}(h:d=d'):Xe4 d k=Xe4 d' k:=by rw[h]
def Xc0(d:Nat)(k:Nat->Option St):Xe4 (some d) k=k d:=nr rfl
@[congr] def Xmz{l:List Oper}{n:Nat}:Ux l n=Ux l n:=rfl
def XdP(d op t pos aft g r):Ux (⟨d,op,t,pos,aft,g⟩ :: r) 0=d:=nr rfl
def XdQ(o:Oper)(r:List Oper)(n:Nat):Ux (o :: r) (n+1)=Ux r n:=nr rfl
def opS(cx:Cx)(ops:List Oper)(cs:List (Option (List Nat)))(st:St)(o:Oper)(r:List Oper):Option St:=match wanted ops st o with
 | some true=>Xf (Xj cx st o) (λst'=>X2 cx ops cs st' r)
 | some false=>X2 cx ops cs (st.put? o.dst .no) r
 | none=>none
@[congr] def Xp7{cx:Cx}{ops:List Oper}{cs:List (Option (List Nat))}{st st':St}{o:Oper}{r:List Oper}(h:st=st'):opS cx ops cs st o r=opS cx ops cs st' o r:=by rw[h]
def Xf8(cx:Cx)(ops:List Oper)(cs:List (Option (List Nat)))(st:St):X2 cx ops cs st []=some st:=by simp only[X2]
def Xe5(cx:Cx)(ops:List Oper)(c:Option (List Nat))(cs:List (Option (List Nat)))(st:St)(o:Oper)(r:List Oper):X2 cx ops (c :: cs) st (o :: r)=opS cx ops cs (trim? c st) o r:=by
 simp only[X2,opS,hd?,List.tail_cons,Xf]
 cases wanted ops (trim? c st) o with
 | none=>rfl
 | some b =>
  cases b<;>try rfl
  simp only[]; cases Xj cx (trim? c st) o<;>rfl
def Xeq(cx:Cx)(ops:List Oper)(st:St)(o:Oper)(r:List Oper):X2 cx ops [] st (o :: r)=opS cx ops [] st o r:=by
 simp only[X2,opS,hd?,List.tail_nil,Xf,trim?]
 cases wanted ops st o with
 | none=>rfl
 | some b =>
  cases b<;>try rfl
  simp only[]; cases Xj cx st o<;>rfl
section
variable (cx : Cx) (ops : List Oper) (cs : List (Option (List Nat))) (st : St) (d : Option Nat) (op : Op) (t : TypeId) (pos : String) (aft : Array Edge) (j : Nat) (r : List Oper)
def XiU:opS cx ops cs st ⟨d,op,t,pos,aft,none⟩ r=Xf (Xj cx st ⟨d,op,t,pos,aft,none⟩) (λst'=>X2 cx ops cs st' r):=nr rfl
def Xao(cx:Cx)(ops:List Oper)(cs:List (Option (List Nat)))(st:St)(o:Oper)(r:List Oper)(want:Bool)(g:Nat)(a:AV):Option St:=match a with
 | .b b=>if b=want then Xf (Xj cx st o) (λst'=>X2 cx ops cs st' r) else X2 cx ops cs (st.put? o.dst .no) r
 | .no=>X2 cx ops cs (st.put? o.dst .no) r
 | _=>none
@[congr] def XlQ{cx:Cx}{ops:List Oper}{cs:List (Option (List Nat))}{st:St}{o:Oper}{r:List Oper}{want:Bool}{g:Nat}{a a':AV}(h:a=a'):Xao cx ops cs st o r want g a=Xao cx ops cs st o r want g a':=by rw[h]
def XiV(want:Bool):opS cx ops cs st ⟨d,op,t,pos,aft,some (j,want)⟩ r=Xe4 (Ux ops j) (λg=>Xao cx ops cs st ⟨d,op,t,pos,aft,some (j,want)⟩ r want g (st.env g)):=by
 simp only[opS,wanted,Xe4]
 cases Ux ops j with
 | none=>rfl
 | some g =>
  simp only[Xao]
  cases st.env g with
  | b b=>cases b<;>cases want<;>rfl
  | _=>rfl
end
section
variable (cx : Cx) (ops : List Oper) (cs : List (Option (List Nat))) (st : St) (o : Oper) (r : List Oper) (g : Nat)
def Xe6:Xao cx ops cs st o r true g (.b true)=Xf (Xj cx st o) (λst'=>X2 cx ops cs st' r):=nr rfl
def Xe7:Xao cx ops cs st o r false g (.b false)=Xf (Xj cx st o) (λst'=>X2 cx ops cs st' r):=nr rfl
def Xe8:Xao cx ops cs st o r true g (.b false)=X2 cx ops cs (st.put? o.dst .no) r:=nr rfl
def Xe9:Xao cx ops cs st o r false g (.b true)=X2 cx ops cs (st.put? o.dst .no) r:=nr rfl
def Xfa(want:Bool):Xao cx ops cs st o r want g .no=X2 cx ops cs (st.put? o.dst .no) r:=nr rfl
def opU(cx:Cx)(ops:List Oper)(cs:List (Option (List Nat)))(st:St)(o:Oper)(r:List Oper):Option St:=Xf (Xj cx st o) (λst'=>X2 cx ops cs st' r)
def skU(cx:Cx)(ops:List Oper)(cs:List (Option (List Nat)))(st:St)(o:Oper)(r:List Oper):Option St:=X2 cx ops cs (st.put? o.dst .no) r
@[congr] def Xp8{cx:Cx}{ops:List Oper}{cs:List (Option (List Nat))}{st st':St}{o:Oper}{r:List Oper}(h:st=st'):opU cx ops cs st o r=opU cx ops cs st' o r:=by rw[h]
@[congr] def Xp9{cx:Cx}{ops:List Oper}{cs:List (Option (List Nat))}{st st':St}{o:Oper}{r:List Oper}(h:st=st'):skU cx ops cs st o r=skU cx ops cs st' o r:=by rw[h]
end
def Xkq(cx:Cx)(ops:List Oper)(cs:List (Option (List Nat)))(l:List (Nat×AV))(m:List (Nat×List AV))(o:Oper)(r:List Oper)(g:Nat)(want b:Bool)(h:E l g=.b b) :
  Xao cx ops cs ⟨E l,B m⟩ o r want g (.b b) =
   if b=true then(if want=true then opU cx ops cs ⟨E ((g,.b true) :: l),B m⟩ o r else skU cx ops cs ⟨E ((g,.b true) :: l),B m⟩ o r)
   else(if want=true then skU cx ops cs ⟨E ((g,.b false) :: l),B m⟩ o r else opU cx ops cs ⟨E ((g,.b false) :: l),B m⟩ o r):=by
 have hs:(⟨E ((g,.b b) :: l),B m⟩:St)=⟨E l,B m⟩:=by
  have:=XgT ⟨E l,B m⟩ g
  simp only[upE,Xf7,h] at this
  exact this
 cases b<;>cases want<;>simp only[Xao,opU,skU,hs,if_true,if_false,Bool.false_eq_true,reduceCtorEq]
def jA(c:Prop)[Decidable c](a b:AV):AV:=if c then a else b
section
variable (c : Prop) [Decidable c]
def XmA(a:AV):jA c a a=a:=by unfold jA; split<;>rfl
def Xts(x y:Bool):jA c (.b x) (.b y)=.b (if c then x else y):=by unfold jA; split<;>rfl
def Xtt(k:IntKind)(x y:Int):jA c (.i k x) (.i k y)=.i k (if c then x else y):=by unfold jA; split<;>rfl
def Xtu(x y:ByteArray):jA c (.s x) (.s y)=.s (if c then x else y):=by unfold jA; split<;>rfl
def Xrp(t:Tag)(z:Nat)(x y:List (List AV)):jA c (.sl t z x) (.sl t z y)=.sl t z (if c then x else y):=by unfold jA; split<;>rfl
def jL(c:Prop)[Decidable c]:List AV->List AV->List AV
 | a :: l,b :: r=>jA c a b :: jL c l r
 | _,_=>[]
def UV:List AV->List AV->Bool
 | _ :: l,_ :: r=>UV l r
 | [],[]=>true
 | _,_=>false
def Xkr:∀(x y:List AV),UV x y=true->(if c then x else y)=jL c x y
 | [],[],_=>by simp[jL]
 | a :: l,b :: r,h=>by
  have ih:=Xkr l r (by simpa[UV] using h)
  simp only[jL,jA,<-ih]
  split<;>rfl
 | [],_ :: _,h=>by simp[UV] at h
 | _ :: _,[],h=>by simp[UV] at h
def Xqa(x y:List AV)(h:UV x y=true):jA c (.agg x) (.agg y)=.agg (jL c x y):=by rw[<-Xkr c x y h]; unfold jA; split<;>rfl
def XmB(x:List AV):jL c x x=x:=by
 rw[<-Xkr c x x (by induction x<;>simp_all [UV])]; simp
def jE(c:Prop)[Decidable c]:List (Nat×AV)->List (Nat×AV)->List (Nat×AV)
 | (k,a) :: l,(_,b) :: r=>(k,jA c a b) :: jE c l r
 | _,_=>[]
def jB(c:Prop)[Decidable c]:List (Nat×List AV)->List (Nat×List AV)->List (Nat×List AV)
 | (k,a) :: l,(_,b) :: r=>(k,jL c a b) :: jB c l r
 | _,_=>[]
def Xfb:List (Nat×AV)->List (Nat×AV)->Bool
 | (k,_) :: l,(k',_) :: r=>k==k'&&Xfb l r
 | [],[]=>true
 | _,_=>false
def Xfc:List (Nat×List AV)->List (Nat×List AV)->Bool
 | (k,a) :: l,(k',b) :: r=>k==k'&&(UV a b&&Xfc l r)
 | [],[]=>true
 | _,_=>false
def XmC:∀(x y:List (Nat×AV)),Xfb x y=true->(if c then E x else E y)=E (jE c x y)
 | [],[],_=>by simp[jE]
 | (k,a) :: l,(k',b) :: r,h=>by
  simp only[Xfb,Bool.and_eq_true,beq_iff_eq] at h
  obtain⟨rfl,h⟩:=h
  have ih:=XmC l r h
  funext t
  have ih':=congrFun ih t
  simp only[jE,jA]
  rw[Xca,<-ih']
  split<;>simp only[Xca]
 | [],_ :: _,h=>by simp[Xfb] at h
 | _ :: _,[],h=>by simp[Xfb] at h
def XmD:∀(x y:List (Nat×List AV)),Xfc x y=true->(if c then B x else B y)=B (jB c x y)
 | [],[],_=>by simp[jB]
 | (k,a) :: l,(k',b) :: r,h=>by
  simp only[Xfc,Bool.and_eq_true,beq_iff_eq] at h
  obtain⟨rfl,h1,h⟩:=h
  have ih:=XmD l r h
  funext t
  have ih':=congrFun ih t
  simp only[jB]
  rw[XcY,<-ih',<-Xkr c a b h1]
  split<;>simp only[XcY]
 | [],_ :: _,h=>by simp[Xfc] at h
 | _ :: _,[],h=>by simp[Xfc] at h
def XmE(x y:List (Nat×AV))(m n:List (Nat×List AV))(h:Xfb x y=true)(h':Xfc m n=true):(if c then some (⟨E x,B m⟩:St) else some ⟨E y,B n⟩)=some ⟨E (jE c x y),B (jB c m n)⟩:=by
 rw[<-XmC c x y h,<-XmD c m n h']; split<;>rfl
def XmF(e:Ex)(x y:List (Nat×AV))(m n:List (Nat×List AV))(h:Xfb x y=true)(h':Xfc m n=true):(if c then some (e,(⟨E x,B m⟩:St)) else some (e,⟨E y,B n⟩))=some (e,⟨E (jE c x y),B (jB c m n)⟩):=by
 rw[<-XmC c x y h,<-XmD c m n h']; split<;>rfl
end
def Xf9(cx:Cx)(blk:Nat)(st:St):Xs cx blk .skip st=some (.nor,st):=nr rfl
def Xga(cx:Cx)(blk id:Nat)(st:St):Xs cx blk (.exit id) st=some (.ex id,keep (cx.out id) st):=nr rfl
def Xhn(cx:Cx)(blk:Nat)(st:St):Xs cx blk .ret st=some (.ret,keep cx.rets st):=nr rfl
def Xks(x:Option St):Option (Ex×St):=match x with
 | some s=>some (.nor,s)
 | none=>none
def XiW(s:St):Xks (some s)=some (.nor,s):=nr rfl
def XiX:Xks none=none:=nr rfl
def Xkt(c:Prop)[Decidable c](x y:Option St):Xks (if c then x else y)=if c then Xks x else Xks y:=by split<;>rfl
def Xer(cx:Cx)(blk id:Nat)(l:List Oper)(st:St):Xs cx blk (.region id (List.toArray l) false) st=Xks (Xf (X2 cx l (cx.cuts id) st l) (λs=>weakW (keep (cx.rg id) s) (cx.ws id))):=by
 simp only[Xs,Xf,Xks,Xol,Bool.false_eq_true,if_false]
 cases X2 cx l (cx.cuts id) st l<;>rfl
def Xgb(cx:Cx)(blk id:Nat)(l:List Oper)(st:St):Xs cx blk (.region id (List.toArray l) true) st=Xks (Xf (Xf (cx.plan id) (λp=>Y9 cx id l p st)) (λs=>weakW s (cx.ws id))):=by
 simp only[Xs,if_true,Xks,Xol,YZ]
 cases cx.plan id with
 | none=>rfl
 | some p=>simp only[Xf]; cases Y9 cx id l p st<;>rfl
@[congr] def XmG{st st':St}{l l':List (Bool×Nat×Nat)}(h:st=st')(h2:l=l'):weakW st l=weakW st' l':=by rw[h,h2]
def XiY(st:St):weakW st []=some st:=nr rfl
def XmH(st:St)(r c:Nat)(l:List (Bool×Nat×Nat)):weakW st ((true,r,c) :: l)=Xf (weakArg st (.tmp r)) (λs=>weakW s l):=by simp only[weakW,YZ]
def Xho(st:St)(b c:Nat):Option AV->Option St
 | some (.sl .mut z es)=>weakLeaf st (.rf ⟨false,b,[],c⟩ z 0 es.length)
 | _=>some st
def XiZ(st:St)(b c z:Nat)(es:List (List AV)):Xho st b c (some (.sl .mut z es))=weakLeaf st (.rf ⟨false,b,[],c⟩ z 0 es.length):=nr rfl
def Xi0(st:St)(b c z:Nat)(es:List (List AV)):Xho st b c (some (.sl .app z es))=some st:=nr rfl
def Xku(st:St)(b c z:Nat)(es:List (List AV)):Xho st b c (some (.sl .ro z es))=some st:=nr rfl
def XmI(st:St)(b c:Nat):Xho st b c (some .u)=some st:=nr rfl
def XmJ(st:St)(r c:Nat)(l:List (Bool×Nat×Nat)):weakW st ((false,r,c) :: l)=Xf (Xho st r c (st.bx r)[c]?) (λs=>weakW s l):=by simp only[weakW,weakAt,Xho,YZ]; rfl
def Xgc(cx:Cx)(id:Nat)(ops:List Oper)(st:St):Y9 cx id ops .done st=some (keep (cx.rg id) st):=nr rfl
def Xgd(cx:Cx)(id:Nat)(ops:List Oper)(i:Nat)(p:Xdh)(st:St):Y9 cx id ops (.take i p) st=Xf (UK ops i) (λo=>XcI (XeM o.op) (Xf (QH cx ops st o) (λs=>Y9 cx id ops p s))):=by
 simp only[Y9,YZ]
def Xhp(cx:Cx)(id:Nat)(ops:List Oper)(i:Nat)(p:Xdh)(st:St):Y9 cx id ops (.one i p) st=Xf (UK ops i) (λo=>XcI (Xaj cx o.op||Uw cx st o.op) (Xf (QH cx ops st o) (λs=>Y9 cx id ops p s))):=by
 simp only[Y9,YZ]
def Xhq(cx:Cx)(id:Nat)(ops:List Oper)(i:Nat)(p q:Xdh)(st:St):Y9 cx id ops (.alt i p q) st=Xhd (Y9 cx id ops (.one i p) st) (Y9 cx id ops q st):=nr rfl
def Xhr(o:Oper)(r:List Oper):UK (o :: r) 0=some o:=nr rfl
def Xhs(o:Oper)(r:List Oper)(n:Nat):UK (o :: r) (n+1)=UK r n:=nr rfl
def Xht(x:Option St):XcI true x=x:=nr rfl
@[congr] def XmK{p p':Bool}{x:Option St}(h:p=p'):XcI p x=XcI p' x:=by rw[h]
def Xhu(x:Option St):Xhd x x=x:=by unfold Xhd; rw[if_pos rfl]
def Xfd(cx:Cx)(ops:List Oper)(st:St)(d:Option Nat)(op:Op)(t:TypeId)(pos:String)(aft:Array Edge):QH cx ops st ⟨d,op,t,pos,aft,none⟩=Xj cx st ⟨d,op,t,pos,aft,none⟩:=nr rfl
def Xcl(cx:Cx)(ops:List Oper)(st:St)(o:Oper)(want:Bool)(g:Nat)(a:AV):Option St:=match a with
 | .b b=>if b=want then Xj cx st o else some (st.put? o.dst .no)
 | .no=>some (st.put? o.dst .no)
 | _=>none
@[congr] def XmL{cx:Cx}{ops:List Oper}{st:St}{o:Oper}{want:Bool}{g:Nat}{a a':AV}(h:a=a'):Xcl cx ops st o want g a=Xcl cx ops st o want g a':=by rw[h]
def XmM(cx:Cx)(ops:List Oper)(st:St)(o:Oper)(want:Bool)(d:Option Nat):Option St:=match d with
 | some d=>Xcl cx ops st o want d (st.env d)
 | none=>none
def Xhv(cx:Cx)(ops:List Oper)(st:St)(o:Oper)(want:Bool)(d:Nat):XmM cx ops st o want (some d)=Xcl cx ops st o want d (st.env d):=nr rfl
def Xkv(cx:Cx)(ops:List Oper)(st:St)(o:Oper)(g:Nat):Xcl cx ops st o true g (.b true)=Xj cx st o:=nr rfl
def Xkw(cx:Cx)(ops:List Oper)(st:St)(o:Oper)(g:Nat):Xcl cx ops st o false g (.b false)=Xj cx st o:=nr rfl
def Xkx(cx:Cx)(ops:List Oper)(st:St)(o:Oper)(g:Nat):Xcl cx ops st o true g (.b false)=some (st.put? o.dst .no):=nr rfl
def Xky(cx:Cx)(ops:List Oper)(st:St)(o:Oper)(g:Nat):Xcl cx ops st o false g (.b true)=some (st.put? o.dst .no):=nr rfl
def Xkz(cx:Cx)(ops:List Oper)(st:St)(o:Oper)(want:Bool)(g:Nat):Xcl cx ops st o want g .no=some (st.put? o.dst .no):=nr rfl
def stU(cx:Cx)(st:St)(o:Oper):Option St:=Xj cx st o
def skS(st:St)(o:Oper):Option St:=some (st.put? o.dst .no)
@[congr] def Xqb{cx:Cx}{st st':St}{o:Oper}(h:st=st'):stU cx st o=stU cx st' o:=by rw[h]
@[congr] def Xqc{st st':St}{o:Oper}(h:st=st'):skS st o=skS st' o:=by rw[h]
def XmN(cx:Cx)(ops:List Oper)(l:List (Nat×AV))(m:List (Nat×List AV))(o:Oper)(want:Bool)(g:Nat)(b:Bool)(h:E l g=.b b) :
  Xcl cx ops ⟨E l,B m⟩ o want g (.b b) =
   if b=true then(if want=true then stU cx ⟨E ((g,.b true) :: l),B m⟩ o else skS ⟨E ((g,.b true) :: l),B m⟩ o)
   else(if want=true then skS ⟨E ((g,.b false) :: l),B m⟩ o else stU cx ⟨E ((g,.b false) :: l),B m⟩ o):=by
 have hs:(⟨E ((g,.b b) :: l),B m⟩:St)=⟨E l,B m⟩:=by
  have:=XgT ⟨E l,B m⟩ g
  simp only[upE,Xf7,h] at this
  exact this
 cases b<;>cases want<;>simp only[Xcl,stU,skS,hs,if_true,if_false,Bool.false_eq_true,reduceCtorEq]
def Xfe(cx:Cx)(ops:List Oper)(st:St)(d:Option Nat)(op:Op)(t:TypeId)(pos:String)(aft:Array Edge)(j:Nat)(want:Bool):QH cx ops st ⟨d,op,t,pos,aft,some (j,want)⟩=XmM cx ops st ⟨d,op,t,pos,aft,some (j,want)⟩ want (Ux ops j):=by
 unfold QH wanted XmM Xcl
 simp only
 cases Ux ops j with
 | none=>rfl
 | some d =>
  simp only
  cases st.env d with
  | b b =>
   cases b<;>cases want<;>rfl
  | _=>rfl
def Xa4(x:Option (Ex×St))(k:St->Option (Ex×St)):Option (Ex×St):=match x with
 | some (.nor,st)=>k st
 | some (.ex j,st)=>some (.ex j,st)
 | some (.ret,st)=>some (.ret,st)
 | none=>none
@[congr] def Xon{x y:Option (Ex×St)}{k:St->Option (Ex×St)}(h:x=y):Xa4 x k=Xa4 y k:=by rw[h]
def XgU(st:St)(k:St->Option (Ex×St)):Xa4 (some (.nor,st)) k=k st:=nr rfl
def XgV(st:St)(k:St->Option (Ex×St)):Xa4 (some (.ret,st)) k=some (.ret,st):=nr rfl
def Xi1(j:Nat)(st:St)(k:St->Option (Ex×St)):Xa4 (some (.ex j,st)) k=some (.ex j,st):=nr rfl
def Xi2(k:St->Option (Ex×St)):Xa4 none k=none:=nr rfl
def XkA(c:Prop)[Decidable c](x y:Option (Ex×St))(k:St->Option (Ex×St)):Xa4 (if c then x else y) k=if c then Xa4 x k else Xa4 y k:=by split<;>rfl
def Xhw(cx:Cx)(blk:Nat)(a b:Code)(st:St):Xs cx blk (.seq a b) st=Xa4 (Xs cx blk a st) (λs=>Xs cx blk b s):=by
 simp only[Xs]
 cases Xs cx blk a st with
 | none=>rfl
 | some x=>obtain⟨e,s⟩:=x; cases e<;>rfl
def XlR(id:Nat)(x:Option (Ex×St)):Option (Ex×St):=match x with
 | some (.ex j,st)=>if j=id then some (.nor,st) else some (.ex j,st)
 | some (.nor,st)=>some (.nor,st)
 | some (.ret,st)=>some (.ret,st)
 | none=>none
def XkB(id:Nat)(st:St):XlR id (some (.nor,st))=some (.nor,st):=nr rfl
def XkC(id:Nat)(st:St):XlR id (some (.ret,st))=some (.ret,st):=nr rfl
def XmO(id j:Nat)(st:St):XlR id (some (.ex j,st))=if j=id then some (.nor,st) else some (.ex j,st):=nr rfl
def Xi3(id:Nat):XlR id none=none:=nr rfl
def XkD(id:Nat)(c:Prop)[Decidable c](x y:Option (Ex×St)):XlR id (if c then x else y)=if c then XlR id x else XlR id y:=by split<;>rfl
def Xff(cx:Cx)(blk id:Nat)(c:Code)(st:St):Xs cx blk (.block id c) st=XlR id (Xs cx id c st):=by
 simp only[Xs]
 cases Xs cx id c st with
 | none=>rfl
 | some x=>obtain⟨e,s⟩:=x; cases e<;>rfl
def Xge(a:AV)(x y:Option (Ex×St)):Option (Ex×St):=match a with
 | .b b=>if b=true then x else y
 | _=>none
@[congr] def XmP{a a':AV}{x y:Option (Ex×St)}(h:a=a'):Xge a x y=Xge a' x y:=by rw[h]
def XdR(x y:Option (Ex×St)):Xge (.b true) x y=x:=nr rfl
def Xc1(x y:Option (Ex×St)):Xge (.b false) x y=y:=nr rfl
def XmQ(b:Bool)(x y:Option (Ex×St)):Xge (.b b) x y=if b=true then x else y:=nr rfl
def Xgf(cx:Cx)(blk:Nat)(c:Operand)(a b:Code)(st:St):Xs cx blk (.cond c a b) st=Xge (view st c) (Xs cx blk a st) (Xs cx blk b st):=by
 simp only[Xs,Xge]
 cases view st c with
 | b x=>cases x<;>rfl
 | _=>rfl
noncomputable def Qw(cx:Cx)(blk:Nat)(c:Code)(n:Nat)(st:St):Option (Ex×St):=XlC (λst=>Xs cx blk c (keep (cx.live blk) st)) n st
@[congr] def XmR{cx:Cx}{blk:Nat}{c:Code}{n:Nat}{st st':St}(h:st=st'):Qw cx blk c n st=Qw cx blk c n st':=by rw[h]
def Xgg(cx:Cx)(blk:Nat)(c:Code)(st:St):Xs cx blk (.loop c) st=Qw cx blk c cx.rounds st:=nr rfl
def Zy(cx:Cx)(blk:Nat)(c:Code)(n:Nat)(st:St):Qw cx blk c (n+1) st=Xa4 (Xs cx blk c (keep (cx.live blk) st)) (λs=>Qw cx blk c n s):=by
 simp only[Qw,XlC]
 cases Xs cx blk c (keep (cx.live blk) st) with
 | none=>rfl
 | some x=>obtain⟨e,s⟩:=x; cases e<;>rfl
def XjI(cx:Cx)(md:List Md)(rv:List ResultVar)(x:Option (Ex×St)):Option (AV×List AV):=match x with
 | some (.nor,st)=>QI cx md rv st
 | some (.ret,st)=>QI cx md rv st
 | _=>none
def XkE(cx:Cx)(md:List Md)(rv:List ResultVar)(st:St):XjI cx md rv (some (.nor,st))=QI cx md rv st:=nr rfl
def XkF(cx:Cx)(md:List Md)(rv:List ResultVar)(st:St):XjI cx md rv (some (.ret,st))=QI cx md rv st:=nr rfl
def Xi4(cx:Cx)(md:List Md)(rv:List ResultVar):XjI cx md rv none=none:=nr rfl
def XkG(cx:Cx)(md:List Md)(rv:List ResultVar)(c:Prop)[Decidable c](x y:Option (Ex×St)):XjI cx md rv (if c then x else y)=if c then XjI cx md rv x else XjI cx md rv y:=by split<;>rfl
def Xi5(cx:Cx)(md:List Md)(f:Func)(args:List AV)(c:Code)(rv:List ResultVar)(h:f.body=some c)(hr:f.results=rv.toArray)(hz:cx.nz=false):Uy cx md f args=XjI cx md rv (Xs cx 0 c (Xab md args)):=by
 simp only[Uy,h,hr,evB,hz,Bool.false_eq_true,if_false]
 cases Xs cx 0 c (Xab md args) with
 | none=>rfl
 | some x=>obtain⟨e,s⟩:=x; cases e<;>rfl
def Xhx(cx:Cx)(md:List Md)(f:Func)(args:List AV)(c:Code)(rv:List ResultVar)(h:f.body=some c)(hr:f.results=rv.toArray)(hz:cx.nz=true):Uy cx md f args=XjI cx md rv (evN cx c (λs=>some (.nor,s)) (Xab md args)):=by
 simp only[Uy,h,hr,evB,hz,if_true]
 cases evN cx c (λs=>some (.nor,s)) (Xab md args) with
 | none=>rfl
 | some x=>obtain⟨e,s⟩:=x; cases e<;>rfl
@[congr] def Xqd{cx:Cx}{c:Code}{K:St->Option (Ex×St)}{st st':St}(h:st=st'):evN cx c K st=evN cx c K st':=by rw[h]
def XkH(cx:Cx)(K:St->Option (Ex×St))(st:St):evN cx .skip K st=K st:=nr rfl
def XmS(cx:Cx)(a b:Code)(K:St->Option (Ex×St))(st:St):evN cx (.seq a b) K st=evN cx a (λs=>evN cx b K s) st:=nr rfl
noncomputable def XmT(a:AV)(x y:Option (Ex×St)):Option (Ex×St):=match a with
 | .b true=>x
 | .b false=>y
 | .ub=>XfQ x y
 | _=>none
@[congr] def Xoo{a a':AV}{x y:Option (Ex×St)}(h:a=a'):XmT a x y=XmT a' x y:=by rw[h]
def Xfg(x y:Option (Ex×St)):XmT (.b true) x y=x:=nr rfl
def XdS(x y:Option (Ex×St)):XmT (.b false) x y=y:=nr rfl
def XmU(x y:Option (Ex×St)):XmT .ub x y=XfQ x y:=nr rfl
def Xhy(x:Option (Ex×St)):XfQ x x=x:=by unfold XfQ; rw[if_pos rfl]
def XkI(cx:Cx)(c:Operand)(a b:Code)(K:St->Option (Ex×St))(st:St):evN cx (.cond c a b) K st=XmT (view st c) (evN cx a K st) (evN cx b K st):=by
 simp only[evN,XmT]
 cases view st c with
 | b x=>cases x<;>rfl
 | _=>rfl
def XmV(cx:Cx)(K:St->Option (Ex×St))(st:St):evN cx .ret K st=some (.ret,keep cx.rets st):=nr rfl
def Xhz(cx:Cx)(id:Nat)(ops:Array Oper)(d:Bool)(K:St->Option (Ex×St))(st:St):evN cx (.region id ops d) K st=Xa4 (Xs cx 0 (.region id ops d) st) (λs=>K s):=by
 simp only[evN,Xdz]
 cases Xs cx 0 (.region id ops d) st with
 | none=>rfl
 | some x=>obtain⟨e,s⟩:=x; cases e<;>rfl
def Xrq(md:List Md)(p:List AV×St):Option (AV×List AV):=if(p.1.all YJ&&(XcJ p.2 md 0).all YJ&&U7 md (XcJ p.2 md 0))=true then some (one p.1,XcJ p.2 md 0) else none
def XqR(cx:Cx)(md:List Md)(rv:List ResultVar)(st:St):Option (List AV)->Option (AV×List AV)
 | some cs=>XpV md st cs
 | none=>Xf (Xck cx st rv) (Xrq md)
def XkJ(cx:Cx)(md:List Md)(rv:List ResultVar)(st:St):QI cx md rv st=XqR cx md rv st (Xdn md st rv):=by
 simp only[QI,XqR]
 cases Xdn md st rv with
 | some cs=>rfl
 | none =>
  simp only[XqQ,Xf]
  cases Xck cx st rv<;>rfl
def Xi6(cx:Cx)(md:List Md)(rv:List ResultVar)(st:St)(cs:List AV):XqR cx md rv st (some cs)=XpV md st cs:=nr rfl
def Xi7(cx:Cx)(md:List Md)(rv:List ResultVar)(st:St):XqR cx md rv st none=Xf (Xck cx st rv) (Xrq md):=nr rfl
def XmW(md:List Md)(st:St)(cs:List AV):XpV md st cs=if(cs.all Yg&&!cs.isEmpty&&(XcJ st md 0).all YJ&&U7 md (XcJ st md 0))=true then some (.tup [.agg cs],XcJ st md 0) else none:=nr rfl
def Xi8(md:List Md)(st:St):Xdn md st []=none:=nr rfl
def Xi9(md:List Md)(st:St)(t:Nat):Xdn md st [.tmp t]=npP md st (st.env t):=nr rfl
def XhA(md:List Md)(st:St)(a t:Nat):Xdn md st [.cell a t]=none:=nr rfl
def Xja(md:List Md)(st:St)(a b:ResultVar)(l:List ResultVar):Xdn md st (a :: b :: l)=none:=by cases a<;>rfl
def Xrr(md:List Md)(st:St)(q:Pl):npP md st (.p q)=if(!q.e&&q.path.isEmpty&&q.c==0&&decide (md.length<=q.r))=true then some (st.bx q.r) else none:=nr rfl
def XmX(md:List Md)(l:List AV)(st:St):Xrq md (l,st)=if(l.all YJ&&(XcJ st md 0).all YJ&&U7 md (XcJ st md 0))=true then some (one l,XcJ st md 0) else none:=nr rfl
def XkK(cx:Cx)(st:St):Xck cx st []=some ([],st):=nr rfl
def Xrs(v:AV)(p:List AV×St):Option (List AV×St):=some (v :: p.1,p.2)
def XmY(v:AV)(l:List AV)(st:St):Xrs v (l,st)=some (v :: l,st):=nr rfl
def Xjb(cx:Cx)(st:St)(t:Tmp)(r:List ResultVar):Xck cx st (.tmp t :: r)=Xf (take st (.tmp t)) (λp=>Xf (Xck cx p.2 r) (Xrs p.1)):=by
 simp only[Xck,Xf]
 cases take st (.tmp t) with
 | none=>rfl
 | some p=>obtain⟨v,s⟩:=p; simp only; cases Xck cx s r<;>rfl
def Xjc(cx:Cx)(st:St)(a t:Nat)(r:List ResultVar):Xck cx st (.cell a t :: r)=Xf (cx.T t) (λti=>Xf (loadAt st ti (view st (.tmp a))) (λv=>Xf (takeVal st v) (λp=>Xf (Xck cx p.2 r) (Xrs p.1)))):=by
 simp only[Xck,YZ,Xf]
 cases cx.T t with
 | none=>rfl
 | some ti =>
  simp only
  cases loadAt st ti (view st (.tmp a)) with
  | none=>rfl
  | some v =>
   simp only
   cases takeVal st v with
   | none=>rfl
   | some p=>obtain⟨v,s⟩:=p; simp only; cases Xck cx s r<;>rfl
def XmZ:List Md->List AV->Nat->List (Nat×AV)
 | .rw _ :: ms,_ :: as,j=>(j,.p ⟨false,j,[],0⟩) :: XmZ ms as (j+1)
 | .ro _ :: ms,a :: as,j=>(j,a) :: XmZ ms as (j+1)
 | .mv :: ms,a :: as,j=>(j,a) :: XmZ ms as (j+1)
 | _,_,_=>[]
def Xm0:List Md->List AV->Nat->List (Nat×List AV)
 | .rw _ :: ms,a :: as,j=>(j,cellsOf a) :: Xm0 ms as (j+1)
 | .ro _ :: ms,_ :: as,j=>Xm0 ms as (j+1)
 | .mv :: ms,_ :: as,j=>Xm0 ms as (j+1)
 | _,_,_=>[]
def XkL(ms:List Md)(as:List AV):Xab ms as=⟨E (XmZ ms as 0),B (Xm0 ms as 0)⟩:=by
 have h1:∀(ms:List Md) (as:List AV) (j t:Nat),ZG ms as j t=E (XmZ ms as j) t:=by
  intro ms
  induction ms with
  | nil=>intro as j t; cases as<;>rfl
  | cons m ms ih =>
   intro as j t
   cases as with
   | nil=>cases m<;>rfl
   | cons a as=>cases m<;>simp only[ZG,XmZ,Xca,ih]
 have h2:∀(ms:List Md) (as:List AV) (j t:Nat),Zt ms as j t=B (Xm0 ms as j) t:=by
  intro ms
  induction ms with
  | nil=>intro as j t; cases as<;>rfl
  | cons m ms ih =>
   intro as j t
   cases as with
   | nil=>cases m<;>rfl
   | cons a as=>cases m<;>simp only[Zt,Xm0,XcY,ih]
 simp only[Xab,St.mk.injEq]
 exact⟨funext (h1 ms as 0),funext (h2 ms as 0)⟩
section
variable (cx : Cx) (t : TypeId) (pos : String) (aft : Array Edge) (g : Option (Nat × Bool)) (st : St)
def Uf(d:Nat)(x:Option AV):XeD st (some d) x=Xf x (λv=>some (st.put d v)):=by cases x<;>rfl
def XgW(d:Nat)(x:Option (AV×St)):XpU (some d) x=Xf x (λy=>some (y.2.put d y.1)):=by cases x<;>rfl
def Xqe(d:Option Nat)(x:Option (AV×St)):Xrg d x=Xf x (λy=>putN d y.2 y.1 (XaS y.1)):=by cases x<;>rfl
def Xjd(d:Option Nat)(st:St)(r:AV):putN d st r none=some (st.put? d r):=nr rfl
def Xje(d:Nat)(st:St)(r:AV)(cs:List AV):putN (some d) st r (some cs)=Qb st d cs:=nr rfl
def Xm1(cs:List AV):XaS (.tup [.agg cs])=some cs:=nr rfl
def XkM:XaS (.tup [])=none:=nr rfl
def XkN(a b:AV)(l:List AV):XaS (.tup (a :: b :: l))=none:=by cases a<;>rfl
def Xm2(st:St)(t:Nat):AV->Option (AV×St)
 | .tup (v :: vs)=>some (.tup (v :: vs),⟨upd st.env t .u,st.bx⟩)
 | _=>none
def Xjf(st:St)(t:Nat)(v:AV)(vs:List AV):Xm2 st t (.tup (v :: vs))=some (.tup (v :: vs),⟨upd st.env t .u,st.bx⟩):=nr rfl
def Xjg(st:St)(t:Nat):XfP st (.tmp t)=Xm2 st t (st.env t):=by
 simp only[XfP,Xm2]
 cases st.env t with
 | tup vs=>cases vs<;>rfl
 | _=>rfl
def Xm3(d:Nat)(x:Operand):Xj cx st ⟨some d,.move x,t,pos,aft,g⟩=if cx.al.contains d=true then Xf (XfP st x) (λy=>some (y.2.put d y.1)) else some (st.put d (fix (zOf cx t) (view st x))):=by
 simp only[Xj,alD,XgW,St.put?]
def Xjh(d:Nat)(x:Operand):Xj cx st ⟨some d,.assign x,t,pos,aft,g⟩ =
  if cx.al.contains d=true then some (st.put d (fix (zOf cx t) (view st x))) else Xf (take st x) (λy=>some (y.2.put d (fix (zOf cx t) y.1))):=by
 simp only[Xj,YZ,QY]
def Xgh(st:St)(d:Nat)(a x y:AV):Option St:=match a with
 | .b b=>if b=true then some (st.put d x) else some (st.put d y)
 | _=>none
@[congr] def Xm4{st:St}{d:Nat}{a a' x y:AV}(h:a=a'):Xgh st d a x y=Xgh st d a' x y:=by rw[h]
def XdT(d:Nat)(x y:AV):Xgh st d (.b true) x y=some (st.put d x):=nr rfl
def Xc2(d:Nat)(x y:AV):Xgh st d (.b false) x y=some (st.put d y):=nr rfl
def Xm5(d:Nat)(b:Bool)(x y:AV):Xgh st d (.b b) x y=if b=true then some (st.put d x) else some (st.put d y):=nr rfl
def Xm6(d:Nat)(c x y:Operand):Xj cx st ⟨some d,.pick c x y,t,pos,aft,g⟩=Xgh st d (view st c) (view st x) (view st y):=by
 simp only[Xj,Xgh,St.put?]
 cases view st c with
 | b x=>cases x<;>rfl
 | _=>rfl
def XkO(d:Nat)(t':TypeId):Xj cx st ⟨some d,.alloc t',t,pos,aft,g⟩=Xf (cx.T t') (λti=>Qb st d ti.zero):=YZ _ _
def Xqf(d:Nat)(t':TypeId)(x:Operand):Xj cx st ⟨some d,.box t' x,t,pos,aft,g⟩=Xf (cx.T t') (λti=>if cx.fz.contains d=true then Xf (Xhc ti (fix ti.z (view st x))) (λcs=>Xai st d cs) else if cx.al.contains d=true then Xf (Xhc ti (fix ti.z (view st x))) (λcs=>Qb st d cs) else Xf (take st x) (λy=>Xf (Xhc ti (fix ti.z y.1)) λcs=>Qb y.2 d cs)):=by
 simp only[Xj,YZ,QY]
def Xm7(d:Nat)(t':TypeId)(a:Operand):Xj cx st ⟨some d,.load t' a,t,pos,aft,g⟩=Xf (cx.T t') (λti=>Xf (loadAt st ti (view st a)) (λv=>some (st.put d v))):=by
 simp only[Xj,YZ,Uf]
def XkP(t':TypeId)(a x:Operand):Xj cx st ⟨none,.store t' a x,t,pos,aft,g⟩=Xf (cx.T t') (λti=>Xf (take st x) (λy=>storeAt y.2 ti (view y.2 a) y.1)):=by
 simp only[Xj,YZ,Option.isSome_none,Bool.false_eq_true,if_false]
def Xgi(d:Nat)(x:Operand):Xj cx st ⟨some d,.nilCheck x,t,pos,aft,g⟩=Xf (Xeb (view st x)) (λv=>some (st.put d v)):=Uf st d _
def Xfh(d:Nat)(t':TypeId)(x:Operand)(f:Nat):Xj cx st ⟨some d,.fieldAddr t' x f,t,pos,aft,g⟩=Xf (cx.T t') (λti=>Xf (Xa9 ti f (view st x)) (λv=>some (st.put d v))):=by
 simp only[Xj,YZ,Uf]
def XkQ(d:Nat)(t':TypeId)(x:Operand)(f:Nat):Xj cx st ⟨some d,.field t' x f,t,pos,aft,g⟩=Xf (cx.T t') (λti=>Xf (XeJ ti f (view st x)) (λv=>some (st.put d v))):=by
 simp only[Xj,YZ,Uf]
def Xfi(d:Nat)(t':TypeId)(x ix:Operand):Xj cx st ⟨some d,.indexAddr t' x ix,t,pos,aft,g⟩=Xf (cx.T t') (λti=>Xf (Uv st ti (view st x) (view st ix)) (λv=>some (st.put d v))):=by
 simp only[Xj,YZ,Uf]
def XkR(d:Nat)(t':TypeId)(x ix:Operand):Xj cx st ⟨some d,.index t' x ix,t,pos,aft,g⟩=Xf (cx.T t') (λti=>Xf (XaN ti (view st x) (view st ix)) (λv=>some (st.put d v))):=by
 simp only[Xj,YZ,Uf]
def Xqg(d:Nat)(op:BinOp)(xt:TypeId)(x y:Operand)(yt:TypeId):Xj cx st ⟨some d,.binOp op xt x y yt,t,pos,aft,g⟩=Xf (Xdj (cx.T xt) (cx.eqs xt) op (view st x) (view st y)) (λv=>some (st.put d v)):=Uf st d _
def Xrt(d:Nat)(op:UnOp)(xt:TypeId)(x:Operand):Xj cx st ⟨some d,.unOp op xt x,t,pos,aft,g⟩=Xf (unV op (view st x)) (λv=>some (st.put d v)):=Uf st d _
def XhB(d:Nat)(a b:TypeId)(x:Operand):Xj cx st ⟨some d,.convert a b x,t,pos,aft,g⟩=Xf (cx.T a) (λta=>Xf (cx.T b) (λtb=>Xf (Xg9 st ta tb (view st x)) (λv=>some (st.put d v)))):=by
 simp only[Xj,YZ,Uf]
def Xji(src:TI)(k:IntKind)(a:AV):Xg9 st src (.int k) a=XfO st src (.int k) a:=nr rfl
def Xjj(src:TI)(a:AV):Xg9 st src .str a=XfO st src .str a:=nr rfl
def XkS(z n:Nat)(zero:List AV)(src:TI)(a:AV):Xg9 st src (.slice z n zero) a=XeK src z zero a:=nr rfl
def XkT(z:Nat)(zero:List AV)(b:ByteArray):XeK .str z zero (.s b)=if z=1/\XpT zero=true/\b.size<=9223372036854775807 then some (.sl .mut 1 (b.data.toList.map XbC)) else none:=nr rfl
def XkU(d:Nat)(xt:TypeId)(x:Operand)(lo hi:Option Operand):Xj cx st ⟨some d,.slice xt x lo hi none,t,pos,aft,g⟩=Xf (cx.T xt) (λti=>Xf (Xa6 ti (view st x) (lo.map (view st)) (hi.map (view st))) (λv=>some (st.put d v))):=by
 simp only[Xj,YZ,Uf]
def Xgj(d f:Nat)(caps:List Operand):Xj cx st ⟨some d,.makeFunc (.func f) (List.toArray []) (List.toArray caps),t,pos,aft,g⟩=if(caps.map (view st)).all QL=true then some (st.put d (.fn f (caps.map (view st)))) else none:=by
 simp only[Xj,List.isEmpty_toArray,List.isEmpty_nil,Bool.true_and]; rfl
def XhC(d:Nat)(x:Operand)(j:Nat):Xj cx st ⟨some d,.extract x j,t,pos,aft,g⟩=Xf (UJ st x j) (λy=>some (y.2.put d y.1)):=XgW d _
def XkV(d:Nat)(t':TypeId)(parts:List (Nat×Operand)):Xj cx st ⟨some d,.build t' (List.toArray parts),t,pos,aft,g⟩=Xf (cx.T t') (λti=>Xf (XcH ti st parts) (λv=>some (st.put d v))):=by
 simp only[Xj,YZ,Uf]
def Xes(d:Nat)(t':TypeId)(len:Nat)(parts:List (Nat×Operand)):Xj cx st ⟨some d,.buildSlice t' len (List.toArray parts),t,pos,aft,g⟩=Xf (cx.T t') (λti=>Xf (Ql ti st len parts) (λy=>some (y.2.put d y.1))):=by
 simp only[Xj,YZ,XgW,St.put?]
def Xfj(d:Nat)(t':TypeId)(l c:Operand):Xj cx st ⟨some d,.makeSlice t' l c,t,pos,aft,g⟩=Xf (cx.T t') (λti=>Xf (Xhb ti (view st l) (view st c)) (λv=>some (st.put d v))):=by
 simp only[Xj,YZ,Uf]
def Xqh(d:Nat)(x:Operand)(tx:TypeId)(ts:List TypeId):Xj cx st ⟨some d,.call {callee:=.builtin .len,args:=List.toArray [x],argTypes:=List.toArray (tx :: ts)},t,pos,aft,g⟩=Xf (cx.T tx) (λti=>Xf (Xok st ti (view st x)) (λn=>some (st.put d (.i .i64 n)))):=by
 simp only[Xj,Zi,YZ]; rfl
def Xjk(d:Nat)(x y:Operand)(tx ty:TypeId):Xj cx st ⟨some d,.call {callee:=.builtin .append,args:=List.toArray [x,y],argTypes:=List.toArray [tx,ty]},t,pos,aft,g⟩=Xf (cx.T tx) (λti=>Xf (cx.T ty) (λtj=>if XeL tj=true then Xf (XbD ti st x y) (λy=>some (y.2.put d y.1)) else none)):=by
 simp only[Xj,Zi,YZ,XgW]
def XkW(x:Operand)(tx:TypeId):Xj cx st ⟨none,.call {callee:=.builtin .clear,args:=List.toArray [x],argTypes:=List.toArray [tx]},t,pos,aft,g⟩=Xf (cx.T tx) (λti=>XbZ ti st (view st x)):=by
 simp only[Xj,Zi,YZ,noD]
def Xqi(d:Nat)(xs:List Operand)(at_:Array TypeId):Xj cx st ⟨some d,.call {callee:=.builtin .min,args:=List.toArray xs,argTypes:=at_},t,pos,aft,g⟩=Xf (Xha (λa b=>if b<a then b else a) (xs.map (view st))) (λv=>some (st.put d v)):=by
 simp only[Xj,Zi,Uf]
def Xqj(d:Nat)(xs:List Operand)(at_:Array TypeId):Xj cx st ⟨some d,.call {callee:=.builtin .max,args:=List.toArray xs,argTypes:=at_},t,pos,aft,g⟩=Xf (Xha (λa b=>if b>a then b else a) (xs.map (view st))) (λv=>some (st.put d v)):=by
 simp only[Xj,Zi,Uf]
def Xm8(d:Option Nat)(f:Operand)(args:List Operand)(ats:List TypeId):Xj cx st ⟨d,.call {callee:=.value f,args:=List.toArray args,argTypes:=List.toArray ats},t,pos,aft,g⟩ =
  Xf (XaM cx st f ats args) (λy=>putN d y.2 y.1 (XaS y.1)):=by
 simp only[Xj,Zi,Xqe]
def XkX(f:Operand)(ts:List TypeId)(xs:List Operand):XaM cx st f ts xs=Xf (UI cx st f ts xs) (λp=>Xf (cx.fns p.1) (λfs=>XcE cx st p.1 fs f ts xs)):=by
 simp only[XaM,Xf]
 cases UI cx st f ts xs with
 | none=>rfl
 | some p=>obtain⟨g,as⟩:=p; simp only; cases cx.fns g<;>rfl
def Xm9(f:Operand)(ts:List TypeId)(xs:List Operand):UI cx st f ts xs=fnV (view st f) (XeC cx ts xs (xs.map (view st))):=nr rfl
def XkY(g:Nat)(md:List Md)(F:List AV->Option (AV×List AV))(f:Operand)(ts:List TypeId)(xs:List Operand):XcE cx st g ⟨md,F,false⟩ f ts xs=XcD cx st g ⟨md,F,false⟩ f ts xs:=nr rfl
def XkZ(g:Nat)(md:List Md)(F:List AV->Option (AV×List AV))(f:Operand)(ts:List TypeId)(xs:List Operand):XcE cx st g ⟨md,F,true⟩ f ts xs=Xf (weakAll st md xs) (λs=>XcD cx s g ⟨md,F,true⟩ f ts xs):=by
 simp only[XcE,if_true,Xf]
 cases weakAll st md xs<;>rfl
def rwK(cx:Cx)(st:St)(g:Nat)(fs:FS)(f:Operand)(ts:List TypeId)(xs:List Operand):Option (Nat×Nat)->Option (AV×St)
 | some (k,n)=>Xdm cx st g fs k n f ts xs
 | none=>XcC cx st g fs f ts xs
def Xna(g:Nat)(md:List Md)(F:List AV->Option (AV×List AV))(b:Bool)(f:Operand)(ts:List TypeId)(xs:List Operand):XcD cx st g ⟨md,F,b⟩ f ts xs=rwK cx st g ⟨md,F,b⟩ f ts xs (Xdk 0 md):=by
 unfold XcD rwK
 simp only
 cases Xdk 0 md with
 | none=>rfl
 | some p=>rfl
def Xk0(g:Nat)(fs:FS)(f:Operand)(ts:List TypeId)(xs:List Operand)(k n:Nat):rwK cx st g fs f ts xs (some (k,n))=Xdm cx st g fs k n f ts xs:=nr rfl
def Xk1(g:Nat)(fs:FS)(f:Operand)(ts:List TypeId)(xs:List Operand):rwK cx st g fs f ts xs none=XcC cx st g fs f ts xs:=nr rfl
def Xk2(k:Nat):Xdk k []=none:=nr rfl
def Xnb(k n:Nat)(ms:List Md):Xdk k (.ro n :: ms)=Xdk (k+1) ms:=nr rfl
def Xnc(k:Nat)(ms:List Md):Xdk k (.mv :: ms)=Xdk (k+1) ms:=nr rfl
def Xnd(k n:Nat)(ms:List Md):Xdk k (.rw n :: ms)=some (k,n):=nr rfl
def inO(a:Option AV)(l:Option (List AV)):Option (List AV):=match a,l with
 | some a,some l=>some (a :: l)
 | _,_=>none
def Xk3(a:AV)(l:List AV):inO (some a) (some l)=some (a :: l):=nr rfl
def XhD(own:Bool)(av:Option (Bool×Nat))(ys:List (AV×List (Option (Pl×Bool)))):ZF own av st [] [] ys=some []:=nr rfl
def Xgk(own:Bool)(av:Option (Bool×Nat))(m:Md)(ms:List Md)(a:AV)(as:List AV)(ys:List (AV×List (Option (Pl×Bool)))):ZF own av st (m :: ms) (a :: as) ys=inO (Xa8 own av st m a (ys.headD (.u,[]))) (ZF own av st ms as ys.tail):=by
 simp only[ZF,inO]
 cases Xa8 own av st m a (ys.headD (.u,[])) with
 | none=>rfl
 | some b=>simp only; cases ZF own av st ms as ys.tail<;>rfl
def Xk4(own:Bool)(av:Option (Bool×Nat))(n:Nat)(a:AV)(y:AV×List (Option (Pl×Bool))):Xa8 own av st (.ro n) a y=QB own av st a:=nr rfl
def Xk5(own:Bool)(av:Option (Bool×Nat))(a:AV)(x:AV)(l:List (Option (Pl×Bool))):Xa8 own av st .mv a (x,l)=some x:=nr rfl
def rwB(n:Nat)(pl:Pl)(w:Bool)(cells:List AV):Option AV:=if(w&&decide (pl.c+n<=cells.length)&&((cells.drop pl.c).take n).all Yg)=true then some (.agg ((cells.drop pl.c).take n)) else none
def Xk6(own:Bool)(av:Option (Bool×Nat))(n:Nat)(pl:Pl)(y:AV×List (Option (Pl×Bool))):Xa8 own av st (.rw n) (.p pl) y=Xf (node st pl) (rwB n pl (XV st pl)):=by
 simp only[Xa8,Xf,rwB]
 cases node st pl<;>rfl
def rwP(cx:Cx)(st:St)(fs:FS)(as:List AV)(k n:Nat):Option AV->Option (AV×St)
 | some (.p pl)=>Xdx cx st fs as k n pl
 | _=>none
def Xru(fs:FS)(as:List AV)(k n:Nat)(pl:Pl):rwP cx st fs as k n (some (.p pl))=Xdx cx st fs as k n pl:=nr rfl
def Xne(g:Nat)(fs:FS)(k n:Nat)(f:Operand)(ts:List TypeId)(xs:List Operand):Xdm cx st g fs k n f ts xs=Xf (UI cx st f ts xs) (λp=>if p.1=g/\Xdl k fs.md=true then rwP cx st fs p.2 k n p.2[k]? else none):=by
 simp only[Xdm,Xf]
 cases UI cx st f ts xs with
 | none=>rfl
 | some p =>
  obtain⟨g',as⟩:=p
  simp only
  split
  ·cases as[k]? with
   | none=>rfl
   | some a=>cases a<;>rfl
  ·rfl
def rwA(st:St)(pl:Pl)(n:Nat)(r:AV):Option AV->Option (AV×St)
 | some (.agg cs)=>Xf (node st pl) (λcells=>some (r,(Xm st pl (cells.take pl.c++cs++cells.drop (pl.c+n))).cut pl n))
 | _=>none
def Xnf(pl:Pl)(n:Nat)(r:AV)(cs:List AV):rwA st pl n r (some (.agg cs))=Xf (node st pl) (λcells=>some (r,(Xm st pl (cells.take pl.c++cs++cells.drop (pl.c+n))).cut pl n)):=nr rfl
def rwR(st:St)(pl:Pl)(k n:Nat)(p:AV×List AV):Option (AV×St):=rwA st pl n p.1 p.2[k]?
def Xqk(pl:Pl)(k n:Nat)(r:AV)(os:List AV):rwR st pl k n (r,os)=rwA st pl n r os[k]?:=nr rfl
def Xk7(md:List Md)(F:List AV->Option (AV×List AV))(b:Bool)(as:List AV)(k n:Nat)(pl:Pl):Xdx cx st ⟨md,F,b⟩ as k n pl=Xf (ZF (!b) (some (pl.e,pl.r)) st md as []) (λbs=>Xf (F bs) (rwR st pl k n)):=by
 simp only[Xdx,Xf,rwR]
 cases ZF (!b) (some (pl.e,pl.r)) st md as [] with
 | none=>rfl
 | some bs =>
  simp only
  cases F bs with
  | none=>rfl
  | some p =>
   obtain⟨r,os⟩:=p
   simp only[rwA]
   cases os[k]? with
   | none=>rfl
   | some a =>
    cases a<;>try rfl
    simp only[Xf]
    cases node st pl<;>rfl
def XhE(m:Md)(ms:List Md):Xdl 0 (m :: ms)=ms.all ZS:=nr rfl
def XhF(k n:Nat)(ms:List Md):Xdl (k+1) (.ro n :: ms)=Xdl k ms:=nr rfl
def Xgl(xs:List Operand):weakAll st [] xs=some st:=by cases xs<;>rfl
def XhG(n:Nat)(ms:List Md)(x:Operand)(xs:List Operand):weakAll st (.ro n :: ms) (x :: xs)=Xf (weakArg st x) (λs=>weakAll s ms xs):=by
 simp only[weakAll,Xf]; cases weakArg st x<;>rfl
def XhH(n:Nat)(ms:List Md)(x:Operand)(xs:List Operand):weakAll st (.rw n :: ms) (x :: xs)=weakAll st ms xs:=by simp only[weakAll]
def XhI(ms:List Md)(x:Operand)(xs:List Operand):weakAll st (.mv :: ms) (x :: xs)=weakAll st ms xs:=by simp only[weakAll]
def Xac(st:St)(x:Operand):AV->Option St
 | .agg cs=>QA x cs.length 0 st
 | a=>weakLeaf st a
def Xjl(x:Operand):weakArg st x=Xac st x (view st x):=by simp only[weakArg,Xac]; cases view st x<;>rfl
def Xfk(x:Operand)(j:Nat):QA x 0 j st=some st:=nr rfl
def Xng(x:Operand)(n j:Nat)(st:St):AV->Option St
 | .agg cs=>Xf cs[j]? (λa=>Xf (weakLeaf st a) (λs=>QA x n (j+1) s))
 | _=>none
def Xjm(x:Operand)(n j:Nat)(cs:List AV):Xng x n j st (.agg cs)=Xf cs[j]? (λa=>Xf (weakLeaf st a) (λs=>QA x n (j+1) s)):=nr rfl
def Xfl(x:Operand)(n j:Nat):QA x (n+1) j st=Xng x n j st (view st x):=by
 simp only[QA,Xng]
 cases view st x with
 | agg cs =>
  simp only[Xf]
  cases cs[j]? with
  | none=>rfl
  | some a=>simp only; cases weakLeaf st a<;>rfl
 | _=>rfl
def Xjn(st:St)(pl:Pl)(z':Nat)(cells:List AV):Option AV->Option St
 | some (.sl .mut z es)=>if z'=z then(if XV st pl then some ((Xm st pl (cells.set pl.c (.sl .app z (XI es)))).filt (keepP pl.e pl.r pl.path pl.c 1) (keepP pl.e pl.r pl.path pl.c 1)) else none) else none
 | _=>some st
def Xnh(st:St)(pl:Pl)(z':Nat):Option (List AV)->Option St
 | some cells=>Xjn st pl z' cells cells[pl.c]?
 | none=>some st
def Xgm(pl:Pl)(z' lo n:Nat):weakLeaf st (.rf pl z' lo n)=Xnh st pl z' (node st pl):=by
 simp only[weakLeaf,Xnh]
 cases node st pl with
 | none=>rfl
 | some cells=>rfl
def XhJ(pl:Pl)(z':Nat)(cells:List AV):Xnh st pl z' (some cells)=Xjn st pl z' cells cells[pl.c]?:=nr rfl
def Xjo(pl:Pl)(z':Nat)(cells:List AV)(z:Nat)(es:List (List AV)):Xjn st pl z' cells (some (.sl .mut z es))=if z'=z then(if XV st pl=true then some ((Xm st pl (cells.set pl.c (.sl .app z (XI es)))).filt (keepP pl.e pl.r pl.path pl.c 1) (keepP pl.e pl.r pl.path pl.c 1)) else none) else none:=nr rfl
def Xk8(pl:Pl)(z':Nat)(cells:List AV)(z:Nat)(es:List (List AV)):Xjn st pl z' cells (some (.sl .ro z es))=some st:=nr rfl
def Xjp(pl:Pl)(z':Nat)(cells:List AV)(z:Nat)(es:List (List AV)):Xjn st pl z' cells (some (.sl .app z es))=some st:=nr rfl
def XqS(ys:List (AV×List (Option (Pl×Bool))))(st:St)(p:AV×List AV):Option (AV×St):=Xf (Y5 st p.2 ys) (λs=>some (p.1,s))
def Xjq(g:Nat)(md:List Md)(F:List AV->Option (AV×List AV))(b:Bool)(f:Operand)(ts:List TypeId)(xs:List Operand):XcC cx st g ⟨md,F,b⟩ f ts xs=Xf (Yh cx st md ts xs) (λp=>Xf (UI cx p.2 f ts xs) (λq=>if q.1=g/\(p.1.all λy=>y.2.all (Xil p.2))=true then Xf (ZF (!b) none p.2 md q.2 p.1) (λbs=>Xf (F bs) (XqS p.1 p.2)) else none)):=by
 simp only[XcC,Xf,XqS]
 cases Yh cx st md ts xs with
 | none=>rfl
 | some p =>
  obtain⟨ys,s⟩:=p
  simp only
  cases UI cx s f ts xs with
  | none=>rfl
  | some q =>
   obtain⟨g',as⟩:=q
   simp only[Xim]
   split
   ·cases ZF (!b) none s md as ys with
    | none=>rfl
    | some bs =>
     simp only
     cases F bs with
     | none=>rfl
     | some r =>
      obtain⟨v,os⟩:=r
      simp only
      cases Y5 s os ys<;>rfl
   ·rfl
def Xgn(ts:List TypeId)(xs:List Operand):Yh cx st [] ts xs=some ([],st):=by cases ts<;>cases xs<;>rfl
def Xjr(y:AV×List (Option (Pl×Bool)))(q:List (AV×List (Option (Pl×Bool)))×St):Option (List (AV×List (Option (Pl×Bool)))×St):=some (y :: q.1,q.2)
def Xk9(y:AV×List (Option (Pl×Bool)))(l:List (AV×List (Option (Pl×Bool))))(s:St):Xjr y (l,s)=some (y :: l,s):=nr rfl
def XhK(ms:List Md)(t:TypeId)(ts:List TypeId)(x:Operand)(xs:List Operand):Yh cx st (.mv :: ms) (t :: ts) (x :: xs)=Xf (outArg (zOf cx t) st x) (λp=>Xf (Yh cx p.2 ms ts xs) (Xjr p.1)):=by
 simp only[Yh,Md.isMv,if_true,Xf,Xjr]
 cases outArg (zOf cx t) st x with
 | none=>rfl
 | some p=>obtain⟨y,s⟩:=p; simp only; cases Yh cx s ms ts xs<;>rfl
def XhL(n:Nat)(ms:List Md)(t:TypeId)(ts:List TypeId)(x:Operand)(xs:List Operand):Yh cx st (.ro n :: ms) (t :: ts) (x :: xs)=Xf (Yh cx st ms ts xs) (Xjr (.u,[])):=by
 simp only[Yh,Md.isMv,Bool.false_eq_true,if_false,Xf,Xjr]
 cases Yh cx st ms ts xs<;>rfl
def XjJ(z:Nat)(st:St)(x:Operand):AV->Option ((AV×List (Option (Pl×Bool)))×St)
 | .agg cs=>match QG x cs.length 0 st with
  | some (ys,st')=>some ((.agg ys.1,ys.2),st')
  | none=>none
 | a=>match outLeaf st (fix z a) with
  | some (y,st')=>some ((y.1,[y.2]),st')
  | none=>none
def Xla(z:Nat)(x:Operand):outArg z st x=XjJ z st x (view st x):=by
 simp only[outArg,XjJ]
 cases view st x<;>rfl
def Xni(p:(List AV×List (Option (Pl×Bool)))×St):Option ((AV×List (Option (Pl×Bool)))×St):=some ((.agg p.1.1,p.1.2),p.2)
def Xlb(l:List AV)(r:List (Option (Pl×Bool)))(s:St):Xni ((l,r),s)=some ((.agg l,r),s):=nr rfl
def Xgo(p:(AV×Option (Pl×Bool))×St):Option ((AV×List (Option (Pl×Bool)))×St):=some ((p.1.1,[p.1.2]),p.2)
def Xlc(a:AV)(r:Option (Pl×Bool))(s:St):Xgo ((a,r),s)=some ((a,[r]),s):=nr rfl
def Xld(z:Nat)(x:Operand)(cs:List AV):XjJ z st x (.agg cs)=Xf (QG x cs.length 0 st) Xni:=by
 simp only[XjJ,Xf,Xni]
 cases QG x cs.length 0 st<;>rfl
def Xnj(z:Nat)(x:Operand)(pl:Pl)(y lo n:Nat):XjJ z st x (.rf pl y lo n)=Xf (outLeaf st (.rf pl y lo n)) Xgo:=by
 simp only[XjJ,fix,Xf,Xgo]
 cases outLeaf st (.rf pl y lo n)<;>rfl
def Xnk(z:Nat)(x:Operand)(t:Tag)(y:Nat)(es:List (List AV)):XjJ z st x (.sl t y es)=Xf (outLeaf st (.sl t y es)) Xgo:=by
 simp only[XjJ,fix,Xf,Xgo]
 cases outLeaf st (.sl t y es)<;>rfl
def Xle(z:Nat)(x:Operand):XjJ z st x .nil=Xf (outLeaf st (fix z .nil)) Xgo:=by
 simp only[XjJ,Xf,Xgo]
 cases outLeaf st (fix z .nil)<;>rfl
def Xgp(x:Operand)(j:Nat):QG x 0 j st=some (([],[]),st):=nr rfl
def XqT(y:AV×Option (Pl×Bool))(q:(List AV×List (Option (Pl×Bool)))×St):Option ((List AV×List (Option (Pl×Bool)))×St):=some ((y.1 :: q.1.1,y.2 :: q.1.2),q.2)
def Xnl(a:AV)(r:Option (Pl×Bool))(l:List AV)(rs:List (Option (Pl×Bool)))(s:St):XqT (a,r) ((l,rs),s)=some ((a :: l,r :: rs),s):=nr rfl
def Xrv(x:Operand)(n j:Nat)(st:St):AV->Option ((List AV×List (Option (Pl×Bool)))×St)
 | .agg cs=>Xf cs[j]? (λa=>Xf (outLeaf st a) (λp=>Xf (QG x n (j+1) p.2) (XqT p.1)))
 | _=>none
def Xlf(x:Operand)(n j:Nat)(cs:List AV):Xrv x n j st (.agg cs)=Xf cs[j]? (λa=>Xf (outLeaf st a) (λp=>Xf (QG x n (j+1) p.2) (XqT p.1))):=nr rfl
def Xgq(x:Operand)(n j:Nat):QG x (n+1) j st=Xrv x n j st (view st x):=by
 simp only[QG,Xrv]
 cases view st x with
 | agg cs =>
  simp only[Xf,XqT]
  cases cs[j]? with
  | none=>rfl
  | some a =>
   simp only
   cases outLeaf st a with
   | none=>rfl
   | some p=>obtain⟨y,s⟩:=p; simp only; cases QG x n (j+1) s<;>rfl
 | _=>rfl
def Xrw(st:St)(pl:Pl)(z' lo n:Nat)(cells:List AV):Option AV->Option ((AV×Option (Pl×Bool))×St)
 | some (.sl .mut z es)=>if(lo=0/\n=es.length)/\z'=z then(if XV st pl=true then some ((.sl .mut z es,some (pl,whole st pl)),(Xm st pl (cells.set pl.c .u)).cut pl 1) else none) else none
 | _=>none
def Xlg(pl:Pl)(z' lo n:Nat)(cells:List AV)(z:Nat)(es:List (List AV)):Xrw st pl z' lo n cells (some (.sl .mut z es))=if(lo=0/\n=es.length)/\z'=z then(if XV st pl=true then some ((.sl .mut z es,some (pl,whole st pl)),(Xm st pl (cells.set pl.c .u)).cut pl 1) else none) else none:=nr rfl
def XhM(pl:Pl)(z' lo n:Nat):outLeaf st (.rf pl z' lo n)=Xf (node st pl) (λcells=>Xrw st pl z' lo n cells cells[pl.c]?):=by
 simp only[outLeaf,Xf]
 cases node st pl with
 | none=>rfl
 | some cells=>simp only[Xrw]; rfl
def Xrx(st:St)(z:Nat)(pl:Pl)(y lo n:Nat)(cells:List AV):Option AV->Option St
 | some (.sl .mut z' es)=>if((lo+n<=es.length/\z'=z)/\y=z)/\(XV st pl&&Xil ((Xm st pl (cells.set pl.c .u)).cut pl 1) (some (pl,whole st pl)))=true then XX ((Xm st pl (cells.set pl.c .u)).cut pl 1) (.sl .mut z (ZU z lo n es)) (some (pl,whole st pl)) else none
 | _=>none
def Xlh(z:Nat)(pl:Pl)(y lo n:Nat)(cells:List AV)(z':Nat)(es:List (List AV)):Xrx st z pl y lo n cells (some (.sl .mut z' es))=if((lo+n<=es.length/\z'=z)/\y=z)/\(XV st pl&&Xil ((Xm st pl (cells.set pl.c .u)).cut pl 1) (some (pl,whole st pl)))=true then XX ((Xm st pl (cells.set pl.c .u)).cut pl 1) (.sl .mut z (ZU z lo n es)) (some (pl,whole st pl)) else none:=nr rfl
def Xjs(z b:Nat)(ze:List AV)(pl:Pl)(y lo n:Nat):XbZ (.slice z b ze) st (.rf pl y lo n)=Xf (node st pl) (λcells=>Xrx st z pl y lo n cells cells[pl.c]?):=by
 simp only[XbZ,Xf]
 cases node st pl with
 | none=>rfl
 | some cells=>simp only[Xrx]; rfl
@[congr] def XlS{ti:TI}{a a':AV}(h:a=a'):XbZ ti st a=XbZ ti st a':=by rw[h]
def Xjt:Xil st none=true:=nr rfl
def Xju(pl:Pl):Xil st (some (pl,true))=true:=nr rfl
def okN(c:Nat):Option (List AV)->Bool
 | some cells=>decide (c<cells.length)
 | none=>false
def Xli(c:Nat)(cells:List AV):okN c (some cells)=decide (c<cells.length):=nr rfl
def XhN(pl:Pl):Xil st (some (pl,false))=((!pl.e||top (st.env pl.r))&&okN pl.c (node st pl)):=nr rfl
def Xgr(ys:List (AV×List (Option (Pl×Bool)))):Y5 st [] ys=some st:=by cases ys<;>rfl
def Xfm(o:AV)(os:List AV)(a:AV)(ys:List (AV×List (Option (Pl×Bool)))):Y5 st (o :: os) ((a,[]) :: ys)=Y5 st os ys:=nr rfl
def Xfn(o:AV)(os:List AV)(a:AV)(p:Option (Pl×Bool))(ps:List (Option (Pl×Bool)))(ys:List (AV×List (Option (Pl×Bool)))):Y5 st (o :: os) ((a,p :: ps) :: ys)=Xf (YK st (cellsOf o) (p :: ps)) (λs=>Y5 s os ys):=by
 simp only[Y5,Xf]
 cases YK st (cellsOf o) (p :: ps)<;>rfl
def Xgs(os:List AV):Y5 st os []=some st:=by cases os<;>rfl
def Xdr:YK st [] []=some st:=nr rfl
def Xc3(a:AV)(as:List AV)(p:Option (Pl×Bool))(ps:List (Option (Pl×Bool))):YK st (a :: as) (p :: ps)=Xf (XX st a p) (λs=>YK s as ps):=by
 simp only[YK,Xf]
 cases XX st a p<;>rfl
def Xet(a:AV):XX st a none=some st:=nr rfl
def Xnm(st:St)(r:Nat)(a:AV):AV->Option St
 | .u=>some (st.put r a)
 | _=>none
def Xnn(r:Nat)(a:AV):Xnm st r a .u=some (st.put r a):=nr rfl
def Xeu(pl:Pl)(t:Tag)(z:Nat)(es:List (List AV)):XX st (.sl t z es) (some (pl,true))=Xnm st pl.r (.sl t z es) (st.env pl.r):=by
 simp only[XX,Xnm]
 cases st.env pl.r<;>rfl
def Xno(st:St)(pl:Pl)(a:AV)(cells:List AV):Option AV->Option St
 | some .u=>if(XV st pl&&(!pl.e||top (st.env pl.r)))=true then some (Xm st pl (cells.set pl.c a)) else none
 | _=>none
def Xnp(pl:Pl)(a:AV)(cells:List AV):Xno st pl a cells (some .u)=if(XV st pl&&(!pl.e||top (st.env pl.r)))=true then some (Xm st pl (cells.set pl.c a)) else none:=nr rfl
def Xds(pl:Pl)(t:Tag)(z:Nat)(es:List (List AV)):XX st (.sl t z es) (some (pl,false))=Xf (node st pl) (λcells=>Xno st pl (.sl t z es) cells cells[pl.c]?):=by
 simp only[XX,Xf]
 cases node st pl with
 | none=>rfl
 | some cells =>
  simp only[Xno]
  cases cells[pl.c]? with
  | none=>rfl
  | some a=>cases a<;>rfl
def Xry(st:St)(p:AV×List AV):Option (AV×St):=some (p.1,st)
def Xnq(v:AV)(os:List AV):Xry st (v,os)=some (v,st):=nr rfl
def Xlj(g:Nat)(md:List Md)(F:List AV->Option (AV×List AV))(b:Bool)(f:Operand)(ts:List TypeId)(xs:List Operand)(h:md.all ZS=true) :
  XcC cx st g ⟨md,F,b⟩ f ts xs=Xf (UI cx st f ts xs) (λq=>if q.1=g then Xf (ZF (!b) none st md q.2 []) (λbs=>Xf (F bs) (Xry st)) else none):=by
 have h1:∀(ms:List Md) (ts:List TypeId) (xs:List Operand),ms.all ZS=true->∃ys,Yh cx st ms ts xs=some (ys,st)/\∀y∈ys,y=(AV.u,[]):=by
  intro ms
  induction ms with
  | nil=>intro ts xs _; exact⟨[],by simp[Yh],by simp⟩
  | cons m ms ih =>
   intro ts xs hm
   simp only[List.all_cons,Bool.and_eq_true] at hm
   cases ts with
   | nil=>exact⟨[],by simp[Yh],by simp⟩
   | cons t ts =>
    cases xs with
    | nil=>exact⟨[],by simp[Yh],by simp⟩
    | cons x xs =>
     obtain⟨ys,e1,e2⟩:=ih ts xs hm.2
     have:m.isMv=false:=by cases m<;>first | rfl | cases hm.1
     exact⟨(.u,[]) :: ys,by simp only[Yh,this,Bool.false_eq_true,if_false,e1],by simpa using e2⟩
 obtain⟨ys,e1,e2⟩:=h1 md ts xs h
 have h2:∀(ms:List Md) (as:List AV) (ys:List (AV×List (Option (Pl×Bool)))),ms.all ZS=true->(∀y∈ys,y=(AV.u,[]))->ZF (!b) none st ms as ys=ZF (!b) none st ms as []:=by
  intro ms
  induction ms with
  | nil=>intro as ys _ _; cases as<;>rfl
  | cons m ms ih =>
   intro as ys hm hy
   simp only[List.all_cons,Bool.and_eq_true] at hm
   cases as with
   | nil=>rfl
   | cons a as =>
    cases m with
    | ro n =>
     simp only[ZF,Xa8,List.tail_nil]
     rw[ih as ys.tail hm.2 (λy hy'=>hy y (List.mem_of_mem_tail hy'))]
    | _=>cases hm.1
 have h3:∀(os:List AV) (ys:List (AV×List (Option (Pl×Bool)))),(∀y∈ys,y=(AV.u,[]))->Y5 st os ys=some st:=by
  intro os
  induction os with
  | nil=>intro ys _; cases ys<;>rfl
  | cons o os ih =>
   intro ys hy
   cases ys with
   | nil=>rfl
   | cons y ys =>
    have:=hy y (by simp)
    subst this
    simp only[Y5]
    exact ih ys (λy hy'=>hy y (by simp[hy']))
 have h4:(ys.all λy=>y.2.all (Xil st))=true:=by
  rw[List.all_eq_true]
  intro y hy
  rw[e2 y hy]; rfl
 rw[Xjq,e1]
 simp only[QY,h4,and_true]
 congr 1
 funext q
 split
 ·rw[h2 md q.2 ys h e2]
  congr 1
  funext bs
  congr 1
  funext p
  simp only[XqS,Xry,h3 p.2 ys e2,QY]
 ·rfl
end
end Go.Vm
set_option autoImplicit true
set_option relaxedAutoImplicit true
namespace Go.Vm
def k0:XW q .u=.u :=nr rfl
def k1:XW q .no=.no :=nr rfl
def k2:XW q .ub=.ub :=nr rfl
def k3:XW q (.b x)=(.b x) :=nr rfl
def k4:XW q (.i k n)=(.i k n) :=nr rfl
def k5:XW q (.s x)=(.s x) :=nr rfl
def k6:XW q .nil=.nil :=nr rfl
def k7:XW q (.rf pl y lo n)=(.rf pl y lo n) :=nr rfl
def k8:XW q (.p pl)=(.p pl) :=nr rfl
def k9:XW q (.pr cs)=(.pr cs) :=nr rfl
def k10:XW q .pn=.pn :=nr rfl
def k11:XW q (.fn f cs)=(.fn f cs) :=nr rfl
def k12:XW q (.fs cs)=(.fs cs) :=nr rfl
def k13:XW q (.agg cs)=(.agg cs) :=nr rfl
def k14:XW q (.tup cs)=(.tup cs) :=nr rfl
def k15:XW q (.sl .app z es)=.rf q z 0 es.length :=nr rfl
def k16:XW q (.sl .mut z es)=.rf q z 0 es.length :=nr rfl
def k17:XW q (.sl .ro z es)=.sl .ro z es :=nr rfl
def UW(x:Nat)(a:AV):AV :=match a with
  | .agg cs => .agg (YF ⟨true,x,[],0⟩ 0 cs)
  | .tup _ => .u
  | a => XW ⟨true,x,[],0⟩ a
def k18:view st (.tmp x)=UW x (st.env x) :=nr rfl
def k19:view st (.const v)=Xg8 v :=nr rfl
def k20:view st (.func f)=.fn f [] :=nr rfl
def k21:UW x .u=.u :=nr rfl
def k22:UW x .no=.no :=nr rfl
def k23:UW x .ub=.ub :=nr rfl
def k24:UW x (.i k n)=(.i k n) :=nr rfl
def k25:UW x .nil=.nil :=nr rfl
def k26:UW x (.rf pl y lo n)=(.rf pl y lo n) :=nr rfl
def k27:UW x (.p pl)=(.p pl) :=nr rfl
def k28:UW x (.pr cs)=(.pr cs) :=nr rfl
def k29:UW x .pn=.pn :=nr rfl
def k30:UW x (.fn f cs)=(.fn f cs) :=nr rfl
def k31:UW x (.fs cs)=(.fs cs) :=nr rfl
def k32:UW x (.agg cs)=.agg (YF ⟨true,x,[],0⟩ 0 cs) :=nr rfl
def k33:UW x (.tup cs)=.u :=nr rfl
def k34:UW x (.b y)=.b y :=nr rfl
def k35:UW x (.s y)=.s y :=nr rfl
def k36:UW x (.sl .app z es)=.rf ⟨true,x,[],0⟩ z 0 es.length :=nr rfl
def k37:UW x (.sl .mut z es)=.rf ⟨true,x,[],0⟩ z 0 es.length :=nr rfl
def k38:UW x (.sl .ro z es)=.sl .ro z es :=nr rfl
def k39:YF q j []=[] :=nr rfl
def k40:YF q j (a :: l)=XW {q with c :=j} a :: YF q (j+1) l :=nr rfl
def k41:Qr .u=false :=nr rfl
def k42:Qr .no=false :=nr rfl
def k43:Qr .ub=false :=nr rfl
def k44:Qr (.b x)=false :=nr rfl
def k45:Qr (.i k n)=false :=nr rfl
def k46:Qr (.s x)=false :=nr rfl
def k47:Qr .nil=false :=nr rfl
def k48:Qr (.sl t z es)=true :=nr rfl
def k49:Qr (.rf pl y lo n)=false :=nr rfl
def k50:Qr (.p pl)=false :=nr rfl
def k51:Qr (.pr cs)=false :=nr rfl
def k52:Qr .pn=false :=nr rfl
def k53:Qr (.fn f cs)=false :=nr rfl
def k54:Qr (.fs cs)=false :=nr rfl
def k55:Qr (.agg cs)=false :=nr rfl
def k56:Qr (.tup cs)=false :=nr rfl
def k57:XaS .u=none :=nr rfl
def k58:XaS .no=none :=nr rfl
def k59:XaS .ub=none :=nr rfl
def k60:XaS (.b x)=none :=nr rfl
def k61:XaS (.i k n)=none :=nr rfl
def k62:XaS (.s x)=none :=nr rfl
def k63:XaS .nil=none :=nr rfl
def k64:XaS (.sl t z es)=none :=nr rfl
def k65:XaS (.rf pl y lo n)=none :=nr rfl
def k66:XaS (.p pl)=none :=nr rfl
def k67:XaS (.pr cs)=none :=nr rfl
def k68:XaS .pn=none :=nr rfl
def k69:XaS (.fn f cs)=none :=nr rfl
def k70:XaS (.fs cs)=none :=nr rfl
def k71:XaS (.agg cs)=none :=nr rfl
def k72:npP md st .u=none :=nr rfl
def k73:npP md st .no=none :=nr rfl
def k74:npP md st .ub=none :=nr rfl
def k75:npP md st (.b x)=none :=nr rfl
def k76:npP md st (.i k n)=none :=nr rfl
def k77:npP md st (.s x)=none :=nr rfl
def k78:npP md st .nil=none :=nr rfl
def k79:npP md st (.sl t z es)=none :=nr rfl
def k80:npP md st (.rf pl y lo n)=none :=nr rfl
def k81:npP md st (.pr cs)=none :=nr rfl
def k82:npP md st .pn=none :=nr rfl
def k83:npP md st (.fn f cs)=none :=nr rfl
def k84:npP md st (.fs cs)=none :=nr rfl
def k85:npP md st (.agg cs)=none :=nr rfl
def k86:npP md st (.tup cs)=none :=nr rfl
def k87:Zk .u=false :=nr rfl
def k88:Zk .no=false :=nr rfl
def k89:Zk .ub=false :=nr rfl
def k90:Zk (.b x)=false :=nr rfl
def k91:Zk (.i k n)=false :=nr rfl
def k92:Zk (.s x)=false :=nr rfl
def k93:Zk .nil=false :=nr rfl
def k94:Zk (.sl t z es)=true :=nr rfl
def k95:Zk (.rf pl y lo n)=false :=nr rfl
def k96:Zk (.p pl)=false :=nr rfl
def k97:Zk (.pr cs)=false :=nr rfl
def k98:Zk .pn=false :=nr rfl
def k99:Zk (.fn f cs)=false :=nr rfl
def Xtv:Zk (.fs cs)=false :=nr rfl
def Xtw:Zk (.agg cs)=cs.any Qr :=nr rfl
def Xtx:Zk (.tup cs)=false :=nr rfl
def Xty:Xah .u=true :=nr rfl
def Xtz:Xah .no=false :=nr rfl
def XtA:Xah .ub=true :=nr rfl
def XtB:Xah (.b x)=true :=nr rfl
def XtC:Xah (.i k n)=true :=nr rfl
def XtD:Xah (.s x)=true :=nr rfl
def XtE:Xah .nil=true :=nr rfl
def XtF:Xah (.sl t z es)=true :=nr rfl
def XtG:Xah (.rf pl y lo n)=false :=nr rfl
def XtH:Xah (.p pl)=true :=nr rfl
def XtI:Xah (.pr cs)=true :=nr rfl
def XtJ:Xah .pn=true :=nr rfl
def XtK:Xah (.fn f cs)=false :=nr rfl
def XtL:Xah (.fs cs)=false :=nr rfl
def XtM:Xah (.agg cs)=false :=nr rfl
def XtN:Xah (.tup cs)=false :=nr rfl
def XtO:Yg .u=true :=nr rfl
def XtP:Yg .no=false :=nr rfl
def XtQ:Yg .ub=true :=nr rfl
def XtR:Yg (.b x)=true :=nr rfl
def XtS:Yg (.i k n)=true :=nr rfl
def XtT:Yg (.s x)=true :=nr rfl
def XtU:Yg .nil=true :=nr rfl
def XtV:Yg (.sl t z es)=true :=nr rfl
def XtW:Yg (.rf pl y lo n)=false :=nr rfl
def XtX:Yg (.p pl)=false :=nr rfl
def XtY:Yg (.pr cs)=true :=nr rfl
def XtZ:Yg .pn=true :=nr rfl
def Xt0:Yg (.fn f cs)=false :=nr rfl
def Xt1:Yg (.fs cs)=false :=nr rfl
def Xt2:Yg (.agg cs)=false :=nr rfl
def Xt3:Yg (.tup cs)=false :=nr rfl
def Xt4:top .u=false :=nr rfl
def Xt5:top .no=false :=nr rfl
def Xt6:top .ub=true :=nr rfl
def Xt7:top (.b x)=true :=nr rfl
def Xt8:top (.i k n)=true :=nr rfl
def Xt9:top (.s x)=true :=nr rfl
def Xua:top .nil=true :=nr rfl
def Xub:top (.sl t z es)=true :=nr rfl
def Xuc:top (.rf pl y lo n)=true :=nr rfl
def Xud:top (.p pl)=true :=nr rfl
def Xue:top (.pr cs)=true :=nr rfl
def Xuf:top .pn=true :=nr rfl
def Xug:top (.fn f cs)=true :=nr rfl
def Xuh:top (.fs cs)=true :=nr rfl
def Xui:top (.agg cs)=true :=nr rfl
def Xuj:top (.tup cs)=false :=nr rfl
def Xuk:Xdy .u=false :=nr rfl
def Xul:Xdy .no=false :=nr rfl
def Xum:Xdy .ub=false :=nr rfl
def Xun:Xdy (.b x)=false :=nr rfl
def Xuo:Xdy (.i k n)=false :=nr rfl
def Xup:Xdy (.s x)=false :=nr rfl
def Xuq:Xdy .nil=false :=nr rfl
def Xur:Xdy (.sl t z es)=false :=nr rfl
def Xus:Xdy (.rf pl y lo n)=false :=nr rfl
def Xut:Xdy (.p pl)=false :=nr rfl
def Xuu:Xdy (.pr cs)=false :=nr rfl
def Xuv:Xdy .pn=false :=nr rfl
def Xuw:Xdy (.fn f cs)=true :=nr rfl
def Xux:Xdy (.fs cs)=false :=nr rfl
def Xuy:Xdy (.agg cs)=false :=nr rfl
def Xuz:Xdy (.tup cs)=false :=nr rfl
def XuA:QL .u=false :=nr rfl
def XuB:QL .no=false :=nr rfl
def XuC:QL .ub=true :=nr rfl
def XuD:QL (.b x)=true :=nr rfl
def XuE:QL (.i k n)=true :=nr rfl
def XuF:QL (.s x)=true :=nr rfl
def XuG:QL .nil=true :=nr rfl
def XuH:QL (.sl t z es)=true :=nr rfl
def XuI:QL (.rf pl y lo n)=true :=nr rfl
def XuJ:QL (.p pl)=true :=nr rfl
def XuK:QL (.pr cs)=true :=nr rfl
def XuL:QL .pn=true :=nr rfl
def XuM:QL (.fn f cs)=true :=nr rfl
def XuN:QL (.fs cs)=true :=nr rfl
def XuO:QL (.agg cs)=false :=nr rfl
def XuP:QL (.tup cs)=false :=nr rfl
def XuQ:fsV len st i []=if i=len then some [] else none :=nr rfl
def fsK(x:Bool)(a:AV)(r:Option (List AV)):Option (List AV) :=if x then(match r with | some l => some (a :: l) | none => none) else none
def XuR:fsK true a (some l)=some (a :: l) :=nr rfl
def XuS:fsV len st i ((j,x) :: r)=if i=j then fsK (Xdy (view st x)) (view st x) (fsV len st (i+1) r) else none :=by simp only[fsV,fsK]; split<;>rfl
def XuT:cellsOf .u=[.u] :=nr rfl
def XuU:cellsOf .no=[.no] :=nr rfl
def XuV:cellsOf .ub=[.ub] :=nr rfl
def XuW:cellsOf (.b x)=[(.b x)] :=nr rfl
def XuX:cellsOf (.i k n)=[(.i k n)] :=nr rfl
def XuY:cellsOf (.s x)=[(.s x)] :=nr rfl
def XuZ:cellsOf .nil=[.nil] :=nr rfl
def Xu0:cellsOf (.sl t z es)=[(.sl t z es)] :=nr rfl
def Xu1:cellsOf (.rf pl y lo n)=[(.rf pl y lo n)] :=nr rfl
def Xu2:cellsOf (.p pl)=[(.p pl)] :=nr rfl
def Xu3:cellsOf (.pr cs)=[(.pr cs)] :=nr rfl
def Xu4:cellsOf .pn=[.pn] :=nr rfl
def Xu5:cellsOf (.fn f cs)=[(.fn f cs)] :=nr rfl
def Xu6:cellsOf (.fs cs)=[(.fs cs)] :=nr rfl
def Xu7:cellsOf (.agg cs)=cs :=nr rfl
def Xu8:cellsOf (.tup cs)=[(.tup cs)] :=nr rfl
def Xu9:plain .u=false :=nr rfl
def Xva:plain .no=false :=nr rfl
def Xvb:plain .ub=false :=nr rfl
def Xvc:plain (.b x)=true :=nr rfl
def Xvd:plain (.i k n)=true :=nr rfl
def Xve:plain (.s x)=true :=nr rfl
def Xvf:plain .nil=false :=nr rfl
def Xvg:plain (.rf pl y lo n)=false :=nr rfl
def Xvh:plain (.p pl)=false :=nr rfl
def Xvi:plain (.pr cs)=false :=nr rfl
def Xvj:plain .pn=true :=nr rfl
def Xvk:plain (.fn f cs)=false :=nr rfl
def Xvl:plain (.fs cs)=false :=nr rfl
def Xvm:plain (.agg cs)=false :=nr rfl
def Xvn:plain (.tup cs)=false :=nr rfl
def Xvo:plain (.sl .ro z es)=true :=nr rfl
def Xvp:fix m .u=.u :=nr rfl
def Xvq:fix m .no=.no :=nr rfl
def Xvr:fix m .ub=.ub :=nr rfl
def Xvs:fix m (.b x)=(.b x) :=nr rfl
def Xvt:fix m (.i k n)=(.i k n) :=nr rfl
def Xvu:fix m (.s x)=(.s x) :=nr rfl
def Xvv:fix m (.sl t z es)=(.sl t z es) :=nr rfl
def Xvw:fix m (.rf pl y lo n)=(.rf pl y lo n) :=nr rfl
def Xvx:fix m (.p pl)=(.p pl) :=nr rfl
def Xvy:fix m (.pr cs)=(.pr cs) :=nr rfl
def Xvz:fix m .pn=.pn :=nr rfl
def XvA:fix m (.fn f cs)=(.fn f cs) :=nr rfl
def XvB:fix m (.fs cs)=(.fs cs) :=nr rfl
def XvC:fix m (.agg cs)=(.agg cs) :=nr rfl
def XvD:fix m (.tup cs)=(.tup cs) :=nr rfl
def XvE:fix 0 .nil=.nil :=nr rfl
def XvF:fix (m+1) .nil=.sl .mut (m+1) [] :=nr rfl
def XvG:fix 1 .nil=.sl .mut 1 [] :=nr rfl
def XvH:fix 2 .nil=.sl .mut 2 [] :=nr rfl
def XvI:fix 3 .nil=.sl .mut 3 [] :=nr rfl
def XvJ:fix 4 .nil=.sl .mut 4 [] :=nr rfl
def XvK:fix 5 .nil=.sl .mut 5 [] :=nr rfl
def XvL:fix 6 .nil=.sl .mut 6 [] :=nr rfl
def XvM:fix 7 .nil=.sl .mut 7 [] :=nr rfl
def XvN:fix 8 .nil=.sl .mut 8 [] :=nr rfl
def XvO:fix 9 .nil=.sl .mut 9 [] :=nr rfl
def XvP:fix 10 .nil=.sl .mut 10 [] :=nr rfl
def XvQ:fix 11 .nil=.sl .mut 11 [] :=nr rfl
def XvR:filt kp kr .u=.u :=nr rfl
def XvS:filt kp kr .no=.no :=nr rfl
def XvT:filt kp kr .ub=.ub :=nr rfl
def XvU:filt kp kr (.b x)=(.b x) :=nr rfl
def XvV:filt kp kr (.i k n)=(.i k n) :=nr rfl
def XvW:filt kp kr (.s x)=(.s x) :=nr rfl
def XvX:filt kp kr .nil=.nil :=nr rfl
def XvY:filt kp kr (.sl t z es)=(.sl t z es) :=nr rfl
def XvZ:filt kp kr (.pr cs)=(.pr cs) :=nr rfl
def Xv0:filt kp kr .pn=.pn :=nr rfl
def Xv1:filt kp kr (.fn f cs)=.fn f (Yd kp kr cs) :=nr rfl
def Xv2:filt kp kr (.fs cs)=.fs (Yd kp kr cs) :=nr rfl
def Xv3:filt kp kr (.agg cs)=.agg (Yd kp kr cs) :=nr rfl
def Xv4:filt kp kr (.tup cs)=.tup (Yd kp kr cs) :=nr rfl
def fA(b:Bool)(a:AV):AV :=if b then a else .u
def Xv5:fA true a=a :=nr rfl
def Xv6:fA false a=.u :=nr rfl
def Xv7:filt kp kr (.p q)=fA (kp q) (.p q) :=nr rfl
def Xv8:filt kp kr (.rf q y lo n)=fA (kr q) (.rf q y lo n) :=nr rfl
def Xv9:Yd kp kr []=[] :=nr rfl
def Xwa:Yd kp kr (a :: l)=filt kp kr a :: Yd kp kr l :=nr rfl
def Xwb:Yu st .u=some (.u,st) :=nr rfl
def Xwc:Yu st .no=some (.no,st) :=nr rfl
def Xwd:Yu st .ub=some (.ub,st) :=nr rfl
def Xwe:Yu st (.b x)=some ((.b x),st) :=nr rfl
def Xwf:Yu st (.i k n)=some ((.i k n),st) :=nr rfl
def Xwg:Yu st (.s x)=some ((.s x),st) :=nr rfl
def Xwh:Yu st .nil=some (.nil,st) :=nr rfl
def Xwi:Yu st (.sl t z es)=some ((.sl t z es),st) :=nr rfl
def Xwj:Yu st (.rf pl y lo n)=takeRf st pl y lo n :=nr rfl
def Xwk:Yu st (.p pl)=some ((.p pl),st) :=nr rfl
def Xwl:Yu st (.pr cs)=some ((.pr cs),st) :=nr rfl
def Xwm:Yu st .pn=some (.pn,st) :=nr rfl
def Xwn:Yu st (.fn f cs)=some ((.fn f cs),st) :=nr rfl
def Xwo:Yu st (.fs cs)=some ((.fs cs),st) :=nr rfl
def Xwp:Yu st (.agg cs)=some ((.agg cs),st) :=nr rfl
def Xwq:Yu st (.tup cs)=none :=nr rfl
def Xwr:takeVal st .u=some (.u,st) :=nr rfl
def Xws:takeVal st .no=some (.no,st) :=nr rfl
def Xwt:takeVal st .ub=some (.ub,st) :=nr rfl
def Xwu:takeVal st (.b x)=some ((.b x),st) :=nr rfl
def Xwv:takeVal st (.i k n)=some ((.i k n),st) :=nr rfl
def Xww:takeVal st (.s x)=some ((.s x),st) :=nr rfl
def Xwx:takeVal st .nil=some (.nil,st) :=nr rfl
def Xwy:takeVal st (.sl t z es)=some ((.sl t z es),st) :=nr rfl
def Xwz:takeVal st (.rf pl y lo n)=takeRf st pl y lo n :=nr rfl
def XwA:takeVal st (.p pl)=some ((.p pl),st) :=nr rfl
def XwB:takeVal st (.pr cs)=some ((.pr cs),st) :=nr rfl
def XwC:takeVal st .pn=some (.pn,st) :=nr rfl
def XwD:takeVal st (.fn f cs)=some ((.fn f cs),st) :=nr rfl
def XwE:takeVal st (.fs cs)=some ((.fs cs),st) :=nr rfl
def XwF:takeVal st (.tup cs)=none :=nr rfl
def Xrz(x:Option (List AV×St)):Option (AV×St) :=match x with
  | some (cs,st) => some (.agg cs,st)
  | none => none
def XwG:takeVal st (.agg cs)=if cs.any XeB then Xrz (takeL st cs) else some (.agg cs,st) :=by simp only[takeVal,Xrz]; split<;>cases takeL st cs<;>rfl
def XwH:XeB .u=false :=nr rfl
def XwI:XeB .no=false :=nr rfl
def XwJ:XeB .ub=false :=nr rfl
def XwK:XeB (.b x)=false :=nr rfl
def XwL:XeB (.i k n)=false :=nr rfl
def XwM:XeB (.s x)=false :=nr rfl
def XwN:XeB .nil=false :=nr rfl
def XwO:XeB (.sl t z es)=false :=nr rfl
def XwP:XeB (.rf pl y lo n)=true :=nr rfl
def XwQ:XeB (.p pl)=false :=nr rfl
def XwR:XeB (.pr cs)=false :=nr rfl
def XwS:XeB .pn=false :=nr rfl
def XwT:XeB (.fn f cs)=false :=nr rfl
def XwU:XeB (.fs cs)=false :=nr rfl
def XwV:XeB (.agg cs)=false :=nr rfl
def XwW:XeB (.tup cs)=false :=nr rfl
def XwX:gone q=false :=nr rfl
def XwY:Xrz (some (cs,st))=some (.agg cs,st) :=nr rfl
def Xnr(a:AV)(x:Option (List AV×St)):Option (List AV×St) :=match x with
  | some (cs,st) => some (a :: cs,st)
  | none => none
def XwZ:Xnr a (some (cs,st))=some (a :: cs,st) :=nr rfl
def Xw0:takeL st []=some ([],st) :=nr rfl
def Xw1:takeL st (a :: l)=Xf (Yu st a) (λy => Xnr (filt gone gone y.1) (takeL y.2 l)) :=by simp only[takeL,Xf,Xnr]; cases Yu st a<;>rfl
def XhO(st:St)(x:Nat)(b:Bool)(a:AV):Option (AV×St) :=if b then takeVal (clear st x) (filt (XK true x) (XK true x) a) else takeVal st a
@[congr] def Xns{st:St}{x:Nat}{b b':Bool}{a:AV}(h:b=b'):XhO st x b a=XhO st x b' a :=by rw[h]
def Xap(st:St)(x:Nat)(a:AV):Option (AV×St) :=XhO st x (Zk a) a
def Xw2:take st (.tmp x)=Xap st x (st.env x) :=nr rfl
def Xw3:Xap st x .u=some (.u,st) :=nr rfl
def Xw4:Xap st x .no=some (.no,st) :=nr rfl
def Xw5:Xap st x .ub=some (.ub,st) :=nr rfl
def Xw6:Xap st x (.b y)=some (.b y,st) :=nr rfl
def Xw7:Xap st x (.i k n)=some ((.i k n),st) :=nr rfl
def Xw8:Xap st x (.s y)=some (.s y,st) :=nr rfl
def Xw9:Xap st x .nil=some (.nil,st) :=nr rfl
def Xxa:Xap st x (.sl t z es)=some (.sl t z es,clear st x) :=nr rfl
def Xxb:Xap st x (.rf pl y lo n)=takeRf st pl y lo n :=nr rfl
def Xxc:Xap st x (.p pl)=some ((.p pl),st) :=nr rfl
def Xxd:Xap st x (.pr cs)=some ((.pr cs),st) :=nr rfl
def Xxe:Xap st x .pn=some (.pn,st) :=nr rfl
def Xxf:Xap st x (.fn f cs)=some ((.fn f cs),st) :=nr rfl
def Xxg:Xap st x (.fs cs)=some ((.fs cs),st) :=nr rfl
def Xxh:Xap st x (.agg cs)=XhO st x (cs.any Qr) (.agg cs) :=nr rfl
def Xxi:Xap st x (.tup cs)=none :=nr rfl
def Xxj:XhO st x true a=takeVal (clear st x) (filt (XK true x) (XK true x) a) :=nr rfl
def Xxk:XhO st x false a=takeVal st a :=nr rfl
def Xxl:take st (.const v)=some (Xg8 v,st) :=nr rfl
def Xxm:take st (.func f)=some (.fn f [],st) :=nr rfl
def Xop(b:Bool)(l:List (Nat×AV))(m:List (Nat×List AV))(d:Nat)(v:AV):St :=if b then⟨E ((d,filt (XK true d) (XK true d) v) :: XiQ (XK true d) (XK true d) l),B (XjH (XK true d) (XK true d) m)⟩ else⟨E ((d,v) :: l),B m⟩
@[congr] def Xoq{b b':Bool}{l:List (Nat×AV)}{m:List (Nat×List AV)}{d:Nat}{v v':AV}(h:b=b')(h':v=v'):Xop b l m d v=Xop b' l m d v' :=by rw[h,h']
def Xxn:St.put ⟨E l,B m⟩ d v=Xop (Zk (E l d)) l m d v :=by simp only[St.put,Xop,St.dropRoot,XcZ,Xf7]
def Xxo:Xop false l m d v=⟨E ((d,v) :: l),B m⟩ :=nr rfl
def Xxp:Xop true l m d v=⟨E ((d,filt (XK true d) (XK true d) v) :: XiQ (XK true d) (XK true d) l),B (XjH (XK true d) (XK true d) m)⟩ :=nr rfl
def Xxq:St.put? st (some d) v=St.put st d v :=nr rfl
def Xxr:St.put? st none v=st :=nr rfl
def isK(t k:Nat):Bool :=t==k
def Xxs:isK t k=(t==k) :=nr rfl
def eK(b:Bool)(v x:AV):AV :=if b then v else x
@[congr] def XqU{b b':Bool}{v x:AV}(h:b=b'):eK b v x=eK b' v x :=by rw[h]
def eB(b:Bool)(v x:List AV):List AV :=if b then v else x
@[congr] def XqV{b b':Bool}{v x:List AV}(h:b=b'):eB b v x=eB b' v x :=by rw[h]
def Xsz:eK true v x=v :=nr rfl
def XsA:eK false v x=x :=nr rfl
def XsB:eB true v x=v :=nr rfl
def XsC:eB false v x=x :=nr rfl
def Xxt:E ((k,v) :: r) t=eK (isK t k) v (E r t) :=by simp only[Xca,eK,isK,beq_iff_eq]
def Xxu:B ((k,v) :: r) t=eB (isK t k) v (B r t) :=by simp only[XcY,eB,isK,beq_iff_eq]
def Xxv:clear ⟨E l,B m⟩ x=⟨E ((x,.u) :: XiQ (XK true x) (XK true x) l),B (XjH (XK true x) (XK true x) m)⟩ :=by simp only[clear,St.dropRoot,XcZ,Xf7]
def Xxw:St.env ⟨f,g⟩=f :=nr rfl
def Xxx:St.bx ⟨f,g⟩=g :=nr rfl
def Xor(b:Bool)(l:List (Nat×AV))(m:List (Nat×List AV))(d:Nat)(cs:List AV):St :=if b then⟨E ((d,.p ⟨false,d,[],0⟩) :: l),B ((d,cs) :: m)⟩ else⟨E ((d,.p ⟨false,d,[],0⟩) :: XiQ (XK false d) (XK false d) l),B ((d,Yd (XK false d) (XK false d) cs) :: XjH (XK false d) (XK false d) m)⟩
@[congr] def Xos{b b':Bool}{l:List (Nat×AV)}{m:List (Nat×List AV)}{d:Nat}{cs cs':List AV}(h:b=b')(h':cs=cs'):Xor b l m d cs=Xor b' l m d cs' :=by rw[h,h']
def Xxy:newBox ⟨E l,B m⟩ d cs=Xor (B m d).isEmpty l m d cs :=by
  cases h:(B m d).isEmpty<;>simp only[newBox,Xor,h,if_true,if_false,Bool.false_eq_true,St.dropRoot,XcZ,Xf7,Xmw]
def Xxz:Qb st d (c :: cs)=if Zk (st.env d)=true then none else some (newBox st d (c :: cs)) :=nr rfl
def XxA:Xor true l m d cs=⟨E ((d,.p ⟨false,d,[],0⟩) :: l),B ((d,cs) :: m)⟩ :=nr rfl
def XxB:Xor false l m d cs=⟨E ((d,.p ⟨false,d,[],0⟩) :: XiQ (XK false d) (XK false d) l),B ((d,Yd (XK false d) (XK false d) cs) :: XjH (XK false d) (XK false d) m)⟩ :=nr rfl
def XxC:TI.size .bool=1 :=nr rfl
def XxD:TI.ag .bool=false :=nr rfl
def XxE:TI.z .bool=0 :=nr rfl
def XxF:TI.zero .bool=[.b false] :=nr rfl
def XxG:TI.size (.int k)=1 :=nr rfl
def XxH:TI.ag (.int k)=false :=nr rfl
def XxI:TI.z (.int k)=0 :=nr rfl
def XxJ:TI.zero (.int k)=[.i k 0] :=nr rfl
def XxK:TI.size .str=1 :=nr rfl
def XxL:TI.ag .str=false :=nr rfl
def XxM:TI.z .str=0 :=nr rfl
def XxN:TI.zero .str=[.s ⟨#[]⟩] :=nr rfl
def XxO:TI.size .ptr=1 :=nr rfl
def XxP:TI.ag .ptr=false :=nr rfl
def XxQ:TI.z .ptr=0 :=nr rfl
def XxR:TI.zero .ptr=[.pn] :=nr rfl
def XxS:TI.size .fn=1 :=nr rfl
def XxT:TI.ag .fn=false :=nr rfl
def XxU:TI.z .fn=0 :=nr rfl
def XxV:TI.zero .fn=[.u] :=nr rfl
def XxW:TI.size (.slice z b w)=1 :=nr rfl
def XxX:TI.ag (.slice z b w)=false :=nr rfl
def XxY:TI.z (.slice z b w)=z :=nr rfl
def XxZ:TI.zero (.slice z b w)=[.sl .mut z []] :=nr rfl
def Xx0:TI.size (.struct n fl w)=n :=nr rfl
def Xx1:TI.ag (.struct n fl w)=true :=nr rfl
def Xx2:TI.z (.struct n fl w)=0 :=nr rfl
def Xx3:TI.zero (.struct n fl w)=w :=nr rfl
def Xx4:TI.size (.array n z ag w)=n*z :=nr rfl
def Xx5:TI.ag (.array n z ag w)=true :=nr rfl
def Xx6:TI.z (.array n z ag w)=0 :=nr rfl
def Xx7:TI.zero (.array n z ag w)=w :=nr rfl
def zK(x:Option TI):Nat :=match x with
  | some ti => ti.z
  | none => 0
def Xx8:zOf cx t=zK (cx.T t) :=nr rfl
def Xx9:zK (some ti)=ti.z :=nr rfl
def Xya:zK none=0 :=nr rfl
def XrA(x:Option (Nat×Nat×Bool×Nat))(a:AV):Option AV :=match x with
  | some (off,_) => match a with
    | .p q => some (.p {q with c :=q.c+off})
    | .pr q => some (.pr (q.drop off))
    | _ => none
  | none => none
def Xyb:Xa9 (.struct n fl w) f a=XrA (fl[f]?) a :=nr rfl
def Xyc:XrA (some (off,y)) (.p ⟨e,r,path,c⟩)=some (.p ⟨e,r,path,c+off⟩) :=nr rfl
def Xyd:XrA (some (off,y)) (.pr q)=some (.pr (q.drop off)) :=nr rfl
def Xye:List.drop 0 l=l :=nr rfl
def Xyf:List.drop (n+1) (a :: l)=List.drop n l :=nr rfl
def Xyg:List.take 0 l=[] :=List.take_zero
def Xyh:List.take (n+1) (a :: l)=a :: List.take n l :=nr rfl
def Xyi:List.drop n ([]:List AV)=[] :=List.drop_nil
def XsD(x:Option (Nat×Nat×Bool×Nat))(cs:List AV):Option AV :=match x with
  | some (off,n,ag,_) => if off+n<=cs.length then some (if ag then .agg ((cs.drop off).take n) else cs.getD off .u) else none
  | none => none
def Xyj:XeJ (.struct m fl w) f (.agg cs)=XsD (fl[f]?) cs :=nr rfl
def Xnt(ti:TI)(pl:Pl)(cells:List AV):Option AV :=if pl.c+ti.size<=cells.length then(if ti.ag then some (.agg (YF pl pl.c ((cells.drop pl.c).take ti.size))) else some (XW pl (cells.getD pl.c .u))) else none
def Xyk:loadAt st ti (.p pl)=Xf (node st pl) (Xnt ti pl) :=by simp only[loadAt,Xf,Xnt]; cases node st pl<;>rfl
def Xyl:loadAt st ti (.pr cs)=if ti.size<=cs.length then(if ti.ag then some (.agg (cs.take ti.size)) else some (cs.getD 0 .u)) else none :=nr rfl
def Xym:node st ⟨e,r,path,c⟩=nav (Xb st e r) path :=nr rfl
def Xyn:XV st ⟨e,r,path,c⟩=wrt (Xb st e r) path :=nr rfl
def Xyo:Xb st true r=cellsOf (st.env r) :=nr rfl
def Xyp:Xb st false r=st.bx r :=nr rfl
def Xyq:nav cs []=some cs :=nr rfl
def Xyr:wrt cs []=true :=nr rfl
def XrB(x:Option (Tag×List AV))(ps:List (Nat×Nat×Nat)):Option (List AV) :=match x with
  | some (_,row) => nav row ps
  | none => none
def Xql(x:Option (Tag×List AV))(ps:List (Nat×Nat×Nat)):Bool :=match x with
  | some (.mut,row) => wrt row ps
  | _ => false
def XhP(i z:Nat)(a:Option AV):Option (Tag×List AV) :=match a with
  | some (.sl t z' es) => if z'=z then rowK t es[i]? else none
  | _ => none
  where rowK (t:Tag):Option (List AV)->Option (Tag×List AV)
  | some row => some (t,row)
  | none => none
def Xys:nav cs ((c,i,z) :: ps)=XrB (ZE cs c i z) ps :=by simp only[nav,XrB]; cases ZE cs c i z<;>rfl
def Xyt:XrB (some (t,row)) ps=nav row ps :=nr rfl
def Xyu:wrt cs ((c,i,z) :: ps)=Xql (ZE cs c i z) ps :=by
  simp only[wrt,Xql]
  cases ZE cs c i z with
  | none => rfl
  | some x => obtain⟨t,row⟩ :=x; cases t<;>rfl
def Xyv:Xql (some (.mut,row)) ps=wrt row ps :=nr rfl
def Xyw:Xql (some (.ro,row)) ps=false :=nr rfl
def Xyx:Xql (some (.app,row)) ps=false :=nr rfl
def Xyy:ZE cs c i z=XhP i z cs[c]? :=by
  simp only[ZE,XhP]
  cases cs[c]? with
  | none => rfl
  | some a =>
    cases a<;>rfl
def Xyz:XhP i z (some (.sl t z es))=XhP.rowK t es[i]? :=by simp only[XhP,if_true]
def XyA:XhP.rowK t (some row)=some (t,row) :=nr rfl
def XyB:X7 cs [] new=new :=nr rfl
def XrC(cs:List AV)(c i:Nat)(ps:List (Nat×Nat×Nat))(new:List AV)(a:Option AV):List AV :=match a with
  | some (.sl t z es) => cs.set c (.sl t z (es.set i (X7 (es.getD i []) ps new)))
  | _ => cs
def XyC:X7 cs ((c,i,z) :: ps) new=XrC cs c i ps new cs[c]? :=by
  simp only[X7,XrC]
  cases cs[c]? with
  | none => rfl
  | some a => cases a<;>rfl
def XyD:XrC cs c i ps new (some (.sl t z es))=cs.set c (.sl t z (es.set i (X7 (es.getD i []) ps new))) :=nr rfl
def XyE:List.set (a :: l) 0 b=b :: l :=nr rfl
def XyF:List.set (a :: l) (n+1) b=a :: List.set l n b :=nr rfl
def XyG:Xm ⟨E l,B m⟩ ⟨false,r,path,c⟩ new=⟨E l,B ((r,X7 (B m r) path new) :: m)⟩ :=by simp only[Xm,Xmw,Bool.false_eq_true,if_false]
def XyH:Xm ⟨E l,B m⟩ ⟨true,r,path,c⟩ new=⟨E ((r,Qy (E l r) (X7 (cellsOf (E l r)) path new)) :: l),B m⟩ :=by simp only[Xm,Xf7,if_true,Xb]
def XyI:Qy .u new=new.headD .u :=nr rfl
def XyJ:Qy .no new=new.headD .u :=nr rfl
def XyK:Qy .ub new=new.headD .u :=nr rfl
def XyL:Qy (.b x) new=new.headD .u :=nr rfl
def XyM:Qy (.i k n) new=new.headD .u :=nr rfl
def XyN:Qy (.s x) new=new.headD .u :=nr rfl
def XyO:Qy .nil new=new.headD .u :=nr rfl
def XyP:Qy (.sl t z es) new=new.headD .u :=nr rfl
def XyQ:Qy (.rf pl y lo n) new=new.headD .u :=nr rfl
def XyR:Qy (.p pl) new=new.headD .u :=nr rfl
def XyS:Qy (.pr cs) new=new.headD .u :=nr rfl
def XyT:Qy .pn new=new.headD .u :=nr rfl
def XyU:Qy (.fn f cs) new=new.headD .u :=nr rfl
def XyV:Qy (.fs cs) new=new.headD .u :=nr rfl
def XyW:Qy (.agg cs) new=.agg new :=nr rfl
def XyX:Qy (.tup cs) new=new.headD .u :=nr rfl
def XyY:List.headD (a :: l) AV.u=a :=nr rfl
def XyZ:Uv st (.slice z b w) x (.i k n)=indexAddr st z x n :=nr rfl
def iaR(es:List (List AV)):Option Nat->Option AV
  | some j => some (.pr (es.getD j []))
  | none => none
def iaF(es:List AV):Option Nat->Option AV
  | some j => some (.pr [Vm.filt gone gone (es.getD j .u)])
  | none => none
def iaM(t:Tag)(pl:Pl)(z lo:Nat)(es:List (List AV)):Option Nat->Option AV
  | some j => (match t with
    | .mut => some (.p ⟨pl.e,pl.r,pl.path++[(pl.c,lo+j,z)],0⟩)
    | _ => some (.pr (Ym (es.getD (lo+j) []))))
  | none => none
def iaC(pl:Pl)(z zr lo n:Nat)(i:Int):Option AV->Option AV
  | some (.sl t z' es) => if(z=z'/\zr=z)/\lo+n<=es.length then iaM t pl z lo es (Z2 n i) else none
  | _ => none
def ixS(b:ByteArray):Option Nat->Option AV
  | some j => some (.i .u8 (b.data[j]?.getD 0).toNat)
  | none => none
def Xy0:iaR es (some j)=some (.pr (es.getD j [])) :=nr rfl
def Xy1:iaF es (some j)=some (.pr [Vm.filt gone gone (es.getD j .u)]) :=nr rfl
def Xy2:iaM .mut pl z lo es (some j)=some (.p ⟨pl.e,pl.r,pl.path++[(pl.c,lo+j,z)],0⟩) :=nr rfl
def Xy3:iaM .ro pl z lo es (some j)=some (.pr (Ym (es.getD (lo+j) []))) :=nr rfl
def Xy4:iaM .app pl z lo es (some j)=some (.pr (Ym (es.getD (lo+j) []))) :=nr rfl
def Xy5:iaC pl z zr lo n i (some (.sl t z' es))=if(z=z'/\zr=z)/\lo+n<=es.length then iaM t pl z lo es (Z2 n i) else none :=nr rfl
def Xy6:ixS b (some j)=some (.i .u8 (b.data[j]?.getD 0).toNat) :=nr rfl
def Xy7:indexAddr st z (.sl .ro z' es) i=if z=z' then iaR es (Z2 es.length i) else none :=by
  by_cases h:z=z'
  · simp only[indexAddr,if_pos h]; cases Z2 es.length i<;>rfl
  · simp only[indexAddr,if_neg h]
def Xy8:indexAddr st z (.fs es) i=if z=1 then iaF es (Z2 es.length i) else none :=by
  by_cases h:z=1
  · simp only[indexAddr,if_pos h]; cases Z2 es.length i<;>rfl
  · simp only[indexAddr,if_neg h]
def Xy9:indexAddr st z (.rf pl zr lo n) i=Xf (node st pl) (λcells => iaC pl z zr lo n i cells[pl.c]?) :=by
  simp only[indexAddr,Xf]
  cases node st pl with
  | none => rfl
  | some cells =>
    simp only
    cases cells[pl.c]? with
    | none => rfl
    | some a =>
      cases a<;>rfl
def Xza:XaN (.array m z ag w) (.agg cs) (.i k n)=if z=1/\ag=false then Xin m cs n else none :=nr rfl
def Xzb:XcF 5 1 false=[(0,1,false,0),(1,1,false,0),(2,1,false,0),(3,1,false,0),(4,1,false,0)] :=nr rfl
def Xzc:XaN .str (.s b) (.i k n)=ixS b (Z2 b.size n) :=by simp only[XaN,ixS]; cases Z2 b.size n<;>rfl
def Xzd:Xeb .u=none :=nr rfl
def Xze:Xeb .no=none :=nr rfl
def Xzf:Xeb .ub=none :=nr rfl
def Xzg:Xeb (.b x)=none :=nr rfl
def Xzh:Xeb (.i k n)=none :=nr rfl
def Xzi:Xeb (.s x)=none :=nr rfl
def Xzj:Xeb .nil=none :=nr rfl
def Xzk:Xeb (.sl t z es)=none :=nr rfl
def Xzl:Xeb (.rf pl y lo n)=none :=nr rfl
def Xzm:Xeb (.p pl)=some (.p pl) :=nr rfl
def Xzn:Xeb (.pr cs)=some (.pr cs) :=nr rfl
def Xzo:Xeb .pn=none :=nr rfl
def Xzp:Xeb (.fn f cs)=none :=nr rfl
def Xzq:Xeb (.fs cs)=none :=nr rfl
def Xzr:Xeb (.agg cs)=none :=nr rfl
def Xzs:Xeb (.tup cs)=none :=nr rfl
def XrD(f:Nat)(cs xs:List AV):fnV (.fn f cs) xs=some (f,xs++cs) :=nr rfl
def Xzt:strip .u=.u :=nr rfl
def Xzu:strip .no=.u :=nr rfl
def Xzv:strip .ub=.ub :=nr rfl
def Xzw:strip (.b x)=(.b x) :=nr rfl
def Xzx:strip (.i k n)=(.i k n) :=nr rfl
def Xzy:strip (.s x)=(.s x) :=nr rfl
def Xzz:strip .nil=.nil :=nr rfl
def XzA:strip (.sl t z es)=.sl .ro z (XI es) :=nr rfl
def XzB:strip (.rf pl y lo n)=.u :=nr rfl
def XzC:strip (.p pl)=.u :=nr rfl
def XzD:strip (.pr cs)=(.pr cs) :=nr rfl
def XzE:strip .pn=.pn :=nr rfl
def XzF:strip (.fn f cs)=.u :=nr rfl
def XzG:strip (.fs cs)=.u :=nr rfl
def XzH:strip (.agg cs)=.u :=nr rfl
def XzI:strip (.tup cs)=.u :=nr rfl
def XzJ:XD .u=false :=nr rfl
def XzK:XD .no=false :=nr rfl
def XzL:XD .ub=false :=nr rfl
def XzM:XD (.b x)=false :=nr rfl
def XzN:XD (.i k n)=false :=nr rfl
def XzO:XD (.s x)=false :=nr rfl
def XzP:XD .nil=false :=nr rfl
def XzQ:XD (.rf pl y lo n)=false :=nr rfl
def XzR:XD (.p pl)=false :=nr rfl
def XzS:XD (.pr cs)=true :=nr rfl
def XzT:XD .pn=false :=nr rfl
def XzU:XD (.fn f cs)=true :=nr rfl
def XzV:XD (.fs cs)=true :=nr rfl
def XzW:XD (.agg cs)=XN cs :=nr rfl
def XzX:XD (.tup cs)=XN cs :=nr rfl
def XzY:XD (.sl .ro z es)=true :=nr rfl
def XzZ:XD (.sl .app z es)=true :=nr rfl
def Xz0:XD (.sl .mut z es)=XF es :=nr rfl
def Xz1:XN []=false :=nr rfl
def Xz2:XN (a :: l)=(XD a||XN l) :=nr rfl
def Xz3:YJ .u=true :=nr rfl
def Xz4:YJ .no=false :=nr rfl
def Xz5:YJ .ub=true :=nr rfl
def Xz6:YJ (.b x)=true :=nr rfl
def Xz7:YJ (.i k n)=true :=nr rfl
def Xz8:YJ (.s x)=true :=nr rfl
def Xz9:YJ .nil=true :=nr rfl
def XAa:YJ (.sl t z es)=true :=nr rfl
def XAb:YJ (.rf pl y lo n)=false :=nr rfl
def XAc:YJ (.p pl)=false :=nr rfl
def XAd:YJ (.pr cs)=true :=nr rfl
def XAe:YJ .pn=true :=nr rfl
def XAf:YJ (.fn f cs)=cs.all Zz :=nr rfl
def XAg:YJ (.fs cs)=false :=nr rfl
def XAh:YJ (.agg cs)=cs.all Yg :=nr rfl
def XAi:YJ (.tup cs)=false :=nr rfl
def XAj:Xdj ti0 E0 op0 .u a0=bin ti0 op0 .u a0 :=nr rfl
def XAk:Xdj ti0 E0 op0 .no a0=bin ti0 op0 .no a0 :=nr rfl
def XAl:Xdj ti0 E0 op0 .ub a0=bin ti0 op0 .ub a0 :=nr rfl
def XAm:Xdj ti0 E0 op0 (.b x) a0=bin ti0 op0 (.b x) a0 :=nr rfl
def XAn:Xdj ti0 E0 op0 (.i k n) a0=bin ti0 op0 (.i k n) a0 :=nr rfl
def XAo:Xdj ti0 E0 op0 (.s x) a0=bin ti0 op0 (.s x) a0 :=nr rfl
def XAp:Xdj ti0 E0 op0 .nil a0=bin ti0 op0 .nil a0 :=nr rfl
def XAq:Xdj ti0 E0 op0 (.sl t z es) a0=bin ti0 op0 (.sl t z es) a0 :=nr rfl
def XAr:Xdj ti0 E0 op0 (.rf pl y lo n) a0=bin ti0 op0 (.rf pl y lo n) a0 :=nr rfl
def XAs:Xdj ti0 E0 op0 (.p pl) a0=bin ti0 op0 (.p pl) a0 :=nr rfl
def XAt:Xdj ti0 E0 op0 (.pr cs) a0=bin ti0 op0 (.pr cs) a0 :=nr rfl
def XAu:Xdj ti0 E0 op0 .pn a0=bin ti0 op0 .pn a0 :=nr rfl
def XAv:Xdj ti0 E0 op0 (.fn f cs) a0=bin ti0 op0 (.fn f cs) a0 :=nr rfl
def XAw:Xdj ti0 E0 op0 (.fs cs) a0=bin ti0 op0 (.fs cs) a0 :=nr rfl
def XAx:Xdj ti0 E0 op0 (.tup cs) a0=bin ti0 op0 (.tup cs) a0 :=nr rfl
def eqR(op:BinOp)(e:Option Bool):Option AV :=match e with | some e => eqB op e | none => none
def XAy:Xdj ti0 (some ks) op0 (.agg a) (.agg b)=eqR op0 (YG ks a b) :=by simp only[Xdj,Xik,eqR]; cases YG ks a b<;>rfl
def XAz:eqR op (some e)=eqB op e :=nr rfl
def Xnu(p:Bool)(e:Option Bool):Option Bool :=match e with | some e => some (p&&e) | none => none
def XAA:Xnu p (some e)=some (p&&e) :=nr rfl
def XAB:YG [] [] []=some true :=nr rfl
def XAC:YG (0 :: ks) (.b x :: a) (.b y :: b)=Xnu (x==y) (YG ks a b) :=by simp only[YG,Xnu]; cases YG ks a b<;>rfl
def XAD:YG (1 :: ks) (.i k x :: a) (.i k y :: b)=Xnu (x==y) (YG ks a b) :=by simp only[YG,Xnu,if_true]; cases YG ks a b<;>rfl
def XAE:YG (2 :: ks) (.s x :: a) (.s y :: b)=Xnu (x.toList==y.toList) (YG ks a b) :=by simp only[YG,Xnu]; cases YG ks a b<;>rfl
def XAF:Zz .u=false :=nr rfl
def XAG:Zz .no=false :=nr rfl
def XAH:Zz .ub=false :=nr rfl
def XAI:Zz (.b x)=true :=nr rfl
def XAJ:Zz (.i k n)=true :=nr rfl
def XAK:Zz (.s x)=true :=nr rfl
def XAL:Zz .nil=false :=nr rfl
def XAM:Zz (.rf pl y lo n)=false :=nr rfl
def XAN:Zz (.p pl)=false :=nr rfl
def XAO:Zz (.pr cs)=true :=nr rfl
def XAP:Zz .pn=true :=nr rfl
def XAQ:Zz (.fn f cs)=false :=nr rfl
def XAR:Zz (.fs cs)=false :=nr rfl
def XAS:Zz (.agg cs)=false :=nr rfl
def XAT:Zz (.tup cs)=false :=nr rfl
def XAU:Zz (.sl .ro z es)=true :=nr rfl
def XAV:UH .u=Zz .u :=nr rfl
def XAW:UH .no=Zz .no :=nr rfl
def XAX:UH .ub=Zz .ub :=nr rfl
def XAY:UH (.b x)=Zz (.b x) :=nr rfl
def XAZ:UH (.i k n)=Zz (.i k n) :=nr rfl
def XA0:UH (.s x)=Zz (.s x) :=nr rfl
def XA1:UH .nil=Zz .nil :=nr rfl
def XA2:UH (.sl t z es)=Zz (.sl t z es) :=nr rfl
def XA3:UH (.rf pl y lo n)=Zz (.rf pl y lo n) :=nr rfl
def XA4:UH (.p pl)=Zz (.p pl) :=nr rfl
def XA5:UH (.pr cs)=Zz (.pr cs) :=nr rfl
def XA6:UH .pn=Zz .pn :=nr rfl
def XA7:UH (.fn f cs)=cs.all Zz :=nr rfl
def XA8:UH (.fs cs)=Zz (.fs cs) :=nr rfl
def XA9:UH (.agg cs)=Zz (.agg cs) :=nr rfl
def XBa:UH (.tup cs)=Zz (.tup cs) :=nr rfl
def XBb:Xai st d cs=if cs.all UH=true then some (st.put d (.pr cs)) else none :=nr rfl
def XBc:outLeaf st .u=if Yg .u=true then some ((.u,none),st) else none :=nr rfl
def XBd:outLeaf st .no=if Yg .no=true then some ((.no,none),st) else none :=nr rfl
def XBe:outLeaf st .ub=if Yg .ub=true then some ((.ub,none),st) else none :=nr rfl
def XBf:outLeaf st (.b x)=if Yg (.b x)=true then some (((.b x),none),st) else none :=nr rfl
def XBg:outLeaf st (.i k n)=if Yg (.i k n)=true then some (((.i k n),none),st) else none :=nr rfl
def XBh:outLeaf st (.s x)=if Yg (.s x)=true then some (((.s x),none),st) else none :=nr rfl
def XBi:outLeaf st .nil=if Yg .nil=true then some ((.nil,none),st) else none :=nr rfl
def XBj:outLeaf st (.sl t z es)=if Yg (.sl t z es)=true then some (((.sl t z es),none),st) else none :=nr rfl
def XBk:outLeaf st (.p pl)=if Yg (.p pl)=true then some (((.p pl),none),st) else none :=nr rfl
def XBl:outLeaf st (.pr cs)=if Yg (.pr cs)=true then some (((.pr cs),none),st) else none :=nr rfl
def XBm:outLeaf st .pn=if Yg .pn=true then some ((.pn,none),st) else none :=nr rfl
def XBn:outLeaf st (.fn f cs)=if Yg (.fn f cs)=true then some (((.fn f cs),none),st) else none :=nr rfl
def XBo:outLeaf st (.fs cs)=if Yg (.fs cs)=true then some (((.fs cs),none),st) else none :=nr rfl
def XBp:outLeaf st (.agg cs)=if Yg (.agg cs)=true then some (((.agg cs),none),st) else none :=nr rfl
def XBq:outLeaf st (.tup cs)=if Yg (.tup cs)=true then some (((.tup cs),none),st) else none :=nr rfl
def XBr:XX st .u (some (pl0,b0))=some st :=nr rfl
def XBs:XX st .no (some (pl0,b0))=some st :=nr rfl
def XBt:XX st .ub (some (pl0,b0))=some st :=nr rfl
def XBu:XX st (.b x) (some (pl0,b0))=some st :=nr rfl
def XBv:XX st (.i k n) (some (pl0,b0))=some st :=nr rfl
def XBw:XX st (.s x) (some (pl0,b0))=some st :=nr rfl
def XBx:XX st .nil (some (pl0,b0))=some st :=nr rfl
def XBy:XX st (.rf pl y lo n) (some (pl0,b0))=some st :=nr rfl
def XBz:XX st (.p pl) (some (pl0,b0))=some st :=nr rfl
def XBA:XX st (.pr cs) (some (pl0,b0))=some st :=nr rfl
def XBB:XX st .pn (some (pl0,b0))=some st :=nr rfl
def XBC:XX st (.fn f cs) (some (pl0,b0))=some st :=nr rfl
def XBD:XX st (.fs cs) (some (pl0,b0))=some st :=nr rfl
def XBE:XX st (.agg cs) (some (pl0,b0))=some st :=nr rfl
def XBF:XX st (.tup cs) (some (pl0,b0))=some st :=nr rfl
def XBG:weakLeaf st .u=some st :=nr rfl
def XBH:weakLeaf st .no=some st :=nr rfl
def XBI:weakLeaf st .ub=some st :=nr rfl
def XBJ:weakLeaf st (.b x)=some st :=nr rfl
def XBK:weakLeaf st (.i k n)=some st :=nr rfl
def XBL:weakLeaf st (.s x)=some st :=nr rfl
def XBM:weakLeaf st .nil=some st :=nr rfl
def XBN:weakLeaf st (.sl t z es)=some st :=nr rfl
def XBO:weakLeaf st (.p pl)=none :=nr rfl
def XBP:weakLeaf st (.pr cs)=some st :=nr rfl
def XBQ:weakLeaf st .pn=some st :=nr rfl
def XBR:weakLeaf st (.fn f cs)=none :=nr rfl
def XBS:weakLeaf st (.fs cs)=none :=nr rfl
def XBT:weakLeaf st (.agg cs)=none :=nr rfl
def XBU:weakLeaf st (.tup cs)=none :=nr rfl
def XBV:Xac st x0 .u=weakLeaf st .u :=nr rfl
def XBW:Xac st x0 .no=weakLeaf st .no :=nr rfl
def XBX:Xac st x0 .ub=weakLeaf st .ub :=nr rfl
def XBY:Xac st x0 (.b x)=weakLeaf st (.b x) :=nr rfl
def XBZ:Xac st x0 (.i k n)=weakLeaf st (.i k n) :=nr rfl
def XB0:Xac st x0 (.s x)=weakLeaf st (.s x) :=nr rfl
def XB1:Xac st x0 .nil=weakLeaf st .nil :=nr rfl
def XB2:Xac st x0 (.sl t z es)=weakLeaf st (.sl t z es) :=nr rfl
def XB3:Xac st x0 (.rf pl y lo n)=weakLeaf st (.rf pl y lo n) :=nr rfl
def XB4:Xac st x0 (.p pl)=weakLeaf st (.p pl) :=nr rfl
def XB5:Xac st x0 (.pr cs)=weakLeaf st (.pr cs) :=nr rfl
def XB6:Xac st x0 .pn=weakLeaf st .pn :=nr rfl
def XB7:Xac st x0 (.fn f cs)=weakLeaf st (.fn f cs) :=nr rfl
def XB8:Xac st x0 (.fs cs)=weakLeaf st (.fs cs) :=nr rfl
def XB9:Xac st x0 (.agg cs)=QA x0 cs.length 0 st :=nr rfl
def XCa:Xac st x0 (.tup cs)=weakLeaf st (.tup cs) :=nr rfl
def XCb:Qj .u=true :=nr rfl
def XCc:Qj .no=true :=nr rfl
def XCd:Qj .ub=true :=nr rfl
def XCe:Qj (.b x)=true :=nr rfl
def XCf:Qj (.i k n)=true :=nr rfl
def XCg:Qj (.s x)=true :=nr rfl
def XCh:Qj .nil=true :=nr rfl
def XCi:Qj (.sl t z es)=true :=nr rfl
def XCj:Qj (.rf pl y lo n)=true :=nr rfl
def XCk:Qj (.p pl)=true :=nr rfl
def XCl:Qj (.pr cs)=true :=nr rfl
def XCm:Qj .pn=true :=nr rfl
def XCn:Qj (.fn f cs)=true :=nr rfl
def XCo:Qj (.fs cs)=true :=nr rfl
def XCp:Qj (.agg cs)=false :=nr rfl
def XCq:Qj (.tup cs)=true :=nr rfl
def XCr:Ya st z .u=none :=nr rfl
def XCs:Ya st z .no=none :=nr rfl
def XCt:Ya st z .ub=none :=nr rfl
def XCu:Ya st z (.b x)=none :=nr rfl
def XCv:Ya st z (.i k n)=none :=nr rfl
def XCw:Ya st z (.s x)=none :=nr rfl
def XCx:Ya st z .nil=some [] :=nr rfl
def XCy:Ya st z (.p pl)=none :=nr rfl
def XCz:Ya st z (.pr cs)=none :=nr rfl
def XCA:Ya st z .pn=none :=nr rfl
def XCB:Ya st z (.fn f cs)=none :=nr rfl
def XCC:Ya st z (.fs cs)=none :=nr rfl
def XCD:Ya st z (.agg cs)=none :=nr rfl
def XCE:Ya st z (.tup cs)=none :=nr rfl
def XCF:Ya st z (.sl t y es)=if y=z then some es else none :=nr rfl
def XCG:Ya st z (.rf pl y lo n)=if y=z then X1 st (.rf pl y lo n) else none :=nr rfl
def XCH:XA ow av st d .u=some .u :=by cases d<;>simp only[XA]
def XCI:XA ow av st d .no=none :=by cases d<;>simp only[XA]
def XCJ:XA ow av st d .ub=some .ub :=by cases d<;>simp only[XA]
def XCK:XA ow av st d (.b x)=some (.b x) :=by cases d<;>simp only[XA]
def XCL:XA ow av st d (.i k n)=some (.i k n) :=by cases d<;>simp only[XA]
def XCM:XA ow av st d (.s x)=some (.s x) :=by cases d<;>simp only[XA]
def XCN:XA ow av st d .nil=some .nil :=by cases d<;>simp only[XA]
def XCO:XA ow av st d (.sl t z es)=some (.sl .ro z (XI es)) :=by cases d<;>simp only[XA]
def XCP:XA ow av st d (.pr cs)=some (.pr cs) :=by cases d<;>simp only[XA]
def XCQ:XA ow av st d .pn=some .pn :=by cases d<;>simp only[XA]
def XCR:XA ow av st d (.agg cs)=none :=by cases d<;>simp only[XA]
def XCS:XA ow av st d (.tup cs)=none :=by cases d<;>simp only[XA]
def prO(x:Option (List AV)):Option AV :=match x with
  | some cs => some (.pr cs)
  | none => none
def agO(x:Option (List AV)):Option AV :=match x with
  | some cs => some (.agg cs)
  | none => none
def fnO(f:Nat)(x:Option (List AV)):Option AV :=match x with
  | some cs => some (.fn f cs)
  | none => none
def fsO(x:Option (List AV)):Option AV :=match x with
  | some cs => some (.fs cs)
  | none => none
def coO(a:Option AV)(x:Option (List AV)):Option (List AV) :=match a,x with
  | some a,some l => some (a :: l)
  | _,_ => none
def XCT:QB ow av st .u=XA ow av st 8 .u :=nr rfl
def XCU:QB ow av st .no=XA ow av st 8 .no :=nr rfl
def XCV:QB ow av st .ub=XA ow av st 8 .ub :=nr rfl
def XCW:QB ow av st (.b x)=XA ow av st 8 (.b x) :=nr rfl
def XCX:QB ow av st (.i k n)=XA ow av st 8 (.i k n) :=nr rfl
def XCY:QB ow av st (.s x)=XA ow av st 8 (.s x) :=nr rfl
def XCZ:QB ow av st .nil=XA ow av st 8 .nil :=nr rfl
def XC0:QB ow av st (.sl t z es)=XA ow av st 8 (.sl t z es) :=nr rfl
def XC1:QB ow av st (.rf pl y lo n)=XA ow av st 8 (.rf pl y lo n) :=nr rfl
def XC2:QB ow av st (.p pl)=XA ow av st 8 (.p pl) :=nr rfl
def XC3:QB ow av st (.pr cs)=XA ow av st 8 (.pr cs) :=nr rfl
def XC4:QB ow av st .pn=XA ow av st 8 .pn :=nr rfl
def XC5:QB ow av st (.fn f cs)=XA ow av st 8 (.fn f cs) :=nr rfl
def XC6:QB ow av st (.fs cs)=XA ow av st 8 (.fs cs) :=nr rfl
def XC7:QB ow av st (.agg cs)=agO (XG ow av st 8 cs) :=by simp only[QB,agO]; cases XG ow av st 8 cs<;>rfl
def XC8:QB ow av st (.tup cs)=XA ow av st 8 (.tup cs) :=nr rfl
def XC9:prO (some cs)=some (.pr cs) :=nr rfl
def XDa:agO (some cs)=some (.agg cs) :=nr rfl
def XDb:fnO f (some cs)=some (.fn f cs) :=nr rfl
def XDc:fsO (some cs)=some (.fs cs) :=nr rfl
def XDd:coO (some a) (some l)=some (a :: l) :=nr rfl
def XDe:XA ow av st 1 (.p pl)=if(ow&&Q1 av pl&&XV st pl)=true then prO (Xf (node st pl) (λcells => XG ow av st 0 (cells.drop pl.c))) else none :=by
  simp only[XA,Xf,prO]
  cases node st pl with
  | none => rfl
  | some cells => simp only[]; cases XG ow av st 0 (cells.drop pl.c)<;>rfl
def XDf:XA ow av st 1 (.fs cs)=fsO (XG ow av st 0 cs) :=by
  simp only[XA,fsO]; cases XG ow av st 0 cs<;>rfl
def XDg:XA ow av st 1 (.fn f cs)=fnO f (XG ow av st 0 cs) :=by
  simp only[XA,fnO]; cases XG ow av st 0 cs<;>rfl
def XDh:XA ow av st 2 (.p pl)=if(ow&&Q1 av pl&&XV st pl)=true then prO (Xf (node st pl) (λcells => XG ow av st 1 (cells.drop pl.c))) else none :=by
  simp only[XA,Xf,prO]
  cases node st pl with
  | none => rfl
  | some cells => simp only[]; cases XG ow av st 1 (cells.drop pl.c)<;>rfl
def XDi:XA ow av st 2 (.fs cs)=fsO (XG ow av st 1 cs) :=by
  simp only[XA,fsO]; cases XG ow av st 1 cs<;>rfl
def XDj:XA ow av st 2 (.fn f cs)=fnO f (XG ow av st 1 cs) :=by
  simp only[XA,fnO]; cases XG ow av st 1 cs<;>rfl
def XDk:XA ow av st 3 (.p pl)=if(ow&&Q1 av pl&&XV st pl)=true then prO (Xf (node st pl) (λcells => XG ow av st 2 (cells.drop pl.c))) else none :=by
  simp only[XA,Xf,prO]
  cases node st pl with
  | none => rfl
  | some cells => simp only[]; cases XG ow av st 2 (cells.drop pl.c)<;>rfl
def XDl:XA ow av st 3 (.fs cs)=fsO (XG ow av st 2 cs) :=by
  simp only[XA,fsO]; cases XG ow av st 2 cs<;>rfl
def XDm:XA ow av st 3 (.fn f cs)=fnO f (XG ow av st 2 cs) :=by
  simp only[XA,fnO]; cases XG ow av st 2 cs<;>rfl
def XDn:XA ow av st 4 (.p pl)=if(ow&&Q1 av pl&&XV st pl)=true then prO (Xf (node st pl) (λcells => XG ow av st 3 (cells.drop pl.c))) else none :=by
  simp only[XA,Xf,prO]
  cases node st pl with
  | none => rfl
  | some cells => simp only[]; cases XG ow av st 3 (cells.drop pl.c)<;>rfl
def XDo:XA ow av st 4 (.fs cs)=fsO (XG ow av st 3 cs) :=by
  simp only[XA,fsO]; cases XG ow av st 3 cs<;>rfl
def XDp:XA ow av st 4 (.fn f cs)=fnO f (XG ow av st 3 cs) :=by
  simp only[XA,fnO]; cases XG ow av st 3 cs<;>rfl
def XDq:XA ow av st 5 (.p pl)=if(ow&&Q1 av pl&&XV st pl)=true then prO (Xf (node st pl) (λcells => XG ow av st 4 (cells.drop pl.c))) else none :=by
  simp only[XA,Xf,prO]
  cases node st pl with
  | none => rfl
  | some cells => simp only[]; cases XG ow av st 4 (cells.drop pl.c)<;>rfl
def XDr:XA ow av st 5 (.fs cs)=fsO (XG ow av st 4 cs) :=by
  simp only[XA,fsO]; cases XG ow av st 4 cs<;>rfl
def XDs:XA ow av st 5 (.fn f cs)=fnO f (XG ow av st 4 cs) :=by
  simp only[XA,fnO]; cases XG ow av st 4 cs<;>rfl
def XDt:XA ow av st 6 (.p pl)=if(ow&&Q1 av pl&&XV st pl)=true then prO (Xf (node st pl) (λcells => XG ow av st 5 (cells.drop pl.c))) else none :=by
  simp only[XA,Xf,prO]
  cases node st pl with
  | none => rfl
  | some cells => simp only[]; cases XG ow av st 5 (cells.drop pl.c)<;>rfl
def XDu:XA ow av st 6 (.fs cs)=fsO (XG ow av st 5 cs) :=by
  simp only[XA,fsO]; cases XG ow av st 5 cs<;>rfl
def XDv:XA ow av st 6 (.fn f cs)=fnO f (XG ow av st 5 cs) :=by
  simp only[XA,fnO]; cases XG ow av st 5 cs<;>rfl
def XDw:XA ow av st 7 (.p pl)=if(ow&&Q1 av pl&&XV st pl)=true then prO (Xf (node st pl) (λcells => XG ow av st 6 (cells.drop pl.c))) else none :=by
  simp only[XA,Xf,prO]
  cases node st pl with
  | none => rfl
  | some cells => simp only[]; cases XG ow av st 6 (cells.drop pl.c)<;>rfl
def XDx:XA ow av st 7 (.fs cs)=fsO (XG ow av st 6 cs) :=by
  simp only[XA,fsO]; cases XG ow av st 6 cs<;>rfl
def XDy:XA ow av st 7 (.fn f cs)=fnO f (XG ow av st 6 cs) :=by
  simp only[XA,fnO]; cases XG ow av st 6 cs<;>rfl
def XDz:XA ow av st 8 (.p pl)=if(ow&&Q1 av pl&&XV st pl)=true then prO (Xf (node st pl) (λcells => XG ow av st 7 (cells.drop pl.c))) else none :=by
  simp only[XA,Xf,prO]
  cases node st pl with
  | none => rfl
  | some cells => simp only[]; cases XG ow av st 7 (cells.drop pl.c)<;>rfl
def XDA:XA ow av st 8 (.fs cs)=fsO (XG ow av st 7 cs) :=by
  simp only[XA,fsO]; cases XG ow av st 7 cs<;>rfl
def XDB:XA ow av st 8 (.fn f cs)=fnO f (XG ow av st 7 cs) :=by
  simp only[XA,fnO]; cases XG ow av st 7 cs<;>rfl
def XDC:XG ow av st d []=some [] :=by simp only[XG]
def XDD:XG ow av st d (a :: l)=coO (XA ow av st d a) (XG ow av st d l) :=by
  simp only[XG,coO]
  cases XA ow av st d a with
  | none => rfl
  | some a' => simp only[]; cases XG ow av st d l<;>rfl
def Xqm(ow:Bool):Tag->Bool
  | .mut => ow
  | _ => true
def XrE(ow:Bool)(y lo n:Nat)(a:Option AV):Option AV :=match a with
  | some (.sl t z es) => if(lo+n<=es.length/\y=z)/\Xqm ow t=true then some (.sl .ro y (XI ((es.drop lo).take n))) else none
  | _ => none
def XDE:Xqm ow .mut=ow :=nr rfl
def XDF:Xqm ow .ro=true :=nr rfl
def XDG:Xqm ow .app=true :=nr rfl
def XDH:XA ow av st d (.rf pl y lo n)=if Q1 av pl=true then Xf (node st pl) (λcells => XrE ow y lo n cells[pl.c]?) else none :=by
  cases d<;>(simp only[XA,Xf,XrE]; split<;>(try rfl); cases node st pl with
    | none => rfl
    | some cells => simp only[]; cases cells[pl.c]? with
      | none => rfl
      | some a => cases a<;>(try rfl); rename_i t z es; cases t<;>cases ow<;>simp[Xqm])
def XDI:X1 st .u=none :=nr rfl
def XDJ:X1 st .no=none :=nr rfl
def XDK:X1 st .ub=none :=nr rfl
def XDL:X1 st (.b x)=none :=nr rfl
def XDM:X1 st (.i k n)=none :=nr rfl
def XDN:X1 st (.s x)=none :=nr rfl
def XDO:X1 st .nil=some [] :=nr rfl
def XDP:X1 st (.sl t z es)=some es :=nr rfl
def XDQ:X1 st (.p pl)=none :=nr rfl
def XDR:X1 st (.pr cs)=none :=nr rfl
def XDS:X1 st .pn=none :=nr rfl
def XDT:X1 st (.fn f cs)=none :=nr rfl
def XDU:X1 st (.fs cs)=none :=nr rfl
def XDV:X1 st (.agg cs)=none :=nr rfl
def XDW:X1 st (.tup cs)=none :=nr rfl
def XDX:Xok st .str (.s x)=some x.size :=nr rfl
def XDY:XeL .str=true :=nr rfl
def XDZ:XeL (.slice z b zero)=true :=nr rfl
def XD0:Xok st (.slice z b zero) a=lenOf st a :=nr rfl
def XD1:Xa6 .str (.s b) lo hi=Qz (.s b) lo hi :=nr rfl
def XD2:Xa6 (.slice z b zero) (.sl t z es) lo hi=Qz (.sl t z es) lo hi :=by simp only[Xa6,if_true]
def XD3:Xa6 (.slice z b zero) (.rf pl z o n) lo hi=Qz (.rf pl z o n) lo hi :=by simp only[Xa6,if_true]
def XD4:lenOf st .u=none :=nr rfl
def XD5:lenOf st .no=none :=nr rfl
def XD6:lenOf st .ub=none :=nr rfl
def XD7:lenOf st (.b x)=none :=nr rfl
def XD8:lenOf st (.i k n)=none :=nr rfl
def XD9:lenOf st (.s x)=none :=nr rfl
def XEa:lenOf st .nil=some 0 :=nr rfl
def XEb:lenOf st (.sl t z es)=some es.length :=nr rfl
def XEc:lenOf st (.p pl)=none :=nr rfl
def XEd:lenOf st (.pr cs)=none :=nr rfl
def XEe:lenOf st .pn=none :=nr rfl
def XEf:lenOf st (.fn f cs)=none :=nr rfl
def XEg:lenOf st (.fs cs)=some cs.length :=nr rfl
def XEh:lenOf st (.agg cs)=none :=nr rfl
def XEi:lenOf st (.tup cs)=none :=nr rfl
def XrF(y n lo:Nat)(a:Option AV):Option Nat :=match a with
  | some (.sl _ z es) => if lo+n<=es.length/\y=z then some ((es.drop lo).take n).length else none
  | _ => none
def XrG(y n lo:Nat)(a:Option AV):Option (List (List AV)) :=match a with
  | some (.sl _ z es) => if lo+n<=es.length/\y=z then some ((es.drop lo).take n) else none
  | _ => none
def XEj:X1 st (.rf pl y lo n)=Xf (node st pl) (λcells => XrG y n lo cells[pl.c]?) :=by simp only[X1,Xf,XrG]; cases node st pl<;>rfl
def XEk:lenOf st (.rf pl y lo n)=Xf (node st pl) (λcells => XrF y n lo cells[pl.c]?) :=by
  simp only[lenOf,X1,Xf,XrF]
  cases node st pl with
  | none => rfl
  | some cells =>
    simp only[]
    cases cells[pl.c]? with
    | none => rfl
    | some a =>
      cases a<;>try rfl
      rename_i t z es
      simp only[]
      by_cases h:lo+n<=es.length/\y=z
      · simp only[if_pos h]
      · simp only[if_neg h]
def XEl:bin ti op (.i k a) (.i k b)=XfN op k a b :=by simp only[bin,if_true]
def XEm:bin ti op (.s a) (.s b)=XlB op a b :=nr rfl
def XEn:bin (some .bool) op (.b a) (.b b)=eqB op (a==b) :=nr rfl
def XEo:bin (some .ptr) op (.p q) .pn=eqB op false :=nr rfl
def XEp:bin (some .ptr) op (.pr q) .pn=eqB op false :=nr rfl
def XEq:bin (some .ptr) op .pn .pn=eqB op true :=nr rfl
def XEr:XfN .add k a b=some (.i k (k.wrap (a+b))) :=nr rfl
def XEs:XfN .sub k a b=some (.i k (k.wrap (a-b))) :=nr rfl
def XEt:XfN .mul k a b=some (.i k (k.wrap (a*b))) :=nr rfl
def XEu:XfN .eql k a b=some (.b (a==b)) :=nr rfl
def XEv:XfN .neq k a b=some (.b (a !=b)) :=nr rfl
def XEw:XfN .lss k a b=some (.b (decide (a<b))) :=nr rfl
def XEx:XfN .leq k a b=some (.b (decide (a<=b))) :=nr rfl
def XEy:XfN .gtr k a b=some (.b (decide (a>b))) :=nr rfl
def XEz:XfN .geq k a b=some (.b (decide (a>=b))) :=nr rfl
def XEA:XfN .quo k a b=if b=0 then none else some (.i k (k.wrap (a.tdiv b))) :=nr rfl
def XEB:XfN .rem k a b=if b=0 then none else some (.i k (a.tmod b)) :=nr rfl
def XEC:XlB .eql a b=some (.b (a.toList==b.toList)) :=nr rfl
def XED:XlB .neq a b=some (.b !(a.toList==b.toList)) :=nr rfl
def XEE:XlB .lss a b=some (.b (Op.bytesLess a.toList b.toList)) :=nr rfl
def XEF:XlB .add a b=if a.size+b.size<=9223372036854775807 then some (.s (a++b)) else none :=nr rfl
def XEG(e:Bool)(x:Option Bool):Option Bool :=match x with
  | some y => some (e&&y)
  | none => none
def XEH:XEG e (some y)=some (e&&y) :=nr rfl
def XEI:unV .not (.b x)=some (.b !x) :=nr rfl
def XEJ:unV .neg (.i k n)=some (.i k (k.wrap (0-n))) :=nr rfl
def XEK:Xg8 (.bool x)=.b x :=nr rfl
def XEL:Xg8 (.int k n)=.i k n :=nr rfl
def XEM:Xg8 (.string x)=.s x :=nr rfl
def XEN:Xg8 (.slice none 0 0)=.nil :=nr rfl
def XEO:Xg8 (.pointer none)=.pn :=nr rfl
def XEP:bin T op (.sl t z es) .nil=XbY T op es.length :=nr rfl
def XEQ:bin T op (.rf q z lo n) .nil=XbY T op n :=nr rfl
def XER:XbY (some (.slice z b ze)) .eql n=if 0<n then some (.b false) else some .ub :=nr rfl
def XES:XbY (some (.slice z b ze)) .neq n=if 0<n then some (.b true) else some .ub :=nr rfl
def XqW(f:Nat->AV)(g:Nat->List AV)(t j:Nat)(a:AV):Option (AV×St) :=match a with
  | .tup vs => match vs[j]? with
    | some v => some (v,⟨upd f t (.tup (vs.set j .u)),g⟩)
    | none => none
  | _ => none
def XrH(f:Nat->AV)(g:Nat->List AV)(t j:Nat)(vs:List AV)(x:Option AV):Option (AV×St) :=match x with
  | some v => some (v,⟨upd f t (.tup (vs.set j .u)),g⟩)
  | none => none
def XET:UJ ⟨f,g⟩ (.tmp t) j=XqW f g t j (f t) :=by simp only[UJ,XqW]; cases f t<;>rfl
def XEU:XqW f g t j (.tup vs)=XrH f g t j vs vs[j]? :=by simp only[XqW,XrH]
def XEV:XrH f g t j vs (some v)=some (v,⟨upd f t (.tup (vs.set j .u)),g⟩) :=nr rfl
attribute [go_sem ↓] XkH XmS XkI XmV Xhz Xfg XdS Xf9 Xga Xhn Xer Xgb Xgc Xgd Xhp Xhq Xhw Xff Xgf Xgg Xf8 Xe5 Xeq XiU XiV Xe6 Xe7 Xe8 Xe9 Xfa QY XgU XgV Xi1 Xc0 XdR Xc1 XdP XdQ XdT Xc2 Xm3 Xjh Xm6 XkO Xqf Xm7 XkP Xgi Xfh XkQ Xfi XkR Xqg Xrt XhB XkU Xgj XhC XkV Xes Xfj Xqh Xjk XkW Xqi Xqj Xm8 XkX Xm9 XkY XkZ Xna Xk1 Xk0 Xlj Xsz XsA XsB XsC
attribute [go_sem] Xji Xjj XkS XkT XpT Xjg Xjf Xjd Xje Xm1 XkM XkN Xi6 Xi7 XmW Xi8 Xi9 XhA Xja Xrr XiY XmH XmJ XiZ Xi0 Xku XmI Xfg XdS XmU Xhy Xru Xne Xnf Xqk Xk7 XhE XhF Xgl XhG XhH XhI Xjl Xfk Xjm Xfl Xgm XhJ Xjo Xk8 Xjp Xgn Xk9 XhK XhL Xla Xlb Xlc Xld Xnj Xnk Xle Xgp Xnl Xlf Xgq Xlg XhM Xlh Xjs Xjt Xju Xli XhN Xgr Xfm Xfn Xgs Xdr Xc3 Xet Xnn Xeu Xnp Xds Xhr Xhs Xht Xhu Xfd Xfe Xhv Xkv Xkw Xkx Xky Xkz XmN stU skS Xjc XeM Xaj Uw Xio Xjq Xk2 Xnb Xnc Xnd XhD Xgk Xk4 Xk5 Xk6 Xk3 Xnq XqS XkJ XmX XkK Xjb XmY trim? Xmx inE Xkq opU skU QY Xhm XiT XgU XgV Xi1 Xi2 XkA Xe6 Xe7 Xe8 Xe9 Xfa Xc0 XdR Xc1 XmQ XdT Xc2 Xm5 XiW XiX Xkt XkB XkC XmO Xi3 XkD XkE XkF Xi4 XkG XdP XdQ XmA Xts Xtt Xtu Xrp Xqa XmB jL UV jE jB Xfb Xfc XmE XmF
  k0 k1 k2 k3 k4 k5 k6 k7 k8 k9 k10 k11 k12 k13 k14 k15 k16 k17 k18 k19 k20 k21 k22 k23 k24 k25 k26 k27 k28 k29 k30 k31 k32 k33 k34 k35 k36 k37 k38 k39 k40 k41 k42 k43 k44 k45 k46 k47 k48 k49 k50 k51 k52 k53 k54 k55 k56 k57 k58 k59 k60 k61 k62 k63 k64 k65 k66 k67 k68 k69 k70 k71 k72 k73 k74 k75 k76 k77 k78 k79 k80 k81 k82 k83 k84 k85 k86 k87 k88 k89 k90 k91 k92 k93 k94 k95 k96 k97 k98 k99 Xtv Xtw Xtx Xty Xtz XtA XtB XtC XtD XtE XtF XtG XtH XtI XtJ XtK XtL XtM XtN XtO XtP XtQ XtR XtS XtT XtU XtV XtW XtX XtY XtZ Xt0 Xt1 Xt2 Xt3 Xt4 Xt5 Xt6 Xt7 Xt8 Xt9 Xua Xub Xuc Xud Xue Xuf Xug Xuh Xui Xuj Xuk Xul Xum Xun Xuo Xup Xuq Xur Xus Xut Xuu Xuv Xuw Xux Xuy Xuz XuA XuB XuC XuD XuE XuF XuG XuH XuI XuJ XuK XuL XuM XuN XuO XuP XuQ XuR XuS XuT XuU XuV XuW XuX XuY XuZ Xu0 Xu1 Xu2 Xu3 Xu4 Xu5 Xu6 Xu7 Xu8 Xu9 Xva Xvb Xvc Xvd Xve Xvf Xvg Xvh Xvi Xvj Xvk Xvl Xvm Xvn Xvo Xvp Xvq Xvr Xvs Xvt Xvu Xvv Xvw Xvx Xvy Xvz XvA XvB XvC XvD XvE XvF XvG XvH XvI XvJ XvK XvL XvM XvN XvO XvP XvQ XvR XvS XvT XvU XvV XvW XvX XvY XvZ Xv0 Xv1 Xv2 Xv3 Xv4 Xv5 Xv6 Xv7 Xv8 Xv9 Xwa Xwb Xwc Xwd Xwe Xwf Xwg Xwh Xwi Xwj Xwk Xwl Xwm Xwn Xwo Xwp Xwq Xwr Xws Xwt Xwu Xwv Xww Xwx Xwy Xwz XwA XwB XwC XwD XwE XwF XwG XwH XwI XwJ XwK XwL XwM XwN XwO XwP XwQ XwR XwS XwT XwU XwV XwW XwX XwY XwZ Xw0 Xw1 Xw2 Xw3 Xw4 Xw5 Xw6 Xw7 Xw8 Xw9 Xxa Xxb Xxc Xxd Xxe Xxf Xxg Xxh Xxi Xxj Xxk Xxl Xxm Xxn Xxo Xxp Xxq Xxr Xxs Xsz XsA XsB XsC Xxt Xxu Xrn Xro Xf7 Xmw XcZ XiQ XjH Xhl Xko XiR XiS XkL XmZ Xm0 Xxv Xxw Xxx Xxy Xxz XxA XxB XxC XxD XxE XxF XxG XxH XxI XxJ XxK XxL XxM XxN XxO XxP XxQ XxR XxS XxT XxU XxV XxW XxX XxY XxZ Xx0 Xx1 Xx2 Xx3 Xx4 Xx5 Xx6 Xx7 Xx8 Xx9 Xya Xyb Xyc Xyd Xye Xyf Xyg Xyh Xyi Xyj XsD Xyk Xyl Xnt Xym Xyn Xyo Xyp Xyq Xyr Xys Xyt Xyu Xyv Xyw Xyx Xyy Xyz XyA XyB XyC XyD XyE XyF XyG XyH XyI XyJ XyK XyL XyM XyN XyO XyP XyQ XyR XyS XyT XyU XyV XyW XyX XyY St.cut keepP keepR XE ZZ XK within setCells storeAt takeRf Uu Qz XcH Ql ZT Z3 Xdi Xhc QK XbD Xea XgH Xa7 Xay XcB Xhb XfO XeC Xsw Q1 ZS rwB XcJ U7 one eqB Ym XI whole Md.isMv Md.isRw XyZ Xy0 Xy1 Xy2 Xy3 Xy4 Xy5 Xy6 Xy7 Xy8 Xy9 Xza Xzb Xzc Xzd Xze Xzf Xzg Xzh Xzi Xzj Xzk Xzl Xzm Xzn Xzo Xzp Xzq Xzr Xzs XrD Xzt Xzu Xzv Xzw Xzx Xzy Xzz XzA XzB XzC XzD XzE XzF XzG XzH XzI XzJ XzK XzL XzM XzN XzO XzP XzQ XzR XzS XzT XzU XzV XzW XzX XzY XzZ Xz0 Xz1 Xz2 Xz3 Xz4 Xz5 Xz6 Xz7 Xz8 Xz9 XAa XAb XAc XAd XAe XAf XAg XAh XAi XAj XAk XAl XAm XAn XAo XAp XAq XAr XAs XAt XAu XAv XAw XAx XAy XAz XAA XAB XAC XAD XAE XAF XAG XAH XAI XAJ XAK XAL XAM XAN XAO XAP XAQ XAR XAS XAT XAU XAV XAW XAX XAY XAZ XA0 XA1 XA2 XA3 XA4 XA5 XA6 XA7 XA8 XA9 XBa XBb XBc XBd XBe XBf XBg XBh XBi XBj XBk XBl XBm XBn XBo XBp XBq XBr XBs XBt XBu XBv XBw XBx XBy XBz XBA XBB XBC XBD XBE XBF XBG XBH XBI XBJ XBK XBL XBM XBN XBO XBP XBQ XBR XBS XBT XBU XBV XBW XBX XBY XBZ XB0 XB1 XB2 XB3 XB4 XB5 XB6 XB7 XB8 XB9 XCa XCb XCc XCd XCe XCf XCg XCh XCi XCj XCk XCl XCm XCn XCo XCp XCq XCr XCs XCt XCu XCv XCw XCx XCy XCz XCA XCB XCC XCD XCE XCF XCG XCH XCI XCJ XCK XCL XCM XCN XCO XCP XCQ XCR XCS XCT XCU XCV XCW XCX XCY XCZ XC0 XC1 XC2 XC3 XC4 XC5 XC6 XC7 XC8 XC9 XDa XDb XDc XDd XDe XDf XDg XDh XDi XDj XDk XDl XDm XDn XDo XDp XDq XDr XDs XDt XDu XDv XDw XDx XDy XDz XDA XDB XDC XDD XDE XDF XDG XDH XrE XDI XDJ XDK XDL XDM XDN XDO XDP XDQ XDR XDS XDT XDU XDV XDW XDX XDY XDZ XD0 XD1 XD2 XD3 XD4 XD5 XD6 XD7 XD8 XD9 XEa XEb XEc XEd XEe XEf XEg XEh XEi XEj XEk XrF XrG XEl XEm XEn XEo XEp XEq XEr XEs XEt XEu XEv XEw XEx XEy XEz XEA XEB XEC XED XEE XEF XEH XEI XEJ XEK XEL XEM XEN XEO XEP XEQ XER XES XET XEU XEV
end Go.Vm
