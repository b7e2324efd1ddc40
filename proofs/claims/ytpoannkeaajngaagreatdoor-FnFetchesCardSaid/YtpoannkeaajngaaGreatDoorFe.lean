/- Functions of the program, walked by the evaluator. -/
import Derived.Test.YtpoannkeaajngaaGreatDoorWb
import Derived.Test.YtpoannkeaajngaaGreatDoorWa
import Derived.Test.YtpoannkeaajngaaGreatDoorFc
import Derived.Test.YtpoannkeaajngaaGreatDoorFd
set_option linter.unusedVariables false
set_option linter.unusedSimpArgs false
set_option autoImplicit false
set_option maxRecDepth 100000
set_option maxHeartbeats 4000000
set_option linter.defProp false
namespace Go.Vm.A
open Go.Proofs
open Nat renaming reduceAdd -> nA, reduceSub -> nS, reduceMul -> nM, reduceBEq -> nB, reduceEqDiff -> nE, reduceLeDiff -> nL, reduceLT -> nT, reduceBneDiff -> nN
open Int renaming reduceLE -> iL, reduceLT -> iT, reduceEq -> iE, reduceAdd -> iA, reduceMul -> iM, reduceSub -> iS, reduceNeg -> iG, reduceBEq -> iB, reduceBNe -> iN, reduceToNat -> iZ
noncomputable section
def ZJ(t:ByteArray):Bool:=Xch Q7 1 64 t
def s86:SP Tryz.prog:=mkS tyA 86 Tryz.f86 [s88,Xl0] {md:=[.ro 1],rets:=some ([2],[])} Tryz.func86 (by kernel_rfl)
@[go_sem] def d86:s86.g=86/\s86.fs=⟨[.ro 1],s86.F,false⟩:=⟨nr rfl,nr rfl⟩
@[go_sem] def e86(t:ByteArray):s86.F [.s t]=some (.b (ZJ t),[.u]):=Xm (0) rfl rfl (λcx h=>by
 simp only[go_sem,reduceIte,↓reduceIte,reduceCtorEq,nA,nS,nM,nB,nE,nL,nT,nN,iL,iT,iE,iA,iM,iS,iG,iB,iN,iZ,h,ZJ]) (rfl)
def Xlp(t:ByteArray):Bool:=t.data.toList.all U3
def Xl1(t:ByteArray):Xch U3 0 (t.size:Int) t=Xlp t:=Qc (by omega) (by omega)
def Xou:SP Tryz.prog:=mkS tyA 135 Tryz.f135 [s88,XnZ] {md:=[.ro 1],rets:=some ([2],[])} Tryz.func135 (by kernel_rfl)
@[go_sem] def XEW:Xou.g=135/\Xou.fs=⟨[.ro 1],Xou.F,false⟩:=⟨nr rfl,nr rfl⟩
@[go_sem] def XEX(t:ByteArray)(h0:(t.size:Int)<=1000000):Xou.F [.s t]=some (.b (Xlp t),[.u]):=Xm (0) rfl rfl (λcx h=>by
 simp only[go_sem,reduceIte,↓reduceIte,reduceCtorEq,nA,nS,nM,nB,nE,nL,nT,nN,iL,iT,iE,iA,iM,iS,iG,iB,iN,iZ,h,h0,Xl1]) (rfl)
def Xe9(t:ByteArray):ByteArray:=⟨(Lib.trimS t.data.toList [32,9]).toArray⟩
def Xao(c:UInt8):Bool:=((c.toNat:Int)==32)||((c.toNat:Int)==9)
def bl(t:ByteArray)(j:Nat):Bool:=Xao (t.data[j]?.getD 0)
def XjF(c:UInt8):[32,9].contains c=Xao c:=by
 have h32:(c==32)=((c.toNat:Int)==32):=by
  rw[Bool.eq_iff_iff,beq_iff_eq,beq_iff_eq]
  constructor
  ·rintro rfl; rfl
  ·intro h; exact UInt8.toNat_inj.1 (by have:(32:UInt8).toNat=32:=rfl; omega)
 have h9:(c==9)=((c.toNat:Int)==9):=by
  rw[Bool.eq_iff_iff,beq_iff_eq,beq_iff_eq]
  constructor
  ·rintro rfl; rfl
  ·intro h; exact UInt8.toNat_inj.1 (by have:(9:UInt8).toNat=9:=rfl; omega)
 simp only[List.contains_cons,List.contains_nil,Bool.or_false,h32,h9,Xao]
def Xd0{t:ByteArray}{j:Nat}{b:UInt8}(h:t.data.toList[j]?=some b):bl t j=[32,9].contains b:=by
 rw[XjF]
 unfold bl
 rw[Array.getElem?_toList] at h
 rw[h]; rfl
def XjG(t:ByteArray)(f e:Nat)(hf:f<=e)(he:e<=t.size)(h1:∀j,j<f->bl t j=true)(h2:f<t.size->bl t f=false)(h3:∀j,e<=j->j<t.size->bl t j=true)(h4:f<e->bl t (e-1)=false):Xe9 t=t.extract f e:=by
 have hn:t.size=t.data.toList.length:=Xi t
 have hext:t.extract f e=⟨((t.data.toList.take e).drop f).toArray⟩:=by
  have:(t.extract f e).data=t.data.extract f e:=by simp
  cases hx:t.extract f e with
  | mk d =>
   rw[hx] at this
   congr 1
   simp only at this
   rw[this]
   apply Array.ext'
   rw[Array.toList_extract,List.extract_eq_take_drop,List.drop_take]
 rw[hext]
 unfold Xe9 Lib.trimS
 congr 2
 by_cases hall:f<e
 ·rw[Lib.trimRightS_take t.data.toList [32,9] e (by omega) (λj b hj hb=>?_) (λb hk hb=>?_)]
  ·refine Lib.trimLeftS_drop _ _ f (by simp; omega) (λj b hj hb=>?_) (λb hb=>?_)
   ·rw[List.getElem?_take] at hb
    split at hb
    ·rw[<-Xd0 hb]; exact h1 j hj
    ·cases hb
   ·rw[List.getElem?_take,if_pos hall] at hb
    rw[<-Xd0 hb]; exact h2 (by omega)
  ·rw[<-Xd0 hb]; exact h3 j hj (by have:=(List.getElem?_eq_some_iff.1 hb).1; omega)
  ·rw[<-Xd0 hb]; exact h4 hall
 ·obtain rfl:f=e:=by omega
  have hfn:f=t.size:=by
   rcases Nat.lt_or_ge f t.size with h | h
   ·have:=h2 h; rw[h3 f (Nat.le_refl _) h] at this; cases this
   ·omega
  have hr:Lib.trimRightS t.data.toList [32,9]=t.data.toList.take 0:=Lib.trimRightS_take _ _ 0 (by omega) (λj b _ hb=>by
   rw[<-Xd0 hb]; exact h1 j (by have:=(List.getElem?_eq_some_iff.1 hb).1; omega)) (λb hk _=>by omega)
  rw[hr]
  have:(t.data.toList.take f).drop f=[]:=by
   apply List.drop_eq_nil_of_le
   simp
   omega
  rw[this]
  rfl
def Xov:SP Tryz.prog:=⟨136,⟨[.ro 1,.ro 1],Xlh,false⟩,XnJ Tryz.func136 (by kernel_rfl) rfl Go.Proofs.Tryz.trimSpTab⟩
@[go_sem] def XEY:Xov.g=136/\Xov.fs=⟨[.ro 1,.ro 1],Xov.F,false⟩:=⟨nr rfl,nr rfl⟩
@[go_sem] def XEZ(x:ByteArray)(h0:x.size<=9223372036854775807):Xov.F [.s x,.s ⟨#[32,9]⟩]=some (.s (Xe9 x),[.u,.u]):=by
 show Xlh [.s x,.s ⟨#[32,9]⟩]=_
 have hc:(⟨#[32,9]⟩:ByteArray).data.toList=[32,9]/\x.size<=9223372036854775807:=⟨rfl,h0⟩
 exact if_pos hc
def XK(h:Xd):Int:=if ZJ h.Name=false then 5 else if 200<(h.Value.size:Int) then 2 else if(Xlp h.Value&&eqv (Xe9 h.Value) h.Value)=true then 0 else 5
def Xa(hs:List Xd):Int:=if 20<(hs.length:Int) then 2 else Xce (hs.map XK)
def XaL{α:Type}{f:α->Int}:∀{xs:List α} {u u':Unit},Xci (λx _=>f x !=0) (λ_ _=>()) xs u=.inl u'->Xce (xs.map f)=0
 | [],_,_,_=>rfl
 | x :: xs,u,u',h=>by
  rw[YJ] at h
  split at h
  ·cases h
  ·rename_i hc; rw[List.map_cons,Ur,if_neg hc]; exact XaL h
def XaM{α:Type}{f:α->Int}:∀{xs:List α} {u:Unit} {q:α×Unit},Xci (λx _=>f x !=0) (λ_ _=>()) xs u=.inr q->Xce (xs.map f)=f q.1
 | [],_,_,h=>by cases h
 | x :: xs,u,q,h=>by
  rw[YJ] at h
  split at h
  ·rename_i hc; injection h with h; subst h; rw[List.map_cons,Ur,if_pos hc]
  ·rename_i hc; rw[List.map_cons,Ur,if_neg hc]; exact XaM h
def s85:SP Tryz.prog:=mkS tyA 85 Tryz.f85 [s86,Xou,Xov] {md:=[.ro 1],rg:=[(0,[1],[1]),(1,[1,3],[1]),(2,[2],[]),(3,[1,8],[1]),(4,[2],[]),(5,[13],[]),(6,[2],[]),(7,[2],[])],rets:=some ([2],[]),plan:=[(5,(.take 0 (.take 1 (.one 2 (.take 3 (.take 4 (.take 5 (.take 6 (.take 8 (.take 9 (.one 7 (.take 10 (.take 11 (.one 12 .done))))))))))))))]} Tryz.func85 (by kernel_rfl)
@[go_sem] def d85:s85.g=85/\s85.fs=⟨[.ro 1],s85.F,false⟩:=⟨nr rfl,nr rfl⟩
@[go_sem] def e85(q0 q1:ByteArray):s85.F [.agg [.s q0,.s q1]]=some (.i .i64 (XK (Xd.mk q0 q1)),[.u]):=Xm (0) rfl rfl (λcx h=>by
 cases h1:ZJ q0
 ·simp only[go_sem,reduceIte,↓reduceIte,reduceCtorEq,nA,nS,nM,nB,nE,nL,nT,nN,iL,iT,iE,iA,iM,iS,iG,iB,iN,iZ,h,h1,XK]
 by_cases h2:200<(q1.size:Int)
 ·simp only[go_sem,reduceIte,↓reduceIte,reduceCtorEq,nA,nS,nM,nB,nE,nL,nT,nN,iL,iT,iE,iA,iM,iS,iG,iB,iN,iZ,h,h1,h2,XK]
 have h3:(q1.size:Int)<=1000000:=by omega
 have h4:q1.size<=9223372036854775806:=by omega
 have h5:q1.size<=9223372036854775807:=by omega
 cases h6:Xlp q1
 ·simp only[go_sem,reduceIte,↓reduceIte,reduceCtorEq,nA,nS,nM,nB,nE,nL,nT,nN,iL,iT,iE,iA,iM,iS,iG,iB,iN,iZ,h,h1,h2,h3,h4,h5,h6,XK]
 cases h7:eqv (Xe9 q1) q1<;>simp only[go_sem,reduceIte,↓reduceIte,reduceCtorEq,nA,nS,nM,nB,nE,nL,nT,nN,iL,iT,iE,iA,iM,iS,iG,iB,iN,iZ,h,h1,h2,h3,h4,h5,h6,h7,Xt,Xc8,bne,XK]) (rfl)
def s46:SP Tryz.prog:=mkS tyA 46 Tryz.f46 [s85] {md:=[.ro 1],rg:=[(0,[0],[]),(1,[0,8],[]),(2,[2],[]),(3,[0,9,10,11],[]),(4,[0,9,10,11,12],[]),(5,[0,4,9,10,11],[4]),(6,[0,5,9,10,11],[]),(7,[0,5,9,10,11,18],[]),(8,[2],[]),(9,[0,9,10,11],[]),(10,[2],[])],lv:=[(0,[0,9,10,11],[])],out:=[(0,[],[])],rets:=some ([2],[])} Tryz.func46 (by kernel_rfl)
@[go_sem] def d46:s46.g=46/\s46.fs=⟨[.ro 1],s46.F,false⟩:=⟨nr rfl,nr rfl⟩
@[go_sem] def e46(hs:List Xd):s46.F [.sl .ro 2 (hs.map (Xb .ro))]=some (.i .i64 (Xa hs),[.u]):=Xm (hs.length+1) rfl rfl (λcx h=>by
 by_cases h1:20<(hs.length:Int)
 ·simp only[go_sem,reduceIte,↓reduceIte,reduceCtorEq,nA,nS,nM,nB,nE,nL,nT,nN,iL,iT,iE,iA,iM,iS,iG,iB,iN,iZ,h,h1,Xa]
 have hx:hs.length<=9223372036854775806:=by omega
 have hb0:=XR Tryz.f46 0 _ _ rfl rfl
 obtain⟨r,hr,hq⟩:=YL (cx:=cx) (blk:=0) (body:=Zt Tryz.f46 0) hs (λk (s:Unit)=>⟨E [(0,.sl .ro 2 (hs.map (Xb .ro))),(9,.sl .ro 2 (hs.map (Xb .ro))),(10,.i .i64 hs.length),(11,.i .i64 k)],B []⟩) (λs=>⟨E [],B []⟩) (λx s=>XK x !=0) (λx s=>()) (λx s=>(.ret,⟨E [(2,.i .i64 (XK x))],B []⟩)) (λk s=>True)
   (λs hI G=>by simp only[go_sem,reduceIte,↓reduceIte,reduceCtorEq,nA,nS,nM,nB,nE,nL,nT,nN,iL,iT,iE,iA,iM,iS,iG,iB,iN,iZ,h,Int.lt_irrefl,hb0,hx]) (λk hk s hI=>by
    have h1:((k:Int)<(hs.length:Int)):=Int.ofNat_lt.2 hk
    exact⟨_,_,_,λG=>by simp only[go_sem,reduceIte,↓reduceIte,reduceCtorEq,nA,nS,nM,nB,nE,nL,nT,nN,iL,iT,iE,iA,iM,iS,iG,iB,iN,iZ,h,QJ (Xb .ro) hs _ hk,Xb,h1,Yb _ _ hk,XD (show k<9223372036854775807 by omega),hb0]<;>with_reducible rfl,Iff.rfl,λhc=>⟨trivial,by simp only[go_sem,reduceIte,↓reduceIte,reduceCtorEq,nA,nS,nM,nB,nE,nL,nT,nN,iL,iT,iE,iA,iM,iS,iG,iB,iN,iZ,h]⟩⟩) () trivial (hs.length+1) (Nat.le_refl _)
 rw[hb0] at hr
 rcases hq with⟨s',e1,_,e3⟩ | ⟨x,s',e1,e3⟩
 ·simp only[go_sem,reduceIte,↓reduceIte,reduceCtorEq,nA,nS,nM,nB,nE,nL,nT,nN,iL,iT,iE,iA,iM,iS,iG,iB,iN,iZ,h,h1,hr,e3,Xa,XaL e1]
 ·simp only[go_sem,reduceIte,↓reduceIte,reduceCtorEq,nA,nS,nM,nB,nE,nL,nT,nN,iL,iT,iE,iA,iM,iS,iG,iB,iN,iZ,h,h1,hr,e3,Xa,XaM e1]) (rfl)
@[go_sem] def Xl2(xs:List UInt8):xs.map XaO=xs.map Xn:=nr rfl
def Xfa(c:UInt8):UInt8:=if 65<=(c.toNat:Int)/\(c.toNat:Int)<=90 then c+32 else c
def Yc(t:ByteArray):ByteArray:=⟨(t.data.toList.map Xfa).toArray⟩
def ZO(xs:List UInt8)(k:Nat):List UInt8:=(xs.take k).map Xfa++xs.drop k
def Xcz(xs:List UInt8):ZO xs 0=xs:=by simp[ZO]
def Xd1(xs:List UInt8):ZO xs xs.length=xs.map Xfa:=by simp[ZO]
def Xap(xs:List UInt8)(k:Nat)(h:k<=xs.length):(ZO xs k).length=xs.length:=by simp[ZO]; omega
def Xdp(xs:List UInt8)(k:Nat)(h:k<xs.length):(ZO xs k)[k]?=some xs[k]:=by
 unfold ZO
 rw[List.getElem?_append_right (by simp; omega)]
 simp[Nat.min_eq_left (Nat.le_of_lt h),h]
def XcA(xs:List UInt8)(k:Nat)(h:k<xs.length):(ZO xs k).set k (Xfa xs[k])=ZO xs (k+1):=by
 unfold ZO
 rw[List.set_append_right _ _ (by simp; omega)]
 rw[List.length_map,List.length_take,Nat.min_eq_left (Nat.le_of_lt h),Nat.sub_self,List.drop_eq_getElem_cons h,List.set_cons_zero]
 have e:(xs.take (k+1)).map Xfa=(xs.take k).map Xfa++[Xfa xs[k]]:=by
  rw[List.take_add_one,List.getElem?_eq_getElem h,Option.toList_some,List.map_append]; rfl
 rw[e]
 simp
def XcB(xs:List UInt8)(k:Nat)(h:k<xs.length)(hc:Xfa xs[k]=xs[k]):ZO xs (k+1)=ZO xs k:=by
 rw[<-XcA xs k h,hc]
 have:=Xdp xs k h
 obtain⟨h1,h2⟩:=List.getElem?_eq_some_iff.1 this
 rw[<-h2]
 exact List.set_getElem_self h1
def Xf6(xs:List UInt8)(k:Nat)(h:k<xs.length):((ZO xs k).map Xn).getD k []=[.i .u8 xs[k].toNat]:=by
 rw[List.getD_eq_getElem?_getD,List.getElem?_map,Xdp xs k h]; rfl
def XhG(xs:List UInt8)(k:Nat)(h:k<xs.length):((ZO xs k).map Xn)[k]?=some [.i .u8 xs[k].toNat]:=by
 rw[List.getElem?_map,Xdp xs k h]; rfl
def XhH{c:UInt8}(h:(c.toNat:Int)<=90):(c+32).toNat=c.toNat+32:=by
 rw[UInt8.toNat_add]
 have:(32:UInt8).toNat=32:=rfl
 rw[this]
 omega
def XhI(xs:List UInt8)(k:Nat)(h:k<xs.length) :
  (65<=(xs[k].toNat:Int)/\(xs[k].toNat:Int)<=90/\((IntKind.u8).wrap ((IntKind.u8).wrap ((xs[k].toNat:Int)+97)-65)=((Xfa xs[k]).toNat:Int))/\((IntKind.u8).wrap ((xs[k].toNat:Int)+32)=((Xfa xs[k]).toNat:Int))/\((ZO xs k).map Xn).set k [.i .u8 (Xfa xs[k]).toNat]=(ZO xs (k+1)).map Xn/\True) \/
  (¬65<=(xs[k].toNat:Int)/\True/\True/\True/\True/\ZO xs (k+1)=ZO xs k)\/(65<=(xs[k].toNat:Int)/\¬(xs[k].toNat:Int)<=90/\True/\True/\True/\ZO xs (k+1)=ZO xs k):=by
 by_cases a1:65<=(xs[k].toNat:Int)
 ·by_cases a2:(xs[k].toNat:Int)<=90
  ·refine .inl ⟨a1,a2,?_,?_,?_,trivial⟩
   ·have hl:Xfa xs[k]=xs[k]+32:=if_pos ⟨a1,a2⟩
    rw[hl,XhH a2]
    simp only[IntKind.wrap,IntKind.bits,IntKind.signed]
    simp
    omega
   ·have hl:Xfa xs[k]=xs[k]+32:=if_pos ⟨a1,a2⟩
    rw[hl,XhH a2]
    simp only[IntKind.wrap,IntKind.bits,IntKind.signed]
    simp
    omega
   ·rw[<-XcA xs k h,List.map_set]; rfl
  ·exact .inr (.inr ⟨a1,a2,trivial,trivial,trivial,XcB xs k h (if_neg λx=>a2 x.2)⟩)
 ·exact .inr (.inl ⟨a1,trivial,trivial,trivial,trivial,XcB xs k h (if_neg λx=>a1 x.1)⟩)
def okN(n:ByteArray):Bool:=decide (n.size<=9223372036854775806)
def Yh(hs:List Xd)(n:ByteArray):List ByteArray:=(hs.filter λx=>eqv (Yc x.Name) (Yc n)).map (·.Value)
def UR(hs:List Xd)(n:ByteArray):Bool:=hs.any λx=>eqv (Yc x.Name) (Yc n)
def QT(hs:List Xd)(n:ByteArray):decide (0<((Yh hs n).length:Int))=UR hs n:=by
 have:0<(Yh hs n).length↔UR hs n=true:=by
  unfold Yh UR
  rw[List.length_map,List.length_pos_iff_exists_mem,List.any_eq_true]
  simp only[List.mem_filter]
 rw[Bool.eq_iff_iff,decide_eq_true_eq,<-this]
 omega
def Q8(n:ByteArray)(s:ByteArray×Bool)(x:Xd):ByteArray×Bool:=if eqv (Yc x.Name) (Yc n)=true then((if s.2=true then s.1++⟨#[44,32]⟩ else s.1)++x.Value,true) else s
def XhJ(hs:List Xd)(n:ByteArray):ByteArray×Bool:=hs.foldl (λs x=>Q8 n s x) (⟨#[]⟩,false)
def XcC(n:ByteArray):∀(hs:List Xd) (s:ByteArray×Bool),(hs.foldl (λs x=>Q8 n s x) s).2=(s.2||UR hs n)
 | [],s=>by simp[UR]
 | x :: hs,s=>by
  rw[List.foldl_cons,XcC n hs]
  unfold Q8 UR
  rw[List.any_cons]
  cases eqv (Yc x.Name) (Yc n)<;>simp
def Xl3(hs:List Xd)(n:ByteArray):(XhJ hs n).2=UR hs n:=by
 unfold XhJ; rw[XcC]; rfl
def Xdq{n:ByteArray}{s:ByteArray×Bool}{x:Xd}{k:Nat}(h:s.1.size<=k*1048578)(hx:x.Value.size<=1048576):(Q8 n s x).1.size<=(k+1)*1048578:=by
 have h2:(⟨#[44,32]⟩:ByteArray).size=2:=rfl
 have h3:(k+1)*1048578=k*1048578+1048578:=Nat.succ_mul _ _
 rw[h3]
 generalize k*1048578=K at h ⊢
 unfold Q8
 split
 ·show(((if s.2=true then s.1++⟨#[44,32]⟩ else s.1)++x.Value).size)<=_
  rw[ByteArray.size_append]
  split
  ·rw[ByteArray.size_append]; omega
  ·omega
 ·omega
def Yy(t:ByteArray):Bool:=eqv t ⟨#[71,69,84]⟩||eqv t ⟨#[72,69,65,68]⟩
def Xq(a b:ByteArray):(a.toList !=b.toList)=!eqv a b:=by rw[bne,Xt]
def Qr(t:ByteArray):Bool:=Xch Xbk 1 60 t
def Qs(t:ByteArray):Bool:=Xch U1 1 100 t&&(((t.data[0]?.getD 0).toNat:Int)==47)
def Xe(r:Request):Int:=if(Yy r.Method&&Qr r.Host&&Qs r.Path)=false then 5 else if(Xa r.Headers !=0)=true then Xa r.Headers else if UR r.Headers ⟨#[72,111,115,116]⟩=true then 6 else if 20<=(r.Headers.length:Int) then 2 else 0
def XbE(hs:List Xd):UR hs ⟨#[104,111,115,116]⟩=UR hs ⟨#[72,111,115,116]⟩:=by
 unfold UR
 have:Yc ⟨#[104,111,115,116]⟩=Yc ⟨#[72,111,115,116]⟩:=by rfl
 rw[this]
def XC{hs:List Xd}(h:Xa hs=0):hs.length<=20:=by
 unfold Xa at h
 split at h
 ·cases h
 ·omega
def XjH{p:UInt8->Bool}{hi:Int}{t:ByteArray}(h:Xch p 1 hi t=true):0<t.size:=by
 unfold Xch at h
 simp only[Bool.and_eq_true,decide_eq_true_eq] at h
 omega
def s50:SP Tryz.prog:=mkS tyA 50 Tryz.f50 [] {md:=[.ro 1],rets:=some ([2],[])} Tryz.func50 (by kernel_rfl)
@[go_sem] def d50:s50.g=50/\s50.fs=⟨[.ro 1],s50.F,false⟩:=⟨nr rfl,nr rfl⟩
@[go_sem] def e50(t:ByteArray):s50.F [.s t]=some (.b (Yy t),[.u]):=Xm (0) rfl rfl (λcx h=>by
 have hu:Yy t=(eqv t ⟨#[71,69,84]⟩||eqv t ⟨#[72,69,65,68]⟩):=rfl
 cases h1:eqv t ⟨#[71,69,84]⟩<;>cases h2:eqv t ⟨#[72,69,65,68]⟩<;>simp only[go_sem,reduceIte,↓reduceIte,reduceCtorEq,nA,nS,nM,nB,nE,nL,nT,nN,iL,iT,iE,iA,iM,iS,iG,iB,iN,iZ,h,Xt,h1,h2,hu]) (rfl)
def s51:SP Tryz.prog:=mkS tyA 51 Tryz.f51 [s88,s89] {md:=[.ro 1],rets:=some ([2],[])} Tryz.func51 (by kernel_rfl)
@[go_sem] def d51:s51.g=51/\s51.fs=⟨[.ro 1],s51.F,false⟩:=⟨nr rfl,nr rfl⟩
@[go_sem] def e51(t:ByteArray):s51.F [.s t]=some (.b (Qr t),[.u]):=Xm (0) rfl rfl (λcx h=>by
 simp only[go_sem,reduceIte,↓reduceIte,reduceCtorEq,nA,nS,nM,nB,nE,nL,nT,nN,iL,iT,iE,iA,iM,iS,iG,iB,iN,iZ,h,Qr]) (rfl)
def s52:SP Tryz.prog:=mkS tyA 52 Tryz.f52 [s88,s90] {md:=[.ro 1],rets:=some ([2],[])} Tryz.func52 (by kernel_rfl)
@[go_sem] def d52:s52.g=52/\s52.fs=⟨[.ro 1],s52.F,false⟩:=⟨nr rfl,nr rfl⟩
@[go_sem] def e52(t:ByteArray):s52.F [.s t]=some (.b (Qs t),[.u]):=Xm (0) rfl rfl (λcx h=>by
 have hu:Qs t=(Xch U1 1 100 t&&(((t.data[0]?.getD 0).toNat:Int)==47)):=rfl
 cases h1:Xch U1 1 100 t
 ·simp only[go_sem,reduceIte,↓reduceIte,reduceCtorEq,nA,nS,nM,nB,nE,nL,nT,nN,iL,iT,iE,iA,iM,iS,iG,iB,iN,iZ,h,h1,hu]
 have hi:Zg t.size 0=some 0:=Yb t.size 0 (XjH h1)
 cases h2:(((t.data[0]?.getD 0).toNat:Int)==47)<;>simp only[go_sem,reduceIte,↓reduceIte,reduceCtorEq,nA,nS,nM,nB,nE,nL,nT,nN,iL,iT,iE,iA,iM,iS,iG,iB,iN,iZ,h,h1,h2,hi,hu]) (rfl)
def Xow:SP Tryz.prog:=mkS tyA 123 Tryz.f123 [] {md:=[.ro 1],rg:=[(0,[0],[]),(1,[3],[]),(2,[3,8,9,10],[]),(3,[3,8,9,10,11],[]),(4,[3,4,5,8,9,10],[]),(5,[3,4,5,8,9,10,20],[]),(6,[3,8,9,10],[]),(7,[3,8,9,10],[]),(8,[2],[])],lv:=[(0,[3,8,9,10],[])],out:=[(0,[3],[])],rets:=some ([2],[])} Tryz.func123 (by kernel_rfl)
@[go_sem] def XE0:Xow.g=123/\Xow.fs=⟨[.ro 1],Xow.F,false⟩:=⟨nr rfl,nr rfl⟩
@[go_sem] def XE1(t:ByteArray)(h0:t.size<=9223372036854775806):Xow.F [.s t]=some (.s (Yc t),[.u]):=Xm (t.data.toList.length+1) rfl rfl (λcx h=>by
 have hz:t.data.toList.length<=9223372036854775807:=by rw[<-Xi]; omega
 have hx:t.data.toList.length<=9223372036854775806:=by rw[<-Xi]; exact h0
 have hb0:=XR Tryz.f123 0 _ _ rfl rfl
 obtain⟨hI,hr⟩:=YK (cx:=cx) (blk:=0) (body:=Zt Tryz.f123 0) t.data.toList (λk (s:Unit)=>⟨E [(3,.sl .mut 1 ((ZO t.data.toList k).map Xn)),(8,.rf ⟨true,3,[],0⟩ 1 0 t.data.toList.length),(9,.i .i64 t.data.toList.length),(10,.i .i64 k)],B []⟩) (λs=>⟨E [(3,.sl .mut 1 ((t.data.toList.map Xfa).map Xn))],B []⟩) (λx s=>s) (λk s=>True)
   (λs hI G=>by simp only[go_sem,reduceIte,↓reduceIte,reduceCtorEq,nA,nS,nM,nB,nE,nL,nT,nN,iL,iT,iE,iA,iM,iS,iG,iB,iN,iZ,h,Int.lt_irrefl,hb0,Xap t.data.toList t.data.toList.length (Nat.le_refl _),Xd1 t.data.toList,List.length_map]) (λk hk s hI=>by
    have h1:((k:Int)<(t.data.toList.length:Int)):=Int.ofNat_lt.2 hk
    have g1:=Xf6 t.data.toList k hk
    have g2:=XhG t.data.toList k hk
    have g3:=Xap t.data.toList k (Nat.le_of_lt hk)
    have g4:(List.take t.data.toList.length ((ZO t.data.toList k).map Xn))=(ZO t.data.toList k).map Xn:=List.take_of_length_le (by rw[List.length_map,g3]; exact Nat.le_refl _)
    rcases XhI t.data.toList k hk with⟨a1,a2,w1,w2,hs,hv⟩ | ⟨a1,a2,w1,w2,hs,hv⟩ | ⟨a1,a2,w1,w2,hs,hv⟩
    all_goals exact⟨trivial,_,λG=>by simp only[go_sem,reduceIte,↓reduceIte,reduceCtorEq,nA,nS,nM,nB,nE,nL,nT,nN,iL,iT,iE,iA,iM,iS,iG,iB,iN,iZ,h,g1,g2,g3,g4,a1,a2,w1,w2,hs,List.length_map,h1,Yb _ _ hk,XD (show k<9223372036854775807 by omega),hb0]<;>with_reducible rfl,by simp only[go_sem,reduceIte,↓reduceIte,reduceCtorEq,nA,nS,nM,nB,nE,nL,nT,nN,iL,iT,iE,iA,iM,iS,iG,iB,iN,iZ,h,hv]⟩) () trivial (t.data.toList.length+1) (Nat.le_refl _)
 rw[hb0] at hr
 rw[Xcz] at hr
 simp only[go_sem,reduceIte,↓reduceIte,reduceCtorEq,nA,nS,nM,nB,nE,nL,nT,nN,iL,iT,iE,iA,iM,iS,iG,iB,iN,iZ,h,hz,hr,Xi t,Yc]) (rfl)
def s74:SP Tryz.prog:=mkS tyA 74 Tryz.f74 [Xow] {md:=[.ro 1,.ro 1],rets:=some ([4],[])} Tryz.func74 (by kernel_rfl)
@[go_sem] def d74:s74.g=74/\s74.fs=⟨[.ro 1,.ro 1],s74.F,false⟩:=⟨nr rfl,nr rfl⟩
@[go_sem] def e74(a b:ByteArray)(h0:(a.size<=9223372036854775806/\b.size<=9223372036854775806)):s74.F [.s a,.s b]=some (.b (eqv (Yc a) (Yc b)),[.u,.u]):=Xm (0) rfl rfl (λcx h=>by
 simp only[go_sem,reduceIte,↓reduceIte,reduceCtorEq,nA,nS,nM,nB,nE,nL,nT,nN,iL,iT,iE,iA,iM,iS,iG,iB,iN,iZ,h,h0.1,h0.2,Xt]) (rfl)
def Xox{α β:Type}(p:α->Bool)(f:α->β):∀(xs:List α) (acc:List β),xs.foldl (λs x=>if p x=true then s++[f x] else s) acc=acc++(xs.filter p).map f
 | [],acc=>by simp
 | x :: xs,acc=>by
  rw[List.foldl_cons,Xox p f xs,List.filter_cons]
  cases p x<;>simp
def s53:SP Tryz.prog:=mkS tyA 53 Tryz.f53 [s74] {md:=[.ro 1,.ro 1],rg:=[(0,[0,1],[]),(1,[0,1,5],[]),(2,[0,1,5,9,10,11],[]),(3,[0,1,5,9,10,11,12],[]),(4,[0,1,5,7,9,10,11],[7]),(5,[0,1,5,7,9,10,11,18],[7]),(6,[0,1,5,9,10,11],[]),(7,[0,1,5,9,10,11],[]),(8,[4],[])],lv:=[(0,[0,1,5,9,10,11],[])],out:=[(0,[5],[])],rets:=some ([4],[])} Tryz.func53 (by kernel_rfl)
@[go_sem] def d53:s53.g=53/\s53.fs=⟨[.ro 1,.ro 1],s53.F,false⟩:=⟨nr rfl,nr rfl⟩
@[go_sem] def e53(hs:List Xd)(name:ByteArray)(h0:(hs.length<=20/\smL Xg hs/\okN name=true)):s53.F [.sl .ro 2 (hs.map (Xb .ro)),.s name]=some (.sl .mut 1 ((Yh hs name).map Xbi),[.u,.u]):=Xm (hs.length+1) rfl rfl (λcx h=>by
 have hl:=h0.1
 have hx:hs.length<=9223372036854775806:=by omega
 have hb0:=XR Tryz.f53 0 _ _ rfl rfl
 obtain⟨hI,hr⟩:=YK (cx:=cx) (blk:=0) (body:=Zt Tryz.f53 0) hs (λk (s:List ByteArray)=>⟨E [(0,.sl .ro 2 (hs.map (Xb .ro))),(1,.s name),(5,.sl .mut 1 (s.map Xbi)),(9,.sl .ro 2 (hs.map (Xb .ro))),(10,.i .i64 hs.length),(11,.i .i64 k)],B []⟩) (λs=>⟨E [(5,.sl .mut 1 (s.map Xbi))],B []⟩) (λx s=>(if eqv (Yc x.Name) (Yc name)=true then s++[x.Value] else s)) (λk s=>s.length<=k)
   (λs hI G=>by simp only[go_sem,reduceIte,↓reduceIte,reduceCtorEq,nA,nS,nM,nB,nE,nL,nT,nN,iL,iT,iE,iA,iM,iS,iG,iB,iN,iZ,h,Int.lt_irrefl,hb0,h0.1]) (λk hk s hI=>by
    have h1:((k:Int)<(hs.length:Int)):=Int.ofNat_lt.2 hk
    have t3:(s.length+1)*16<=140737488355328:=by omega
    have t4:s.map Xbi++[[.s hs[k].Value]]=(s++[hs[k].Value]).map Xbi:=by simp[Xbi]
    obtain⟨u1,u2⟩:=h0.2.1.2 _ (List.getElem_mem hk)
    have n1:hs[k].Name.size<=9223372036854775806/\name.size<=9223372036854775806:=⟨by have:hs[k].Name.size<=1048576:=u1; omega,of_decide_eq_true h0.2.2⟩
    cases d1:eqv (Yc hs[k].Name) (Yc name)
    all_goals exact⟨by split<;>(try simp only[List.length_append,List.length_cons,List.length_nil])<;>omega,_,λG=>by simp only[go_sem,reduceIte,↓reduceIte,reduceCtorEq,nA,nS,nM,nB,nE,nL,nT,nN,iL,iT,iE,iA,iM,iS,iG,iB,iN,iZ,h,t3,t4,QJ (Xb .ro) hs k hk,n1,d1,h1,Yb _ _ hk,XD (show k<9223372036854775807 by omega),hb0]<;>with_reducible rfl,by simp only[go_sem,reduceIte,↓reduceIte,reduceCtorEq,nA,nS,nM,nB,nE,nL,nT,nN,iL,iT,iE,iA,iM,iS,iG,iB,iN,iZ,h,d1]⟩) [] (by simp) (hs.length+1) (Nat.le_refl _)
 rw[hb0] at hr
 have hff:=Xox (λx:Xd=>eqv (Yc x.Name) (Yc name)) (λx=>x.Value) hs []
 simp only[List.nil_append] at hff
 rw[hff] at hr
 simp only[go_sem,reduceIte,↓reduceIte,reduceCtorEq,nA,nS,nM,nB,nE,nL,nT,nN,iL,iT,iE,iA,iM,iS,iG,iB,iN,iZ,h,hr,Yh]) (by simp only[go_sem,reduceIte,↓reduceIte,reduceCtorEq,nA,nS,nM,nB,nE,nL,nT,nN,iL,iT,iE,iA,iM,iS,iG,iB,iN,iZ,ZH,XF])
end
end Go.Vm.A
