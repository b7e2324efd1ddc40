/- Functions of the program, walked by the evaluator. -/
import Derived.Test.YtpoannkeaajngaaGreatDoorWb
import Derived.Test.YtpoannkeaajngaaGreatDoorWa
set_option linter.unusedVariables false
set_option linter.unusedSimpArgs false
set_option autoImplicit false
set_option maxRecDepth 100000
set_option maxHeartbeats 4000000
set_option linter.defProp false
namespace Go.Vm.A
open Go.Proofs
open Nat renaming reduceAdd -> nA, reduceSub -> nS, reduceMul -> nM, reduceBEq -> nB, reduceEqDiff -> nE, reduceLeDiff -> nL, reduceLT -> nT, reduceBneDiff -> nN
open Int renaming reduceLE -> iL, reduceLT -> iT, reduceEq -> iE, reduceAdd -> iA, reduceMul -> iM, reduceSub -> iS, reduceNeg -> iG, reduceBEq -> iB, reduceBNe -> iN, reduceToNat -> iZ
noncomputable section
def XbL{c v:UInt8}(h:c≠v):((c.toNat:Int)==(v.toNat:Int))=false:=by
 simp only[beq_eq_false_iff_ne,ne_eq,Int.ofNat_inj]
 exact λe=>h (UInt8.toNat_inj.1 e)
def Z5(c:UInt8):Bool:=(decide (97<=(c.toNat:Int))&&decide ((c.toNat:Int)<=122))||(decide (65<=(c.toNat:Int))&&decide ((c.toNat:Int)<=90))
def Zv(c:UInt8):Bool:=decide (48<=(c.toNat:Int))&&decide ((c.toNat:Int)<=57)
def Xki(l:List UInt8)(c:UInt8):0<=Lib.indexByte l c↔c∈l:=by
 induction l with
 | nil=>simp[Lib.indexByte]
 | cons b l ih =>
  have:=Lib.indexByte_ge l c
  unfold Lib.indexByte
  by_cases hb:b=c
  ·simp[hb]
  ·by_cases hx:Lib.indexByte l c =-1
   ·have hn:¬c∈l:=λh=>by have:=ih.2 h; omega
    simp[hx,hn,hb,Ne.symm hb]
   ·have h2:0<=Lib.indexByte l c:=by omega
    simp[hb,hx,ih.1 h2]; omega
def ixB(s:ByteArray)(c:UInt8):Int:=Lib.indexByte s.data.toList c
def Xii(l:List UInt8)(c:UInt8):decide (0<=ixB ⟨l.toArray⟩ c)=l.contains c:=by
 rw[Bool.eq_iff_iff,decide_eq_true_eq,List.contains_iff_mem]
 exact Xki l c
def Xpv(c:UInt8):((c.toNat:Int)).toNat.toUInt8=c:=by simp
def XmM:SP Tryz.prog:=mkS tyA 127 Tryz.f127 [] {md:=[.ro 1],rets:=some ([2],[])} Tryz.func127 (by kernel_rfl)
@[go_sem] def XF7:XmM.g=127/\XmM.fs=⟨[.ro 1],XmM.F,false⟩:=⟨nr rfl,nr rfl⟩
@[go_sem] def XF8(c:UInt8):XmM.F [.i .u8 c.toNat]=some (.b (Zv c),[.u]):=Xj (0) rfl rfl (λcx h=>by
 by_cases h1:48<=(c.toNat:Int)<;>by_cases h2:(c.toNat:Int)<=57<;>simp only[go_sem,reduceIte,↓reduceIte,reduceCtorEq,nA,nS,nM,nB,nE,nL,nT,nN,iL,iT,iE,iA,iM,iS,iG,iB,iN,iZ,h,h1,h2,Zv]) (rfl)
def Xpw:SP Tryz.prog:=mkS tyA 144 Tryz.f144 [] {md:=[.ro 1,.ro 1],rg:=[(0,[0,1],[]),(1,[0,1,7],[]),(2,[4],[]),(3,[4],[])],rets:=some ([4],[])} Tryz.func144 (by kernel_rfl)
@[go_sem] def XF9:Xpw.g=144/\Xpw.fs=⟨[.ro 1,.ro 1],Xpw.F,false⟩:=⟨nr rfl,nr rfl⟩
@[go_sem] def XGa(a b:Int):Xpw.F [.i .i64 a,.i .i64 b]=some (.i .i64 (if a<b then a else b),[.u,.u]):=Xj (0) rfl rfl (λcx h=>by
 simp only[go_sem,reduceIte,↓reduceIte,reduceCtorEq,nA,nS,nM,nB,nE,nL,nT,nN,iL,iT,iE,iA,iM,iS,iG,iB,iN,iZ,h,XoI]) (rfl)
def Xa7(p:UInt8->Bool)(lo hi:Int)(t:ByteArray):Bool:=decide (lo<=(t.size:Int))&&decide ((t.size:Int)<=hi)&&t.data.toList.all p
def Y9{p:UInt8->Bool}{lo hi:Int}{t:ByteArray}(h:(t.size:Int)<lo):Xa7 p lo hi t=false:=by
 have:¬lo<=(t.size:Int):=by omega
 simp[Xa7,this]
def Zz{p:UInt8->Bool}{lo hi:Int}{t:ByteArray}(h:hi<(t.size:Int)):Xa7 p lo hi t=false:=by
 have:¬(t.size:Int)<=hi:=by omega
 simp[Xa7,this]
def Qd{p:UInt8->Bool}{lo hi:Int}{t:ByteArray}(h:¬(t.size:Int)<lo)(h':¬hi<(t.size:Int)):Xa7 p lo hi t=t.data.toList.all p:=by
 have h1:lo<=(t.size:Int):=by omega
 have h2:(t.size:Int)<=hi:=by omega
 simp[Xa7,h1,h2]
def Qe{α:Type}{p:α->Bool}:∀{xs:List α} {u u':Unit},XaG (λx _=>!p x) (λ_ _=>()) xs u=.inl u'->xs.all p=true
 | [],_,_,_=>rfl
 | x :: xs,u,u',h=>by
  rw[YW] at h
  split at h
  ·cases h
  ·rename_i hc
   simp only[List.all_cons,Qe h,Bool.and_true]
   simpa using hc
def ZA{α:Type}{p:α->Bool}:∀{xs:List α} {u:Unit} {q:α×Unit},XaG (λx _=>!p x) (λ_ _=>()) xs u=.inr q->xs.all p=false
 | [],_,_,h=>by cases h
 | x :: xs,u,q,h=>by
  rw[YW] at h
  split at h
  ·rename_i hc
   have:p x=false:=by simpa using hc
   simp[this]
  ·simp only[List.all_cons,ZA h,Bool.and_false]
def UH(t:ByteArray)(k:Nat)(h:k<t.data.toList.length):t.data[k]?.getD 0=t.data.toList[k]:=by
 have h':k<t.data.size:=by simpa using h
 rw[Array.getElem?_eq_getElem h']
 simp
def Xe(t:ByteArray):t.size=t.data.toList.length:=by
 show t.data.size=_
 simp
def XaH(n:Int)(c:UInt8):Int:=if 2147483648<10*n+(IntKind.u8).wrap ((c.toNat:Int)-48) then 2147483648 else 10*n+(IntKind.u8).wrap ((c.toNat:Int)-48)
def XrI(x:Int):0<=(IntKind.u8).wrap x/\(IntKind.u8).wrap x<=255:=by unfold IntKind.wrap; simp[IntKind.bits,IntKind.signed]; omega
def XdQ{n:Int}(h:0<=n/\n<=2147483648)(c:UInt8):0<=XaH n c/\XaH n c<=2147483648:=by
 have:=XrI ((c.toNat:Int)-48)
 unfold XaH
 split<;>omega
def Zn(t:ByteArray):Int:=t.data.toList.foldl XaH 0
def XgK:∀(l:List UInt8) (n:Int),0<=n/\n<=2147483648->0<=l.foldl XaH n/\l.foldl XaH n<=2147483648
 | [],n,h=>h
 | c :: l,n,h=>XgK l (XaH n c) (XdQ h c)
def XeA(t:ByteArray):0<=Zn t/\Zn t<=2147483648:=XgK _ 0 (by omega)
def YQ(t:ByteArray):Bool:=Xa7 Zv 1 64 t
def Ya(t:ByteArray):Int:=if YQ t=true then Zn t else -1
def XbU(t:ByteArray):Zt:=if YQ t=true then⟨0,Zn t⟩ else⟨5,0⟩
def Xhi{p:UInt8->Bool}{lo hi:Int}{t:ByteArray}(h:Xa7 p lo hi t=true):(t.size:Int)<=hi:=by
 rcases Int.lt_or_le hi t.size with h1 | h1
 ·rcases Int.lt_or_le (t.size:Int) lo with h2 | h2
  ·rw[Y9 h2] at h; cases h
  ·rw[Zz h1] at h; cases h
 ·exact h1
def ZU{α σ:Type}{p:α->Bool}{g:σ->α->σ}:∀(xs:List α) (s:σ),(∀s',XaG (λx (_:σ)=>!p x) (λx s=>g s x) xs s=.inl s'->xs.all p=true/\s'=xs.foldl g s)/\(∀q,XaG (λx (_:σ)=>!p x) (λx s=>g s x) xs s=.inr q->xs.all p=false)
 | [],s=>⟨λs' h=>by rw[Xei] at h; injection h with h; exact⟨rfl,h.symm⟩,λq h=>by rw[Xei] at h; cases h⟩
 | x :: xs,s=>by
  rw[YW]
  cases hp:p x
  ·exact⟨λs' h=>(by rw[if_pos (by simp)] at h; cases h),λq _=>by rw[List.all_cons,hp]; rfl⟩
  ·rw[if_neg (by simp)]
   obtain⟨h1,h2⟩:=ZU (p:=p) (g:=g) xs (g s x)
   exact⟨λs' h=>by obtain⟨a,b⟩:=h1 s' h; exact⟨by rw[List.all_cons,hp,a]; rfl,b⟩,λq h=>by rw[List.all_cons,h2 q h,Bool.and_false]⟩
def s91:SP Tryz.prog:=mkS tyA 91 Tryz.f91 [XmM,Xpw] {md:=[.ro 1],rg:=[(0,[0],[]),(1,[0,12],[]),(2,[2],[]),(3,[0,3],[]),(4,[0,3,4],[]),(5,[0,3,4,16],[]),(6,[0,3,4],[]),(7,[0,3,4,23],[]),(8,[2],[]),(9,[0,3,4],[]),(10,[2],[])],lv:=[(0,[0,3,4],[])],out:=[(0,[3],[])],rets:=some ([2],[])} Tryz.func91 (by kernel_rfl)
@[go_sem] def d91:s91.g=91/\s91.fs=⟨[.ro 1],s91.F,false⟩:=⟨nr rfl,nr rfl⟩
@[go_sem] def e91(t:ByteArray):s91.F [.s t]=some (.i .i64 (Ya t),[.u]):=Xj (t.data.toList.length+1) rfl rfl (λcx h=>by
 have hu:YQ t=Xa7 Zv 1 64 t:=rfl
 by_cases h1:(t.size:Int)<1
 ·simp only[go_sem,reduceIte,↓reduceIte,reduceCtorEq,nA,nS,nM,nB,nE,nL,nT,nN,iL,iT,iE,iA,iM,iS,iG,iB,iN,iZ,h,Ya,h1,hu,Y9 h1,Bool.false_eq_true]
 by_cases h2:64<(t.size:Int)
 ·simp only[go_sem,reduceIte,↓reduceIte,reduceCtorEq,nA,nS,nM,nB,nE,nL,nT,nN,iL,iT,iE,iA,iM,iS,iG,iB,iN,iZ,h,Ya,h1,h2,hu,Zz h2,Bool.false_eq_true]
 have hx:t.data.toList.length<=9223372036854775806:=by rw[<-Xe]; omega
 have ha:=Qd (p:=Zv) h1 h2
 rw[Xe t] at h1 h2
 ·have hb0:=XF Tryz.f91 0 _ _ rfl rfl
  obtain⟨r,hr,hq⟩:=Yz (cx:=cx) (blk:=0) (body:=YN Tryz.f91 0) t.data.toList (λk (s:Int)=>⟨E [(0,.s t),(3,.i .i64 s),(4,.i .i64 k)],B []⟩) (λs=>⟨E [(3,.i .i64 s)],B []⟩) (λx s=>!Zv x) (λx s=>XaH s x) (λx s=>(.ret,⟨E [(2,.i .i64 (-1))],B []⟩)) (λk s=>(0<=s/\s<=2147483648))
    (λs hI G=>by simp only[go_sem,reduceIte,↓reduceIte,reduceCtorEq,nA,nS,nM,nB,nE,nL,nT,nN,iL,iT,iE,iA,iM,iS,iG,iB,iN,iZ,h,Int.lt_irrefl,hb0,Xe t]) (λk hk s hI=>by
     have h1:((k:Int)<(t.data.toList.length:Int)):=Int.ofNat_lt.2 hk
     have hz:=UH t k hk
     have hu:=XrI ((t.data.toList[k].toNat:Int)-48)
     have w1:(IntKind.i64).wrap (s*10)=10*s:=by rw[YL (by omega) (by omega)]; omega
     have w2:(IntKind.i64).wrap ((IntKind.u8).wrap ((t.data.toList[k].toNat:Int)-48))=(IntKind.u8).wrap ((t.data.toList[k].toNat:Int)-48):=YL (by omega) (by omega)
     have w3:(IntKind.i64).wrap (10*s+(IntKind.u8).wrap ((t.data.toList[k].toNat:Int)-48))=10*s+(IntKind.u8).wrap ((t.data.toList[k].toNat:Int)-48):=YL (by omega) (by omega)
     have m1:(if 10*s+(IntKind.u8).wrap ((t.data.toList[k].toNat:Int)-48)<2147483648 then 10*s+(IntKind.u8).wrap ((t.data.toList[k].toNat:Int)-48) else 2147483648)=XaH s t.data.toList[k]:=by unfold XaH; split<;>split<;>omega
     exact⟨_,_,_,λG=>by simp only[go_sem,reduceIte,↓reduceIte,reduceCtorEq,nA,nS,nM,nB,nE,nL,nT,nN,iL,iT,iE,iA,iM,iS,iG,iB,iN,iZ,h,hz,Xe t,w1,w2,w3,m1,h1,Xt _ _ hk,Xm (show k<9223372036854775807 by omega),hb0]<;>with_reducible rfl,Iff.rfl,λhc=>⟨XdQ hI _,by simp only[go_sem,reduceIte,↓reduceIte,reduceCtorEq,nA,nS,nM,nB,nE,nL,nT,nN,iL,iT,iE,iA,iM,iS,iG,iB,iN,iZ,h,Xe t]⟩⟩) 0 (by omega) (t.data.toList.length+1) (Nat.le_refl _)
  rw[hb0] at hr
  have hv:Zn t=t.data.toList.foldl XaH 0:=rfl
  rcases hq with⟨s',e1,_,e3⟩ | ⟨x,s',e1,e3⟩
  ·obtain⟨q1,q2⟩:=(ZU _ _).1 _ e1
   simp only[go_sem,reduceIte,↓reduceIte,reduceCtorEq,nA,nS,nM,nB,nE,nL,nT,nN,iL,iT,iE,iA,iM,iS,iG,iB,iN,iZ,h,Ya,h1,h2,Xe t,hr,e3,hu,ha,q1,q2,hv]
  ·have q1:=(ZU _ _).2 _ e1
   simp only[go_sem,reduceIte,↓reduceIte,reduceCtorEq,nA,nS,nM,nB,nE,nL,nT,nN,iL,iT,iE,iA,iM,iS,iG,iB,iN,iZ,h,Ya,h1,h2,Xe t,hr,e3,hu,ha,q1,Bool.false_eq_true]) (rfl)
def XaI{α β:Type}(f:α->β):∀(xs:List α) (s:List β),xs.foldl (λs x=>s++[f x]) s=s++xs.map f
 | [],s=>by simp
 | x :: xs,s=>by rw[List.foldl_cons,XaI f xs]; simp
def XcN(ws:List ByteArray):List Int:=if ws.all YQ=true then ws.map Zn else[]
def XbV{ws:List ByteArray}(h:ws.all YQ=true):XcN ws=ws.map Zn:=if_pos h
def XbW{ws:List ByteArray}(h:ws.all YQ=false):XcN ws=[]:=if_neg (by rw[h]; decide)
def XdR(x:ByteArray):(XdN x).size<=x.size/\(QZ x).size<=x.size:=by
 have h:(Lib.cut x.data.toList [61]).1.length<=x.data.toList.length/\(Lib.cut x.data.toList [61]).2.1.length<=x.data.toList.length:=by
  unfold Lib.cut
  split
  ·simp only[List.length_take,List.length_drop]; omega
  ·simp
 have e1:(XdN x).size=(Lib.cut x.data.toList [61]).1.length:=by unfold XdN; simp[ByteArray.size]
 have e2:(QZ x).size=(Lib.cut x.data.toList [61]).2.1.length:=by unfold QZ; simp[ByteArray.size]
 rw[e1,e2,Xe x]
 exact h
def UR(f:ByteArray->ByteArray)(ws:List ByteArray):List Xg:=if ws.all XaB=true then ws.map (λw=>⟨XdN w,f (QZ w)⟩) else[]
def XdS{f:ByteArray->ByteArray}{ws:List ByteArray}(h:ws.all XaB=true):UR f ws=ws.map (λw=>⟨XdN w,f (QZ w)⟩):=if_pos h
def XdT{f:ByteArray->ByteArray}{ws:List ByteArray}(h:ws.all XaB=false):UR f ws=[]:=if_neg (by rw[h]; decide)
def atV(l:List UInt8):Nat:=(l.takeWhile λc=>c !=61).length
def Xpx(l:List UInt8):atV l<=l.length:=(List.takeWhile_prefix _).length_le
def Xpy:∀l:List UInt8,Lib.indexByte l 61=if atV l<l.length then((atV l:Nat):Int) else -1
 | []=>rfl
 | b :: l=>by
  unfold Lib.indexByte
  by_cases h:b=61
  ·subst h
   rw[if_pos (by simp),if_pos (by simp[atV])]
   simp[atV]
  ·have e:atV (b :: l)=atV l+1:=by simp[atV,h]
   rw[if_neg (by simpa using h),Xpy l,e]
   by_cases h2:atV l<l.length
   ·rw[if_pos h2,if_neg (by simp<;>omega),if_pos (by simp; exact h2)]
    rfl
   ·rw[if_neg h2,if_pos (by decide),if_neg (by simp; omega)]
def Xpz(x:ByteArray):XaB x=decide (atV x.data.toList<x.data.toList.length)/\(atV x.data.toList<x.data.toList.length->XdN x=x.extract 0 (atV x.data.toList)/\QZ x=x.extract (atV x.data.toList+1) x.size):=by
 have hi:Lib.index x.data.toList [61]=if atV x.data.toList<x.data.toList.length then((atV x.data.toList:Nat):Int) else -1:=by rw[Lib.index_one]; exact Xpy _
 have hs:x.data.toList.length=x.size:=by simp
 by_cases h:atV x.data.toList<x.data.toList.length
 ·rw[if_pos h] at hi
  have hc:Lib.cut x.data.toList [61]=(x.data.toList.take (atV x.data.toList),x.data.toList.drop (atV x.data.toList+1),true):=by
   unfold Lib.cut
   rw[hi,if_pos (by omega)]
   rfl
  refine⟨by unfold XaB; rw[hc]; exact(decide_eq_true h).symm,λ_=>⟨?_,?_⟩⟩
  ·unfold XdN; rw[hc]
   apply XcL
   rw[Qh,List.drop_zero]
  ·unfold QZ; rw[hc]
   apply XcL
   rw[Qh,List.take_of_length_le (l:=x.data.toList) (i:=x.size) (by omega)]
 ·rw[if_neg h] at hi
  refine⟨?_,λh'=>absurd h' h⟩
  unfold XaB Lib.cut
  rw[hi,if_neg (by decide)]
  exact(decide_eq_false h).symm
@[go_sem] def XbX(xs:List UInt8):xs.map UV=xs.map XE:=nr rfl
def XfN(c:UInt8):UInt8:=if 65<=(c.toNat:Int)/\(c.toNat:Int)<=90 then c+32 else c
def Xbr(t:ByteArray):ByteArray:=⟨(t.data.toList.map XfN).toArray⟩
def Z6(xs:List UInt8)(k:Nat):List UInt8:=(xs.take k).map XfN++xs.drop k
def Xc9(xs:List UInt8):Z6 xs 0=xs:=by simp[Z6]
def XeB(xs:List UInt8):Z6 xs xs.length=xs.map XfN:=by simp[Z6]
def XaJ(xs:List UInt8)(k:Nat)(h:k<=xs.length):(Z6 xs k).length=xs.length:=by simp[Z6]; omega
def XdU(xs:List UInt8)(k:Nat)(h:k<xs.length):(Z6 xs k)[k]?=some xs[k]:=by
 unfold Z6
 rw[List.getElem?_append_right (by simp; omega)]
 simp[Nat.min_eq_left (Nat.le_of_lt h),h]
def Xda(xs:List UInt8)(k:Nat)(h:k<xs.length):(Z6 xs k).set k (XfN xs[k])=Z6 xs (k+1):=by
 unfold Z6
 rw[List.set_append_right _ _ (by simp; omega)]
 rw[List.length_map,List.length_take,Nat.min_eq_left (Nat.le_of_lt h),Nat.sub_self,List.drop_eq_getElem_cons h,List.set_cons_zero]
 have e:(xs.take (k+1)).map XfN=(xs.take k).map XfN++[XfN xs[k]]:=by
  rw[List.take_add_one,List.getElem?_eq_getElem h,Option.toList_some,List.map_append]; rfl
 rw[e]
 simp
def Xdb(xs:List UInt8)(k:Nat)(h:k<xs.length)(hc:XfN xs[k]=xs[k]):Z6 xs (k+1)=Z6 xs k:=by
 rw[<-Xda xs k h,hc]
 have:=XdU xs k h
 obtain⟨h1,h2⟩:=List.getElem?_eq_some_iff.1 this
 rw[<-h2]
 exact List.set_getElem_self h1
def XgL(xs:List UInt8)(k:Nat)(h:k<xs.length):((Z6 xs k).map XE).getD k []=[.i .u8 xs[k].toNat]:=by
 rw[List.getD_eq_getElem?_getD,List.getElem?_map,XdU xs k h]; rfl
def Xij(xs:List UInt8)(k:Nat)(h:k<xs.length):((Z6 xs k).map XE)[k]?=some [.i .u8 xs[k].toNat]:=by
 rw[List.getElem?_map,XdU xs k h]; rfl
def Xik{c:UInt8}(h:(c.toNat:Int)<=90):(c+32).toNat=c.toNat+32:=by
 rw[UInt8.toNat_add]
 have:(32:UInt8).toNat=32:=rfl
 rw[this]
 omega
def Xil(xs:List UInt8)(k:Nat)(h:k<xs.length) :
  (65<=(xs[k].toNat:Int)/\(xs[k].toNat:Int)<=90/\((IntKind.u8).wrap ((IntKind.u8).wrap ((xs[k].toNat:Int)+97)-65)=((XfN xs[k]).toNat:Int))/\((IntKind.u8).wrap ((xs[k].toNat:Int)+32)=((XfN xs[k]).toNat:Int))/\((Z6 xs k).map XE).set k [.i .u8 (XfN xs[k]).toNat]=(Z6 xs (k+1)).map XE/\True) \/
  (¬65<=(xs[k].toNat:Int)/\True/\True/\True/\True/\Z6 xs (k+1)=Z6 xs k)\/(65<=(xs[k].toNat:Int)/\¬(xs[k].toNat:Int)<=90/\True/\True/\True/\Z6 xs (k+1)=Z6 xs k):=by
 by_cases a1:65<=(xs[k].toNat:Int)
 ·by_cases a2:(xs[k].toNat:Int)<=90
  ·refine .inl ⟨a1,a2,?_,?_,?_,trivial⟩
   ·have hl:XfN xs[k]=xs[k]+32:=if_pos ⟨a1,a2⟩
    rw[hl,Xik a2]
    simp only[IntKind.wrap,IntKind.bits,IntKind.signed]
    simp
    omega
   ·have hl:XfN xs[k]=xs[k]+32:=if_pos ⟨a1,a2⟩
    rw[hl,Xik a2]
    simp only[IntKind.wrap,IntKind.bits,IntKind.signed]
    simp
    omega
   ·rw[<-Xda xs k h,List.map_set]; rfl
  ·exact .inr (.inr ⟨a1,a2,trivial,trivial,trivial,Xdb xs k h (if_neg λx=>a2 x.2)⟩)
 ·exact .inr (.inl ⟨a1,trivial,trivial,trivial,trivial,Xdb xs k h (if_neg λx=>a1 x.1)⟩)
def XmN(a b:UInt8):(((a.toNat:Int))==((b.toNat:Nat):Int))=(a==b):=by
 rw[Bool.eq_iff_iff,beq_iff_eq,beq_iff_eq]
 constructor
 ·intro h; exact UInt8.toNat_inj.1 (by omega)
 ·intro h; rw[h]
def Xme:∀(l:List UInt8) (s s':Nat),XaG (λx (_:Nat)=>x==61) (λ_ s=>s+1) l s=.inl s'->s'=s+l.length/\atV l=l.length
 | [],s,s',h=>by rw[Xei] at h; injection h with h; exact⟨by simp[h],rfl⟩
 | x :: l,s,s',h=>by
  rw[YW] at h
  by_cases hx:x=61
  ·subst hx; rw[if_pos (by simp)] at h; cases h
  ·rw[if_neg (by simpa using hx)] at h
   obtain⟨h1,h2⟩:=Xme l (s+1) s' h
   exact⟨by rw[h1,List.length_cons]; omega,by unfold atV at h2 ⊢; simp[hx,h2]⟩
def Xmf:∀(l:List UInt8) (s:Nat) (q:UInt8×Nat),XaG (λx (_:Nat)=>x==61) (λ_ s=>s+1) l s=.inr q->q.2=s+atV l/\atV l<l.length
 | [],s,q,h=>by cases h
 | x :: l,s,q,h=>by
  rw[YW] at h
  by_cases hx:x=61
  ·subst hx
   rw[if_pos (by simp)] at h
   injection h with h
   subst h
   exact⟨by simp[atV],by simp[atV]⟩
  ·rw[if_neg (by simpa using hx)] at h
   obtain⟨h1,h2⟩:=Xmf l (s+1) q h
   have e:atV (x :: l)=atV l+1:=by simp[atV,hx]
   exact⟨by rw[h1,e]; omega,by rw[e,List.length_cons]; omega⟩
def Ue(p:Bool)(c:UInt8):UInt8:=if(p&&(c==43))=true then 32 else c
def XbY(p:Bool)(t:ByteArray):ByteArray:=⟨(t.data.toList.map (Ue p)).toArray⟩
def XmO:XbY true=UN 43 32:=by
 funext t
 unfold XbY UN Ue
 simp
def XmP:XbY false=λx=>x:=by
 funext t
 have h:t.data.toList.map (Ue false)=t.data.toList:=by
  have:Ue false=λc=>c:=by funext c; unfold Ue; simp
  rw[this]; simp
 unfold XbY
 rw[h]
def XbM(p:Bool)(xs:List UInt8)(k:Nat):List UInt8:=(xs.take k).map (Ue p)++xs.drop k
def Xim(p:Bool)(xs:List UInt8):XbM p xs 0=xs:=by simp[XbM]
def Xkj(p:Bool)(xs:List UInt8):XbM p xs xs.length=xs.map (Ue p):=by simp[XbM]
def XgM(p:Bool)(xs:List UInt8)(k:Nat)(h:k<=xs.length):(XbM p xs k).length=xs.length:=by simp[XbM]; omega
def XfO(p:Bool)(xs:List UInt8)(k:Nat)(h:k<xs.length):(XbM p xs k)[k]?=some xs[k]:=by
 unfold XbM
 rw[List.getElem?_append_right (by simp; omega)]
 simp[Nat.min_eq_left (Nat.le_of_lt h),h]
def XeC(p:Bool)(xs:List UInt8)(k:Nat)(h:k<xs.length):(XbM p xs k).set k (Ue p xs[k])=XbM p xs (k+1):=by
 unfold XbM
 rw[List.set_append_right _ _ (by simp; omega)]
 rw[List.length_map,List.length_take,Nat.min_eq_left (Nat.le_of_lt h),Nat.sub_self,List.drop_eq_getElem_cons h,List.set_cons_zero]
 have e:(xs.take (k+1)).map (Ue p)=(xs.take k).map (Ue p)++[Ue p xs[k]]:=by
  rw[List.take_add_one,List.getElem?_eq_getElem h,Option.toList_some,List.map_append]; rfl
 rw[e]
 simp
def XeD(p:Bool)(xs:List UInt8)(k:Nat)(h:k<xs.length)(hc:Ue p xs[k]=xs[k]):XbM p xs (k+1)=XbM p xs k:=by
 rw[<-XeC p xs k h,hc]
 have:=XfO p xs k h
 obtain⟨h1,h2⟩:=List.getElem?_eq_some_iff.1 this
 rw[<-h2]
 exact List.set_getElem_self h1
def XmQ(p:Bool)(xs:List UInt8)(k:Nat)(h:k<xs.length):((XbM p xs k).map XE).getD k []=[.i .u8 xs[k].toNat]:=by
 rw[List.getD_eq_getElem?_getD,List.getElem?_map,XfO p xs k h]; rfl
def XpA(p:Bool)(xs:List UInt8)(k:Nat)(h:k<xs.length):((XbM p xs k).map XE)[k]?=some [.i .u8 xs[k].toNat]:=by
 rw[List.getElem?_map,XfO p xs k h]; rfl
def XpB(p:Bool)(xs:List UInt8)(k:Nat)(h:k<xs.length) :
  (p=true/\(((xs[k].toNat:Int))==43)=true/\((XbM p xs k).map XE).set k [.i .u8 32]=(XbM p xs (k+1)).map XE/\True)\/(p=false/\True/\True/\XbM p xs (k+1)=XbM p xs k)\/(p=true/\(((xs[k].toNat:Int))==43)=false/\True/\XbM p xs (k+1)=XbM p xs k):=by
 have hu:(((xs[k].toNat:Int))==43)=(xs[k]==43):=XmN xs[k] 43
 rw[hu]
 cases p
 ·exact .inr (.inl ⟨rfl,trivial,trivial,XeD false xs k h (by unfold Ue; simp)⟩)
 ·by_cases hc:(xs[k]==43)=true
  ·refine .inl ⟨rfl,hc,?_,trivial⟩
   have e:Ue true xs[k]=32:=by unfold Ue; rw[hc]; rfl
   rw[<-XeC true xs k h,List.map_set,e]; rfl
  ·have hc:(xs[k]==43)=false:=by simpa using hc
   exact .inr (.inr ⟨rfl,hc,trivial,XeD true xs k h (by unfold Ue; rw[hc]; rfl)⟩)
def XmR{ws:List ByteArray}(f:ByteArray->ByteArray){s':List Xg}(h:XaG (λx (_:List Xg)=>!XaB x) (λx s=>s++[Xg.mk (XdN x) (f (QZ x))]) ws []=.inl s'):ws.all XaB=true/\s'=ws.map λw=>Xg.mk (XdN w) (f (QZ w)):=by
 obtain⟨q1,q2⟩:=(ZU _ _).1 _ h
 rw[XaI,List.nil_append] at q2
 exact⟨q1,q2⟩
def mxL:List ByteArray->Nat
 | []=>0
 | x :: r=>x.size+1+mxL r
def Xmg:∀(ws:List ByteArray) (x:ByteArray),x∈ws->x.size+1<=mxL ws
 | y :: r,x,h=>by
  rcases List.mem_cons.1 h with h | h
  ·subst h; simp only[mxL]; omega
  ·have:=Xmg r x h; simp only[mxL]; omega
def s92:SP Tryz.prog:=mkS tyA 92 Tryz.f92 [] {md:=[.ro 1,.ro 1],rg:=[(0,[0,1],[]),(1,[0,1,6],[]),(2,[0,1,6,7],[]),(3,[0,1,6,7,15],[]),(4,[0,1,6,7],[]),(5,[0,1,6,7,8],[]),(6,[0,1,6,7,8,33],[]),(7,[0,1,6,7,8],[]),(8,[0,1,6,7,8,42],[]),(9,[4,5],[]),(10,[0,1,6,7,8,9],[]),(11,[0,1,6,7,8,9,10],[]),(12,[0,1,6,7,8,9,10,54],[]),(13,[0,1,6,7,8,9,10],[]),(14,[0,1,6,7,8,9,10,64],[]),(15,[0,1,6,7,8,9,10],[]),(16,[0,1,6,7],[]),(17,[4,5],[])],lv:=[(0,[0,1,6,7],[]),(2,[0,1,6,7,8],[]),(4,[0,1,6,7,8,9,10],[])],out:=[(0,[6],[]),(2,[0,1,6,7,8],[]),(4,[0,1,6,7,8,9],[])],rets:=some ([4,5],[]),plan:=[(16,(.take 0 (.take 1 (.take 2 (.take 3 (.take 4 (.take 5 (.take 6 (.take 7 (.take 8 (.take 9 (.one 10 (.one 11 (.one 12 .done))))))))))))))]} Tryz.func92 (by kernel_rfl)
@[go_sem] def d92:s92.g=92/\s92.fs=⟨[.ro 1,.ro 1],s92.F,false⟩:=⟨nr rfl,nr rfl⟩
@[go_sem] def e92(ws:List ByteArray)(p:Bool)(h0:smL Zy ws):s92.F [.sl .ro 1 (ws.map X8),.b p]=some (.tup [.sl .mut 2 ((UR (XbY p) ws).map (Xb .mut)),.b (ws.all XaB)],[.u,.u]):=Xj (mxL ws+ws.length+1) rfl rfl (λcx h=>by
 obtain⟨M,hM⟩:∃M,M=mxL ws+ws.length+1:=⟨_,rfl⟩
 rw[<-hM] at h
 have hmax:∀x∈ws,x.size+1<=M:=λx hx=>by have:=Xmg ws x hx; omega
 have hN0:ws.length+1<=M:=by omega
 have hwl:ws.length<=1048576:=h0.1
 have hx:ws.length<=9223372036854775806:=by omega
 have hb0:=XF Tryz.f92 0 _ _ rfl rfl
 obtain⟨r,hr,hq⟩:=ZF (cx:=cx) (blk:=0) (body:=YN Tryz.f92 0) ws (λk (s:List Xg)=>⟨E [(0,.sl .ro 1 (ws.map X8)),(1,.b p),(6,.sl .mut 2 (s.map (Xb .mut))),(7,.i .i64 (k:Nat))],B []⟩) (λs=>⟨E [(6,.sl .mut 2 (s.map (Xb .mut)))],B []⟩) (λx s=>!XaB x) (λx s=>s++[Xg.mk (XdN x) (XbY p (QZ x))]) (λx s=>(.ret,⟨E [(4,.sl .mut 2 []),(5,.b false)],B []⟩)) (λk s=>s.length<=k)
   (λs hI G=>by simp only[go_sem,reduceIte,↓reduceIte,reduceCtorEq,nA,nS,nM,nB,nE,nL,nT,nN,iL,iT,iE,iA,iM,iS,iG,iB,iN,iZ,h,Int.lt_irrefl,hb0,List.length_map]) (λk hk s hI=>by
    have h1:((k:Int)<(ws.length:Int)):=Int.ofNat_lt.2 hk
    obtain⟨q,hq0⟩:∃q,q=k:=⟨k,rfl⟩
    obtain⟨out,hout⟩:∃out,out=s:=⟨s,rfl⟩
    have hq1:q<ws.length:=by omega
    have z1:ws[q].size<=1048576:=h0.2 _ (List.getElem_mem hq1)
    have z2:=(XdR ws[q]).2
    have hca:=Xpz ws[q]
    have hN1:ws[q].data.toList.length+1<=M:=by have:=hmax _ (List.getElem_mem hq1); rw[Xe] at this; omega
    have hN2:(QZ ws[q]).data.toList.length+1<=M:=by have:=hmax _ (List.getElem_mem hq1); rw[Xe (QZ ws[q])] at z2; omega
    have hx:ws[q].data.toList.length<=9223372036854775806:=by rw[<-Xe]; omega
    have hb1:=XF Tryz.f92 1 _ _ rfl rfl
    obtain⟨r1,hr1,hqr1⟩:=ZF (cx:=cx) (blk:=2) (body:=YN Tryz.f92 1) ws[q].data.toList (λk (s:Nat)=>⟨E [(0,.sl .ro 1 (ws.map X8)),(1,.b p),(6,.sl .mut 2 (out.map (Xb .mut))),(7,.i .i64 (q:Nat)),(8,.i .i64 (k:Nat))],B []⟩) (λs=>⟨E [(0,.sl .ro 1 (ws.map X8)),(1,.b p),(6,.sl .mut 2 (out.map (Xb .mut))),(7,.i .i64 (q:Nat)),(8,.i .i64 ((ws[q].data.toList.length):Nat))],B []⟩) (λx s=>x==61) (λx s=>s+1) (λx s=>(.ex 2,⟨E [(0,.sl .ro 1 (ws.map X8)),(1,.b p),(6,.sl .mut 2 (out.map (Xb .mut))),(7,.i .i64 (q:Nat)),(8,.i .i64 ((s:Nat):Int))],B []⟩)) (λk s=>s=k)
      (λs hI G=>by simp only[go_sem,reduceIte,↓reduceIte,reduceCtorEq,nA,nS,nM,nB,nE,nL,nT,nN,iL,iT,iE,iA,iM,iS,iG,iB,iN,iZ,h,Int.lt_irrefl,hb1,Xt ws.length q hq1,YH X8 ws q hq1,Xe ws[q],List.length_map]) (λk hk s hI=>by
       have h1:((k:Int)<(ws[q].data.toList.length:Int)):=Int.ofNat_lt.2 hk
       have hI2:=hI.symm
       subst hI2
       have hz:=UH ws[q] k hk
       have i1:=Xt ws.length q hq1
       have u5:(((ws[q].data.toList[k]).toNat:Int) !=61)=!(ws[q].data.toList[k]==61):=by rw[bne,show(61:Int)=(((61:UInt8).toNat:Nat):Int) from rfl,XmN]
       have g1:=YH X8 ws q hq1
       by_cases c5:(ws[q].data.toList[k]==61)=false
       ·skip
        all_goals exact .inr ⟨c5,by rw[hI],_,λG=>by simp only[go_sem,reduceIte,↓reduceIte,reduceCtorEq,nA,nS,nM,nB,nE,nL,nT,nN,iL,iT,iE,iA,iM,iS,iG,iB,iN,iZ,h,hz,i1,u5,c5,g1,Xe ws[q],List.length_map,Bool.not_false,h1,Xt _ _ hk,Xm (show k<9223372036854775807 by omega),hb1]<;>with_reducible rfl,by simp only[go_sem,reduceIte,↓reduceIte,reduceCtorEq,nA,nS,nM,nB,nE,nL,nT,nN,iL,iT,iE,iA,iM,iS,iG,iB,iN,iZ,h]⟩
       ·have c6:(ws[q].data.toList[k]==61)=true:=by simpa using c5
        all_goals exact .inl ⟨by simpa using c5,λG=>by simp only[go_sem,reduceIte,↓reduceIte,reduceCtorEq,nA,nS,nM,nB,nE,nL,nT,nN,iL,iT,iE,iA,iM,iS,iG,iB,iN,iZ,h,hz,i1,u5,g1,Xe ws[q],List.length_map,Bool.not_false,c6,Bool.not_true,h1,Xt _ _ hk,Xm (show k<9223372036854775807 by omega),hb1]⟩) 0 rfl M (hN1)
    rw[hb1] at hr1
    have hx:(QZ ws[q]).data.toList.length<=9223372036854775806:=by rw[<-Xe]; omega
    have hb2:=XF Tryz.f92 2 _ _ rfl rfl
    obtain⟨hI,hr2⟩:=YG (cx:=cx) (blk:=4) (body:=YN Tryz.f92 2) (QZ ws[q]).data.toList (λk (s:Unit)=>⟨E [(0,.sl .ro 1 (ws.map X8)),(1,.b p),(6,.sl .mut 2 (out.map (Xb .mut))),(7,.i .i64 (q:Nat)),(8,.i .i64 ((atV ws[q].data.toList:Nat):Int)),(9,.sl .mut 1 ((XbM p (QZ ws[q]).data.toList k).map XE)),(10,.i .i64 (k:Nat))],B []⟩) (λs=>⟨E [(0,.sl .ro 1 (ws.map X8)),(1,.b p),(6,.sl .mut 2 (out.map (Xb .mut))),(7,.i .i64 (q:Nat)),(8,.i .i64 ((atV ws[q].data.toList:Nat):Int)),(9,.sl .mut 1 (((QZ ws[q]).data.toList.map (Ue p)).map XE))],B []⟩) (λx s=>s) (λk s=>True)
      (λs hI G=>by simp only[go_sem,reduceIte,↓reduceIte,reduceCtorEq,nA,nS,nM,nB,nE,nL,nT,nN,iL,iT,iE,iA,iM,iS,iG,iB,iN,iZ,h,Int.lt_irrefl,hb2,XgM p (QZ ws[q]).data.toList (QZ ws[q]).data.toList.length (Nat.le_refl _),Xkj p (QZ ws[q]).data.toList,List.length_map]) (λk hk s hI=>by
       have h1:((k:Int)<((QZ ws[q]).data.toList.length:Int)):=Int.ofNat_lt.2 hk
       have g1:=XmQ p (QZ ws[q]).data.toList k hk
       have g2:=XpA p (QZ ws[q]).data.toList k hk
       have g3:=XgM p (QZ ws[q]).data.toList k (Nat.le_of_lt hk)
       have g4:(List.take (QZ ws[q]).data.toList.length ((XbM p (QZ ws[q]).data.toList k).map XE))=(XbM p (QZ ws[q]).data.toList k).map XE:=List.take_of_length_le (by rw[List.length_map,g3]; exact Nat.le_refl _)
       rcases XpB p (QZ ws[q]).data.toList k hk with⟨rfl,hc,hs,hv⟩ | ⟨rfl,hc,hs,hv⟩ | ⟨rfl,hc,hs,hv⟩
       all_goals exact⟨trivial,_,λG=>by simp only[go_sem,reduceIte,↓reduceIte,reduceCtorEq,nA,nS,nM,nB,nE,nL,nT,nN,iL,iT,iE,iA,iM,iS,iG,iB,iN,iZ,h,g1,g2,g3,g4,hc,hs,List.length_map,h1,Xt _ _ hk,Xm (show k<9223372036854775807 by omega),hb2]<;>with_reducible rfl,by simp only[go_sem,reduceIte,↓reduceIte,reduceCtorEq,nA,nS,nM,nB,nE,nL,nT,nN,iL,iT,iE,iA,iM,iS,iG,iB,iN,iZ,h,hv]⟩) () trivial M (hN2)
    rw[hb2] at hr2
    subst hq0 hout
    rw[Xim] at hr2
    have hy:r1=some (.ex 2,⟨E [(0,.sl .ro 1 (ws.map X8)),(1,.b p),(6,.sl .mut 2 (out.map (Xb .mut))),(7,.i .i64 (q:Nat)),(8,.i .i64 ((atV ws[q].data.toList:Nat):Int))],B []⟩):=by
     rcases hqr1 with⟨s',e1,_,e3⟩ | ⟨x,s',e1,e3⟩
     ·rw[e3,(Xme _ _ _ e1).2]
     ·have e5:s'=0+atV ws[q].data.toList:=(Xmf _ _ _ e1).1
      rw[e3,e5,Nat.zero_add]
    rw[hy] at hr1
    by_cases c0:XaB ws[q]=true
    ·skip
     have hlt:atV ws[q].data.toList<ws[q].data.toList.length:=by have:=hca.1; rw[c0] at this; exact of_decide_eq_true this.symm
     obtain⟨ha,hb⟩:=hca.2 hlt
     have q8:(((((atV ws[q].data.toList:Nat):Int):Int))==((ws[q].data.toList.length:Nat):Int))=false:=by rw[beq_eq_false_iff_ne]; omega
     have w8:(IntKind.i64).wrap (((atV ws[q].data.toList:Nat):Int)+1)=((atV ws[q].data.toList+1:Nat):Int):=Xm (by rw[<-Xe] at hlt; omega)
     have b1:((atV ws[q].data.toList+1:Nat):Int)<=((ws[q].data.toList.length:Nat):Int):=by omega
     have b2:(0:Int)<=((atV ws[q].data.toList+1:Nat):Int):=by omega
     have b3:((atV ws[q].data.toList:Nat):Int)<=((ws[q].data.toList.length:Nat):Int):=by omega
     have b4:(0:Int)<=((atV ws[q].data.toList:Nat):Int):=by omega
     have hb':ws[q].extract (atV ws[q].data.toList+1) ws[q].data.toList.length=QZ ws[q]:=by rw[hb,Xe]
     have hzv:(QZ ws[q]).size<=9223372036854775807:=by omega
     have t3:(out.length+1)*32<=140737488355328:=by omega
     have ps:XbY p (QZ ws[q])=⟨((QZ ws[q]).data.toList.map (Ue p)).toArray⟩:=rfl
     have t4:out.map (Xb .mut)++[[.s (XdN ws[q]),.s ⟨((QZ ws[q]).data.toList.map (Ue p)).toArray⟩]]=(out++[Xg.mk (XdN ws[q]) (XbY p (QZ ws[q]))]).map (Xb .mut):=by rw[ps]; simp[Xb]
     all_goals exact .inr ⟨by simp[c0],by simp only[List.length_append,List.length_cons,List.length_nil]; omega,_,λG=>by simp only[go_sem,reduceIte,↓reduceIte,reduceCtorEq,nA,nS,nM,nB,nE,nL,nT,nN,iL,iT,iE,iA,iM,iS,iG,iB,iN,iZ,h,hr1,hr2,q8,w8,b1,b2,b3,b4,hb',ha.symm,hzv,t3,t4,c0,Int.toNat_natCast,XbX,YH X8 ws q hq1,Xe ws[q],List.length_map,h1,Xt ws.length q hq1,Xm (show q<9223372036854775807 by omega),hb0]<;>with_reducible rfl,by simp only[go_sem,reduceIte,↓reduceIte,reduceCtorEq,nA,nS,nM,nB,nE,nL,nT,nN,iL,iT,iE,iA,iM,iS,iG,iB,iN,iZ,h]⟩
    ·have c1:XaB ws[q]=false:=by simpa using c0
     have hlt:¬(atV ws[q].data.toList<ws[q].data.toList.length):=by have:=hca.1; rw[c1] at this; exact of_decide_eq_false this.symm
     have hle:=Xpx ws[q].data.toList
     have q8:(((((atV ws[q].data.toList:Nat):Int):Int))==((ws[q].data.toList.length:Nat):Int))=true:=by rw[beq_iff_eq]; omega
     all_goals exact .inl ⟨by simp[c0],λG=>by simp only[go_sem,reduceIte,↓reduceIte,reduceCtorEq,nA,nS,nM,nB,nE,nL,nT,nN,iL,iT,iE,iA,iM,iS,iG,iB,iN,iZ,h,hr1,q8,Int.toNat_natCast,XbX,YH X8 ws q hq1,Xe ws[q],List.length_map,c1,h1,Xt ws.length q hq1,Xm (show q<9223372036854775807 by omega),hb0]⟩) [] (by simp) M (hN0)
 rw[hb0] at hr
 rcases hq with⟨s',e1,_,e3⟩ | ⟨x,s',e1,e3⟩
 ·obtain⟨q1,q2⟩:=XmR (XbY p) e1
  simp only[go_sem,reduceIte,↓reduceIte,reduceCtorEq,nA,nS,nM,nB,nE,nL,nT,nN,iL,iT,iE,iA,iM,iS,iG,iB,iN,iZ,h,hr,e3,q1,q2,XdS q1,List.length_map]
 ·have q1:=(ZU _ _).2 _ e1
  simp only[go_sem,reduceIte,↓reduceIte,reduceCtorEq,nA,nS,nM,nB,nE,nL,nT,nN,iL,iT,iE,iA,iM,iS,iG,iB,iN,iZ,h,hr,e3,q1,XdT q1,List.length_map]) (by simp only[go_sem,reduceIte,↓reduceIte,reduceCtorEq,nA,nS,nM,nB,nE,nL,nT,nN,iL,iT,iE,iA,iM,iS,iG,iB,iN,iZ,ZS,XJ,XU,XQ])
end
end Go.Vm.A
