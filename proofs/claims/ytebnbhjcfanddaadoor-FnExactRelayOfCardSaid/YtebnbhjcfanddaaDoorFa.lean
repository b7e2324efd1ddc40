/- Functions of the program, walked by the evaluator. -/
import Derived.Test.YtebnbhjcfanddaaDoorWb
import Derived.Test.YtebnbhjcfanddaaDoorWa
set_option linter.unusedVariables false
set_option linter.unusedSimpArgs false
set_option autoImplicit false
set_option maxRecDepth 100000
set_option maxHeartbeats 4000000
set_option linter.defProp false
namespace Go.Vm.A
open Go.Proofs
open Nat renaming reduceAdd -> nA, reduceSub -> nS, reduceMul -> nM, reduceBEq -> nB, reduceEqDiff -> nE, reduceLeDiff -> nL, reduceLT -> nT, reduceBneDiff -> nN
open Int renaming reduceLE -> iL, reduceLT -> iT, reduceEq -> iE, reduceAdd -> iA, reduceMul -> iM, reduceSub -> iS, reduceNeg -> iG, reduceBEq -> iB, reduceBNe -> iN, reduceToNat -> iZ
noncomputable section
def s65:SP Tryd.prog:=mkS tyA 65 Tryd.f65 [] {md:=[.ro 1,.ro 1],rg:=[(0,[1,2],[2]),(1,[1,2],[2]),(2,[1,2,11],[2]),(3,[4],[]),(4,[1],[]),(5,[1,18],[]),(6,[4],[]),(7,[4],[])],rets:=some ([4],[])} Tryd.func65 (by kernel_rfl)
@[go_sem] def d65:s65.g=65/\s65.fs=⟨[.ro 1,.ro 1],s65.F,false⟩:=⟨nr rfl,nr rfl⟩
@[go_sem] def e65(z0 z1:ByteArray)(l:Int)(h0:Ue (Xh.mk z0 z1)):s65.F [.agg [.s z0,.s z1],.i .i64 l]=some (.i .i64 (ZR (Xh.mk z0 z1) l),[.u,.u]):=Xs (0) rfl rfl (λcx h=>by
 obtain⟨q0,q1⟩:=h0
 simp only[go_sem,reduceIte,↓reduceIte,nA,nB,nE,nL,iG,h]
 simp only[ZR,szs,XoH]) (rfl)
def s39:SP Tryd.prog:=mkS tyA 39 Tryd.f39 [s65] {md:=[.ro 1,.ro 1],rg:=[(0,[0,1],[]),(1,[0,1],[]),(2,[0,1,11],[]),(3,[4],[]),(4,[0,1,5],[]),(5,[0,1,5,15],[]),(6,[0,1,5],[]),(7,[0,1,5],[]),(8,[0,1,5,25],[]),(9,[4],[]),(10,[4],[])],lv:=[(0,[0,1,5],[])],out:=[(0,[1],[])],rets:=some ([4],[])} Tryd.func39 (by kernel_rfl)
@[go_sem] def d39:s39.g=39/\s39.fs=⟨[.ro 1,.ro 1],s39.F,false⟩:=⟨nr rfl,nr rfl⟩
@[go_sem] def e39(xs:List Xh)(l:Int)(h0:okL Ue xs):s39.F [.sl .ro 2 (xs.map (Xb .ro)),.i .i64 l]=some (.i .i64 (szL ZR xs l),[.u,.u]):=Xs (xs.length+1) rfl rfl (λcx h=>by
 have hb:=XS Tryd.f39 0 _ _ rfl rfl
 have hx:=h0.1
 obtain⟨r,hr,hq⟩:=Q0 (cx:=cx) (blk:=0) (body:=Zw Tryd.f39 0) xs (λk l=>⟨E [(0,.sl .ro 2 (xs.map (Xb .ro))),(1,.i .i64 l),(5,.i .i64 k)],B []⟩) (λl=>⟨E [(1,.i .i64 l)],B []⟩) (λx l=>decide (ZR x l<0)) (λx l=>ZR x l) (λ_ _=>(.ret,⟨E [(4,.i .i64 (-1))],B []⟩)) (λ_ _=>True)
  (λl _ G=>by simp only[go_sem,reduceIte,↓reduceIte,nB,nE,iG,h,Int.lt_irrefl,hb]) (λk hk l _=>by
   have h1:((k:Int)<(xs.length:Int)):=Int.ofNat_lt.2 hk
   have h2:=h0.2 _ (List.getElem_mem hk)
   by_cases hc:ZR xs[k] l<0
   ·exact .inl ⟨decide_eq_true hc,λG=>by simp only[go_sem,reduceIte,↓reduceIte,nA,nB,nE,iG,h,h2,hc,Zg (Xb .ro) xs k hk,h1,Yi _ _ hk,hb]⟩
   ·exact .inr ⟨decide_eq_false hc,trivial,_,λG=>by simp only[go_sem,reduceIte,↓reduceIte,nA,nB,nE,iG,h,h2,hc,Zg (Xb .ro) xs k hk,h1,Yi _ _ hk,XN (show k<9223372036854775807 by omega),hb]<;>with_reducible rfl,by simp only[go_sem,reduceIte,↓reduceIte,nB,h]⟩) ((IntKind.i64).wrap (l-(xs.length:Int))) trivial (xs.length+1) (Nat.le_refl _)
 rw[hb] at hr
 unfold szL szs
 by_cases hc:(IntKind.i64).wrap (l-(xs.length:Int))<0
 ·simp only[go_sem,reduceIte,↓reduceIte,nB,nE,iG,h,hc]
 ·rcases hq with⟨s',e1,e2,e3⟩ | ⟨x,s',e1,e3⟩
  ·simp only[go_sem,reduceIte,↓reduceIte,nB,nE,iG,h,hc,hr,e3,XhD e1,Option.getD_some]
  ·simp only[go_sem,reduceIte,↓reduceIte,nB,nE,iG,h,hc,hr,e3,XhE e1,Option.getD_none]) (rfl)
def s40:SP Tryd.prog:=mkS tyA 40 Tryd.f40 [] {md:=[.ro 1,.ro 1],rg:=[(0,[0,1],[]),(1,[1],[]),(2,[1,10],[]),(3,[4],[]),(4,[4],[])],rets:=some ([4],[])} Tryd.func40 (by kernel_rfl)
@[go_sem] def d40:s40.g=40/\s40.fs=⟨[.ro 1,.ro 1],s40.F,false⟩:=⟨nr rfl,nr rfl⟩
@[go_sem] def e40(xs:List UInt8)(l:Int):s40.F [.sl .ro 1 (xs.map Xw),.i .i64 l]=some (.i .i64 (Xbo xs l),[.u,.u]):=Xs (0) rfl rfl (λcx h=>by
 simp only[go_sem,reduceIte,↓reduceIte,nB,nE,iG,h]
 simp only[Xbo,szs,XoH]) (rfl)
def s17:SP Tryd.prog:=mkS tyA 17 Tryd.f17 [s39,s40] {md:=[.ro 1,.ro 1],rg:=[(0,[1,2],[2]),(1,[1,2],[2]),(2,[1,2,10],[2]),(3,[4],[]),(4,[1],[]),(5,[1,16],[]),(6,[4],[]),(7,[4],[])],rets:=some ([4],[])} Tryd.func17 (by kernel_rfl)
@[go_sem] def d17:s17.g=17/\s17.fs=⟨[.ro 1,.ro 1],s17.F,false⟩:=⟨nr rfl,nr rfl⟩
@[go_sem] def e17(z2:Int)(z3:List Xh)(z4:List UInt8)(l:Int)(h0:Uf (Response.mk z2 z3 z4)):s17.F [.agg [.i .i64 z2,.sl .ro 2 (z3.map (Xb .ro)),.sl .ro 1 (z4.map Xw)],.i .i64 l]=some (.i .i64 (ZX (Response.mk z2 z3 z4) l),[.u,.u]):=Xs (0) rfl rfl (λcx h=>by
 obtain⟨q0,q1,q2⟩:=h0
 simp only[go_sem,reduceIte,↓reduceIte,nA,nB,nE,nL,iG,h,q1]
 simp only[ZX,szn,XoH]) (rfl)
def within(a b c:Int):Bool:=decide (b<=a)&&decide (a<=c)
def s60:SP Tryd.prog:=mkS tyA 60 Tryd.f60 [] {md:=[.ro 1,.ro 1,.ro 1],rets:=some ([6],[])} Tryd.func60 (by kernel_rfl)
@[go_sem] def d60:s60.g=60/\s60.fs=⟨[.ro 1,.ro 1,.ro 1],s60.F,false⟩:=⟨nr rfl,nr rfl⟩
@[go_sem] def e60(a b c:Int):s60.F [.i .i64 a,.i .i64 b,.i .i64 c]=some (.b (within a b c),[.u,.u,.u]):=Xs (0) rfl rfl (λcx h=>by
 simp only[go_sem,reduceIte,↓reduceIte,nA,nB,h,within]
 by_cases h:b<=a<;>simp[h]) (rfl)
def XeF{c v:UInt8}(h:c≠v):((c.toNat:Int)==(v.toNat:Int))=false:=by
 simp only[beq_eq_false_iff_ne,ne_eq,Int.ofNat_inj]
 exact λe=>h (UInt8.toNat_inj.1 e)
def Qr(c:UInt8):Bool:=(decide (97<=(c.toNat:Int))&&decide ((c.toNat:Int)<=122))||(decide (65<=(c.toNat:Int))&&decide ((c.toNat:Int)<=90))
def QI(c:UInt8):Bool:=decide (48<=(c.toNat:Int))&&decide ((c.toNat:Int)<=57)
def XhR(l:List UInt8)(c:UInt8):0<=Lib.indexByte l c↔c∈l:=by
 induction l with
 | nil=>simp[Lib.indexByte]
 | cons b l ih =>
  have:=Lib.indexByte_ge l c
  unfold Lib.indexByte
  by_cases hb:b=c
  ·simp[hb]
  ·by_cases hx:Lib.indexByte l c =-1
   ·have hn:¬c∈l:=λh=>by have:=ih.2 h; omega
    simp[hx,hn,hb,Ne.symm hb]
   ·have h2:0<=Lib.indexByte l c:=by omega
    simp[hb,hx,ih.1 h2]; omega
def ixB(s:ByteArray)(c:UInt8):Int:=Lib.indexByte s.data.toList c
def Xjv(l:List UInt8)(c:UInt8):decide (0<=ixB ⟨l.toArray⟩ c)=l.contains c:=by
 rw[Bool.eq_iff_iff,decide_eq_true_eq,List.contains_iff_mem]
 exact XhR l c
def XlV(c:UInt8):((c.toNat:Int)).toNat.toUInt8=c:=by simp
def XlW:SP Tryd.prog:=mkS tyA 137 Tryd.f137 [] {md:=[.ro 1],rets:=some ([2],[])} Tryd.func137 (by kernel_rfl)
@[go_sem] def XAZ:XlW.g=137/\XlW.fs=⟨[.ro 1],XlW.F,false⟩:=⟨nr rfl,nr rfl⟩
@[go_sem] def XA0(c:UInt8):XlW.F [.i .u8 c.toNat]=some (.b (Qr c),[.u]):=Xs (0) rfl rfl (λcx h=>by
 by_cases h1:97<=(c.toNat:Int)<;>by_cases h2:(c.toNat:Int)<=122<;>by_cases h3:65<=(c.toNat:Int)<;>by_cases h4:(c.toNat:Int)<=90<;>simp only[go_sem,reduceIte,↓reduceIte,nB,h,h1,h2,h3,h4,Qr]) (rfl)
def XlX:SP Tryd.prog:=mkS tyA 138 Tryd.f138 [] {md:=[.ro 1],rets:=some ([2],[])} Tryd.func138 (by kernel_rfl)
@[go_sem] def XA1:XlX.g=138/\XlX.fs=⟨[.ro 1],XlX.F,false⟩:=⟨nr rfl,nr rfl⟩
@[go_sem] def XA2(c:UInt8):XlX.F [.i .u8 c.toNat]=some (.b (QI c),[.u]):=Xs (0) rfl rfl (λcx h=>by
 by_cases h1:48<=(c.toNat:Int)<;>by_cases h2:(c.toNat:Int)<=57<;>simp only[go_sem,reduceIte,↓reduceIte,nB,h,h1,h2,QI]) (rfl)
def Xfc:List UInt8:=[33,35,36,37,38,39,42,43,45,46,94,95,124,126]
def UB(c:UInt8):Bool:=Qr c||QI c||Xfc.contains c
def Xf7{c:UInt8}(h:c∈Xfc):UB c=true:=by
 have:Xfc.contains c=true:=List.contains_iff_mem.2 h
 simp[UB,this,-List.contains_eq_mem]
def Xf8{c:UInt8}(h:¬c∈Xfc):UB c=(Qr c||QI c):=by
 have:Xfc.contains c=false:=by rw[Bool.eq_false_iff]; exact λe=>h (List.contains_iff_mem.1 e)
 simp[UB,this,-List.contains_eq_mem]
def XjY(c:UInt8):decide (0<=ixB ⟨#[33,35,36,37,38,39,42,43,45,46,94,95,124,126]⟩ c)=Xfc.contains c:=Xjv Xfc c
@[go_sem] def Xm3(c:UInt8):decide (ixB ⟨#[33,35,36,37,38,39,42,43,45,46,94,95,124,126]⟩ c>=0)=Xfc.contains c:=Xjv Xfc c
def XlY:SP Tryd.prog:=mkS tyA 116 Tryd.f116 [XlW,XlX] {md:=[.ro 1],rg:=[(0,[0],[]),(1,[0,3],[]),(2,[0,3,4],[]),(3,[0,3,4],[]),(4,[0,3,4],[]),(5,[0,3,4],[]),(6,[0,3,4],[]),(7,[0,3,4],[]),(8,[0,3,4],[]),(9,[0,3,4],[]),(10,[0,3,4],[]),(11,[0,3,4],[]),(12,[0,3,4],[]),(13,[0,3,4],[]),(14,[0,3,4],[]),(15,[0,4],[]),(16,[2],[]),(17,[2],[])],rets:=some ([2],[])} Tryd.func116 (by kernel_rfl)
@[go_sem] def XA3:XlY.g=116/\XlY.fs=⟨[.ro 1],XlY.F,false⟩:=⟨nr rfl,nr rfl⟩
@[go_sem] def XA4(c:UInt8):XlY.F [.i .u8 c.toNat]=some (.b (UB c),[.u]):=Xs (0) rfl rfl (λcx h=>by
 by_cases m:c∈Xfc
 ·have hw:=Xf7 m
  simp only[Xfc,List.mem_cons,List.not_mem_nil,or_false] at m
  have u33:(((33:UInt8).toNat:Nat):Int)=33:=rfl
  have u35:(((35:UInt8).toNat:Nat):Int)=35:=rfl
  have u36:(((36:UInt8).toNat:Nat):Int)=36:=rfl
  have u37:(((37:UInt8).toNat:Nat):Int)=37:=rfl
  have u38:(((38:UInt8).toNat:Nat):Int)=38:=rfl
  have u39:(((39:UInt8).toNat:Nat):Int)=39:=rfl
  have u42:(((42:UInt8).toNat:Nat):Int)=42:=rfl
  have u43:(((43:UInt8).toNat:Nat):Int)=43:=rfl
  have u45:(((45:UInt8).toNat:Nat):Int)=45:=rfl
  have u46:(((46:UInt8).toNat:Nat):Int)=46:=rfl
  have u94:(((94:UInt8).toNat:Nat):Int)=94:=rfl
  have u95:(((95:UInt8).toNat:Nat):Int)=95:=rfl
  have u124:(((124:UInt8).toNat:Nat):Int)=124:=rfl
  have u126:(((126:UInt8).toNat:Nat):Int)=126:=rfl
  rcases m with rfl | rfl | rfl | rfl | rfl | rfl | rfl | rfl | rfl | rfl | rfl | rfl | rfl | rfl<;>simp only[go_sem,reduceIte,↓reduceIte,nB,nE,iB,h,hw,u33,u35,u36,u37,u38,u39,u42,u43,u45,u46,u94,u95,u124,u126]
 ·have hw:=Xf8 m
  have q33:((c.toNat:Int)==33)=false:=XeF (v:=33) (λe=>m (by subst e; decide))
  have q35:((c.toNat:Int)==35)=false:=XeF (v:=35) (λe=>m (by subst e; decide))
  have q36:((c.toNat:Int)==36)=false:=XeF (v:=36) (λe=>m (by subst e; decide))
  have q37:((c.toNat:Int)==37)=false:=XeF (v:=37) (λe=>m (by subst e; decide))
  have q38:((c.toNat:Int)==38)=false:=XeF (v:=38) (λe=>m (by subst e; decide))
  have q39:((c.toNat:Int)==39)=false:=XeF (v:=39) (λe=>m (by subst e; decide))
  have q42:((c.toNat:Int)==42)=false:=XeF (v:=42) (λe=>m (by subst e; decide))
  have q43:((c.toNat:Int)==43)=false:=XeF (v:=43) (λe=>m (by subst e; decide))
  have q45:((c.toNat:Int)==45)=false:=XeF (v:=45) (λe=>m (by subst e; decide))
  have q46:((c.toNat:Int)==46)=false:=XeF (v:=46) (λe=>m (by subst e; decide))
  have q94:((c.toNat:Int)==94)=false:=XeF (v:=94) (λe=>m (by subst e; decide))
  have q95:((c.toNat:Int)==95)=false:=XeF (v:=95) (λe=>m (by subst e; decide))
  have q124:((c.toNat:Int)==124)=false:=XeF (v:=124) (λe=>m (by subst e; decide))
  have q126:((c.toNat:Int)==126)=false:=XeF (v:=126) (λe=>m (by subst e; decide))
  cases h1:Qr c<;>cases h2:QI c<;>simp only[go_sem,reduceIte,↓reduceIte,nB,nE,h,hw,h1,h2,q33,q35,q36,q37,q38,q39,q42,q43,q45,q46,q94,q95,q124,q126]) (rfl)
def Xf3(p:UInt8->Bool)(lo hi:Int)(t:ByteArray):Bool:=decide (lo<=(t.size:Int))&&decide ((t.size:Int)<=hi)&&t.data.toList.all p
def Q5{p:UInt8->Bool}{lo hi:Int}{t:ByteArray}(h:(t.size:Int)<lo):Xf3 p lo hi t=false:=by
 have:¬lo<=(t.size:Int):=by omega
 simp[Xf3,this]
def UC{p:UInt8->Bool}{lo hi:Int}{t:ByteArray}(h:hi<(t.size:Int)):Xf3 p lo hi t=false:=by
 have:¬(t.size:Int)<=hi:=by omega
 simp[Xf3,this]
def UD{p:UInt8->Bool}{lo hi:Int}{t:ByteArray}(h:¬(t.size:Int)<lo)(h':¬hi<(t.size:Int)):Xf3 p lo hi t=t.data.toList.all p:=by
 have h1:lo<=(t.size:Int):=by omega
 have h2:(t.size:Int)<=hi:=by omega
 simp[Xf3,h1,h2]
def Q6{α:Type}{p:α->Bool}:∀{xs:List α} {u u':Unit},UW (λx _=>!p x) (λ_ _=>()) xs u=.inl u'->xs.all p=true
 | [],_,_,_=>rfl
 | x :: xs,u,u',h=>by
  rw[Zx] at h
  split at h
  ·cases h
  ·rename_i hc
   simp only[List.all_cons,Q6 h,Bool.and_true]
   simpa using hc
def Qg{α:Type}{p:α->Bool}:∀{xs:List α} {u:Unit} {q:α×Unit},UW (λx _=>!p x) (λ_ _=>()) xs u=.inr q->xs.all p=false
 | [],_,_,h=>by cases h
 | x :: xs,u,q,h=>by
  rw[Zx] at h
  split at h
  ·rename_i hc
   have:p x=false:=by simpa using hc
   simp[this]
  ·simp only[List.all_cons,Qg h,Bool.and_false]
def XcL(t:ByteArray)(k:Nat)(h:k<t.data.toList.length):t.data[k]?.getD 0=t.data.toList[k]:=by
 have h':k<t.data.size:=by simpa using h
 rw[Array.getElem?_eq_getElem h']
 simp
def Xv(t:ByteArray):t.size=t.data.toList.length:=by
 show t.data.size=_
 simp
def XaP(t:ByteArray):Bool:=Xf3 UB 1 64 t
def XlZ:SP Tryd.prog:=mkS tyA 100 Tryd.f100 [XlY] {md:=[.ro 1],rg:=[(0,[0],[]),(1,[0,11],[]),(2,[2],[]),(3,[0,3],[]),(4,[0,3,15],[]),(5,[0,3],[]),(6,[0,3,22],[]),(7,[2],[]),(8,[2],[])],lv:=[(0,[0,3],[])],out:=[(0,[],[])],rets:=some ([2],[])} Tryd.func100 (by kernel_rfl)
@[go_sem] def XA5:XlZ.g=100/\XlZ.fs=⟨[.ro 1],XlZ.F,false⟩:=⟨nr rfl,nr rfl⟩
@[go_sem] def XA6(t:ByteArray):XlZ.F [.s t]=some (.b (XaP t),[.u]):=Xs (t.data.toList.length+1) rfl rfl (λcx h=>by
 have hu:XaP t=Xf3 UB 1 64 t:=rfl
 by_cases h1:(t.size:Int)<1
 ·simp only[go_sem,reduceIte,↓reduceIte,nB,nE,h,h1,hu,Q5 h1]
 by_cases h2:64<(t.size:Int)
 ·simp only[go_sem,reduceIte,↓reduceIte,nB,nE,h,h1,h2,hu,UC h2]
 have hx:t.data.toList.length<=9223372036854775806:=by rw[<-Xv]; omega
 have ha:=UD (p:=UB) h1 h2
 rw[Xv t] at h1 h2
 ·have hb0:=XS Tryd.f100 0 _ _ rfl rfl
  obtain⟨r,hr,hq⟩:=Zy (cx:=cx) (blk:=0) (body:=Zw Tryd.f100 0) t.data.toList (λk (s:Unit)=>⟨E [(0,.s t),(3,.i .i64 k)],B []⟩) (λs=>⟨E [],B []⟩) (λx s=>!UB x) (λx s=>()) (λx s=>(.ret,⟨E [(2,.b false)],B []⟩)) (λk s=>True)
    (λs hI G=>by simp only[go_sem,reduceIte,↓reduceIte,nB,nE,h,Int.lt_irrefl,hb0,Xv t]) (λk hk s hI=>by
     have h1:((k:Int)<(t.data.toList.length:Int)):=Int.ofNat_lt.2 hk
     have hz:=XcL t k hk
     exact⟨_,_,_,λG=>by simp only[go_sem,reduceIte,↓reduceIte,nB,nE,h,hz,Xv t,h1,Yi _ _ hk,XN (show k<9223372036854775807 by omega),hb0]<;>with_reducible rfl,Iff.rfl,λhc=>⟨trivial,by simp only[go_sem,reduceIte,↓reduceIte,nB,h]⟩⟩) () trivial (t.data.toList.length+1) (Nat.le_refl _)
  rw[hb0] at hr
  rcases hq with⟨s',e1,_,e3⟩ | ⟨x,s',e1,e3⟩
  ·simp only[go_sem,reduceIte,↓reduceIte,nB,nE,h,h1,h2,Xv t,hr,e3,hu,ha,Q6 e1]
  ·simp only[go_sem,reduceIte,↓reduceIte,nB,nE,h,h1,h2,Xv t,hr,e3,hu,ha,Qg e1]) (rfl)
def Uj(c:UInt8):Bool:=((c.toNat:Int)==9)||(decide (32<=(c.toNat:Int))&&decide ((c.toNat:Int)<=126))
def Xl0:SP Tryd.prog:=mkS tyA 117 Tryd.f117 [] {md:=[.ro 1],rets:=some ([2],[])} Tryd.func117 (by kernel_rfl)
@[go_sem] def XA7:Xl0.g=117/\Xl0.fs=⟨[.ro 1],Xl0.F,false⟩:=⟨nr rfl,nr rfl⟩
@[go_sem] def XA8(c:UInt8):Xl0.F [.i .u8 c.toNat]=some (.b (Uj c),[.u]):=Xs (0) rfl rfl (λcx h=>by
 cases h1:((c.toNat:Int)==9)<;>by_cases h2:32<=(c.toNat:Int)<;>by_cases h3:(c.toNat:Int)<=126<;>simp only[go_sem,reduceIte,↓reduceIte,nB,h,h1,h2,h3,Uj]) (rfl)
def Xjw(t:ByteArray):Bool:=t.data.toList.all Uj
def XjZ(t:ByteArray):Xf3 Uj 0 (t.size:Int) t=Xjw t:=UD (by omega) (by omega)
def Xl1:SP Tryd.prog:=mkS tyA 101 Tryd.f101 [Xl0] {md:=[.ro 1],rg:=[(0,[0],[]),(1,[0,3],[]),(2,[0,3,7],[]),(3,[0,3],[]),(4,[0,3,14],[]),(5,[2],[]),(6,[2],[])],lv:=[(0,[0,3],[])],out:=[(0,[],[])],rets:=some ([2],[])} Tryd.func101 (by kernel_rfl)
@[go_sem] def XA9:Xl1.g=101/\Xl1.fs=⟨[.ro 1],Xl1.F,false⟩:=⟨nr rfl,nr rfl⟩
@[go_sem] def XBa(t:ByteArray)(h0:(t.size:Int)<=1000000):Xl1.F [.s t]=some (.b (Xjw t),[.u]):=Xs (t.data.toList.length+1) rfl rfl (λcx h=>by
 have hx:t.data.toList.length<=9223372036854775806:=by rw[<-Xv]; omega
 have hb0:=XS Tryd.f101 0 _ _ rfl rfl
 obtain⟨r,hr,hq⟩:=Zy (cx:=cx) (blk:=0) (body:=Zw Tryd.f101 0) t.data.toList (λk (s:Unit)=>⟨E [(0,.s t),(3,.i .i64 k)],B []⟩) (λs=>⟨E [],B []⟩) (λx s=>!Uj x) (λx s=>()) (λx s=>(.ret,⟨E [(2,.b false)],B []⟩)) (λk s=>True)
   (λs hI G=>by simp only[go_sem,reduceIte,↓reduceIte,nB,nE,h,Int.lt_irrefl,hb0,Xv t]) (λk hk s hI=>by
    have h1:((k:Int)<(t.data.toList.length:Int)):=Int.ofNat_lt.2 hk
    have hz:=XcL t k hk
    exact⟨_,_,_,λG=>by simp only[go_sem,reduceIte,↓reduceIte,nB,nE,h,hz,Xv t,h1,Yi _ _ hk,XN (show k<9223372036854775807 by omega),hb0]<;>with_reducible rfl,Iff.rfl,λhc=>⟨trivial,by simp only[go_sem,reduceIte,↓reduceIte,nB,h]⟩⟩) () trivial (t.data.toList.length+1) (Nat.le_refl _)
 rw[hb0] at hr
 rcases hq with⟨s',e1,_,e3⟩ | ⟨x,s',e1,e3⟩
 ·simp only[go_sem,reduceIte,↓reduceIte,nB,nE,h,hr,e3,Xjw,Q6 e1]
 ·simp only[go_sem,reduceIte,↓reduceIte,nB,h,hr,e3,Xjw,Qg e1]) (rfl)
def XdO(t:ByteArray):ByteArray:=⟨(Lib.trimS t.data.toList [32,9]).toArray⟩
def UE(c:UInt8):Bool:=((c.toNat:Int)==32)||((c.toNat:Int)==9)
def bl(t:ByteArray)(j:Nat):Bool:=UE (t.data[j]?.getD 0)
def XhS(c:UInt8):[32,9].contains c=UE c:=by
 have h32:(c==32)=((c.toNat:Int)==32):=by
  rw[Bool.eq_iff_iff,beq_iff_eq,beq_iff_eq]
  constructor
  ·rintro rfl; rfl
  ·intro h; exact UInt8.toNat_inj.1 (by have:(32:UInt8).toNat=32:=rfl; omega)
 have h9:(c==9)=((c.toNat:Int)==9):=by
  rw[Bool.eq_iff_iff,beq_iff_eq,beq_iff_eq]
  constructor
  ·rintro rfl; rfl
  ·intro h; exact UInt8.toNat_inj.1 (by have:(9:UInt8).toNat=9:=rfl; omega)
 simp only[List.contains_cons,List.contains_nil,Bool.or_false,h32,h9,UE]
def XcM{t:ByteArray}{j:Nat}{b:UInt8}(h:t.data.toList[j]?=some b):bl t j=[32,9].contains b:=by
 rw[XhS]
 unfold bl
 rw[Array.getElem?_toList] at h
 rw[h]; rfl
def XhT(t:ByteArray)(f e:Nat)(hf:f<=e)(he:e<=t.size)(h1:∀j,j<f->bl t j=true)(h2:f<t.size->bl t f=false)(h3:∀j,e<=j->j<t.size->bl t j=true)(h4:f<e->bl t (e-1)=false):XdO t=t.extract f e:=by
 have hn:t.size=t.data.toList.length:=Xv t
 have hext:t.extract f e=⟨((t.data.toList.take e).drop f).toArray⟩:=by
  have:(t.extract f e).data=t.data.extract f e:=by simp
  cases hx:t.extract f e with
  | mk d =>
   rw[hx] at this
   congr 1
   simp only at this
   rw[this]
   apply Array.ext'
   rw[Array.toList_extract,List.extract_eq_take_drop,List.drop_take]
 rw[hext]
 unfold XdO Lib.trimS
 congr 2
 by_cases hall:f<e
 ·rw[Lib.trimRightS_take t.data.toList [32,9] e (by omega) (λj b hj hb=>?_) (λb hk hb=>?_)]
  ·refine Lib.trimLeftS_drop _ _ f (by simp; omega) (λj b hj hb=>?_) (λb hb=>?_)
   ·rw[List.getElem?_take] at hb
    split at hb
    ·rw[<-XcM hb]; exact h1 j hj
    ·cases hb
   ·rw[List.getElem?_take,if_pos hall] at hb
    rw[<-XcM hb]; exact h2 (by omega)
  ·rw[<-XcM hb]; exact h3 j hj (by have:=(List.getElem?_eq_some_iff.1 hb).1; omega)
  ·rw[<-XcM hb]; exact h4 hall
 ·obtain rfl:f=e:=by omega
  have hfn:f=t.size:=by
   rcases Nat.lt_or_ge f t.size with h | h
   ·have:=h2 h; rw[h3 f (Nat.le_refl _) h] at this; cases this
   ·omega
  have hr:Lib.trimRightS t.data.toList [32,9]=t.data.toList.take 0:=Lib.trimRightS_take _ _ 0 (by omega) (λj b _ hb=>by
   rw[<-XcM hb]; exact h1 j (by have:=(List.getElem?_eq_some_iff.1 hb).1; omega)) (λb hk _=>by omega)
  rw[hr]
  have:(t.data.toList.take f).drop f=[]:=by
   apply List.drop_eq_nil_of_le
   simp
   omega
  rw[this]
  rfl
def Xl2:SP Tryd.prog:=mkS tyA 118 Tryd.f118 [] {md:=[.ro 1],rets:=some ([2],[])} Tryd.func118 (by kernel_rfl)
@[go_sem] def XBb:Xl2.g=118/\Xl2.fs=⟨[.ro 1],Xl2.F,false⟩:=⟨nr rfl,nr rfl⟩
@[go_sem] def XBc(c:UInt8):Xl2.F [.i .u8 c.toNat]=some (.b (UE c),[.u]):=Xs (0) rfl rfl (λcx h=>by
 cases h1:((c.toNat:Int)==32)<;>cases h2:((c.toNat:Int)==9)<;>simp only[go_sem,reduceIte,↓reduceIte,nB,h,h1,h2,UE]) (rfl)
def Xl3:SP Tryd.prog:=mkS tyA 102 Tryd.f102 [Xl2] {md:=[.ro 1],rg:=[(0,[0],[]),(1,[0,3],[]),(2,[0,3,4],[]),(3,[0,3,4,15],[]),(4,[0,3,4],[]),(5,[0,3,4,27],[]),(6,[0,3,4],[]),(7,[2],[])],lv:=[(0,[0,3,4],[]),(2,[0,3,4],[])],out:=[(0,[0,3,4],[]),(2,[0,3,4],[])],rets:=some ([2],[])} Tryd.func102 (by kernel_rfl)
@[go_sem] def XBd:Xl3.g=102/\Xl3.fs=⟨[.ro 1],Xl3.F,false⟩:=⟨nr rfl,nr rfl⟩
@[go_sem] def XBe(t:ByteArray)(h0:t.size<=9223372036854775806):Xl3.F [.s t]=some (.s (XdO t),[.u]):=Xs (t.size+1) rfl rfl (λcx h=>by
 have hb:=XS Tryd.f102 0 _ _ rfl rfl
 have hb1:=XS Tryd.f102 1 _ _ rfl rfl
 have lp:=XcA (cx:=cx) (blk:=0) (body:=Zw Tryd.f102 0) (λ(k:Nat)=>⟨E [(0,.s t),(3,.i .i64 k),(4,.i .i64 t.size)],B []⟩) (λk=>k<=t.size) (λk=>t.size-k)
  (λk r=>∃f:Nat,k<=f/\f<=t.size/\(∀j,k<=j->j<f->bl t j=true)/\(f<t.size->bl t f=false)/\r=some (.ex 0,⟨E [(0,.s t),(3,.i .i64 f),(4,.i .i64 t.size)],B []⟩)) (λk hk=>by
  by_cases h1:(k:Int)<(t.size:Int)
  ·have i1:=Yi t.size k (by omega)
   have w1:=XN (show k<9223372036854775807 by omega)
   cases h2:bl t k
   ·have h3:UE (t.data[k]?.getD 0)=false:=h2
    exact .inl λG=>⟨k,Nat.le_refl _,hk,λj a b=>by omega,λ_=>h2,by simp only[go_sem,reduceIte,↓reduceIte,nB,nE,h,hb,h1,h3,i1]⟩
   ·have h3:UE (t.data[k]?.getD 0)=true:=h2
    refine .inr ⟨_,k+1,?_,by omega,by omega,λr ⟨f,a,b,c,d,e⟩=>⟨f,by omega,b,λj x y=>?_,d,e⟩,λG=>by simp only[go_sem,reduceIte,↓reduceIte,nB,nE,h,hb,h1,h3,i1,w1]; rfl⟩
    ·simp only[go_sem,reduceIte,↓reduceIte,nB,h]
    ·rcases Nat.eq_or_lt_of_le x with rfl | x
     ·exact h2
     ·exact c j x y
  ·exact .inl λG=>⟨k,Nat.le_refl _,hk,λj a b=>by omega,λx=>by omega,by simp only[go_sem,reduceIte,↓reduceIte,nB,nE,h,hb,h1]⟩)
 rw[hb] at lp
 obtain⟨f,_,f2,f3,f4,l1⟩:=lp (t.size+1) 0 (Nat.zero_le _) (by omega) ⟨E [(0,.s t),(3,.i .i64 0),(4,.i .i64 t.size)],B []⟩ (by simp only[go_sem,reduceIte,↓reduceIte,nB,h])
 have lp2:=XcA (cx:=cx) (blk:=2) (body:=Zw Tryd.f102 1) (λ(k:Nat)=>⟨E [(0,.s t),(3,.i .i64 f),(4,.i .i64 k)],B []⟩) (λk=>f<=k/\k<=t.size) (λk=>k)
  (λk r=>∃e:Nat,f<=e/\e<=k/\(∀j,e<=j->j<k->bl t j=true)/\(f<e->bl t (e-1)=false)/\r=some (.ex 2,⟨E [(0,.s t),(3,.i .i64 f),(4,.i .i64 e)],B []⟩)) (λk hk=>by
  by_cases h1:(f:Int)<(k:Int)
  ·obtain⟨m,rfl⟩:∃m,k=m+1:=⟨k-1,by omega⟩
   have i1:=Yi t.size m (by omega)
   have w1:(IntKind.i64).wrap (((m+1:Nat):Int)-1)=(m:Int):=by rw[Y2 (by omega) (by omega)]; omega
   cases h2:bl t m
   ·have h3:UE (t.data[m]?.getD 0)=false:=h2
    exact .inl λG=>⟨m+1,hk.1,Nat.le_refl _,λj a b=>by omega,λ_=>by simpa using h2,by simp only[go_sem,reduceIte,↓reduceIte,nB,nE,h,hb1,h1,h3,i1,w1]⟩
   ·have h3:UE (t.data[m]?.getD 0)=true:=h2
    refine .inr ⟨_,m,?_,⟨by omega,by omega⟩,by omega,λr ⟨e,a,b,c,d,g⟩=>⟨e,a,by omega,λj x y=>?_,d,g⟩,λG=>by simp only[go_sem,reduceIte,↓reduceIte,nB,nE,h,hb1,h1,h3,i1,w1]; rfl⟩
    ·simp only[go_sem,reduceIte,↓reduceIte,nB,h]
    ·rcases Nat.lt_or_ge j m with y' | y'
     ·exact c j x y'
     ·obtain rfl:j=m:=by omega
      exact h2
  ·exact .inl λG=>⟨k,hk.1,Nat.le_refl _,λj a b=>by omega,λx=>by omega,by simp only[go_sem,reduceIte,↓reduceIte,nB,nE,h,hb1,h1]⟩)
 rw[hb1] at lp2
 obtain⟨e,e1,e2,e3,e4,l2⟩:=lp2 (t.size+1) t.size ⟨f2,Nat.le_refl _⟩ (by omega) ⟨E [(0,.s t),(3,.i .i64 f),(4,.i .i64 t.size)],B []⟩ (by simp only[go_sem,reduceIte,↓reduceIte,nB,h])
 have hc:=XhT t f e e1 e2 (λj hj=>f3 j (Nat.zero_le _) hj) f4 e3 e4
 have c1:(0:Int)<=(e:Int):=by omega
 have c2:(e:Int)<=(t.size:Int):=by omega
 have c3:(0:Int)<=(f:Int):=by omega
 have c4:(f:Int)<=(e:Int):=by omega
 simp only[go_sem,reduceIte,↓reduceIte,nB,nE,h,l1,l2,c1,c2,c3,c4,Int.toNat_natCast,hc]) (rfl)
def X2(h:Xh):Int:=if XaP h.Name=false then 5 else if 200<(h.Value.size:Int) then 2 else if(Xjw h.Value&&eqv (XdO h.Value) h.Value)=true then 0 else 5
def XC(hs:List Xh):Int:=if 20<(hs.length:Int) then 2 else Xb6 (hs.map X2)
def U2{α:Type}{f:α->Int}:∀{xs:List α} {u u':Unit},UW (λx _=>f x !=0) (λ_ _=>()) xs u=.inl u'->Xb6 (xs.map f)=0
 | [],_,_,_=>rfl
 | x :: xs,u,u',h=>by
  rw[Zx] at h
  split at h
  ·cases h
  ·rename_i hc; rw[List.map_cons,Uw,if_neg hc]; exact U2 h
def U3{α:Type}{f:α->Int}:∀{xs:List α} {u:Unit} {q:α×Unit},UW (λx _=>f x !=0) (λ_ _=>()) xs u=.inr q->Xb6 (xs.map f)=f q.1
 | [],_,_,h=>by cases h
 | x :: xs,u,q,h=>by
  rw[Zx] at h
  split at h
  ·rename_i hc; injection h with h; subst h; rw[List.map_cons,Uw,if_pos hc]
  ·rename_i hc; rw[List.map_cons,Uw,if_neg hc]; exact U3 h
def s86:SP Tryd.prog:=mkS tyA 86 Tryd.f86 [XlZ,Xl1,Xl3] {md:=[.ro 1],rg:=[(0,[1],[1]),(1,[1,3],[1]),(2,[3,6],[]),(3,[2],[]),(4,[3,11],[]),(5,[2],[]),(6,[15],[]),(7,[2],[]),(8,[2],[])],rets:=some ([2],[])} Tryd.func86 (by kernel_rfl)
@[go_sem] def d86:s86.g=86/\s86.fs=⟨[.ro 1],s86.F,false⟩:=⟨nr rfl,nr rfl⟩
@[go_sem] def e86(z0 z1:ByteArray):s86.F [.agg [.s z0,.s z1]]=some (.i .i64 (X2 (Xh.mk z0 z1)),[.u]):=Xs (0) rfl rfl (λcx h=>by
 cases h1:XaP z0
 ·simp only[go_sem,reduceIte,↓reduceIte,nA,nB,nE,nL,h,h1,X2]
 by_cases h2:200<(z1.size:Int)
 ·simp only[go_sem,reduceIte,↓reduceIte,nA,nB,nE,nL,h,h1,h2,X2]
 have h3:(z1.size:Int)<=1000000:=by omega
 have h4:z1.size<=9223372036854775806:=by omega
 have h5:z1.size<=9223372036854775807:=by omega
 cases h6:Xjw z1
 ·simp only[go_sem,reduceIte,↓reduceIte,nA,nB,nE,nL,h,h1,h2,h3,h6,X2]
 cases h7:eqv (XdO z1) z1<;>simp only[go_sem,reduceIte,↓reduceIte,nA,nB,nE,nL,h,h1,h2,h3,h4,h6,h7,Q1,X2]) (rfl)
def s66:SP Tryd.prog:=mkS tyA 66 Tryd.f66 [s86] {md:=[.ro 1],rg:=[(0,[0],[]),(1,[0,7],[]),(2,[2],[]),(3,[0,3],[]),(4,[0,3,11],[]),(5,[0,3],[]),(6,[0,3,4],[]),(7,[0,3,4,20],[]),(8,[2],[]),(9,[2],[])],lv:=[(0,[0,3],[])],out:=[(0,[],[])],rets:=some ([2],[])} Tryd.func66 (by kernel_rfl)
@[go_sem] def d66:s66.g=66/\s66.fs=⟨[.ro 1],s66.F,false⟩:=⟨nr rfl,nr rfl⟩
@[go_sem] def e66(hs:List Xh):s66.F [.sl .ro 2 (hs.map (Xb .ro))]=some (.i .i64 (XC hs),[.u]):=Xs (hs.length+1) rfl rfl (λcx h=>by
 by_cases h1:20<(hs.length:Int)
 ·simp only[go_sem,reduceIte,↓reduceIte,nB,nE,h,h1,XC]
 have hx:hs.length<=9223372036854775806:=by omega
 have hb0:=XS Tryd.f66 0 _ _ rfl rfl
 obtain⟨r,hr,hq⟩:=Zy (cx:=cx) (blk:=0) (body:=Zw Tryd.f66 0) hs (λk (s:Unit)=>⟨E [(0,.sl .ro 2 (hs.map (Xb .ro))),(3,.i .i64 k)],B []⟩) (λs=>⟨E [],B []⟩) (λx s=>X2 x !=0) (λx s=>()) (λx s=>(.ret,⟨E [(2,.i .i64 (X2 x))],B []⟩)) (λk s=>True)
   (λs hI G=>by simp only[go_sem,reduceIte,↓reduceIte,nB,nE,h,Int.lt_irrefl,hb0]) (λk hk s hI=>by
    have h1:((k:Int)<(hs.length:Int)):=Int.ofNat_lt.2 hk
    exact⟨_,_,_,λG=>by simp only[go_sem,reduceIte,↓reduceIte,nA,nB,nE,h,Zg (Xb .ro) hs _ hk,Xb,h1,Yi _ _ hk,XN (show k<9223372036854775807 by omega),hb0]<;>with_reducible rfl,Iff.rfl,λhc=>⟨trivial,by simp only[go_sem,reduceIte,↓reduceIte,nB,h]⟩⟩) () trivial (hs.length+1) (Nat.le_refl _)
 rw[hb0] at hr
 rcases hq with⟨s',e1,_,e3⟩ | ⟨x,s',e1,e3⟩
 ·simp only[go_sem,reduceIte,↓reduceIte,nB,nE,h,h1,hr,e3,XC,U2 e1]
 ·simp only[go_sem,reduceIte,↓reduceIte,nB,nE,h,h1,hr,e3,XC,U3 e1]) (rfl)
def Xt(r:Response):Int:=if within r.Status 200 599=false then 3 else if(XC r.Headers !=0)=true then XC r.Headers else if 2000<(r.Body.length:Int) then 2 else 0
def s41:SP Tryd.prog:=mkS tyA 41 Tryd.f41 [s60,s66] {md:=[.ro 1],rg:=[(0,[1],[1]),(1,[1,7],[1]),(2,[2],[]),(3,[1,3],[1]),(4,[1,3,12],[1]),(5,[2],[]),(6,[17],[]),(7,[2],[]),(8,[2],[])],rets:=some ([2],[])} Tryd.func41 (by kernel_rfl)
@[go_sem] def d41:s41.g=41/\s41.fs=⟨[.ro 1],s41.F,false⟩:=⟨nr rfl,nr rfl⟩
@[go_sem] def e41(z5:Int)(z6:List Xh)(z7:List UInt8):s41.F [.agg [.i .i64 z5,.sl .ro 2 (z6.map (Xb .ro)),.sl .ro 1 (z7.map Xw)]]=some (.i .i64 (Xt (Response.mk z5 z6 z7)),[.u]):=Xs (0) rfl rfl (λcx h=>by
 cases h1:within z5 200 599
 ·simp only[go_sem,reduceIte,↓reduceIte,nA,nB,nE,nL,h,h1,Xt]
 by_cases z:XC z6=0
 rotate_left
 ·have z':(XC z6 !=0)=true:=by simpa using z
  simp only[go_sem,reduceIte,↓reduceIte,nA,nB,nE,nL,h,h1,z',Xt]
 by_cases h2:2000<(z7.length:Int)<;>simp only[go_sem,reduceIte,↓reduceIte,nA,nB,nE,nL,h,h1,z,h2,Xt]) (rfl)
@[go_sem] def Xj0(xs:List UInt8):xs.map U5=xs.map Xw:=nr rfl
def XdP(c:UInt8):UInt8:=if 65<=(c.toNat:Int)/\(c.toNat:Int)<=90 then c+32 else c
def Z7(t:ByteArray):ByteArray:=⟨(t.data.toList.map XdP).toArray⟩
def Zi(xs:List UInt8)(k:Nat):List UInt8:=(xs.take k).map XdP++xs.drop k
def XbE(xs:List UInt8):Zi xs 0=xs:=by simp[Zi]
def XcN(xs:List UInt8):Zi xs xs.length=xs.map XdP:=by simp[Zi]
def XcO(xs:List UInt8)(k:Nat)(h:k<=xs.length):(Zi xs k).length=xs.length:=by simp[Zi]; omega
def Xcd(xs:List UInt8)(k:Nat)(h:k<xs.length):(Zi xs k)[k]?=some xs[k]:=by
 unfold Zi
 rw[List.getElem?_append_right (by simp; omega)]
 simp[Nat.min_eq_left (Nat.le_of_lt h),h]
def XbF(xs:List UInt8)(k:Nat)(h:k<xs.length):(Zi xs k).set k (XdP xs[k])=Zi xs (k+1):=by
 unfold Zi
 rw[List.set_append_right _ _ (by simp; omega)]
 rw[List.length_map,List.length_take,Nat.min_eq_left (Nat.le_of_lt h),Nat.sub_self,List.drop_eq_getElem_cons h,List.set_cons_zero]
 have e:(xs.take (k+1)).map XdP=(xs.take k).map XdP++[XdP xs[k]]:=by
  rw[List.take_add_one,List.getElem?_eq_getElem h,Option.toList_some,List.map_append]; rfl
 rw[e]
 simp
def XbG(xs:List UInt8)(k:Nat)(h:k<xs.length)(hc:XdP xs[k]=xs[k]):Zi xs (k+1)=Zi xs k:=by
 rw[<-XbF xs k h,hc]
 have:=Xcd xs k h
 obtain⟨h1,h2⟩:=List.getElem?_eq_some_iff.1 this
 rw[<-h2]
 exact List.set_getElem_self h1
def XeG(xs:List UInt8)(k:Nat)(h:k<xs.length):((Zi xs k).map Xw).getD k []=[.i .u8 xs[k].toNat]:=by
 rw[List.getD_eq_getElem?_getD,List.getElem?_map,Xcd xs k h]; rfl
def Xf9(xs:List UInt8)(k:Nat)(h:k<xs.length):((Zi xs k).map Xw)[k]?=some [.i .u8 xs[k].toNat]:=by
 rw[List.getElem?_map,Xcd xs k h]; rfl
def Xga{c:UInt8}(h:(c.toNat:Int)<=90):(c+32).toNat=c.toNat+32:=by
 rw[UInt8.toNat_add]
 have:(32:UInt8).toNat=32:=rfl
 rw[this]
 omega
def Xgb(xs:List UInt8)(k:Nat)(h:k<xs.length) :
  (65<=(xs[k].toNat:Int)/\(xs[k].toNat:Int)<=90/\((IntKind.u8).wrap ((IntKind.u8).wrap ((xs[k].toNat:Int)+97)-65)=((XdP xs[k]).toNat:Int))/\((IntKind.u8).wrap ((xs[k].toNat:Int)+32)=((XdP xs[k]).toNat:Int))/\((Zi xs k).map Xw).set k [.i .u8 (XdP xs[k]).toNat]=(Zi xs (k+1)).map Xw/\True) \/
  (¬65<=(xs[k].toNat:Int)/\True/\True/\True/\True/\Zi xs (k+1)=Zi xs k)\/(65<=(xs[k].toNat:Int)/\¬(xs[k].toNat:Int)<=90/\True/\True/\True/\Zi xs (k+1)=Zi xs k):=by
 by_cases a1:65<=(xs[k].toNat:Int)
 ·by_cases a2:(xs[k].toNat:Int)<=90
  ·refine .inl ⟨a1,a2,?_,?_,?_,trivial⟩
   ·have hl:XdP xs[k]=xs[k]+32:=if_pos ⟨a1,a2⟩
    rw[hl,Xga a2]
    simp only[IntKind.wrap,IntKind.bits,IntKind.signed]
    simp
    omega
   ·have hl:XdP xs[k]=xs[k]+32:=if_pos ⟨a1,a2⟩
    rw[hl,Xga a2]
    simp only[IntKind.wrap,IntKind.bits,IntKind.signed]
    simp
    omega
   ·rw[<-XbF xs k h,List.map_set]; rfl
  ·exact .inr (.inr ⟨a1,a2,trivial,trivial,trivial,XbG xs k h (if_neg λx=>a2 x.2)⟩)
 ·exact .inr (.inl ⟨a1,trivial,trivial,trivial,trivial,XbG xs k h (if_neg λx=>a1 x.1)⟩)
end
end Go.Vm.A
