/- Functions of the program, walked by the evaluator. -/
import Derived.Test.YtebnbhjcfanddaaGreatDoorWb
import Derived.Test.YtebnbhjcfanddaaGreatDoorWa
set_option linter.unusedVariables false
set_option linter.unusedSimpArgs false
set_option autoImplicit false
set_option maxRecDepth 100000
set_option maxHeartbeats 4000000
set_option linter.defProp false
namespace Go.Vm.A
open Go.Proofs
open Nat renaming reduceAdd -> nA, reduceSub -> nS, reduceMul -> nM, reduceBEq -> nB, reduceEqDiff -> nE, reduceLeDiff -> nL, reduceLT -> nT, reduceBneDiff -> nN
open Int renaming reduceLE -> iL, reduceLT -> iT, reduceEq -> iE, reduceAdd -> iA, reduceMul -> iM, reduceSub -> iS, reduceNeg -> iG, reduceBEq -> iB, reduceBNe -> iN, reduceToNat -> iZ
noncomputable section
def Xny:SP Tryz.prog:=mkS tyA 124 Tryz.f124 [] {md:=[.ro 1,.ro 1],rg:=[(0,[1,2],[2]),(1,[1,2],[2]),(2,[1,2,11],[2]),(3,[4],[]),(4,[1],[]),(5,[1,18],[]),(6,[4],[]),(7,[4],[])],rets:=some ([4],[])} Tryz.func124 (by kernel_rfl)
@[go_sem] def XC9:Xny.g=124/\Xny.fs=⟨[.ro 1,.ro 1],Xny.F,false⟩:=⟨nr rfl,nr rfl⟩
@[go_sem] def XDa(z0 z1:ByteArray)(l:Int)(h0:UI (Xg.mk z0 z1)):Xny.F [.agg [.s z0,.s z1],.i .i64 l]=some (.i .i64 (Z8 (Xg.mk z0 z1) l),[.u,.u]):=Xm (0) rfl rfl (λcx h=>by
 obtain⟨q0,q1⟩:=h0
 simp only[go_sem,reduceIte,↓reduceIte,nA,nB,nE,nL,iG,h]
 simp only[Z8,szs,XpC]) (rfl)
def s64:SP Tryz.prog:=mkS tyA 64 Tryz.f64 [Xny] {md:=[.ro 1,.ro 1],rg:=[(0,[0,1],[]),(1,[0,1],[]),(2,[0,1,11],[]),(3,[4],[]),(4,[0,1,5],[]),(5,[0,1,5,15],[]),(6,[0,1,5],[]),(7,[0,1,5],[]),(8,[0,1,5,25],[]),(9,[4],[]),(10,[4],[])],lv:=[(0,[0,1,5],[])],out:=[(0,[1],[])],rets:=some ([4],[])} Tryz.func64 (by kernel_rfl)
@[go_sem] def d64:s64.g=64/\s64.fs=⟨[.ro 1,.ro 1],s64.F,false⟩:=⟨nr rfl,nr rfl⟩
@[go_sem] def e64(xs:List Xg)(l:Int)(h0:okL UI xs):s64.F [.sl .ro 2 (xs.map (Xa .ro)),.i .i64 l]=some (.i .i64 (szL Z8 xs l),[.u,.u]):=Xm (xs.length+1) rfl rfl (λcx h=>by
 have hb:=XG Tryz.f64 0 _ _ rfl rfl
 have hx:=h0.1
 obtain⟨r,hr,hq⟩:=Qo (cx:=cx) (blk:=0) (body:=Za Tryz.f64 0) xs (λk l=>⟨E [(0,.sl .ro 2 (xs.map (Xa .ro))),(1,.i .i64 l),(5,.i .i64 k)],B []⟩) (λl=>⟨E [(1,.i .i64 l)],B []⟩) (λx l=>decide (Z8 x l<0)) (λx l=>Z8 x l) (λ_ _=>(.ret,⟨E [(4,.i .i64 (-1))],B []⟩)) (λ_ _=>True)
  (λl _ G=>by simp only[go_sem,reduceIte,↓reduceIte,nB,nE,iG,h,Int.lt_irrefl,hb]) (λk hk l _=>by
   have h1:((k:Int)<(xs.length:Int)):=Int.ofNat_lt.2 hk
   have h2:=h0.2 _ (List.getElem_mem hk)
   by_cases hc:Z8 xs[k] l<0
   ·exact .inl ⟨decide_eq_true hc,λG=>by simp only[go_sem,reduceIte,↓reduceIte,nA,nB,nE,iG,h,h2,hc,YJ (Xa .ro) xs k hk,h1,X0 _ _ hk,hb]⟩
   ·exact .inr ⟨decide_eq_false hc,trivial,_,λG=>by simp only[go_sem,reduceIte,↓reduceIte,nA,nB,nE,iG,h,h2,hc,YJ (Xa .ro) xs k hk,h1,X0 _ _ hk,Xz (show k<9223372036854775807 by omega),hb]<;>with_reducible rfl,by simp only[go_sem,reduceIte,↓reduceIte,nB,h]⟩) ((IntKind.i64).wrap (l-(xs.length:Int))) trivial (xs.length+1) (Nat.le_refl _)
 rw[hb] at hr
 unfold szL szs
 by_cases hc:(IntKind.i64).wrap (l-(xs.length:Int))<0
 ·simp only[go_sem,reduceIte,↓reduceIte,nB,nE,iG,h,hc]
 ·rcases hq with⟨s',e1,e2,e3⟩ | ⟨x,s',e1,e3⟩
  ·simp only[go_sem,reduceIte,↓reduceIte,nB,nE,iG,h,hc,hr,e3,XfD e1,Option.getD_some]
  ·simp only[go_sem,reduceIte,↓reduceIte,nB,nE,iG,h,hc,hr,e3,XfE e1,Option.getD_none]) (rfl)
def s65:SP Tryz.prog:=mkS tyA 65 Tryz.f65 [] {md:=[.ro 1,.ro 1],rg:=[(0,[0,1],[]),(1,[1],[]),(2,[1,10],[]),(3,[4],[]),(4,[4],[])],rets:=some ([4],[])} Tryz.func65 (by kernel_rfl)
@[go_sem] def d65:s65.g=65/\s65.fs=⟨[.ro 1,.ro 1],s65.F,false⟩:=⟨nr rfl,nr rfl⟩
@[go_sem] def e65(xs:List UInt8)(l:Int):s65.F [.sl .ro 1 (xs.map Xx),.i .i64 l]=some (.i .i64 (Xb9 xs l),[.u,.u]):=Xm (0) rfl rfl (λcx h=>by
 simp only[go_sem,reduceIte,↓reduceIte,nB,nE,iG,h]
 simp only[Xb9,szs,XpC]) (rfl)
def s66:SP Tryz.prog:=mkS tyA 66 Tryz.f66 [] {md:=[.ro 1,.ro 1],rg:=[(0,[0,1],[]),(1,[0,1],[]),(2,[0,1,11],[]),(3,[4],[]),(4,[0,1,5],[]),(5,[0,1,5,15],[]),(6,[0,1,5],[]),(7,[0,1,5],[]),(8,[0,1,5,26],[]),(9,[4],[]),(10,[4],[])],lv:=[(0,[0,1,5],[])],out:=[(0,[1],[])],rets:=some ([4],[])} Tryz.func66 (by kernel_rfl)
@[go_sem] def d66:s66.g=66/\s66.fs=⟨[.ro 1,.ro 1],s66.F,false⟩:=⟨nr rfl,nr rfl⟩
@[go_sem] def e66(xs:List ByteArray)(l:Int)(h0:okL XeA xs):s66.F [.sl .ro 1 (xs.map Zw),.i .i64 l]=some (.i .i64 (szL Xcl xs l),[.u,.u]):=Xm (xs.length+1) rfl rfl (λcx h=>by
 have hb:=XG Tryz.f66 0 _ _ rfl rfl
 have hx:=h0.1
 obtain⟨r,hr,hq⟩:=Qo (cx:=cx) (blk:=0) (body:=Za Tryz.f66 0) xs (λk l=>⟨E [(0,.sl .ro 1 (xs.map Zw)),(1,.i .i64 l),(5,.i .i64 k)],B []⟩) (λl=>⟨E [(1,.i .i64 l)],B []⟩) (λx l=>decide (Xcl x l<0)) (λx l=>Xcl x l) (λ_ _=>(.ret,⟨E [(4,.i .i64 (-1))],B []⟩)) (λ_ _=>True)
  (λl _ G=>by simp only[go_sem,reduceIte,↓reduceIte,nB,nE,iG,h,Int.lt_irrefl,hb]) (λk hk l _=>by
   have h1:((k:Int)<(xs.length:Int)):=Int.ofNat_lt.2 hk
   have h2:=h0.2 _ (List.getElem_mem hk)
   by_cases hc:(IntKind.i64).wrap (l-(xs[k].size:Int))<0
   ·have hs:Xcl xs[k] l =-1:=by simp only[Xcl,szs]; rw[if_pos hc]
    exact .inl ⟨by rw[hs]; rfl,λG=>by simp only[go_sem,reduceIte,↓reduceIte,nB,nE,iG,h,hc,YJ Zw xs k hk,h1,X0 _ _ hk,hb]⟩
   ·have hs:Xcl xs[k] l=(IntKind.i64).wrap (l-(xs[k].size:Int)):=by simp only[Xcl,szs]; rw[if_neg hc]
    exact .inr ⟨decide_eq_false (by rw[hs]; exact hc),trivial,_,λG=>by simp only[go_sem,reduceIte,↓reduceIte,nB,nE,iG,h,hc,YJ Zw xs k hk,h1,X0 _ _ hk,Xz (show k<9223372036854775807 by omega),hb]<;>with_reducible rfl,by simp only[go_sem,reduceIte,↓reduceIte,nB,h,hs]⟩) ((IntKind.i64).wrap (l-(xs.length:Int))) trivial (xs.length+1) (Nat.le_refl _)
 rw[hb] at hr
 unfold szL szs
 by_cases hc:(IntKind.i64).wrap (l-(xs.length:Int))<0
 ·simp only[go_sem,reduceIte,↓reduceIte,nB,nE,iG,h,hc]
 ·rcases hq with⟨s',e1,e2,e3⟩ | ⟨x,s',e1,e3⟩
  ·simp only[go_sem,reduceIte,↓reduceIte,nB,nE,iG,h,hc,hr,e3,XfD e1,Option.getD_some]
  ·simp only[go_sem,reduceIte,↓reduceIte,nB,nE,iG,h,hc,hr,e3,XfE e1,Option.getD_none]) (rfl)
def s21:SP Tryz.prog:=mkS tyA 21 Tryz.f21 [s64,s65,s66] {md:=[.ro 1,.ro 1],rg:=[(0,[1,2],[2]),(1,[1,2],[2]),(2,[1,2,11],[2]),(3,[4],[]),(4,[1,2],[2]),(5,[1,2,17],[2]),(6,[4],[]),(7,[1,2],[2]),(8,[1,2,23],[2]),(9,[4],[]),(10,[1],[]),(11,[1,29],[]),(12,[4],[]),(13,[4],[])],rets:=some ([4],[])} Tryz.func21 (by kernel_rfl)
@[go_sem] def d21:s21.g=21/\s21.fs=⟨[.ro 1,.ro 1],s21.F,false⟩:=⟨nr rfl,nr rfl⟩
@[go_sem] def e21(z2:ByteArray)(z3:Int)(z4:List Xg)(z5:List UInt8)(z6 z7 z8 z9 z10:Int)(z11 z12:Bool)(z13:List ByteArray)(z14 l:Int)(h0:Xdy (Xt.mk z2 z3 z4 z5 (Meta.mk z6 z7 z8 z9 z10 z11 z12) z13 z14)):s21.F [.agg [.s z2,.i .i64 z3,.sl .ro 2 (z4.map (Xa .ro)),.sl .ro 1 (z5.map Xx),.i .i64 z6,.i .i64 z7,.i .i64 z8,.i .i64 z9,.i .i64 z10,.b z11,.b z12,.sl .ro 1 (z13.map Zw),.i .i64 z14],.i .i64 l]=some (.i .i64 (XaV (Xt.mk z2 z3 z4 z5 (Meta.mk z6 z7 z8 z9 z10 z11 z12) z13 z14) l),[.u,.u]):=Xm (0) rfl rfl (λcx h=>by
 obtain⟨q0,q1,q2,q3,q4,q5,q6⟩:=h0
 simp only[go_sem,reduceIte,↓reduceIte,nA,nB,nE,nL,iG,h,q2,q5]
 simp only[XaV,szs,szn,XpC]) (rfl)
def within(a b c:Int):Bool:=decide (b<=a)&&decide (a<=c)
def Xi5{a b c:Int}:within a b c=true↔b<=a/\a<=c:=by simp[within]
def s51:SP Tryz.prog:=mkS tyA 51 Tryz.f51 [] {md:=[.ro 1,.ro 1,.ro 1],rets:=some ([6],[])} Tryz.func51 (by kernel_rfl)
@[go_sem] def d51:s51.g=51/\s51.fs=⟨[.ro 1,.ro 1,.ro 1],s51.F,false⟩:=⟨nr rfl,nr rfl⟩
@[go_sem] def e51(a b c:Int):s51.F [.i .i64 a,.i .i64 b,.i .i64 c]=some (.b (within a b c),[.u,.u,.u]):=Xm (0) rfl rfl (λcx h=>by
 simp only[go_sem,reduceIte,↓reduceIte,nA,nB,h,within]
 by_cases h:b<=a<;>simp[h]) (rfl)
def XfM{c v:UInt8}(h:c≠v):((c.toNat:Int)==(v.toNat:Int))=false:=by
 simp only[beq_eq_false_iff_ne,ne_eq,Int.ofNat_inj]
 exact λe=>h (UInt8.toNat_inj.1 e)
def Qg(c:UInt8):Bool:=(decide (97<=(c.toNat:Int))&&decide ((c.toNat:Int)<=122))||(decide (65<=(c.toNat:Int))&&decide ((c.toNat:Int)<=90))
def Qs(c:UInt8):Bool:=decide (48<=(c.toNat:Int))&&decide ((c.toNat:Int)<=57)
def Xi6(l:List UInt8)(c:UInt8):0<=Lib.indexByte l c↔c∈l:=by
 induction l with
 | nil=>simp[Lib.indexByte]
 | cons b l ih =>
  have:=Lib.indexByte_ge l c
  unfold Lib.indexByte
  by_cases hb:b=c
  ·simp[hb]
  ·by_cases hx:Lib.indexByte l c =-1
   ·have hn:¬c∈l:=λh=>by have:=ih.2 h; omega
    simp[hx,hn,hb,Ne.symm hb]
   ·have h2:0<=Lib.indexByte l c:=by omega
    simp[hb,hx,ih.1 h2]; omega
def ixB(s:ByteArray)(c:UInt8):Int:=Lib.indexByte s.data.toList c
def Xhg(l:List UInt8)(c:UInt8):decide (0<=ixB ⟨l.toArray⟩ c)=l.contains c:=by
 rw[Bool.eq_iff_iff,decide_eq_true_eq,List.contains_iff_mem]
 exact Xi6 l c
def Xnz(c:UInt8):((c.toNat:Int)).toNat.toUInt8=c:=by simp
def XnA:SP Tryz.prog:=mkS tyA 171 Tryz.f171 [] {md:=[.ro 1],rets:=some ([2],[])} Tryz.func171 (by kernel_rfl)
@[go_sem] def XDb:XnA.g=171/\XnA.fs=⟨[.ro 1],XnA.F,false⟩:=⟨nr rfl,nr rfl⟩
@[go_sem] def XDc(c:UInt8):XnA.F [.i .u8 c.toNat]=some (.b (Qg c),[.u]):=Xm (0) rfl rfl (λcx h=>by
 by_cases h1:97<=(c.toNat:Int)<;>by_cases h2:(c.toNat:Int)<=122<;>by_cases h3:65<=(c.toNat:Int)<;>by_cases h4:(c.toNat:Int)<=90<;>simp only[go_sem,reduceIte,↓reduceIte,nB,h,h1,h2,h3,h4,Qg]) (rfl)
def XnB:SP Tryz.prog:=mkS tyA 172 Tryz.f172 [] {md:=[.ro 1],rets:=some ([2],[])} Tryz.func172 (by kernel_rfl)
@[go_sem] def XDd:XnB.g=172/\XnB.fs=⟨[.ro 1],XnB.F,false⟩:=⟨nr rfl,nr rfl⟩
@[go_sem] def XDe(c:UInt8):XnB.F [.i .u8 c.toNat]=some (.b (Qs c),[.u]):=Xm (0) rfl rfl (λcx h=>by
 by_cases h1:48<=(c.toNat:Int)<;>by_cases h2:(c.toNat:Int)<=57<;>simp only[go_sem,reduceIte,↓reduceIte,nB,h,h1,h2,Qs]) (rfl)
def Xgk:List UInt8:=[33,35,36,37,38,39,42,43,45,46,94,95,124,126]
def Uk(c:UInt8):Bool:=Qg c||Qs c||Xgk.contains c
def Xhh{c:UInt8}(h:c∈Xgk):Uk c=true:=by
 have:Xgk.contains c=true:=List.contains_iff_mem.2 h
 simp[Uk,this,-List.contains_eq_mem]
def Xhi{c:UInt8}(h:¬c∈Xgk):Uk c=(Qg c||Qs c):=by
 have:Xgk.contains c=false:=by rw[Bool.eq_false_iff]; exact λe=>h (List.contains_iff_mem.1 e)
 simp[Uk,this,-List.contains_eq_mem]
def Xlg(c:UInt8):decide (0<=ixB ⟨#[33,35,36,37,38,39,42,43,45,46,94,95,124,126]⟩ c)=Xgk.contains c:=Xhg Xgk c
@[go_sem] def Xo5(c:UInt8):decide (ixB ⟨#[33,35,36,37,38,39,42,43,45,46,94,95,124,126]⟩ c>=0)=Xgk.contains c:=Xhg Xgk c
def XnC:SP Tryz.prog:=mkS tyA 126 Tryz.f126 [XnA,XnB] {md:=[.ro 1],rg:=[(0,[0],[]),(1,[0,3],[]),(2,[0,3,4],[]),(3,[0,3,4],[]),(4,[0,3,4],[]),(5,[0,3,4],[]),(6,[0,3,4],[]),(7,[0,3,4],[]),(8,[0,3,4],[]),(9,[0,3,4],[]),(10,[0,3,4],[]),(11,[0,3,4],[]),(12,[0,3,4],[]),(13,[0,3,4],[]),(14,[0,3,4],[]),(15,[0,4],[]),(16,[2],[]),(17,[2],[])],rets:=some ([2],[])} Tryz.func126 (by kernel_rfl)
@[go_sem] def XDf:XnC.g=126/\XnC.fs=⟨[.ro 1],XnC.F,false⟩:=⟨nr rfl,nr rfl⟩
@[go_sem] def XDg(c:UInt8):XnC.F [.i .u8 c.toNat]=some (.b (Uk c),[.u]):=Xm (0) rfl rfl (λcx h=>by
 by_cases m:c∈Xgk
 ·have hw:=Xhh m
  simp only[Xgk,List.mem_cons,List.not_mem_nil,or_false] at m
  have u33:(((33:UInt8).toNat:Nat):Int)=33:=rfl
  have u35:(((35:UInt8).toNat:Nat):Int)=35:=rfl
  have u36:(((36:UInt8).toNat:Nat):Int)=36:=rfl
  have u37:(((37:UInt8).toNat:Nat):Int)=37:=rfl
  have u38:(((38:UInt8).toNat:Nat):Int)=38:=rfl
  have u39:(((39:UInt8).toNat:Nat):Int)=39:=rfl
  have u42:(((42:UInt8).toNat:Nat):Int)=42:=rfl
  have u43:(((43:UInt8).toNat:Nat):Int)=43:=rfl
  have u45:(((45:UInt8).toNat:Nat):Int)=45:=rfl
  have u46:(((46:UInt8).toNat:Nat):Int)=46:=rfl
  have u94:(((94:UInt8).toNat:Nat):Int)=94:=rfl
  have u95:(((95:UInt8).toNat:Nat):Int)=95:=rfl
  have u124:(((124:UInt8).toNat:Nat):Int)=124:=rfl
  have u126:(((126:UInt8).toNat:Nat):Int)=126:=rfl
  rcases m with rfl | rfl | rfl | rfl | rfl | rfl | rfl | rfl | rfl | rfl | rfl | rfl | rfl | rfl<;>simp only[go_sem,reduceIte,↓reduceIte,nB,nE,iB,h,hw,u33,u35,u36,u37,u38,u39,u42,u43,u45,u46,u94,u95,u124,u126]
 ·have hw:=Xhi m
  have q33:((c.toNat:Int)==33)=false:=XfM (v:=33) (λe=>m (by subst e; decide))
  have q35:((c.toNat:Int)==35)=false:=XfM (v:=35) (λe=>m (by subst e; decide))
  have q36:((c.toNat:Int)==36)=false:=XfM (v:=36) (λe=>m (by subst e; decide))
  have q37:((c.toNat:Int)==37)=false:=XfM (v:=37) (λe=>m (by subst e; decide))
  have q38:((c.toNat:Int)==38)=false:=XfM (v:=38) (λe=>m (by subst e; decide))
  have q39:((c.toNat:Int)==39)=false:=XfM (v:=39) (λe=>m (by subst e; decide))
  have q42:((c.toNat:Int)==42)=false:=XfM (v:=42) (λe=>m (by subst e; decide))
  have q43:((c.toNat:Int)==43)=false:=XfM (v:=43) (λe=>m (by subst e; decide))
  have q45:((c.toNat:Int)==45)=false:=XfM (v:=45) (λe=>m (by subst e; decide))
  have q46:((c.toNat:Int)==46)=false:=XfM (v:=46) (λe=>m (by subst e; decide))
  have q94:((c.toNat:Int)==94)=false:=XfM (v:=94) (λe=>m (by subst e; decide))
  have q95:((c.toNat:Int)==95)=false:=XfM (v:=95) (λe=>m (by subst e; decide))
  have q124:((c.toNat:Int)==124)=false:=XfM (v:=124) (λe=>m (by subst e; decide))
  have q126:((c.toNat:Int)==126)=false:=XfM (v:=126) (λe=>m (by subst e; decide))
  cases h1:Qg c<;>cases h2:Qs c<;>simp only[go_sem,reduceIte,↓reduceIte,nB,nE,h,hw,h1,h2,q33,q35,q36,q37,q38,q39,q42,q43,q45,q46,q94,q95,q124,q126]) (rfl)
def XfN(p:UInt8->Bool)(lo hi:Int)(t:ByteArray):Bool:=decide (lo<=(t.size:Int))&&decide ((t.size:Int)<=hi)&&t.data.toList.all p
def Z9{p:UInt8->Bool}{lo hi:Int}{t:ByteArray}(h:(t.size:Int)<lo):XfN p lo hi t=false:=by
 have:¬lo<=(t.size:Int):=by omega
 simp[XfN,this]
def QD{p:UInt8->Bool}{lo hi:Int}{t:ByteArray}(h:hi<(t.size:Int)):XfN p lo hi t=false:=by
 have:¬(t.size:Int)<=hi:=by omega
 simp[XfN,this]
def QR{p:UInt8->Bool}{lo hi:Int}{t:ByteArray}(h:¬(t.size:Int)<lo)(h':¬hi<(t.size:Int)):XfN p lo hi t=t.data.toList.all p:=by
 have h1:lo<=(t.size:Int):=by omega
 have h2:(t.size:Int)<=hi:=by omega
 simp[XfN,h1,h2]
def Qt{α:Type}{p:α->Bool}:∀{xs:List α} {u u':Unit},UQ (λx _=>!p x) (λ_ _=>()) xs u=.inl u'->xs.all p=true
 | [],_,_,_=>rfl
 | x :: xs,u,u',h=>by
  rw[Y2] at h
  split at h
  ·cases h
  ·rename_i hc
   simp only[List.all_cons,Qt h,Bool.and_true]
   simpa using hc
def ZI{α:Type}{p:α->Bool}:∀{xs:List α} {u:Unit} {q:α×Unit},UQ (λx _=>!p x) (λ_ _=>()) xs u=.inr q->xs.all p=false
 | [],_,_,h=>by cases h
 | x :: xs,u,q,h=>by
  rw[Y2] at h
  split at h
  ·rename_i hc
   have:p x=false:=by simpa using hc
   simp[this]
  ·simp only[List.all_cons,ZI h,Bool.and_false]
def Xbq(t:ByteArray)(k:Nat)(h:k<t.data.toList.length):t.data[k]?.getD 0=t.data.toList[k]:=by
 have h':k<t.data.size:=by simpa using h
 rw[Array.getElem?_eq_getElem h']
 simp
def Xo(t:ByteArray):t.size=t.data.toList.length:=by
 show t.data.size=_
 simp
def Ud(t:ByteArray):Bool:=XfN Uk 1 64 t
def s68:SP Tryz.prog:=mkS tyA 68 Tryz.f68 [XnC] {md:=[.ro 1],rg:=[(0,[0],[]),(1,[0,11],[]),(2,[2],[]),(3,[0,3],[]),(4,[0,3,15],[]),(5,[0,3],[]),(6,[0,3,22],[]),(7,[2],[]),(8,[2],[])],lv:=[(0,[0,3],[])],out:=[(0,[],[])],rets:=some ([2],[])} Tryz.func68 (by kernel_rfl)
@[go_sem] def d68:s68.g=68/\s68.fs=⟨[.ro 1],s68.F,false⟩:=⟨nr rfl,nr rfl⟩
@[go_sem] def e68(t:ByteArray):s68.F [.s t]=some (.b (Ud t),[.u]):=Xm (t.data.toList.length+1) rfl rfl (λcx h=>by
 have hu:Ud t=XfN Uk 1 64 t:=rfl
 by_cases h1:(t.size:Int)<1
 ·simp only[go_sem,reduceIte,↓reduceIte,nB,nE,h,h1,hu,Z9 h1]
 by_cases h2:64<(t.size:Int)
 ·simp only[go_sem,reduceIte,↓reduceIte,nB,nE,h,h1,h2,hu,QD h2]
 have hx:t.data.toList.length<=9223372036854775806:=by rw[<-Xo]; omega
 have ha:=QR (p:=Uk) h1 h2
 rw[Xo t] at h1 h2
 ·have hb0:=XG Tryz.f68 0 _ _ rfl rfl
  obtain⟨r,hr,hq⟩:=Y3 (cx:=cx) (blk:=0) (body:=Za Tryz.f68 0) t.data.toList (λk (s:Unit)=>⟨E [(0,.s t),(3,.i .i64 k)],B []⟩) (λs=>⟨E [],B []⟩) (λx s=>!Uk x) (λx s=>()) (λx s=>(.ret,⟨E [(2,.b false)],B []⟩)) (λk s=>True)
    (λs hI G=>by simp only[go_sem,reduceIte,↓reduceIte,nB,nE,h,Int.lt_irrefl,hb0,Xo t]) (λk hk s hI=>by
     have h1:((k:Int)<(t.data.toList.length:Int)):=Int.ofNat_lt.2 hk
     have hz:=Xbq t k hk
     exact⟨_,_,_,λG=>by simp only[go_sem,reduceIte,↓reduceIte,nB,nE,h,hz,Xo t,h1,X0 _ _ hk,Xz (show k<9223372036854775807 by omega),hb0]<;>with_reducible rfl,Iff.rfl,λhc=>⟨trivial,by simp only[go_sem,reduceIte,↓reduceIte,nB,h]⟩⟩) () trivial (t.data.toList.length+1) (Nat.le_refl _)
  rw[hb0] at hr
  rcases hq with⟨s',e1,_,e3⟩ | ⟨x,s',e1,e3⟩
  ·simp only[go_sem,reduceIte,↓reduceIte,nB,nE,h,h1,h2,Xo t,hr,e3,hu,ha,Qt e1]
  ·simp only[go_sem,reduceIte,↓reduceIte,nB,nE,h,h1,h2,Xo t,hr,e3,hu,ha,ZI e1]) (rfl)
def UM(c:UInt8):Bool:=((c.toNat:Int)==9)||(decide (32<=(c.toNat:Int))&&decide ((c.toNat:Int)<=126))
def XnD:SP Tryz.prog:=mkS tyA 205 Tryz.f205 [] {md:=[.ro 1],rets:=some ([2],[])} Tryz.func205 (by kernel_rfl)
@[go_sem] def XDh:XnD.g=205/\XnD.fs=⟨[.ro 1],XnD.F,false⟩:=⟨nr rfl,nr rfl⟩
@[go_sem] def XDi(c:UInt8):XnD.F [.i .u8 c.toNat]=some (.b (UM c),[.u]):=Xm (0) rfl rfl (λcx h=>by
 cases h1:((c.toNat:Int)==9)<;>by_cases h2:32<=(c.toNat:Int)<;>by_cases h3:(c.toNat:Int)<=126<;>simp only[go_sem,reduceIte,↓reduceIte,nB,h,h1,h2,h3,UM]) (rfl)
def XkN(t:ByteArray):Bool:=t.data.toList.all UM
def Xlh(t:ByteArray):XfN UM 0 (t.size:Int) t=XkN t:=QR (by omega) (by omega)
def XnE:SP Tryz.prog:=mkS tyA 177 Tryz.f177 [XnD] {md:=[.ro 1],rg:=[(0,[0],[]),(1,[0,3],[]),(2,[0,3,7],[]),(3,[0,3],[]),(4,[0,3,14],[]),(5,[2],[]),(6,[2],[])],lv:=[(0,[0,3],[])],out:=[(0,[],[])],rets:=some ([2],[])} Tryz.func177 (by kernel_rfl)
@[go_sem] def XDj:XnE.g=177/\XnE.fs=⟨[.ro 1],XnE.F,false⟩:=⟨nr rfl,nr rfl⟩
@[go_sem] def XDk(t:ByteArray)(h0:(t.size:Int)<=1000000):XnE.F [.s t]=some (.b (XkN t),[.u]):=Xm (t.data.toList.length+1) rfl rfl (λcx h=>by
 have hx:t.data.toList.length<=9223372036854775806:=by rw[<-Xo]; omega
 have hb0:=XG Tryz.f177 0 _ _ rfl rfl
 obtain⟨r,hr,hq⟩:=Y3 (cx:=cx) (blk:=0) (body:=Za Tryz.f177 0) t.data.toList (λk (s:Unit)=>⟨E [(0,.s t),(3,.i .i64 k)],B []⟩) (λs=>⟨E [],B []⟩) (λx s=>!UM x) (λx s=>()) (λx s=>(.ret,⟨E [(2,.b false)],B []⟩)) (λk s=>True)
   (λs hI G=>by simp only[go_sem,reduceIte,↓reduceIte,nB,nE,h,Int.lt_irrefl,hb0,Xo t]) (λk hk s hI=>by
    have h1:((k:Int)<(t.data.toList.length:Int)):=Int.ofNat_lt.2 hk
    have hz:=Xbq t k hk
    exact⟨_,_,_,λG=>by simp only[go_sem,reduceIte,↓reduceIte,nB,nE,h,hz,Xo t,h1,X0 _ _ hk,Xz (show k<9223372036854775807 by omega),hb0]<;>with_reducible rfl,Iff.rfl,λhc=>⟨trivial,by simp only[go_sem,reduceIte,↓reduceIte,nB,h]⟩⟩) () trivial (t.data.toList.length+1) (Nat.le_refl _)
 rw[hb0] at hr
 rcases hq with⟨s',e1,_,e3⟩ | ⟨x,s',e1,e3⟩
 ·simp only[go_sem,reduceIte,↓reduceIte,nB,nE,h,hr,e3,XkN,Qt e1]
 ·simp only[go_sem,reduceIte,↓reduceIte,nB,h,hr,e3,XkN,ZI e1]) (rfl)
def XeI(t:ByteArray):ByteArray:=⟨(Lib.trimS t.data.toList [32,9]).toArray⟩
def U5(c:UInt8):Bool:=((c.toNat:Int)==32)||((c.toNat:Int)==9)
def bl(t:ByteArray)(j:Nat):Bool:=U5 (t.data[j]?.getD 0)
def Xi7(c:UInt8):[32,9].contains c=U5 c:=by
 have h32:(c==32)=((c.toNat:Int)==32):=by
  rw[Bool.eq_iff_iff,beq_iff_eq,beq_iff_eq]
  constructor
  ·rintro rfl; rfl
  ·intro h; exact UInt8.toNat_inj.1 (by have:(32:UInt8).toNat=32:=rfl; omega)
 have h9:(c==9)=((c.toNat:Int)==9):=by
  rw[Bool.eq_iff_iff,beq_iff_eq,beq_iff_eq]
  constructor
  ·rintro rfl; rfl
  ·intro h; exact UInt8.toNat_inj.1 (by have:(9:UInt8).toNat=9:=rfl; omega)
 simp only[List.contains_cons,List.contains_nil,Bool.or_false,h32,h9,U5]
def XdE{t:ByteArray}{j:Nat}{b:UInt8}(h:t.data.toList[j]?=some b):bl t j=[32,9].contains b:=by
 rw[Xi7]
 unfold bl
 rw[Array.getElem?_toList] at h
 rw[h]; rfl
def Xi8(t:ByteArray)(f e:Nat)(hf:f<=e)(he:e<=t.size)(h1:∀j,j<f->bl t j=true)(h2:f<t.size->bl t f=false)(h3:∀j,e<=j->j<t.size->bl t j=true)(h4:f<e->bl t (e-1)=false):XeI t=t.extract f e:=by
 have hn:t.size=t.data.toList.length:=Xo t
 have hext:t.extract f e=⟨((t.data.toList.take e).drop f).toArray⟩:=by
  have:(t.extract f e).data=t.data.extract f e:=by simp
  cases hx:t.extract f e with
  | mk d =>
   rw[hx] at this
   congr 1
   simp only at this
   rw[this]
   apply Array.ext'
   rw[Array.toList_extract,List.extract_eq_take_drop,List.drop_take]
 rw[hext]
 unfold XeI Lib.trimS
 congr 2
 by_cases hall:f<e
 ·rw[Lib.trimRightS_take t.data.toList [32,9] e (by omega) (λj b hj hb=>?_) (λb hk hb=>?_)]
  ·refine Lib.trimLeftS_drop _ _ f (by simp; omega) (λj b hj hb=>?_) (λb hb=>?_)
   ·rw[List.getElem?_take] at hb
    split at hb
    ·rw[<-XdE hb]; exact h1 j hj
    ·cases hb
   ·rw[List.getElem?_take,if_pos hall] at hb
    rw[<-XdE hb]; exact h2 (by omega)
  ·rw[<-XdE hb]; exact h3 j hj (by have:=(List.getElem?_eq_some_iff.1 hb).1; omega)
  ·rw[<-XdE hb]; exact h4 hall
 ·obtain rfl:f=e:=by omega
  have hfn:f=t.size:=by
   rcases Nat.lt_or_ge f t.size with h | h
   ·have:=h2 h; rw[h3 f (Nat.le_refl _) h] at this; cases this
   ·omega
  have hr:Lib.trimRightS t.data.toList [32,9]=t.data.toList.take 0:=Lib.trimRightS_take _ _ 0 (by omega) (λj b _ hb=>by
   rw[<-XdE hb]; exact h1 j (by have:=(List.getElem?_eq_some_iff.1 hb).1; omega)) (λb hk _=>by omega)
  rw[hr]
  have:(t.data.toList.take f).drop f=[]:=by
   apply List.drop_eq_nil_of_le
   simp
   omega
  rw[this]
  rfl
def XnF:SP Tryz.prog:=mkS tyA 206 Tryz.f206 [] {md:=[.ro 1],rets:=some ([2],[])} Tryz.func206 (by kernel_rfl)
@[go_sem] def XDl:XnF.g=206/\XnF.fs=⟨[.ro 1],XnF.F,false⟩:=⟨nr rfl,nr rfl⟩
@[go_sem] def XDm(c:UInt8):XnF.F [.i .u8 c.toNat]=some (.b (U5 c),[.u]):=Xm (0) rfl rfl (λcx h=>by
 cases h1:((c.toNat:Int)==32)<;>cases h2:((c.toNat:Int)==9)<;>simp only[go_sem,reduceIte,↓reduceIte,nB,h,h1,h2,U5]) (rfl)
def XnG:SP Tryz.prog:=mkS tyA 178 Tryz.f178 [XnF] {md:=[.ro 1],rg:=[(0,[0],[]),(1,[0,3],[]),(2,[0,3,4],[]),(3,[0,3,4,15],[]),(4,[0,3,4],[]),(5,[0,3,4,27],[]),(6,[0,3,4],[]),(7,[2],[])],lv:=[(0,[0,3,4],[]),(2,[0,3,4],[])],out:=[(0,[0,3,4],[]),(2,[0,3,4],[])],rets:=some ([2],[])} Tryz.func178 (by kernel_rfl)
@[go_sem] def XDn:XnG.g=178/\XnG.fs=⟨[.ro 1],XnG.F,false⟩:=⟨nr rfl,nr rfl⟩
@[go_sem] def XDo(t:ByteArray)(h0:t.size<=9223372036854775806):XnG.F [.s t]=some (.s (XeI t),[.u]):=Xm (t.size+1) rfl rfl (λcx h=>by
 have hb:=XG Tryz.f178 0 _ _ rfl rfl
 have hb1:=XG Tryz.f178 1 _ _ rfl rfl
 have lp:=Xdn (cx:=cx) (blk:=0) (body:=Za Tryz.f178 0) (λ(k:Nat)=>⟨E [(0,.s t),(3,.i .i64 k),(4,.i .i64 t.size)],B []⟩) (λk=>k<=t.size) (λk=>t.size-k)
  (λk r=>∃f:Nat,k<=f/\f<=t.size/\(∀j,k<=j->j<f->bl t j=true)/\(f<t.size->bl t f=false)/\r=some (.ex 0,⟨E [(0,.s t),(3,.i .i64 f),(4,.i .i64 t.size)],B []⟩)) (λk hk=>by
  by_cases h1:(k:Int)<(t.size:Int)
  ·have i1:=X0 t.size k (by omega)
   have w1:=Xz (show k<9223372036854775807 by omega)
   cases h2:bl t k
   ·have h3:U5 (t.data[k]?.getD 0)=false:=h2
    exact .inl λG=>⟨k,Nat.le_refl _,hk,λj a b=>by omega,λ_=>h2,by simp only[go_sem,reduceIte,↓reduceIte,nB,nE,h,hb,h1,h3,i1]⟩
   ·have h3:U5 (t.data[k]?.getD 0)=true:=h2
    refine .inr ⟨_,k+1,?_,by omega,by omega,λr ⟨f,a,b,c,d,e⟩=>⟨f,by omega,b,λj x y=>?_,d,e⟩,λG=>by simp only[go_sem,reduceIte,↓reduceIte,nB,nE,h,hb,h1,h3,i1,w1]; rfl⟩
    ·simp only[go_sem,reduceIte,↓reduceIte,nB,h]
    ·rcases Nat.eq_or_lt_of_le x with rfl | x
     ·exact h2
     ·exact c j x y
  ·exact .inl λG=>⟨k,Nat.le_refl _,hk,λj a b=>by omega,λx=>by omega,by simp only[go_sem,reduceIte,↓reduceIte,nB,nE,h,hb,h1]⟩)
 rw[hb] at lp
 obtain⟨f,_,f2,f3,f4,l1⟩:=lp (t.size+1) 0 (Nat.zero_le _) (by omega) ⟨E [(0,.s t),(3,.i .i64 0),(4,.i .i64 t.size)],B []⟩ (by simp only[go_sem,reduceIte,↓reduceIte,nB,h])
 have lp2:=Xdn (cx:=cx) (blk:=2) (body:=Za Tryz.f178 1) (λ(k:Nat)=>⟨E [(0,.s t),(3,.i .i64 f),(4,.i .i64 k)],B []⟩) (λk=>f<=k/\k<=t.size) (λk=>k)
  (λk r=>∃e:Nat,f<=e/\e<=k/\(∀j,e<=j->j<k->bl t j=true)/\(f<e->bl t (e-1)=false)/\r=some (.ex 2,⟨E [(0,.s t),(3,.i .i64 f),(4,.i .i64 e)],B []⟩)) (λk hk=>by
  by_cases h1:(f:Int)<(k:Int)
  ·obtain⟨m,rfl⟩:∃m,k=m+1:=⟨k-1,by omega⟩
   have i1:=X0 t.size m (by omega)
   have w1:(IntKind.i64).wrap (((m+1:Nat):Int)-1)=(m:Int):=by rw[Yl (by omega) (by omega)]; omega
   cases h2:bl t m
   ·have h3:U5 (t.data[m]?.getD 0)=false:=h2
    exact .inl λG=>⟨m+1,hk.1,Nat.le_refl _,λj a b=>by omega,λ_=>by simpa using h2,by simp only[go_sem,reduceIte,↓reduceIte,nB,nE,h,hb1,h1,h3,i1,w1]⟩
   ·have h3:U5 (t.data[m]?.getD 0)=true:=h2
    refine .inr ⟨_,m,?_,⟨by omega,by omega⟩,by omega,λr ⟨e,a,b,c,d,g⟩=>⟨e,a,by omega,λj x y=>?_,d,g⟩,λG=>by simp only[go_sem,reduceIte,↓reduceIte,nB,nE,h,hb1,h1,h3,i1,w1]; rfl⟩
    ·simp only[go_sem,reduceIte,↓reduceIte,nB,h]
    ·rcases Nat.lt_or_ge j m with y' | y'
     ·exact c j x y'
     ·obtain rfl:j=m:=by omega
      exact h2
  ·exact .inl λG=>⟨k,hk.1,Nat.le_refl _,λj a b=>by omega,λx=>by omega,by simp only[go_sem,reduceIte,↓reduceIte,nB,nE,h,hb1,h1]⟩)
 rw[hb1] at lp2
 obtain⟨e,e1,e2,e3,e4,l2⟩:=lp2 (t.size+1) t.size ⟨f2,Nat.le_refl _⟩ (by omega) ⟨E [(0,.s t),(3,.i .i64 f),(4,.i .i64 t.size)],B []⟩ (by simp only[go_sem,reduceIte,↓reduceIte,nB,h])
 have hc:=Xi8 t f e e1 e2 (λj hj=>f3 j (Nat.zero_le _) hj) f4 e3 e4
 have c1:(0:Int)<=(e:Int):=by omega
 have c2:(e:Int)<=(t.size:Int):=by omega
 have c3:(0:Int)<=(f:Int):=by omega
 have c4:(f:Int)<=(e:Int):=by omega
 simp only[go_sem,reduceIte,↓reduceIte,nB,nE,h,l1,l2,c1,c2,c3,c4,Int.toNat_natCast,hc]) (rfl)
def X8(h:Xg):Int:=if Ud h.Name=false then 5 else if 200<(h.Value.size:Int) then 2 else if(XkN h.Value&&eqv (XeI h.Value) h.Value)=true then 0 else 5
def Xj(hs:List Xg):Int:=if 20<(hs.length:Int) then 2 else XcR (hs.map X8)
def Xax{α:Type}{f:α->Int}:∀{xs:List α} {u u':Unit},UQ (λx _=>f x !=0) (λ_ _=>()) xs u=.inl u'->XcR (xs.map f)=0
 | [],_,_,_=>rfl
 | x :: xs,u,u',h=>by
  rw[Y2] at h
  split at h
  ·cases h
  ·rename_i hc; rw[List.map_cons,UZ,if_neg hc]; exact Xax h
def Xay{α:Type}{f:α->Int}:∀{xs:List α} {u:Unit} {q:α×Unit},UQ (λx _=>f x !=0) (λ_ _=>()) xs u=.inr q->XcR (xs.map f)=f q.1
 | [],_,_,h=>by cases h
 | x :: xs,u,q,h=>by
  rw[Y2] at h
  split at h
  ·rename_i hc; injection h with h; subst h; rw[List.map_cons,UZ,if_pos hc]
  ·rename_i hc; rw[List.map_cons,UZ,if_neg hc]; exact Xay h
def XnH:SP Tryz.prog:=mkS tyA 118 Tryz.f118 [s68,XnE,XnG] {md:=[.ro 1],rg:=[(0,[1],[1]),(1,[1,3],[1]),(2,[3,6],[]),(3,[2],[]),(4,[3,11],[]),(5,[2],[]),(6,[15],[]),(7,[2],[]),(8,[2],[])],rets:=some ([2],[])} Tryz.func118 (by kernel_rfl)
@[go_sem] def XDp:XnH.g=118/\XnH.fs=⟨[.ro 1],XnH.F,false⟩:=⟨nr rfl,nr rfl⟩
@[go_sem] def XDq(z0 z1:ByteArray):XnH.F [.agg [.s z0,.s z1]]=some (.i .i64 (X8 (Xg.mk z0 z1)),[.u]):=Xm (0) rfl rfl (λcx h=>by
 cases h1:Ud z0
 ·simp only[go_sem,reduceIte,↓reduceIte,nA,nB,nE,nL,h,h1,X8]
 by_cases h2:200<(z1.size:Int)
 ·simp only[go_sem,reduceIte,↓reduceIte,nA,nB,nE,nL,h,h1,h2,X8]
 have h3:(z1.size:Int)<=1000000:=by omega
 have h4:z1.size<=9223372036854775806:=by omega
 have h5:z1.size<=9223372036854775807:=by omega
 cases h6:XkN z1
 ·simp only[go_sem,reduceIte,↓reduceIte,nA,nB,nE,nL,h,h1,h2,h3,h6,X8]
 cases h7:eqv (XeI z1) z1<;>simp only[go_sem,reduceIte,↓reduceIte,nA,nB,nE,nL,h,h1,h2,h3,h4,h6,h7,ZP,X8]) (rfl)
def s52:SP Tryz.prog:=mkS tyA 52 Tryz.f52 [XnH] {md:=[.ro 1],rg:=[(0,[0],[]),(1,[0,7],[]),(2,[2],[]),(3,[0,3],[]),(4,[0,3,11],[]),(5,[0,3],[]),(6,[0,3,4],[]),(7,[0,3,4,20],[]),(8,[2],[]),(9,[2],[])],lv:=[(0,[0,3],[])],out:=[(0,[],[])],rets:=some ([2],[])} Tryz.func52 (by kernel_rfl)
@[go_sem] def d52:s52.g=52/\s52.fs=⟨[.ro 1],s52.F,false⟩:=⟨nr rfl,nr rfl⟩
@[go_sem] def e52(hs:List Xg):s52.F [.sl .ro 2 (hs.map (Xa .ro))]=some (.i .i64 (Xj hs),[.u]):=Xm (hs.length+1) rfl rfl (λcx h=>by
 by_cases h1:20<(hs.length:Int)
 ·simp only[go_sem,reduceIte,↓reduceIte,nB,nE,h,h1,Xj]
 have hx:hs.length<=9223372036854775806:=by omega
 have hb0:=XG Tryz.f52 0 _ _ rfl rfl
 obtain⟨r,hr,hq⟩:=Y3 (cx:=cx) (blk:=0) (body:=Za Tryz.f52 0) hs (λk (s:Unit)=>⟨E [(0,.sl .ro 2 (hs.map (Xa .ro))),(3,.i .i64 k)],B []⟩) (λs=>⟨E [],B []⟩) (λx s=>X8 x !=0) (λx s=>()) (λx s=>(.ret,⟨E [(2,.i .i64 (X8 x))],B []⟩)) (λk s=>True)
   (λs hI G=>by simp only[go_sem,reduceIte,↓reduceIte,nB,nE,h,Int.lt_irrefl,hb0]) (λk hk s hI=>by
    have h1:((k:Int)<(hs.length:Int)):=Int.ofNat_lt.2 hk
    exact⟨_,_,_,λG=>by simp only[go_sem,reduceIte,↓reduceIte,nA,nB,nE,h,YJ (Xa .ro) hs _ hk,Xa,h1,X0 _ _ hk,Xz (show k<9223372036854775807 by omega),hb0]<;>with_reducible rfl,Iff.rfl,λhc=>⟨trivial,by simp only[go_sem,reduceIte,↓reduceIte,nB,h]⟩⟩) () trivial (hs.length+1) (Nat.le_refl _)
 rw[hb0] at hr
 rcases hq with⟨s',e1,_,e3⟩ | ⟨x,s',e1,e3⟩
 ·simp only[go_sem,reduceIte,↓reduceIte,nB,nE,h,h1,hr,e3,Xj,Xax e1]
 ·simp only[go_sem,reduceIte,↓reduceIte,nB,nE,h,h1,hr,e3,Xj,Xay e1]) (rfl)
def Ym(a:Int):Bool:=within a 0 1000000000000000
def U6{a:Int}:Ym a=true↔0<=a/\a<=1000000000000000:=Xi5
def Xm2:SP Tryz.prog:=mkS tyA 125 Tryz.f125 [s51] {md:=[.ro 1],rets:=some ([2],[])} Tryz.func125 (by kernel_rfl)
@[go_sem] def XDr:Xm2.g=125/\Xm2.fs=⟨[.ro 1],Xm2.F,false⟩:=⟨nr rfl,nr rfl⟩
@[go_sem] def XDs(a:Int):Xm2.F [.i .i64 a]=some (.b (Ym a),[.u]):=Xm (0) rfl rfl (λcx h=>by
 simp only[go_sem,reduceIte,↓reduceIte,nA,nB,h,Ym]) (rfl)
end
end Go.Vm.A
