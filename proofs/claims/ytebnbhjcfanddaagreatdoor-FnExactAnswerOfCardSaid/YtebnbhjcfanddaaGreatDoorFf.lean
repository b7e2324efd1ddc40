/- Functions of the program, walked by the evaluator. -/
import Derived.Test.YtebnbhjcfanddaaGreatDoorWb
import Derived.Test.YtebnbhjcfanddaaGreatDoorWa
import Derived.Test.YtebnbhjcfanddaaGreatDoorFa
import Derived.Test.YtebnbhjcfanddaaGreatDoorFb
import Derived.Test.YtebnbhjcfanddaaGreatDoorFc
import Derived.Test.YtebnbhjcfanddaaGreatDoorFd
import Derived.Test.YtebnbhjcfanddaaGreatDoorFe
set_option linter.unusedVariables false
set_option linter.unusedSimpArgs false
set_option autoImplicit false
set_option maxRecDepth 100000
set_option maxHeartbeats 4000000
set_option linter.defProp false
namespace Go.Vm.A
open Go.Proofs
open Nat renaming reduceAdd -> nA, reduceSub -> nS, reduceMul -> nM, reduceBEq -> nB, reduceEqDiff -> nE, reduceLeDiff -> nL, reduceLT -> nT, reduceBneDiff -> nN
open Int renaming reduceLE -> iL, reduceLT -> iT, reduceEq -> iE, reduceAdd -> iA, reduceMul -> iM, reduceSub -> iS, reduceNeg -> iG, reduceBEq -> iB, reduceBNe -> iN, reduceToNat -> iZ
noncomputable section
def Xlo:SP Tryz.prog:=mkS tyA 137 Tryz.f137 [] {md:=[.ro 1],rg:=[(0,[0],[]),(1,[0,5],[]),(2,[2],[]),(3,[0,3],[]),(4,[0,3,7],[]),(5,[0,3],[]),(6,[0,3],[]),(7,[2],[])],lv:=[(0,[0,3],[])],out:=[(0,[3],[])],rets:=some ([2],[])} Tryz.func137 (by kernel_rfl)
@[go_sem] def XEE:Xlo.g=137/\Xlo.fs=⟨[.ro 1],Xlo.F,false⟩:=⟨nr rfl,nr rfl⟩
@[go_sem] def XEF(k:Int)(h0:k+1<=9223372036854775807):Xlo.F [.i .i64 k]=some (.s (Xeu k),[.u]):=Xm (k.toNat+1) rfl rfl (λcx h=>by
 have hb:=XG Tryz.f137 0 _ _ rfl rfl
 have lp:=Xdn (cx:=cx) (blk:=0) (body:=Za Tryz.f137 0) (λ(p:Int×ByteArray)=>⟨E [(0,.i .i64 p.1),(3,.s p.2)],B []⟩) (λp=>0<=p.1/\p.1+p.2.size<=9223372036854775807) (λp=>p.1.toNat) (λp r=>r=some (.ex 0,⟨E [(3,.s (XeF p.1.toNat p.1 p.2))],B []⟩)) (λ⟨k,s⟩ ⟨i1,i2⟩=>by
  simp only at i1 i2 ⊢
  by_cases hk:0<k
  ·have e1:k.tdiv 10=k / 10:=Int.tdiv_eq_ediv_of_nonneg i1
   have e2:k.tmod 10=k%10:=Int.tmod_eq_emod_of_nonneg i1
   have w1:(IntKind.i64).wrap (48+k.tmod 10)=48+k.tmod 10:=Yl (by omega) (by omega)
   have w2:(IntKind.u8).wrap (48+k.tmod 10)=(48+k.tmod 10)%256:=by simp[IntKind.wrap,IntKind.bits,IntKind.signed]
   have w3:(IntKind.i64).wrap (k.tdiv 10)=k.tdiv 10:=Yl (by omega) (by omega)
   have z2:(#[UInt8.ofNat ((48+k.tmod 10)%256).toNat]:Array UInt8).size+s.size<=9223372036854775807:=by show 1+s.size<=_; omega
   refine .inr ⟨_,(k.tdiv 10,ByteArray.mk #[UInt8.ofNat ((48+k.tmod 10)%256).toNat]++s),?_,?_,?_,?_,λG=>by simp only[go_sem,reduceIte,↓reduceIte,nA,nM,nB,nE,nL,iE,h,hb,hk,w1,w2,w3,z2,Xaz]; rfl⟩
   ·simp only[go_sem,reduceIte,↓reduceIte,nB,h]
   ·rw[ByteArray.size_append]; exact⟨by show 0<=k.tdiv 10; omega,by show k.tdiv 10+((1+s.size:Nat):Int)<=_; omega⟩
   ·simp only; omega
   ·intro r hr
    rw[hr,show XeF k.toNat k s=XeF (k.tdiv 10).toNat (k.tdiv 10) (ByteArray.mk #[UInt8.ofNat ((48+k.tmod 10)%256).toNat]++s) from by
     obtain⟨m,hm⟩:∃m,k.toNat=m+1:=⟨k.toNat-1,by omega⟩
     rw[hm,XeF,if_pos hk]
     exact Xex _ _ _ _ (by omega) (Nat.le_refl _)]
  ·obtain rfl:k=0:=by omega
   exact .inl λG=>by simp only[go_sem,reduceIte,↓reduceIte,nB,nE,iT,iZ,h,hb,XeF])
 rw[hb] at lp
 unfold Xeu
 by_cases hk:k<=0
 ·simp only[go_sem,reduceIte,↓reduceIte,nB,nE,h,hk]
 ·have l1:=lp (k.toNat+1) (k,⟨#[]⟩) ⟨by omega,by show k+((0:Nat):Int)<=_; omega⟩ (Nat.lt_succ_self _)
  have z3:(#[109]:Array UInt8).size+(XeF k.toNat k ⟨#[]⟩).size<=9223372036854775807:=by
   have:=Xew k.toNat k ⟨#[]⟩
   show 1+_<=_
   have e2:(ByteArray.mk #[]).size=0:=rfl
   omega
  simp only[go_sem,reduceIte,↓reduceIte,nB,nE,h,hk,l1,z3]) (rfl)
def s83:SP Tryz.prog:=mkS tyA 83 Tryz.f83 [Xlo] {md:=[.mv,.ro 1],rg:=[(0,[0,1],[]),(1,[0,1,5],[]),(2,[0,1,5,9],[]),(3,[0,1,5],[]),(4,[0,1,5],[]),(5,[0,1,5],[]),(6,[0,1,5],[]),(7,[0,1,5],[]),(8,[0,4],[])],lv:=[(0,[0,1,5],[])],out:=[(0,[0,1],[])],rets:=some ([0,4],[])} Tryz.func83 (by kernel_rfl)
@[go_sem] def d83:s83.g=83/\s83.fs=⟨[.mv,.ro 1],s83.F,false⟩:=⟨nr rfl,nr rfl⟩
@[go_sem] def e83(xs:List Xg)(k:Int)(h1:0<=k)(h0:(mkL Xn xs k).2<=9223372036854775807):s83.F [.sl .mut 2 (xs.map (Xa .mut)),.i .i64 k]=some (.i .i64 (mkL Xn xs k).2,[.sl .mut 2 ((mkL Xn xs k).1.map (Xa .mut)),.u]):=Xm (xs.length+1) rfl rfl (λcx h=>by
 have hb:=XG Tryz.f83 0 _ _ rfl rfl
 have hx:=XaQ Yg xs k
 have hr:=(YB (cx:=cx) (blk:=0) (body:=Za Tryz.f83 0) xs (λi (s:Int)=>⟨E [(0,.sl .mut 2 ((Xbf Xn xs k i).map (Xa .mut))),(1,.i .i64 s),(5,.i .i64 i)],B []⟩) (λ_=>⟨E [(0,.sl .mut 2 ((mkL Xn xs k).1.map (Xa .mut))),(1,.i .i64 (mkL Xn xs k).2)],B []⟩) (λx s=>(Xn x s).2) (λi s=>s=XdD Xn xs k i)
  (λs hI G=>by simp only[go_sem,reduceIte,↓reduceIte,nB,nE,h,Int.lt_irrefl,hb,Xdq,Xdp,YC,hI,Xat]) (λi hk s hI=>by
   have h2:((i:Int)<(xs.length:Int)):=Int.ofNat_lt.2 hk
   have g1:=Xb1 Yg xs k i
   have g2:=Xb2 Yg xs k i hk
   rw[<-hI] at g1 g2
   have h3:=Xdr (f:=Xn) (Xa .mut) xs k i hk
   rw[<-hI] at h3
   simp only[Xn,Xa] at h3 g2
   have v0:(IntKind.i64).wrap (s)=s:=Yl (by omega) (by omega)
   have t1:s+1<=9223372036854775807:=by omega
   have v1:(IntKind.i64).wrap (s+1)=s+1:=Yl (by omega) (by omega)
   have t2:s+1+1<=9223372036854775807:=by omega
   have v2:(IntKind.i64).wrap (s+1+1)=s+1+1:=Yl (by omega) (by omega)
   have hL:i<((Xbf Xn xs k i).map (Xa .mut)).length:=by rw[List.length_map,Q9]; exact hk
   have hg:=λy=>XfA ((Xbf Xn xs k i).map (Xa .mut)) i y hL
   have hG:=λy=>Xds ((Xbf Xn xs k i).map (Xa .mut)) i y hL
   refine⟨by rw[QO xs k i hk,<-hI],_,λG=>by simp only[go_sem,reduceIte,↓reduceIte,nA,nB,nE,nL,h,h3,hg,hG,Q9 (f:=Xn) xs k i,Xbn (f:=Xn) (Xa .mut) xs k i hk,Xb5 (f:=Xn) (Xa .mut) xs k i hk,Xb4 (f:=Xn) (Xa .mut) xs k i,t1,v1,t2,v2,h2,X0 _ _ hk,Xz (show i<9223372036854775807 by omega),hb]<;>with_reducible rfl,by simp only[go_sem,reduceIte,↓reduceIte,nB,h,Xn]⟩) k rfl (xs.length+1) (Nat.le_refl _)).2
 rw[hb] at hr
 simp only[go_sem,reduceIte,↓reduceIte,nB,nE,h,hr,Xb3]) (by simp only[go_sem,Zl,XB])
def s84:SP Tryz.prog:=mkS tyA 84 Tryz.f84 [] {md:=[.mv,.ro 1],rg:=[(0,[0,1],[]),(1,[0,1,5],[]),(2,[0,1,5,9],[]),(3,[0,1,5],[]),(4,[0,1,5],[]),(5,[0,1,5],[]),(6,[0,4],[])],lv:=[(0,[0,1,5],[])],out:=[(0,[0,1],[])],rets:=some ([0,4],[])} Tryz.func84 (by kernel_rfl)
@[go_sem] def d84:s84.g=84/\s84.fs=⟨[.mv,.ro 1],s84.F,false⟩:=⟨nr rfl,nr rfl⟩
@[go_sem] def e84(xs:List UInt8)(k:Int)(h1:0<=k)(h0:(mkL XR xs k).2<=9223372036854775807):s84.F [.sl .mut 1 (xs.map Xx),.i .i64 k]=some (.i .i64 (mkL XR xs k).2,[.sl .mut 1 ((mkL XR xs k).1.map Xx),.u]):=Xm (xs.length+1) rfl rfl (λcx h=>by
 have hb:=XG Tryz.f84 0 _ _ rfl rfl
 have hx:=XaQ Y4 xs k
 have hr:=(YB (cx:=cx) (blk:=0) (body:=Za Tryz.f84 0) xs (λi (s:Int)=>⟨E [(0,.sl .mut 1 ((Xbf XR xs k i).map Xx)),(1,.i .i64 s),(5,.i .i64 i)],B []⟩) (λ_=>⟨E [(0,.sl .mut 1 ((mkL XR xs k).1.map Xx)),(1,.i .i64 (mkL XR xs k).2)],B []⟩) (λx s=>(XR x s).2) (λi s=>s=XdD XR xs k i)
  (λs hI G=>by simp only[go_sem,reduceIte,↓reduceIte,nB,nE,h,Int.lt_irrefl,hb,Xdq,Xdp,YC,hI,Xat]) (λi hk s hI=>by
   have h2:((i:Int)<(xs.length:Int)):=Int.ofNat_lt.2 hk
   have g1:=Xb1 Y4 xs k i
   have g2:=Xb2 Y4 xs k i hk
   rw[<-hI] at g1 g2
   have h3:=Xdr (f:=XR) Xx xs k i hk
   rw[<-hI] at h3
   simp only[XR,Xx] at h3 g2
   have v0:(IntKind.i64).wrap (s)=s:=Yl (by omega) (by omega)
   have v1:(IntKind.i64).wrap (s+1)=s+1:=Yl (by omega) (by omega)
   have hL:i<((Xbf XR xs k i).map Xx).length:=by rw[List.length_map,Q9]; exact hk
   have hg:=λy=>XfA ((Xbf XR xs k i).map Xx) i y hL
   have hG:=λy=>Xds ((Xbf XR xs k i).map Xx) i y hL
   refine⟨by rw[QO xs k i hk,<-hI],_,λG=>by simp only[go_sem,reduceIte,↓reduceIte,nB,nE,h,h3,Q9 (f:=XR) xs k i,Xbn (f:=XR) Xx xs k i hk,Xb5 (f:=XR) Xx xs k i hk,Xb4 (f:=XR) Xx xs k i,XiI,v1,h2,X0 _ _ hk,Xz (show i<9223372036854775807 by omega),hb]<;>with_reducible rfl,by simp only[go_sem,reduceIte,↓reduceIte,nB,h,XR]⟩) k rfl (xs.length+1) (Nat.le_refl _)).2
 rw[hb] at hr
 simp only[go_sem,reduceIte,↓reduceIte,nB,nE,h,hr,Xb3]) (by simp only[go_sem,Zl,XB])
def s85:SP Tryz.prog:=mkS tyA 85 Tryz.f85 [Xlo] {md:=[.mv,.ro 1],rg:=[(0,[0,1],[]),(1,[0,1,5],[]),(2,[0,1,5,9],[]),(3,[0,1,5],[]),(4,[0,1,5],[]),(5,[0,1,5],[]),(6,[0,4],[])],lv:=[(0,[0,1,5],[])],out:=[(0,[0,1],[])],rets:=some ([0,4],[])} Tryz.func85 (by kernel_rfl)
@[go_sem] def d85:s85.g=85/\s85.fs=⟨[.mv,.ro 1],s85.F,false⟩:=⟨nr rfl,nr rfl⟩
@[go_sem] def e85(xs:List ByteArray)(k:Int)(h1:0<=k)(h0:(mkL ZB xs k).2<=9223372036854775807):s85.F [.sl .mut 1 (xs.map Zw),.i .i64 k]=some (.i .i64 (mkL ZB xs k).2,[.sl .mut 1 ((mkL ZB xs k).1.map Zw),.u]):=Xm (xs.length+1) rfl rfl (λcx h=>by
 have hb:=XG Tryz.f85 0 _ _ rfl rfl
 have hx:=XaQ Xau xs k
 have hr:=(YB (cx:=cx) (blk:=0) (body:=Za Tryz.f85 0) xs (λi (s:Int)=>⟨E [(0,.sl .mut 1 ((Xbf ZB xs k i).map Zw)),(1,.i .i64 s),(5,.i .i64 i)],B []⟩) (λ_=>⟨E [(0,.sl .mut 1 ((mkL ZB xs k).1.map Zw)),(1,.i .i64 (mkL ZB xs k).2)],B []⟩) (λx s=>(ZB x s).2) (λi s=>s=XdD ZB xs k i)
  (λs hI G=>by simp only[go_sem,reduceIte,↓reduceIte,nB,nE,h,Int.lt_irrefl,hb,Xdq,Xdp,YC,hI,Xat]) (λi hk s hI=>by
   have h2:((i:Int)<(xs.length:Int)):=Int.ofNat_lt.2 hk
   have g1:=Xb1 Xau xs k i
   have g2:=Xb2 Xau xs k i hk
   rw[<-hI] at g1 g2
   have h3:=Xdr (f:=ZB) Zw xs k i hk
   rw[<-hI] at h3
   simp only[ZB,Zw] at h3 g2
   have v0:(IntKind.i64).wrap (s)=s:=Yl (by omega) (by omega)
   have t1:s+1<=9223372036854775807:=by omega
   have v1:(IntKind.i64).wrap (s+1)=s+1:=Yl (by omega) (by omega)
   have hL:i<((Xbf ZB xs k i).map Zw).length:=by rw[List.length_map,Q9]; exact hk
   have hg:=λy=>XfA ((Xbf ZB xs k i).map Zw) i y hL
   have hG:=λy=>Xds ((Xbf ZB xs k i).map Zw) i y hL
   refine⟨by rw[QO xs k i hk,<-hI],_,λG=>by simp only[go_sem,reduceIte,↓reduceIte,nB,nE,h,h3,Q9 (f:=ZB) xs k i,Xbn (f:=ZB) Zw xs k i hk,Xb5 (f:=ZB) Zw xs k i hk,Xb4 (f:=ZB) Zw xs k i,t1,v1,h2,X0 _ _ hk,Xz (show i<9223372036854775807 by omega),hb]<;>with_reducible rfl,by simp only[go_sem,reduceIte,↓reduceIte,nB,h,ZB]⟩) k rfl (xs.length+1) (Nat.le_refl _)).2
 rw[hb] at hr
 simp only[go_sem,reduceIte,↓reduceIte,nB,nE,h,hr,Xb3]) (by simp only[go_sem,Zl,XB])
def s27:SP Tryz.prog:=mkS tyA 27 Tryz.f27 [s83,s84,s85] {md:=[.mv,.ro 1],rg:=[(0,[0,1,2],[2]),(1,[0,1,2],[2]),(2,[0,1,2],[2]),(3,[0,1],[]),(4,[0,4],[])],rets:=some ([0,4],[]),al:=[2]} Tryz.func27 (by kernel_rfl)
@[go_sem] def d27:s27.g=27/\s27.fs=⟨[.mv,.ro 1],s27.F,false⟩:=⟨nr rfl,nr rfl⟩
@[go_sem] def e27(y0:ByteArray)(y1:Int)(y2:List Xg)(y3:List UInt8)(y4 y5 y6 y7 y8:Int)(y9 y10:Bool)(y11:List ByteArray)(y12 k:Int)(h1:0<=k)(h0:(ZH (Xt.mk y0 y1 y2 y3 (Meta.mk y4 y5 y6 y7 y8 y9 y10) y11 y12) k).2<=9223372036854775807):s27.F [.agg [.s y0,.i .i64 y1,.sl .mut 2 (y2.map (Xa .mut)),.sl .mut 1 (y3.map Xx),.i .i64 y4,.i .i64 y5,.i .i64 y6,.i .i64 y7,.i .i64 y8,.b y9,.b y10,.sl .mut 1 (y11.map Zw),.i .i64 y12],.i .i64 k]=some (.i .i64 (ZH (Xt.mk y0 y1 y2 y3 (Meta.mk y4 y5 y6 y7 y8 y9 y10) y11 y12) k).2,[.agg (UR .mut (ZH (Xt.mk y0 y1 y2 y3 (Meta.mk y4 y5 y6 y7 y8 y9 y10) y11 y12) k).1),.u]):=Xm (0) rfl rfl (λcx h=>by
 obtain⟨q0,hq0⟩:∃q,(mkL Xn y2 k).2=q:=⟨_,rfl⟩
 have b0:=Qp Yg y2 k
 rw[hq0] at b0
 have p0:0<=k:=by omega
 obtain⟨q1,hq1⟩:∃q,(mkL XR y3 q0).2=q:=⟨_,rfl⟩
 have b1:=Qp Y4 y3 q0
 rw[hq1] at b1
 have p1:0<=q0:=by omega
 obtain⟨q2,hq2⟩:∃q,(mkL ZB y11 q1).2=q:=⟨_,rfl⟩
 have b2:=Qp Xau y11 q1
 rw[hq2] at b2
 have p2:0<=q1:=by omega
 simp only[Qr,hq0,hq1,hq2] at h0
 have c0:q0<=9223372036854775807:=by omega
 have d0:¬(q0<0):=by omega
 have c1:q1<=9223372036854775807:=by omega
 have d1:¬(q1<0):=by omega
 have c2:q2<=9223372036854775807:=by omega
 have d2:¬(q2<0):=by omega
 simp only[go_sem,reduceIte,↓reduceIte,nA,nB,nE,nL,nT,h,p0,p1,p2,c0,c1,c2,hq0,hq1,hq2,Qr]) (by simp only[go_sem,Qr,Zl,XB,XU])
def s86:SP Tryz.prog:=mkS tyA 86 Tryz.f86 [s83,s84] {md:=[.mv,.ro 1],rg:=[(0,[0,1,2],[2]),(1,[0,1,2],[2]),(2,[0,1],[]),(3,[0,4],[])],rets:=some ([0,4],[]),al:=[2]} Tryz.func86 (by kernel_rfl)
@[go_sem] def d86:s86.g=86/\s86.fs=⟨[.mv,.ro 1],s86.F,false⟩:=⟨nr rfl,nr rfl⟩
@[go_sem] def e86(y1:Int)(y2:List Xg)(y3:List UInt8)(k:Int)(h1:0<=k)(h0:(XS (Response.mk y1 y2 y3) k).2<=9223372036854775807):s86.F [.agg [.i .i64 y1,.sl .mut 2 (y2.map (Xa .mut)),.sl .mut 1 (y3.map Xx)],.i .i64 k]=some (.i .i64 (XS (Response.mk y1 y2 y3) k).2,[.agg (ZQ .mut (XS (Response.mk y1 y2 y3) k).1),.u]):=Xm (0) rfl rfl (λcx h=>by
 obtain⟨q0,hq0⟩:∃q,(mkL Xn y2 k).2=q:=⟨_,rfl⟩
 have b0:=Qp Yg y2 k
 rw[hq0] at b0
 have p0:0<=k:=by omega
 obtain⟨q1,hq1⟩:∃q,(mkL XR y3 q0).2=q:=⟨_,rfl⟩
 have b1:=Qp Y4 y3 q0
 rw[hq1] at b1
 have p1:0<=q0:=by omega
 simp only[X2,hq0,hq1] at h0
 have c0:q0<=9223372036854775807:=by omega
 have d0:¬(q0<0):=by omega
 have c1:q1<=9223372036854775807:=by omega
 have d1:¬(q1<0):=by omega
 simp only[go_sem,reduceIte,↓reduceIte,nA,nB,nE,nL,nT,h,p0,p1,c0,c1,hq0,hq1,X2]) (by simp only[go_sem,X2,Zl,XB,XU])
def s28:SP Tryz.prog:=mkS tyA 28 Tryz.f28 [s86] {md:=[.mv,.ro 1],rg:=[(0,[0,1,2],[2]),(1,[0,1],[]),(2,[0,4],[])],rets:=some ([0,4],[]),al:=[2]} Tryz.func28 (by kernel_rfl)
@[go_sem] def d28:s28.g=28/\s28.fs=⟨[.mv,.ro 1],s28.F,false⟩:=⟨nr rfl,nr rfl⟩
@[go_sem] def e28(y13 y14:Int)(y16:List Xg)(y18:List UInt8)(k:Int)(h1:0<=k)(h0:(XA (Xh.mk y13 (Response.mk y14 y16 y18)) k).2<=9223372036854775807):s28.F [.agg [.i .i64 y13,.i .i64 y14,.sl .mut 2 (y16.map (Xa .mut)),.sl .mut 1 (y18.map Xx)],.i .i64 k]=some (.i .i64 (XA (Xh.mk y13 (Response.mk y14 y16 y18)) k).2,[.agg (X5 .mut (XA (Xh.mk y13 (Response.mk y14 y16 y18)) k).1),.u]):=Xm (0) rfl rfl (λcx h=>by
 obtain⟨q0,hq0⟩:∃q,(XS (Response.mk y14 y16 y18) k).2=q:=⟨_,rfl⟩
 have b0:=QC (Response.mk y14 y16 y18) k
 rw[hq0] at b0
 have p0:0<=k:=by omega
 simp only[XT,hq0] at h0
 have c0:q0<=9223372036854775807:=by omega
 have d0:¬(q0<0):=by omega
 simp only[go_sem,reduceIte,↓reduceIte,nA,nB,nE,nL,nT,h,p0,c0,hq0,XT]
 simp only[X2]) (by simp only[go_sem,XT,Zl,XB,XU])
def Xoa:SP Tryz.prog:=mkS tyA 138 Tryz.f138 [Xlo] {md:=[.ro 1,.ro 1],rg:=[(0,[0,1],[]),(1,[0,1,5],[]),(2,[0,1,5,9],[]),(3,[0,1,5],[]),(4,[0,1,5,19],[]),(5,[4],[]),(6,[0,1,5],[]),(7,[0,1,5,29],[]),(8,[4],[]),(9,[0,1,5],[]),(10,[4],[])],lv:=[(0,[0,1,5],[])],out:=[(0,[1],[])],rets:=some ([4],[]),plan:=[(4,(.take 0 (.take 1 (.take 2 (.take 3 (.take 4 (.take 5 (.one 6 (.take 7 .done))))))))),(7,(.take 0 (.take 1 (.take 2 (.take 3 (.take 4 (.take 5 (.one 6 (.take 7 .done)))))))))]} Tryz.func138 (by kernel_rfl)
@[go_sem] def XEG:Xoa.g=138/\Xoa.fs=⟨[.ro 1,.ro 1],Xoa.F,false⟩:=⟨nr rfl,nr rfl⟩
@[go_sem] def XEH(xs:List Xg)(k:Int)(h1:0<=k)(h0:(mkL Xn xs k).2<=9223372036854775807):Xoa.F [.sl .ro 2 ((mkL Xn xs k).1.map (Xa .ro)),.i .i64 k]=some (.i .i64 (mkL Xn xs k).2,[.u,.u]):=Xm (xs.length+1) rfl rfl (λcx h=>by
 have hb:=XG Tryz.f138 0 _ _ rfl rfl
 have hx:=XaQ Yg xs k
 have hr:=(YB (cx:=cx) (blk:=0) (body:=Za Tryz.f138 0) xs (λi (s:Int)=>⟨E [(0,.sl .ro 2 ((mkL Xn xs k).1.map (Xa .ro))),(1,.i .i64 s),(5,.i .i64 i)],B []⟩) (λ_=>⟨E [(1,.i .i64 (mkL Xn xs k).2)],B []⟩) (λx s=>(Xn x s).2) (λi s=>s=XdD Xn xs k i)
  (λs hI G=>by simp only[go_sem,reduceIte,↓reduceIte,nB,nE,iG,h,Int.lt_irrefl,hb,YC,hI,Xat]) (λi hk s hI=>by
   have h2:((i:Int)<(xs.length:Int)):=Int.ofNat_lt.2 hk
   have g1:=Xb1 Yg xs k i
   have g2:=Xb2 Yg xs k i hk
   rw[<-hI] at g1 g2
   have h3:=Xk9 (f:=Xn) (Xa .ro) xs k i hk
   rw[<-hI] at h3
   simp only[Xn,Xa] at h3 g2
   have v0:(IntKind.i64).wrap (s)=s:=Yl (by omega) (by omega)
   have t1:s+1<=9223372036854775807:=by omega
   have v1:(IntKind.i64).wrap (s+1)=s+1:=Yl (by omega) (by omega)
   have t2:s+1+1<=9223372036854775807:=by omega
   have v2:(IntKind.i64).wrap (s+1+1)=s+1+1:=Yl (by omega) (by omega)
   refine⟨by rw[QO xs k i hk,<-hI],_,λG=>by simp only[go_sem,reduceIte,↓reduceIte,nA,nB,nE,nL,iG,h,h3,YC,t1,v1,t2,v2,h2,X0 _ _ hk,Xz (show i<9223372036854775807 by omega),hb]<;>with_reducible rfl,by simp only[go_sem,reduceIte,↓reduceIte,nB,h,Xn]⟩) k rfl (xs.length+1) (Nat.le_refl _)).2
 rw[hb] at hr
 simp only[go_sem,reduceIte,↓reduceIte,nB,nE,iG,h,hr]) (rfl)
def Xob:SP Tryz.prog:=mkS tyA 139 Tryz.f139 [] {md:=[.ro 1,.ro 1],rg:=[(0,[0,1],[]),(1,[0,1,5],[]),(2,[0,1,5,9],[]),(3,[0,1,5],[]),(4,[0,1,5,18],[]),(5,[4],[]),(6,[0,1,5],[]),(7,[4],[])],lv:=[(0,[0,1,5],[])],out:=[(0,[1],[])],rets:=some ([4],[])} Tryz.func139 (by kernel_rfl)
@[go_sem] def XEI:Xob.g=139/\Xob.fs=⟨[.ro 1,.ro 1],Xob.F,false⟩:=⟨nr rfl,nr rfl⟩
@[go_sem] def XEJ(xs:List UInt8)(k:Int)(h1:0<=k)(h0:(mkL XR xs k).2<=9223372036854775807):Xob.F [.sl .ro 1 ((mkL XR xs k).1.map Xx),.i .i64 k]=some (.i .i64 (mkL XR xs k).2,[.u,.u]):=Xm (xs.length+1) rfl rfl (λcx h=>by
 have hb:=XG Tryz.f139 0 _ _ rfl rfl
 have hx:=XaQ Y4 xs k
 have hr:=(YB (cx:=cx) (blk:=0) (body:=Za Tryz.f139 0) xs (λi (s:Int)=>⟨E [(0,.sl .ro 1 ((mkL XR xs k).1.map Xx)),(1,.i .i64 s),(5,.i .i64 i)],B []⟩) (λ_=>⟨E [(1,.i .i64 (mkL XR xs k).2)],B []⟩) (λx s=>(XR x s).2) (λi s=>s=XdD XR xs k i)
  (λs hI G=>by simp only[go_sem,reduceIte,↓reduceIte,nB,nE,iG,h,Int.lt_irrefl,hb,YC,hI,Xat]) (λi hk s hI=>by
   have h2:((i:Int)<(xs.length:Int)):=Int.ofNat_lt.2 hk
   have g1:=Xb1 Y4 xs k i
   have g2:=Xb2 Y4 xs k i hk
   rw[<-hI] at g1 g2
   have h3:=Xk9 (f:=XR) Xx xs k i hk
   rw[<-hI] at h3
   simp only[XR,Xx] at h3 g2
   have v0:(IntKind.i64).wrap (s)=s:=Yl (by omega) (by omega)
   have v1:(IntKind.i64).wrap (s+1)=s+1:=Yl (by omega) (by omega)
   refine⟨by rw[QO xs k i hk,<-hI],_,λG=>by simp only[go_sem,reduceIte,↓reduceIte,nB,nE,iG,h,h3,YC,XiI,v1,h2,X0 _ _ hk,Xz (show i<9223372036854775807 by omega),hb]<;>with_reducible rfl,by simp only[go_sem,reduceIte,↓reduceIte,nB,h,XR]⟩) k rfl (xs.length+1) (Nat.le_refl _)).2
 rw[hb] at hr
 simp only[go_sem,reduceIte,↓reduceIte,nB,nE,iG,h,hr]) (rfl)
def s87:SP Tryz.prog:=mkS tyA 87 Tryz.f87 [Xoa,Xob] {md:=[.ro 1,.ro 1],rg:=[(0,[1,2],[2]),(1,[1,2],[2]),(2,[1,2,10],[2]),(3,[4],[]),(4,[1],[]),(5,[1,16],[]),(6,[4],[]),(7,[4],[])],rets:=some ([4],[])} Tryz.func87 (by kernel_rfl)
@[go_sem] def d87:s87.g=87/\s87.fs=⟨[.ro 1,.ro 1],s87.F,false⟩:=⟨nr rfl,nr rfl⟩
@[go_sem] def e87(y1:Int)(y2:List Xg)(y3:List UInt8)(k:Int)(h1:0<=k)(h0:(XS (Response.mk y1 y2 y3) k).2<=9223372036854775807):s87.F [.agg [.i .i64 y1,.sl .ro 2 ((mkL Xn y2 k).1.map (Xa .ro)),.sl .ro 1 ((mkL XR y3 (mkL Xn y2 k).2).1.map Xx)],.i .i64 k]=some (.i .i64 (XS (Response.mk y1 y2 y3) k).2,[.u,.u]):=Xm (0) rfl rfl (λcx h=>by
 obtain⟨q0,hq0⟩:∃q,(mkL Xn y2 k).2=q:=⟨_,rfl⟩
 have b0:=Qp Yg y2 k
 rw[hq0] at b0
 have p0:0<=k:=by omega
 obtain⟨q1,hq1⟩:∃q,(mkL XR y3 q0).2=q:=⟨_,rfl⟩
 have b1:=Qp Y4 y3 q0
 rw[hq1] at b1
 have p1:0<=q0:=by omega
 simp only[X2,hq0,hq1] at h0
 have c0:q0<=9223372036854775807:=by omega
 have d0:¬(q0<0):=by omega
 have c1:q1<=9223372036854775807:=by omega
 have d1:¬(q1<0):=by omega
 simp only[go_sem,reduceIte,↓reduceIte,nA,nB,nE,nL,h,p0,p1,c0,d0,c1,d1,hq0,hq1,X2]) (rfl)
def s29:SP Tryz.prog:=mkS tyA 29 Tryz.f29 [s87] {md:=[.ro 1,.ro 1],rg:=[(0,[1,2],[2]),(1,[1],[]),(2,[1,10],[]),(3,[4],[]),(4,[4],[])],rets:=some ([4],[])} Tryz.func29 (by kernel_rfl)
@[go_sem] def d29:s29.g=29/\s29.fs=⟨[.ro 1,.ro 1],s29.F,false⟩:=⟨nr rfl,nr rfl⟩
@[go_sem] def e29(y13 y14:Int)(y16:List Xg)(y18:List UInt8)(k:Int)(h1:0<=k)(h0:(XA (Xh.mk y13 (Response.mk y14 y16 y18)) k).2<=9223372036854775807):s29.F [.agg [.i .i64 y13,.i .i64 y14,.sl .ro 2 ((mkL Xn y16 k).1.map (Xa .ro)),.sl .ro 1 ((mkL XR y18 (mkL Xn y16 k).2).1.map Xx)],.i .i64 k]=some (.i .i64 (XA (Xh.mk y13 (Response.mk y14 y16 y18)) k).2,[.u,.u]):=Xm (0) rfl rfl (λcx h=>by
 obtain⟨q0,hq0⟩:∃q,(XS (Response.mk y14 y16 y18) k).2=q:=⟨_,rfl⟩
 have b0:=QC (Response.mk y14 y16 y18) k
 rw[hq0] at b0
 have p0:0<=k:=by omega
 simp only[XT,hq0] at h0
 have c0:q0<=9223372036854775807:=by omega
 have d0:¬(q0<0):=by omega
 simp only[X2] at hq0
 simp only[go_sem,reduceIte,↓reduceIte,nA,nB,nE,h,p0,c0,d0,hq0,X2,XT]) (rfl)
def s4:SP Tryz.prog:=mkS tyA 4 Tryz.f4 [s21,s22,s23,s24,s25,s26,s27,s28,s29] {md:=[.ro 1,.ro 1,.ro 1,.ro 1],rg:=[(0,[1,2,3,4],[4]),(1,[1,2,3,4,19],[4]),(2,[8],[]),(3,[1,2,3,4,9],[4]),(4,[1,2,3,4,9],[4]),(5,[1,2,3,4,24],[4]),(6,[8],[]),(7,[1,2,3,4,10],[4,10]),(8,[1,2,3,4,10,11],[4,10,11]),(9,[1,2,3,4,10,11,12],[4,10,11,12]),(10,[1,2,3,4,10,11,12,41],[4,10,11,12]),(11,[8],[]),(12,[1,2,3,4,10,11,12,46],[4,10,11,12]),(13,[8],[]),(14,[1,2,3,4,10,11,12,13],[4,10,11,12]),(15,[1,2,3,4,10,12,13],[4,10,12]),(16,[1,2,3,4,10,12,57],[4,10,12]),(17,[8],[]),(18,[1,2,3,4,10,12,14],[4,10,12]),(19,[1,2,3,4,10,12,14],[4,10,12]),(20,[1,2,3,4,10,12,14,15],[4,10,12]),(21,[1,2,3,4,10,12,14,15],[4,10,12]),(22,[1,2,3,4,10,12,14,15,65],[4,10,12]),(23,[8],[]),(24,[1,2,3,4,10,12,14,68],[4,10,12]),(25,[8],[]),(26,[10,12,14,16],[10,12,16]),(27,[12,14,78],[12]),(28,[8],[]),(29,[12,14,15],[12]),(30,[14,15],[]),(31,[14,15,83],[]),(32,[8],[]),(33,[86],[]),(34,[8],[]),(35,[8],[])],rets:=some ([8],[]),plan:=[(12,(.take 0 (.take 1 (.one 2 (.one 3 (.take 4 .done))))))]} Tryz.func4 (by kernel_rfl)
@[go_sem] def d4:s4.g=4/\s4.fs=⟨[.ro 1,.ro 1,.ro 1,.ro 1],s4.F,false⟩:=⟨nr rfl,nr rfl⟩
def e4(y20:ByteArray)(y15:Int)(y17:List Xg)(y19:List UInt8)(y21 y22 y23 y24 y25:Int)(y26 y27:Bool)(y28:List ByteArray)(y29 now:Int)(source:ByteArray)(head:Bool)(h0:Xdy (Xt.mk y20 y15 y17 y19 (Meta.mk y21 y22 y23 y24 y25 y26 y27) y28 y29)/\XeB now/\XeA source/\XiP head):s4.F [.agg [.s y20,.i .i64 y15,.sl .ro 2 (y17.map (Xa .ro)),.sl .ro 1 (y19.map Xx),.i .i64 y21,.i .i64 y22,.i .i64 y23,.i .i64 y24,.i .i64 y25,.b y26,.b y27,.sl .ro 1 (y28.map Zw),.i .i64 y29],.i .i64 now,.s source,.b head]=some (.b true,[.u,.u,.u,.u]):=Xm (0) rfl rfl (λcx h=>by
 by_cases hc2:(1048576:Int)<source.size
 ·simp only[go_sem,reduceIte,↓reduceIte,nA,nB,nE,h,hc2]
 have hs2:source.size<=1048576:=by omega
 have h0_0:=h0.1
 by_cases hc0:XaV (Xt.mk y20 y15 y17 y19 (Meta.mk y21 y22 y23 y24 y25 y26 y27) y28 y29) 1048576<0
 ·simp only[go_sem,reduceIte,↓reduceIte,nA,nB,nE,h,hc0,h0_0,hc2]
 obtain⟨hs0,hl0⟩:=XeD _ _ h0_0 (by decide) (by decide) (show 0<=XaV (Xt.mk y20 y15 y17 y19 (Meta.mk y21 y22 y23 y24 y25 y26 y27) y28 y29) 1048576 by omega)
 obtain⟨R,hR⟩:∃R,UT (Xt.mk y20 y15 y17 y19 (Meta.mk y21 y22 y23 y24 y25 y26 y27) y28 y29) now source head=R:=⟨_,rfl⟩
 have hsm:=Xgm hs0 now hs2 head
 rw[hR] at hsm
 have f0:=XfL (Xt.mk y20 y15 y17 y19 (Meta.mk y21 y22 y23 y24 y25 y26 y27) y28 y29) 1 hs0
 have g0:=XfK (Xt.mk y20 y15 y17 y19 (Meta.mk y21 y22 y23 y24 y25 y26 y27) y28 y29) 1
 have f0':(ZH (Xt.mk y20 y15 y17 y19 (Meta.mk y21 y22 y23 y24 y25 y26 y27) y28 y29) 1).2<=9223372036854775807:=by omega
 have g0':¬((ZH (Xt.mk y20 y15 y17 y19 (Meta.mk y21 y22 y23 y24 y25 y26 y27) y28 y29) 1).2<0):=by omega
 have f1:=UL R 1 hsm
 have g1:=UK R 1
 have f1':(XA R 1).2<=9223372036854775807:=by omega
 have g1':¬((XA R 1).2<0):=by omega
 simp only[Qr,XT,X2] at f0' g0' f1' g1'
 simp only[go_sem,reduceIte,↓reduceIte,nA,nB,nE,nL,nT,iL,h,hc2,hc0,hs0,h0_0,hR,hsm,f0',g0',f1',g1',Xaq,Qr,XT,X2]) (rfl)
end
end Go.Vm.A
