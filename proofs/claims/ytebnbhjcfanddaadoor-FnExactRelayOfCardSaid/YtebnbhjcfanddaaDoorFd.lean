/- Functions of the program, walked by the evaluator. -/
import Derived.Test.YtebnbhjcfanddaaDoorWb
import Derived.Test.YtebnbhjcfanddaaDoorWa
import Derived.Test.YtebnbhjcfanddaaDoorFa
import Derived.Test.YtebnbhjcfanddaaDoorFb
import Derived.Test.YtebnbhjcfanddaaDoorFc
set_option linter.unusedVariables false
set_option linter.unusedSimpArgs false
set_option autoImplicit false
set_option maxRecDepth 100000
set_option maxHeartbeats 4000000
set_option linter.defProp false
namespace Go.Vm.A
open Go.Proofs
open Nat renaming reduceAdd -> nA, reduceSub -> nS, reduceMul -> nM, reduceBEq -> nB, reduceEqDiff -> nE, reduceLeDiff -> nL, reduceLT -> nT, reduceBneDiff -> nN
open Int renaming reduceLE -> iL, reduceLT -> iT, reduceEq -> iE, reduceAdd -> iA, reduceMul -> iM, reduceSub -> iS, reduceNeg -> iG, reduceBEq -> iB, reduceBNe -> iN, reduceToNat -> iZ
noncomputable section
def s50:SP Tryd.prog:=mkS tyA 50 Tryd.f50 [] {md:=[.ro 1,.ro 1],rg:=[(0,[0,1],[]),(1,[0,1,10],[]),(2,[4],[]),(3,[0,1,5],[]),(4,[0,1,5,14],[]),(5,[0,1,5],[]),(6,[0,1,5,25],[]),(7,[4],[]),(8,[4],[])],lv:=[(0,[0,1,5],[])],out:=[(0,[],[])],rets:=some ([4],[]),plan:=[(6,(.take 0 (.take 1 (.take 2 (.take 3 (.take 4 (.take 5 (.take 6 (.take 7 (.take 8 .done))))))))))]} Tryd.func50 (by kernel_rfl)
@[go_sem] def d50:s50.g=50/\s50.fs=⟨[.ro 1,.ro 1],s50.F,false⟩:=⟨nr rfl,nr rfl⟩
@[go_sem] def e50(xs ys:List UInt8)(h0:smL Q4 xs):s50.F [.sl .ro 1 (xs.map Xw),.sl .ro 1 (ys.map Xw)]=some (.b (eqv xs ys),[.u,.u]):=Xs (xs.length+1) rfl rfl (λcx h=>by
 have hb:=XS Tryd.f50 0 _ _ rfl rfl
 have hx:=h0.1
 by_cases hl:xs.length=ys.length
 ·obtain⟨r,hr,hq⟩:=Q0 (cx:=cx) (blk:=0) (body:=Zw Tryd.f50 0) (xs.zip ys) (λk (_:Unit)=>⟨E [(0,.sl .ro 1 (xs.map Xw)),(1,.sl .ro 1 (ys.map Xw)),(5,.i .i64 k)],B []⟩) (λ_=>⟨E [],B []⟩) (λx _=>!eqv x.1 x.2) (λ_ _=>()) (λ_ _=>(.ret,⟨E [(4,.b false)],B []⟩)) (λ_ _=>True)
   (λl _ G=>by simp only[go_sem,reduceIte,↓reduceIte,nB,nE,h,Xan hl,hl,Int.lt_irrefl,hb]) (λk hk l _=>by
    have hk:k<xs.length:=by rwa [Xan hl] at hk
    have h1:((k:Int)<(xs.length:Int)):=Int.ofNat_lt.2 hk
    have h2:=h0.2 _ (List.getElem_mem hk)
    have h3:(xs.zip ys)[k]=(xs[k],ys[k]'(by omega)):=by simp
    rw[h3]
    cases hc:eqv xs[k] (ys[k]'(by omega))
    ·exact .inl ⟨rfl,λG=>by simp only[go_sem,reduceIte,↓reduceIte,nB,nE,h,hc,Zg Xw xs k hk,Zg Xw ys k (by omega),Yi ys.length k (by omega),Xe1,h1,Yi _ _ hk,hb]⟩
    ·exact .inr ⟨rfl,trivial,_,λG=>by simp only[go_sem,reduceIte,↓reduceIte,nB,nE,h,hc,Zg Xw xs k hk,Zg Xw ys k (by omega),Yi ys.length k (by omega),Xe1,h1,Yi _ _ hk,XN (show k<9223372036854775807 by omega),hb]<;>with_reducible rfl,by simp only[go_sem,reduceIte,↓reduceIte,nB,h]⟩) () trivial (xs.length+1) (by rw[Xan hl]; exact Nat.le_refl _)
  rw[hb] at hr
  have hl2:((xs.length:Int) !=(ys.length:Int))=false:=by simp[hl]
  rcases hq with⟨s',e1,e2,e3⟩ | ⟨x,s',e1,e3⟩
  ·simp only[go_sem,reduceIte,↓reduceIte,nB,nE,h,hl2,hr,e3,XeC hl e1]
  ·simp only[go_sem,reduceIte,↓reduceIte,nB,nE,h,hl2,hr,e3,XeD hl e1]
 ·have hl2:((xs.length:Int) !=(ys.length:Int))=true:=by simpa using λh=>hl (Int.ofNat_inj.1 h)
  simp only[go_sem,reduceIte,↓reduceIte,nB,nE,h,hl2,XhF hl]) (rfl)
def s22:SP Tryd.prog:=mkS tyA 22 Tryd.f22 [s49,s50] {md:=[.ro 1,.ro 1],rg:=[(0,[2,3],[2,3]),(1,[2,3,9],[2,3]),(2,[4],[]),(3,[2,3,15],[2,3]),(4,[4],[]),(5,[21],[]),(6,[4],[]),(7,[4],[])],rets:=some ([4],[])} Tryd.func22 (by kernel_rfl)
@[go_sem] def d22:s22.g=22/\s22.fs=⟨[.ro 1,.ro 1],s22.F,false⟩:=⟨nr rfl,nr rfl⟩
@[go_sem] def e22(y0:Int)(y1:List Xh)(y2:List UInt8)(y3:Int)(y4:List Xh)(y5:List UInt8)(h0:YE (Response.mk y0 y1 y2)):s22.F [.agg [.i .i64 y0,.sl .ro 2 (y1.map (Xb .ro)),.sl .ro 1 (y2.map Xw)],.agg [.i .i64 y3,.sl .ro 2 (y4.map (Xb .ro)),.sl .ro 1 (y5.map Xw)]]=some (.b (eqv (Response.mk y0 y1 y2) (Response.mk y3 y4 y5)),[.u,.u]):=Xs (0) rfl rfl (λcx h=>by
 obtain⟨q0,q1,q2⟩:=h0
 simp only[go_sem,reduceIte,↓reduceIte,nA,nB,nE,nL,h,Xdz,q1,q2]
 simp only[Response.eqv (Response.mk y0 y1 y2) (Response.mk y3 y4 y5),XoI,XcF,Xly,Bool.and_true]) (rfl)
def s21:SP Tryd.prog:=mkS tyA 21 Tryd.f21 [s22] {md:=[.ro 1,.ro 1],rg:=[(0,[2,3],[2,3]),(1,[2,3,9],[2,3]),(2,[4],[]),(3,[15],[]),(4,[4],[]),(5,[4],[])],rets:=some ([4],[])} Tryd.func21 (by kernel_rfl)
@[go_sem] def d21:s21.g=21/\s21.fs=⟨[.ro 1,.ro 1],s21.F,false⟩:=⟨nr rfl,nr rfl⟩
@[go_sem] def e21(y6 y7:Int)(y8:List Xh)(y9:List UInt8)(y10 y11:Int)(y12:List Xh)(y13:List UInt8)(h0:ZF (Xf.mk y6 (Response.mk y7 y8 y9))):s21.F [.agg [.i .i64 y6,.i .i64 y7,.sl .ro 2 (y8.map (Xb .ro)),.sl .ro 1 (y9.map Xw)],.agg [.i .i64 y10,.i .i64 y11,.sl .ro 2 (y12.map (Xb .ro)),.sl .ro 1 (y13.map Xw)]]=some (.b (eqv (Xf.mk y6 (Response.mk y7 y8 y9)) (Xf.mk y10 (Response.mk y11 y12 y13))),[.u,.u]):=Xs (0) rfl rfl (λcx h=>by
 obtain⟨q0,q1⟩:=h0
 simp only[go_sem,reduceIte,↓reduceIte,nA,nB,nE,nL,h,Xdz,q1]
 simp only[Xf.eqv (Xf.mk y6 (Response.mk y7 y8 y9)) (Xf.mk y10 (Response.mk y11 y12 y13)),XoI,XcF,Xly,Bool.and_true]) (rfl)
def s58:SP Tryd.prog:=mkS tyA 58 Tryd.f58 [] {md:=[.ro 1],rg:=[(0,[0],[]),(1,[0,5],[]),(2,[2],[]),(3,[0,3],[]),(4,[0,3,7],[]),(5,[0,3],[]),(6,[0,3],[]),(7,[2],[])],lv:=[(0,[0,3],[])],out:=[(0,[3],[])],rets:=some ([2],[])} Tryd.func58 (by kernel_rfl)
@[go_sem] def d58:s58.g=58/\s58.fs=⟨[.ro 1],s58.F,false⟩:=⟨nr rfl,nr rfl⟩
@[go_sem] def e58(k:Int)(h0:k+1<=9223372036854775807):s58.F [.i .i64 k]=some (.s (Xe6 k),[.u]):=Xs (k.toNat+1) rfl rfl (λcx h=>by
 have hb:=XS Tryd.f58 0 _ _ rfl rfl
 have lp:=XcA (cx:=cx) (blk:=0) (body:=Zw Tryd.f58 0) (λ(p:Int×ByteArray)=>⟨E [(0,.i .i64 p.1),(3,.s p.2)],B []⟩) (λp=>0<=p.1/\p.1+p.2.size<=9223372036854775807) (λp=>p.1.toNat) (λp r=>r=some (.ex 0,⟨E [(3,.s (XdM p.1.toNat p.1 p.2))],B []⟩)) (λ⟨k,s⟩ ⟨i1,i2⟩=>by
  simp only at i1 i2 ⊢
  by_cases hk:0<k
  ·have e1:k.tdiv 10=k / 10:=Int.tdiv_eq_ediv_of_nonneg i1
   have e2:k.tmod 10=k%10:=Int.tmod_eq_emod_of_nonneg i1
   have w1:(IntKind.i64).wrap (48+k.tmod 10)=48+k.tmod 10:=Y2 (by omega) (by omega)
   have w2:(IntKind.u8).wrap (48+k.tmod 10)=(48+k.tmod 10)%256:=by simp[IntKind.wrap,IntKind.bits,IntKind.signed]
   have w3:(IntKind.i64).wrap (k.tdiv 10)=k.tdiv 10:=Y2 (by omega) (by omega)
   have z2:(#[UInt8.ofNat ((48+k.tmod 10)%256).toNat]:Array UInt8).size+s.size<=9223372036854775807:=by show 1+s.size<=_; omega
   refine .inr ⟨_,(k.tdiv 10,ByteArray.mk #[UInt8.ofNat ((48+k.tmod 10)%256).toNat]++s),?_,?_,?_,?_,λG=>by simp only[go_sem,reduceIte,↓reduceIte,nA,nM,nB,nE,nL,iE,h,hb,hk,w1,w2,w3,z2,XaX]; rfl⟩
   ·simp only[go_sem,reduceIte,↓reduceIte,nB,h]
   ·rw[ByteArray.size_append]; exact⟨by show 0<=k.tdiv 10; omega,by show k.tdiv 10+((1+s.size:Nat):Int)<=_; omega⟩
   ·simp only; omega
   ·intro r hr
    rw[hr,show XdM k.toNat k s=XdM (k.tdiv 10).toNat (k.tdiv 10) (ByteArray.mk #[UInt8.ofNat ((48+k.tmod 10)%256).toNat]++s) from by
     obtain⟨m,hm⟩:∃m,k.toNat=m+1:=⟨k.toNat-1,by omega⟩
     rw[hm,XdM,if_pos hk]
     exact XdF _ _ _ _ (by omega) (Nat.le_refl _)]
  ·obtain rfl:k=0:=by omega
   exact .inl λG=>by simp only[go_sem,reduceIte,↓reduceIte,nB,nE,iT,iZ,h,hb,XdM])
 rw[hb] at lp
 unfold Xe6
 by_cases hk:k<=0
 ·simp only[go_sem,reduceIte,↓reduceIte,nB,nE,h,hk]
 ·have l1:=lp (k.toNat+1) (k,⟨#[]⟩) ⟨by omega,by show k+((0:Nat):Int)<=_; omega⟩ (Nat.lt_succ_self _)
  have z3:(#[109]:Array UInt8).size+(XdM k.toNat k ⟨#[]⟩).size<=9223372036854775807:=by
   have:=XdE k.toNat k ⟨#[]⟩
   show 1+_<=_
   have e2:(ByteArray.mk #[]).size=0:=rfl
   omega
  simp only[go_sem,reduceIte,↓reduceIte,nB,nE,h,hk,l1,z3]) (rfl)
def s51:SP Tryd.prog:=mkS tyA 51 Tryd.f51 [s58] {md:=[.mv,.ro 1],rg:=[(0,[0,1],[]),(1,[0,1,5],[]),(2,[0,1,5,9],[]),(3,[0,1,5],[]),(4,[0,1,5],[]),(5,[0,1,5],[]),(6,[0,1,5],[]),(7,[0,1,5],[]),(8,[0,4],[])],lv:=[(0,[0,1,5],[])],out:=[(0,[0,1],[])],rets:=some ([0,4],[])} Tryd.func51 (by kernel_rfl)
@[go_sem] def d51:s51.g=51/\s51.fs=⟨[.mv,.ro 1],s51.F,false⟩:=⟨nr rfl,nr rfl⟩
@[go_sem] def e51(xs:List Xh)(k:Int)(h1:0<=k)(h0:(mkL Xk xs k).2<=9223372036854775807):s51.F [.sl .mut 2 (xs.map (Xb .mut)),.i .i64 k]=some (.i .i64 (mkL Xk xs k).2,[.sl .mut 2 ((mkL Xk xs k).1.map (Xb .mut)),.u]):=Xs (xs.length+1) rfl rfl (λcx h=>by
 have hb:=XS Tryd.f51 0 _ _ rfl rfl
 have hx:=Xbm Yl xs k
 have hr:=(YY (cx:=cx) (blk:=0) (body:=Zw Tryd.f51 0) xs (λi (s:Int)=>⟨E [(0,.sl .mut 2 ((XbD Xk xs k i).map (Xb .mut))),(1,.i .i64 s),(5,.i .i64 i)],B []⟩) (λ_=>⟨E [(0,.sl .mut 2 ((mkL Xk xs k).1.map (Xb .mut))),(1,.i .i64 (mkL Xk xs k).2)],B []⟩) (λx s=>(Xk x s).2) (λi s=>s=XdA Xk xs k i)
  (λs hI G=>by simp only[go_sem,reduceIte,↓reduceIte,nB,nE,h,Int.lt_irrefl,hb,Xe3,Xe2,YB,hI,XaM]) (λi hk s hI=>by
   have h2:((i:Int)<(xs.length:Int)):=Int.ofNat_lt.2 hk
   have g1:=XcC Yl xs k i
   have g2:=XcD Yl xs k i hk
   rw[<-hI] at g1 g2
   have h3:=Xe4 (f:=Xk) (Xb .mut) xs k i hk
   rw[<-hI] at h3
   simp only[Xk,Xb] at h3 g2
   have v0:(IntKind.i64).wrap (s)=s:=Y2 (by omega) (by omega)
   have t1:s+1<=9223372036854775807:=by omega
   have v1:(IntKind.i64).wrap (s+1)=s+1:=Y2 (by omega) (by omega)
   have t2:s+1+1<=9223372036854775807:=by omega
   have v2:(IntKind.i64).wrap (s+1+1)=s+1+1:=Y2 (by omega) (by omega)
   have hL:i<((XbD Xk xs k i).map (Xb .mut)).length:=by rw[List.length_map,U0]; exact hk
   have hg:=λy=>Xhv ((XbD Xk xs k i).map (Xb .mut)) i y hL
   have hG:=λy=>Xe5 ((XbD Xk xs k i).map (Xb .mut)) i y hL
   refine⟨by rw[Q2 xs k i hk,<-hI],_,λG=>by simp only[go_sem,reduceIte,↓reduceIte,nA,nB,nE,nL,h,h3,hg,hG,U0 (f:=Xk) xs k i,XcE (f:=Xk) (Xb .mut) xs k i hk,XdD (f:=Xk) (Xb .mut) xs k i hk,XdC (f:=Xk) (Xb .mut) xs k i,t1,v1,t2,v2,h2,Yi _ _ hk,XN (show i<9223372036854775807 by omega),hb]<;>with_reducible rfl,by simp only[go_sem,reduceIte,↓reduceIte,nB,h,Xk]⟩) k rfl (xs.length+1) (Nat.le_refl _)).2
 rw[hb] at hr
 simp only[go_sem,reduceIte,↓reduceIte,nB,nE,h,hr,XdB]) (by simp only[go_sem,Zl,XG])
def s52:SP Tryd.prog:=mkS tyA 52 Tryd.f52 [] {md:=[.mv,.ro 1],rg:=[(0,[0,1],[]),(1,[0,1,5],[]),(2,[0,1,5,9],[]),(3,[0,1,5],[]),(4,[0,1,5],[]),(5,[0,1,5],[]),(6,[0,4],[])],lv:=[(0,[0,1,5],[])],out:=[(0,[0,1],[])],rets:=some ([0,4],[])} Tryd.func52 (by kernel_rfl)
@[go_sem] def d52:s52.g=52/\s52.fs=⟨[.mv,.ro 1],s52.F,false⟩:=⟨nr rfl,nr rfl⟩
@[go_sem] def e52(xs:List UInt8)(k:Int)(h1:0<=k)(h0:(mkL XT xs k).2<=9223372036854775807):s52.F [.sl .mut 1 (xs.map Xw),.i .i64 k]=some (.i .i64 (mkL XT xs k).2,[.sl .mut 1 ((mkL XT xs k).1.map Xw),.u]):=Xs (xs.length+1) rfl rfl (λcx h=>by
 have hb:=XS Tryd.f52 0 _ _ rfl rfl
 have hx:=Xbm Ze xs k
 have hr:=(YY (cx:=cx) (blk:=0) (body:=Zw Tryd.f52 0) xs (λi (s:Int)=>⟨E [(0,.sl .mut 1 ((XbD XT xs k i).map Xw)),(1,.i .i64 s),(5,.i .i64 i)],B []⟩) (λ_=>⟨E [(0,.sl .mut 1 ((mkL XT xs k).1.map Xw)),(1,.i .i64 (mkL XT xs k).2)],B []⟩) (λx s=>(XT x s).2) (λi s=>s=XdA XT xs k i)
  (λs hI G=>by simp only[go_sem,reduceIte,↓reduceIte,nB,nE,h,Int.lt_irrefl,hb,Xe3,Xe2,YB,hI,XaM]) (λi hk s hI=>by
   have h2:((i:Int)<(xs.length:Int)):=Int.ofNat_lt.2 hk
   have g1:=XcC Ze xs k i
   have g2:=XcD Ze xs k i hk
   rw[<-hI] at g1 g2
   have h3:=Xe4 (f:=XT) Xw xs k i hk
   rw[<-hI] at h3
   simp only[XT,Xw] at h3 g2
   have v0:(IntKind.i64).wrap (s)=s:=Y2 (by omega) (by omega)
   have v1:(IntKind.i64).wrap (s+1)=s+1:=Y2 (by omega) (by omega)
   have hL:i<((XbD XT xs k i).map Xw).length:=by rw[List.length_map,U0]; exact hk
   have hg:=λy=>Xhv ((XbD XT xs k i).map Xw) i y hL
   have hG:=λy=>Xe5 ((XbD XT xs k i).map Xw) i y hL
   refine⟨by rw[Q2 xs k i hk,<-hI],_,λG=>by simp only[go_sem,reduceIte,↓reduceIte,nB,nE,h,h3,U0 (f:=XT) xs k i,XcE (f:=XT) Xw xs k i hk,XdD (f:=XT) Xw xs k i hk,XdC (f:=XT) Xw xs k i,Xhw,v1,h2,Yi _ _ hk,XN (show i<9223372036854775807 by omega),hb]<;>with_reducible rfl,by simp only[go_sem,reduceIte,↓reduceIte,nB,h,XT]⟩) k rfl (xs.length+1) (Nat.le_refl _)).2
 rw[hb] at hr
 simp only[go_sem,reduceIte,↓reduceIte,nB,nE,h,hr,XdB]) (by simp only[go_sem,Zl,XG])
def s23:SP Tryd.prog:=mkS tyA 23 Tryd.f23 [s51,s52] {md:=[.mv,.ro 1],rg:=[(0,[0,1,2],[2]),(1,[0,1,2],[2]),(2,[0,1],[]),(3,[0,4],[])],rets:=some ([0,4],[]),al:=[2]} Tryd.func23 (by kernel_rfl)
@[go_sem] def d23:s23.g=23/\s23.fs=⟨[.mv,.ro 1],s23.F,false⟩:=⟨nr rfl,nr rfl⟩
@[go_sem] def e23(y0:Int)(y1:List Xh)(y2:List UInt8)(k:Int)(h1:0<=k)(h0:(XJ (Response.mk y0 y1 y2) k).2<=9223372036854775807):s23.F [.agg [.i .i64 y0,.sl .mut 2 (y1.map (Xb .mut)),.sl .mut 1 (y2.map Xw)],.i .i64 k]=some (.i .i64 (XJ (Response.mk y0 y1 y2) k).2,[.agg (YQ .mut (XJ (Response.mk y0 y1 y2) k).1),.u]):=Xs (0) rfl rfl (λcx h=>by
 obtain⟨q0,hq0⟩:∃q,(mkL Xk y1 k).2=q:=⟨_,rfl⟩
 have b0:=UZ Yl y1 k
 rw[hq0] at b0
 have p0:0<=k:=by omega
 obtain⟨q1,hq1⟩:∃q,(mkL XT y2 q0).2=q:=⟨_,rfl⟩
 have b1:=UZ Ze y2 q0
 rw[hq1] at b1
 have p1:0<=q0:=by omega
 simp only[XW,hq0,hq1] at h0
 have c0:q0<=9223372036854775807:=by omega
 have d0:¬(q0<0):=by omega
 have c1:q1<=9223372036854775807:=by omega
 have d1:¬(q1<0):=by omega
 simp only[go_sem,reduceIte,↓reduceIte,nA,nB,nE,nL,nT,h,p0,p1,c0,c1,hq0,hq1,XW]) (by simp only[go_sem,XW,Zl,XG,X7])
def s24:SP Tryd.prog:=mkS tyA 24 Tryd.f24 [s23] {md:=[.mv,.ro 1],rg:=[(0,[0,1,2],[2]),(1,[0,1],[]),(2,[0,4],[])],rets:=some ([0,4],[]),al:=[2]} Tryd.func24 (by kernel_rfl)
@[go_sem] def d24:s24.g=24/\s24.fs=⟨[.mv,.ro 1],s24.F,false⟩:=⟨nr rfl,nr rfl⟩
@[go_sem] def e24(y6 y7:Int)(y8:List Xh)(y9:List UInt8)(k:Int)(h1:0<=k)(h0:(Xx (Xf.mk y6 (Response.mk y7 y8 y9)) k).2<=9223372036854775807):s24.F [.agg [.i .i64 y6,.i .i64 y7,.sl .mut 2 (y8.map (Xb .mut)),.sl .mut 1 (y9.map Xw)],.i .i64 k]=some (.i .i64 (Xx (Xf.mk y6 (Response.mk y7 y8 y9)) k).2,[.agg (XZ .mut (Xx (Xf.mk y6 (Response.mk y7 y8 y9)) k).1),.u]):=Xs (0) rfl rfl (λcx h=>by
 obtain⟨q0,hq0⟩:∃q,(XJ (Response.mk y7 y8 y9) k).2=q:=⟨_,rfl⟩
 have b0:=Zq (Response.mk y7 y8 y9) k
 rw[hq0] at b0
 have p0:0<=k:=by omega
 simp only[XO,hq0] at h0
 have c0:q0<=9223372036854775807:=by omega
 have d0:¬(q0<0):=by omega
 simp only[go_sem,reduceIte,↓reduceIte,nA,nB,nE,nL,nT,h,p0,c0,hq0,XO]
 simp only[XW]) (by simp only[go_sem,XO,Zl,XG,X7])
def s80:SP Tryd.prog:=mkS tyA 80 Tryd.f80 [s58] {md:=[.ro 1,.ro 1],rg:=[(0,[0,1],[]),(1,[0,1,5],[]),(2,[0,1,5,9],[]),(3,[0,1,5],[]),(4,[0,1,5,19],[]),(5,[4],[]),(6,[0,1,5],[]),(7,[0,1,5,29],[]),(8,[4],[]),(9,[0,1,5],[]),(10,[4],[])],lv:=[(0,[0,1,5],[])],out:=[(0,[1],[])],rets:=some ([4],[]),plan:=[(4,(.take 0 (.take 1 (.take 2 (.take 3 (.take 4 (.take 5 (.one 6 (.take 7 .done))))))))),(7,(.take 0 (.take 1 (.take 2 (.take 3 (.take 4 (.take 5 (.one 6 (.take 7 .done)))))))))]} Tryd.func80 (by kernel_rfl)
@[go_sem] def d80:s80.g=80/\s80.fs=⟨[.ro 1,.ro 1],s80.F,false⟩:=⟨nr rfl,nr rfl⟩
@[go_sem] def e80(xs:List Xh)(k:Int)(h1:0<=k)(h0:(mkL Xk xs k).2<=9223372036854775807):s80.F [.sl .ro 2 ((mkL Xk xs k).1.map (Xb .ro)),.i .i64 k]=some (.i .i64 (mkL Xk xs k).2,[.u,.u]):=Xs (xs.length+1) rfl rfl (λcx h=>by
 have hb:=XS Tryd.f80 0 _ _ rfl rfl
 have hx:=Xbm Yl xs k
 have hr:=(YY (cx:=cx) (blk:=0) (body:=Zw Tryd.f80 0) xs (λi (s:Int)=>⟨E [(0,.sl .ro 2 ((mkL Xk xs k).1.map (Xb .ro))),(1,.i .i64 s),(5,.i .i64 i)],B []⟩) (λ_=>⟨E [(1,.i .i64 (mkL Xk xs k).2)],B []⟩) (λx s=>(Xk x s).2) (λi s=>s=XdA Xk xs k i)
  (λs hI G=>by simp only[go_sem,reduceIte,↓reduceIte,nB,nE,iG,h,Int.lt_irrefl,hb,YB,hI,XaM]) (λi hk s hI=>by
   have h2:((i:Int)<(xs.length:Int)):=Int.ofNat_lt.2 hk
   have g1:=XcC Yl xs k i
   have g2:=XcD Yl xs k i hk
   rw[<-hI] at g1 g2
   have h3:=XjU (f:=Xk) (Xb .ro) xs k i hk
   rw[<-hI] at h3
   simp only[Xk,Xb] at h3 g2
   have v0:(IntKind.i64).wrap (s)=s:=Y2 (by omega) (by omega)
   have t1:s+1<=9223372036854775807:=by omega
   have v1:(IntKind.i64).wrap (s+1)=s+1:=Y2 (by omega) (by omega)
   have t2:s+1+1<=9223372036854775807:=by omega
   have v2:(IntKind.i64).wrap (s+1+1)=s+1+1:=Y2 (by omega) (by omega)
   refine⟨by rw[Q2 xs k i hk,<-hI],_,λG=>by simp only[go_sem,reduceIte,↓reduceIte,nA,nB,nE,nL,iG,h,h3,YB,t1,v1,t2,v2,h2,Yi _ _ hk,XN (show i<9223372036854775807 by omega),hb]<;>with_reducible rfl,by simp only[go_sem,reduceIte,↓reduceIte,nB,h,Xk]⟩) k rfl (xs.length+1) (Nat.le_refl _)).2
 rw[hb] at hr
 simp only[go_sem,reduceIte,↓reduceIte,nB,nE,iG,h,hr]) (rfl)
def s81:SP Tryd.prog:=mkS tyA 81 Tryd.f81 [] {md:=[.ro 1,.ro 1],rg:=[(0,[0,1],[]),(1,[0,1,5],[]),(2,[0,1,5,9],[]),(3,[0,1,5],[]),(4,[0,1,5,18],[]),(5,[4],[]),(6,[0,1,5],[]),(7,[4],[])],lv:=[(0,[0,1,5],[])],out:=[(0,[1],[])],rets:=some ([4],[])} Tryd.func81 (by kernel_rfl)
@[go_sem] def d81:s81.g=81/\s81.fs=⟨[.ro 1,.ro 1],s81.F,false⟩:=⟨nr rfl,nr rfl⟩
@[go_sem] def e81(xs:List UInt8)(k:Int)(h1:0<=k)(h0:(mkL XT xs k).2<=9223372036854775807):s81.F [.sl .ro 1 ((mkL XT xs k).1.map Xw),.i .i64 k]=some (.i .i64 (mkL XT xs k).2,[.u,.u]):=Xs (xs.length+1) rfl rfl (λcx h=>by
 have hb:=XS Tryd.f81 0 _ _ rfl rfl
 have hx:=Xbm Ze xs k
 have hr:=(YY (cx:=cx) (blk:=0) (body:=Zw Tryd.f81 0) xs (λi (s:Int)=>⟨E [(0,.sl .ro 1 ((mkL XT xs k).1.map Xw)),(1,.i .i64 s),(5,.i .i64 i)],B []⟩) (λ_=>⟨E [(1,.i .i64 (mkL XT xs k).2)],B []⟩) (λx s=>(XT x s).2) (λi s=>s=XdA XT xs k i)
  (λs hI G=>by simp only[go_sem,reduceIte,↓reduceIte,nB,nE,iG,h,Int.lt_irrefl,hb,YB,hI,XaM]) (λi hk s hI=>by
   have h2:((i:Int)<(xs.length:Int)):=Int.ofNat_lt.2 hk
   have g1:=XcC Ze xs k i
   have g2:=XcD Ze xs k i hk
   rw[<-hI] at g1 g2
   have h3:=XjU (f:=XT) Xw xs k i hk
   rw[<-hI] at h3
   simp only[XT,Xw] at h3 g2
   have v0:(IntKind.i64).wrap (s)=s:=Y2 (by omega) (by omega)
   have v1:(IntKind.i64).wrap (s+1)=s+1:=Y2 (by omega) (by omega)
   refine⟨by rw[Q2 xs k i hk,<-hI],_,λG=>by simp only[go_sem,reduceIte,↓reduceIte,nB,nE,iG,h,h3,YB,Xhw,v1,h2,Yi _ _ hk,XN (show i<9223372036854775807 by omega),hb]<;>with_reducible rfl,by simp only[go_sem,reduceIte,↓reduceIte,nB,h,XT]⟩) k rfl (xs.length+1) (Nat.le_refl _)).2
 rw[hb] at hr
 simp only[go_sem,reduceIte,↓reduceIte,nB,nE,iG,h,hr]) (rfl)
def s53:SP Tryd.prog:=mkS tyA 53 Tryd.f53 [s80,s81] {md:=[.ro 1,.ro 1],rg:=[(0,[1,2],[2]),(1,[1,2],[2]),(2,[1,2,10],[2]),(3,[4],[]),(4,[1],[]),(5,[1,16],[]),(6,[4],[]),(7,[4],[])],rets:=some ([4],[])} Tryd.func53 (by kernel_rfl)
@[go_sem] def d53:s53.g=53/\s53.fs=⟨[.ro 1,.ro 1],s53.F,false⟩:=⟨nr rfl,nr rfl⟩
@[go_sem] def e53(y0:Int)(y1:List Xh)(y2:List UInt8)(k:Int)(h1:0<=k)(h0:(XJ (Response.mk y0 y1 y2) k).2<=9223372036854775807):s53.F [.agg [.i .i64 y0,.sl .ro 2 ((mkL Xk y1 k).1.map (Xb .ro)),.sl .ro 1 ((mkL XT y2 (mkL Xk y1 k).2).1.map Xw)],.i .i64 k]=some (.i .i64 (XJ (Response.mk y0 y1 y2) k).2,[.u,.u]):=Xs (0) rfl rfl (λcx h=>by
 obtain⟨q0,hq0⟩:∃q,(mkL Xk y1 k).2=q:=⟨_,rfl⟩
 have b0:=UZ Yl y1 k
 rw[hq0] at b0
 have p0:0<=k:=by omega
 obtain⟨q1,hq1⟩:∃q,(mkL XT y2 q0).2=q:=⟨_,rfl⟩
 have b1:=UZ Ze y2 q0
 rw[hq1] at b1
 have p1:0<=q0:=by omega
 simp only[XW,hq0,hq1] at h0
 have c0:q0<=9223372036854775807:=by omega
 have d0:¬(q0<0):=by omega
 have c1:q1<=9223372036854775807:=by omega
 have d1:¬(q1<0):=by omega
 simp only[go_sem,reduceIte,↓reduceIte,nA,nB,nE,nL,h,p0,p1,c0,d0,c1,d1,hq0,hq1,XW]) (rfl)
def s25:SP Tryd.prog:=mkS tyA 25 Tryd.f25 [s53] {md:=[.ro 1,.ro 1],rg:=[(0,[1,2],[2]),(1,[1],[]),(2,[1,10],[]),(3,[4],[]),(4,[4],[])],rets:=some ([4],[])} Tryd.func25 (by kernel_rfl)
@[go_sem] def d25:s25.g=25/\s25.fs=⟨[.ro 1,.ro 1],s25.F,false⟩:=⟨nr rfl,nr rfl⟩
@[go_sem] def e25(y6 y7:Int)(y8:List Xh)(y9:List UInt8)(k:Int)(h1:0<=k)(h0:(Xx (Xf.mk y6 (Response.mk y7 y8 y9)) k).2<=9223372036854775807):s25.F [.agg [.i .i64 y6,.i .i64 y7,.sl .ro 2 ((mkL Xk y8 k).1.map (Xb .ro)),.sl .ro 1 ((mkL XT y9 (mkL Xk y8 k).2).1.map Xw)],.i .i64 k]=some (.i .i64 (Xx (Xf.mk y6 (Response.mk y7 y8 y9)) k).2,[.u,.u]):=Xs (0) rfl rfl (λcx h=>by
 obtain⟨q0,hq0⟩:∃q,(XJ (Response.mk y7 y8 y9) k).2=q:=⟨_,rfl⟩
 have b0:=Zq (Response.mk y7 y8 y9) k
 rw[hq0] at b0
 have p0:0<=k:=by omega
 simp only[XO,hq0] at h0
 have c0:q0<=9223372036854775807:=by omega
 have d0:¬(q0<0):=by omega
 simp only[XW] at hq0
 simp only[go_sem,reduceIte,↓reduceIte,nA,nB,nE,h,p0,c0,d0,hq0,XW,XO]) (rfl)
def s5:SP Tryd.prog:=mkS tyA 5 Tryd.f5 [s17,s18,s19,s20,s21,s22,s23,s24,s25] {md:=[.ro 1,.ro 1],rg:=[(0,[1,2],[2]),(1,[1,2,5],[2]),(2,[1,2,5],[2]),(3,[1,2,17],[2]),(4,[4],[]),(5,[1,2,6],[2,6]),(6,[1,2,6,7],[2,6,7]),(7,[1,2,6,7,8],[2,6,7,8]),(8,[1,2,6,7,8,30],[2,6,7,8]),(9,[4],[]),(10,[1,2,6,7,8,35],[2,6,7,8]),(11,[4],[]),(12,[1,2,6,7,8,9],[2,6,7,8]),(13,[1,2,6,8,9],[2,6,8]),(14,[1,2,6,8,46],[2,6,8]),(15,[4],[]),(16,[1,2,6,8,10],[2,6,8]),(17,[1,2,6,8,10],[2,6,8]),(18,[1,2,6,8,10,11],[2,6,8]),(19,[1,2,6,8,10,11],[2,6,8]),(20,[1,2,6,8,10,11,54],[2,6,8]),(21,[4],[]),(22,[1,2,6,8,10,57],[2,6,8]),(23,[4],[]),(24,[6,8,10,12],[6,8,12]),(25,[8,10,65],[8]),(26,[4],[]),(27,[8,10,11],[8]),(28,[10,11],[]),(29,[10,11,70],[]),(30,[4],[]),(31,[73],[]),(32,[4],[]),(33,[4],[])],rets:=some ([4],[]),plan:=[(10,(.take 0 (.take 1 (.one 2 (.one 3 (.take 4 .done))))))]} Tryd.func5 (by kernel_rfl)
@[go_sem] def d5:s5.g=5/\s5.fs=⟨[.ro 1,.ro 1],s5.F,false⟩:=⟨nr rfl,nr rfl⟩
def e5(y14:Int)(y15:List Xh)(y16:List UInt8)(head:Bool)(h0:Uf (Response.mk y14 y15 y16)/\Xm1 head):s5.F [.agg [.i .i64 y14,.sl .ro 2 (y15.map (Xb .ro)),.sl .ro 1 (y16.map Xw)],.b head]=some (.b true,[.u,.u]):=Xs (0) rfl rfl (λcx h=>by
 have h0_0:=h0.1
 by_cases hc0:ZX (Response.mk y14 y15 y16) 1048576<0
 ·simp only[go_sem,reduceIte,↓reduceIte,nA,nB,nE,h,hc0,h0_0]
 obtain⟨hs0,hl0⟩:=Xbr _ _ h0_0 (by decide) (by decide) (show 0<=ZX (Response.mk y14 y15 y16) 1048576 by omega)
 obtain⟨R,hR⟩:∃R,Uk (Response.mk y14 y15 y16) head=R:=⟨_,rfl⟩
 have hsm:=Xge hs0 head
 rw[hR] at hsm
 have f0:=Uq (Response.mk y14 y15 y16) 1 hs0
 have g0:=Zq (Response.mk y14 y15 y16) 1
 have f0':(XJ (Response.mk y14 y15 y16) 1).2<=9223372036854775807:=by omega
 have g0':¬((XJ (Response.mk y14 y15 y16) 1).2<0):=by omega
 have f1:=Ui R 1 hsm
 have g1:=Uh R 1
 have f1':(Xx R 1).2<=9223372036854775807:=by omega
 have g1':¬((Xx R 1).2<0):=by omega
 simp only[XO,XW] at f0' g0' f1' g1'
 simp only[go_sem,reduceIte,↓reduceIte,nA,nB,nE,nL,nT,iL,h,hc0,hs0,h0_0,hR,hsm,f0',g0',f1',g1',UX,XO,XW]) (rfl)
end
end Go.Vm.A
