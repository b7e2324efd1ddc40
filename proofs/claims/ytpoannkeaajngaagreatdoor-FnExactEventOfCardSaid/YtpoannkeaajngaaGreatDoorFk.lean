/- Functions of the program, walked by the evaluator. -/
import Derived.Test.YtpoannkeaajngaaGreatDoorWb
import Derived.Test.YtpoannkeaajngaaGreatDoorWa
import Derived.Test.YtpoannkeaajngaaGreatDoorFf
import Derived.Test.YtpoannkeaajngaaGreatDoorFh
import Derived.Test.YtpoannkeaajngaaGreatDoorFi
import Derived.Test.YtpoannkeaajngaaGreatDoorFj
set_option linter.unusedVariables false
set_option linter.unusedSimpArgs false
set_option autoImplicit false
set_option maxRecDepth 100000
set_option maxHeartbeats 4000000
set_option linter.defProp false
namespace Go.Vm.A
open Go.Proofs
open Nat renaming reduceAdd -> nA, reduceSub -> nS, reduceMul -> nM, reduceBEq -> nB, reduceEqDiff -> nE, reduceLeDiff -> nL, reduceLT -> nT, reduceBneDiff -> nN
open Int renaming reduceLE -> iL, reduceLT -> iT, reduceEq -> iE, reduceAdd -> iA, reduceMul -> iM, reduceSub -> iS, reduceNeg -> iG, reduceBEq -> iB, reduceBNe -> iN, reduceToNat -> iZ
noncomputable section
def s21:SP Tryz.prog:=mkS tyA 21 Tryz.f21 [s57,s58,s59] {md:=[.ro 1],rg:=[(0,[0,2,25],[2,3]),(1,[0,2,8,25],[2,3]),(2,[2,25],[2,3]),(3,[2,3,4,25],[2,3]),(4,[2,3,17,25],[2,3]),(5,[2,25],[2,3]),(6,[2,3,5,25],[2,3]),(7,[2,3,5,22,25],[2,3]),(8,[2,25],[2,3]),(9,[2,25],[2,3])],rets:=some ([2,25],[2,3]),al:=[10]} Tryz.func21 (by kernel_rfl)
@[go_sem] def d21:s21.g=21/\s21.fs=⟨[.ro 1],s21.F,false⟩:=⟨nr rfl,nr rfl⟩
@[go_sem] def e21(t:ByteArray):s21.F [.s t]=some (.agg (YJ .mut (XaL t)),[.u]):=Xj (0) rfl rfl (λcx h=>by
 by_cases c:(3000:Int)<(t.size:Int)
 ·simp only[go_sem,reduceIte,↓reduceIte,reduceCtorEq,nA,nS,nM,nB,nE,nL,nT,nN,iL,iT,iE,iA,iM,iS,iG,iB,iN,iZ,h,c,XaL,XG]
 have h1:t.size<=1048576:=by omega
 have h2:t.size<=1048575:=by omega
 have hw:smL Zy (Y7 t):=Xb4 (by omega)
 have hk:=XfU hw
 have hu:XaL t=if(3000:Int)<(t.size:Int) then⟨2,XG⟩ else if(Yt (Y7 t)).isSome=false then⟨5,XG⟩ else if(Yf (Zw (Yt (Y7 t))) !=0)=true then⟨Yf (Zw (Yt (Y7 t))),XG⟩ else⟨0,Zw (Yt (Y7 t))⟩:=rfl
 obtain⟨B,hB⟩:∃B,Yt (Y7 t)=B:=⟨_,rfl⟩
 rw[hB] at hu hk
 obtain⟨e,he⟩:∃e,Zw B=e:=⟨_,rfl⟩
 rw[he] at hu hk
 cases d:B.isSome
 ·simp only[go_sem,reduceIte,↓reduceIte,reduceCtorEq,nA,nS,nM,nB,nE,nL,nT,nN,iL,iT,iE,iA,iM,iS,iG,iB,iN,iZ,h,c,h1,h2,hw,hB,he,d,hu,XG]
 obtain⟨eKind,eId,eDraw,⟨eRequestMethod,eRequestHost,eRequestPath,eRequestHeaders⟩,⟨eResponseStatus,eResponseHeaders,eResponseBody⟩,eText,eHard⟩:=e
 obtain⟨k1,k2⟩:=hk
 have hH:smL Ye eRequestHeaders:=k1.2.2.2
 by_cases z:Yf (Event.mk eKind eId eDraw (Request.mk eRequestMethod eRequestHost eRequestPath eRequestHeaders) (Response.mk eResponseStatus eResponseHeaders eResponseBody) eText eHard)=0
 ·simp only[go_sem,reduceIte,↓reduceIte,reduceCtorEq,nA,nS,nM,nB,nE,nL,nT,nN,iL,iT,iE,iA,iM,iS,iG,iB,iN,iZ,h,c,h1,h2,hw,hB,he,d,hu,hH,k1,k2,z]
 ·have z':(Yf (Event.mk eKind eId eDraw (Request.mk eRequestMethod eRequestHost eRequestPath eRequestHeaders) (Response.mk eResponseStatus eResponseHeaders eResponseBody) eText eHard) !=0)=true:=by simpa using z
  simp only[go_sem,reduceIte,↓reduceIte,reduceCtorEq,nA,nS,nM,nB,nE,nL,nT,nN,iL,iT,iE,iA,iM,iS,iG,iB,iN,iZ,h,c,h1,h2,hw,hB,he,d,hu,hH,k1,k2,z',XG]) (by simp only[go_sem,reduceIte,↓reduceIte,reduceCtorEq,nA,nS,nM,nB,nE,nL,nT,nN,iL,iT,iE,iA,iM,iS,iG,iB,iN,iZ,ZS,XJ,XU,XQ])
def Xp7:SP Tryz.prog:=mkS tyA 185 Tryz.f185 [] {md:=[.ro 1,.ro 1],rg:=[(0,[2,3],[2,3]),(1,[2,3,9],[2,3]),(2,[4],[]),(3,[14],[]),(4,[4],[]),(5,[4],[])],rets:=some ([4],[])} Tryz.func185 (by kernel_rfl)
@[go_sem] def XHr:Xp7.g=185/\Xp7.fs=⟨[.ro 1,.ro 1],Xp7.F,false⟩:=⟨nr rfl,nr rfl⟩
@[go_sem] def XHs(y0 y1 y2 y3:ByteArray)(h0:Ye (Xg.mk y0 y1)):Xp7.F [.agg [.s y0,.s y1],.agg [.s y2,.s y3]]=some (.b (eqv (Xg.mk y0 y1) (Xg.mk y2 y3)),[.u,.u]):=Xj (0) rfl rfl (λcx h=>by
 obtain⟨q0,q1⟩:=h0
 simp only[go_sem,reduceIte,↓reduceIte,reduceCtorEq,nA,nS,nM,nB,nE,nL,nT,nN,iL,iT,iE,iA,iM,iS,iG,iB,iN,iZ,h,Qp,Xa,Zc,q0,q1]
 simp only[QY,Q2,Xg.eqv (Xg.mk y0 y1) (Xg.mk y2 y3),Xrc,Xa6,Xj3,Bool.and_true]) (rfl)
def Xo3:SP Tryz.prog:=mkS tyA 156 Tryz.f156 [Xp7] {md:=[.ro 1,.ro 1],rg:=[(0,[0,1],[]),(1,[0,1,10],[]),(2,[4],[]),(3,[0,1,5],[]),(4,[0,1,5,14],[]),(5,[0,1,5],[]),(6,[0,1,5,26],[]),(7,[4],[]),(8,[4],[])],lv:=[(0,[0,1,5],[])],out:=[(0,[],[])],rets:=some ([4],[]),plan:=[(6,(.take 0 (.take 1 (.take 2 (.take 3 (.take 4 (.take 5 (.take 6 (.take 7 (.one 8 (.take 9 .done)))))))))))]} Tryz.func156 (by kernel_rfl)
@[go_sem] def XHt:Xo3.g=156/\Xo3.fs=⟨[.ro 1,.ro 1],Xo3.F,false⟩:=⟨nr rfl,nr rfl⟩
@[go_sem] def XHu(xs ys:List Xg)(h0:smL Ye xs):Xo3.F [.sl .ro 2 (xs.map (Xb .ro)),.sl .ro 2 (ys.map (Xb .ro))]=some (.b (eqv xs ys),[.u,.u]):=Xj (xs.length+1) rfl rfl (λcx h=>by
 have hb:=XF Tryz.f156 0 _ _ rfl rfl
 have hx:=h0.1
 by_cases hl:xs.length=ys.length
 ·obtain⟨r,hr,hq⟩:=ZF (cx:=cx) (blk:=0) (body:=YN Tryz.f156 0) (xs.zip ys) (λk (_:Unit)=>⟨E [(0,.sl .ro 2 (xs.map (Xb .ro))),(1,.sl .ro 2 (ys.map (Xb .ro))),(5,.i .i64 k)],B []⟩) (λ_=>⟨E [],B []⟩) (λx _=>!eqv x.1 x.2) (λ_ _=>()) (λ_ _=>(.ret,⟨E [(4,.b false)],B []⟩)) (λ_ _=>True)
   (λl _ G=>by simp only[go_sem,reduceIte,↓reduceIte,reduceCtorEq,nA,nS,nM,nB,nE,nL,nT,nN,iL,iT,iE,iA,iM,iS,iG,iB,iN,iZ,h,UD hl,hl,Int.lt_irrefl,hb]) (λk hk l _=>by
    have hk:k<xs.length:=by rwa [UD hl] at hk
    have h1:((k:Int)<(xs.length:Int)):=Int.ofNat_lt.2 hk
    have h2:=h0.2 _ (List.getElem_mem hk)
    have h3:(xs.zip ys)[k]=(xs[k],ys[k]'(by omega)):=by simp
    rw[h3]
    cases hc:eqv xs[k] (ys[k]'(by omega))
    ·exact .inl ⟨rfl,λG=>by simp only[go_sem,reduceIte,↓reduceIte,reduceCtorEq,nA,nS,nM,nB,nE,nL,nT,nN,iL,iT,iE,iA,iM,iS,iG,iB,iN,iZ,h,hc,YH (Xb .ro) xs k hk,YH (Xb .ro) ys k (by omega),Xt ys.length k (by omega),h2,h1,Xt _ _ hk,Xm (show k<9223372036854775807 by omega),hb]⟩
    ·exact .inr ⟨rfl,trivial,_,λG=>by simp only[go_sem,reduceIte,↓reduceIte,reduceCtorEq,nA,nS,nM,nB,nE,nL,nT,nN,iL,iT,iE,iA,iM,iS,iG,iB,iN,iZ,h,hc,YH (Xb .ro) xs k hk,YH (Xb .ro) ys k (by omega),Xt ys.length k (by omega),h2,h1,Xt _ _ hk,Xm (show k<9223372036854775807 by omega),hb]<;>with_reducible rfl,by simp only[go_sem,reduceIte,↓reduceIte,reduceCtorEq,nA,nS,nM,nB,nE,nL,nT,nN,iL,iT,iE,iA,iM,iS,iG,iB,iN,iZ,h]⟩) () trivial (xs.length+1) (by rw[UD hl]; exact Nat.le_refl _)
  rw[hb] at hr
  have hl2:((xs.length:Int) !=(ys.length:Int))=false:=by simp[hl]
  rcases hq with⟨s',e1,e2,e3⟩ | ⟨x,s',e1,e3⟩
  ·simp only[go_sem,reduceIte,↓reduceIte,reduceCtorEq,nA,nS,nM,nB,nE,nL,nT,nN,iL,iT,iE,iA,iM,iS,iG,iB,iN,iZ,h,hl2,hr,e3,Xet hl e1]
  ·simp only[go_sem,reduceIte,↓reduceIte,reduceCtorEq,nA,nS,nM,nB,nE,nL,nT,nN,iL,iT,iE,iA,iM,iS,iG,iB,iN,iZ,h,hl2,hr,e3,Xeu hl e1]
 ·have hl2:((xs.length:Int) !=(ys.length:Int))=true:=by simpa using λh=>hl (Int.ofNat_inj.1 h)
  simp only[go_sem,reduceIte,↓reduceIte,reduceCtorEq,nA,nS,nM,nB,nE,nL,nT,nN,iL,iT,iE,iA,iM,iS,iG,iB,iN,iZ,h,hl2,XgG hl]) (rfl)
def Xp8:SP Tryz.prog:=mkS tyA 111 Tryz.f111 [Xo3] {md:=[.ro 1,.ro 1],rg:=[(0,[2,3],[2,3]),(1,[2,3,9],[2,3]),(2,[4],[]),(3,[2,3,14],[2,3]),(4,[4],[]),(5,[2,3,19],[2,3]),(6,[4],[]),(7,[25],[]),(8,[4],[]),(9,[4],[])],rets:=some ([4],[])} Tryz.func111 (by kernel_rfl)
@[go_sem] def XHv:Xp8.g=111/\Xp8.fs=⟨[.ro 1,.ro 1],Xp8.F,false⟩:=⟨nr rfl,nr rfl⟩
@[go_sem] def XHw(y4 y5 y6:ByteArray)(y7:List Xg)(y8 y9 y10:ByteArray)(y11:List Xg)(h0:Qq (Request.mk y4 y5 y6 y7)):Xp8.F [.agg [.s y4,.s y5,.s y6,.sl .ro 2 (y7.map (Xb .ro))],.agg [.s y8,.s y9,.s y10,.sl .ro 2 (y11.map (Xb .ro))]]=some (.b (eqv (Request.mk y4 y5 y6 y7) (Request.mk y8 y9 y10 y11)),[.u,.u]):=Xj (0) rfl rfl (λcx h=>by
 obtain⟨q0,q1,q2,q3⟩:=h0
 simp only[go_sem,reduceIte,↓reduceIte,reduceCtorEq,nA,nS,nM,nB,nE,nL,nT,nN,iL,iT,iE,iA,iM,iS,iG,iB,iN,iZ,h,Qp,Xa,Zc,q0,q1,q2,q3]
 simp only[QY,Q2,Request.eqv (Request.mk y4 y5 y6 y7) (Request.mk y8 y9 y10 y11),Xrc,Xa6,Xj3,Bool.and_true]) (rfl)
def Xp9:SP Tryz.prog:=mkS tyA 157 Tryz.f157 [] {md:=[.ro 1,.ro 1],rg:=[(0,[0,1],[]),(1,[0,1,10],[]),(2,[4],[]),(3,[0,1,5],[]),(4,[0,1,5,14],[]),(5,[0,1,5],[]),(6,[0,1,5,25],[]),(7,[4],[]),(8,[4],[])],lv:=[(0,[0,1,5],[])],out:=[(0,[],[])],rets:=some ([4],[]),plan:=[(6,(.take 0 (.take 1 (.take 2 (.take 3 (.take 4 (.take 5 (.take 6 (.take 7 (.take 8 .done))))))))))]} Tryz.func157 (by kernel_rfl)
@[go_sem] def XHx:Xp9.g=157/\Xp9.fs=⟨[.ro 1,.ro 1],Xp9.F,false⟩:=⟨nr rfl,nr rfl⟩
@[go_sem] def XHy(xs ys:List UInt8)(h0:smL Xj1 xs):Xp9.F [.sl .ro 1 (xs.map XE),.sl .ro 1 (ys.map XE)]=some (.b (eqv xs ys),[.u,.u]):=Xj (xs.length+1) rfl rfl (λcx h=>by
 have hb:=XF Tryz.f157 0 _ _ rfl rfl
 have hx:=h0.1
 by_cases hl:xs.length=ys.length
 ·obtain⟨r,hr,hq⟩:=ZF (cx:=cx) (blk:=0) (body:=YN Tryz.f157 0) (xs.zip ys) (λk (_:Unit)=>⟨E [(0,.sl .ro 1 (xs.map XE)),(1,.sl .ro 1 (ys.map XE)),(5,.i .i64 k)],B []⟩) (λ_=>⟨E [],B []⟩) (λx _=>!eqv x.1 x.2) (λ_ _=>()) (λ_ _=>(.ret,⟨E [(4,.b false)],B []⟩)) (λ_ _=>True)
   (λl _ G=>by simp only[go_sem,reduceIte,↓reduceIte,reduceCtorEq,nA,nS,nM,nB,nE,nL,nT,nN,iL,iT,iE,iA,iM,iS,iG,iB,iN,iZ,h,UD hl,hl,Int.lt_irrefl,hb]) (λk hk l _=>by
    have hk:k<xs.length:=by rwa [UD hl] at hk
    have h1:((k:Int)<(xs.length:Int)):=Int.ofNat_lt.2 hk
    have h2:=h0.2 _ (List.getElem_mem hk)
    have h3:(xs.zip ys)[k]=(xs[k],ys[k]'(by omega)):=by simp
    rw[h3]
    cases hc:eqv xs[k] (ys[k]'(by omega))
    ·exact .inl ⟨rfl,λG=>by simp only[go_sem,reduceIte,↓reduceIte,reduceCtorEq,nA,nS,nM,nB,nE,nL,nT,nN,iL,iT,iE,iA,iM,iS,iG,iB,iN,iZ,h,hc,YH XE xs k hk,YH XE ys k (by omega),Xt ys.length k (by omega),Xel,h1,Xt _ _ hk,Xm (show k<9223372036854775807 by omega),hb]⟩
    ·exact .inr ⟨rfl,trivial,_,λG=>by simp only[go_sem,reduceIte,↓reduceIte,reduceCtorEq,nA,nS,nM,nB,nE,nL,nT,nN,iL,iT,iE,iA,iM,iS,iG,iB,iN,iZ,h,hc,YH XE xs k hk,YH XE ys k (by omega),Xt ys.length k (by omega),Xel,h1,Xt _ _ hk,Xm (show k<9223372036854775807 by omega),hb]<;>with_reducible rfl,by simp only[go_sem,reduceIte,↓reduceIte,reduceCtorEq,nA,nS,nM,nB,nE,nL,nT,nN,iL,iT,iE,iA,iM,iS,iG,iB,iN,iZ,h]⟩) () trivial (xs.length+1) (by rw[UD hl]; exact Nat.le_refl _)
  rw[hb] at hr
  have hl2:((xs.length:Int) !=(ys.length:Int))=false:=by simp[hl]
  rcases hq with⟨s',e1,e2,e3⟩ | ⟨x,s',e1,e3⟩
  ·simp only[go_sem,reduceIte,↓reduceIte,reduceCtorEq,nA,nS,nM,nB,nE,nL,nT,nN,iL,iT,iE,iA,iM,iS,iG,iB,iN,iZ,h,hl2,hr,e3,Xet hl e1]
  ·simp only[go_sem,reduceIte,↓reduceIte,reduceCtorEq,nA,nS,nM,nB,nE,nL,nT,nN,iL,iT,iE,iA,iM,iS,iG,iB,iN,iZ,h,hl2,hr,e3,Xeu hl e1]
 ·have hl2:((xs.length:Int) !=(ys.length:Int))=true:=by simpa using λh=>hl (Int.ofNat_inj.1 h)
  simp only[go_sem,reduceIte,↓reduceIte,reduceCtorEq,nA,nS,nM,nB,nE,nL,nT,nN,iL,iT,iE,iA,iM,iS,iG,iB,iN,iZ,h,hl2,XgG hl]) (rfl)
def Xqa:SP Tryz.prog:=mkS tyA 112 Tryz.f112 [Xo3,Xp9] {md:=[.ro 1,.ro 1],rg:=[(0,[2,3],[2,3]),(1,[2,3,9],[2,3]),(2,[4],[]),(3,[2,3,15],[2,3]),(4,[4],[]),(5,[21],[]),(6,[4],[]),(7,[4],[])],rets:=some ([4],[])} Tryz.func112 (by kernel_rfl)
@[go_sem] def XHz:Xqa.g=112/\Xqa.fs=⟨[.ro 1,.ro 1],Xqa.F,false⟩:=⟨nr rfl,nr rfl⟩
@[go_sem] def XHA(y12:Int)(y7:List Xg)(y13:List UInt8)(y14:Int)(y11:List Xg)(y15:List UInt8)(h0:ZR (Response.mk y12 y7 y13)):Xqa.F [.agg [.i .i64 y12,.sl .ro 2 (y7.map (Xb .ro)),.sl .ro 1 (y13.map XE)],.agg [.i .i64 y14,.sl .ro 2 (y11.map (Xb .ro)),.sl .ro 1 (y15.map XE)]]=some (.b (eqv (Response.mk y12 y7 y13) (Response.mk y14 y11 y15)),[.u,.u]):=Xj (0) rfl rfl (λcx h=>by
 obtain⟨q0,q1,q2⟩:=h0
 simp only[go_sem,reduceIte,↓reduceIte,reduceCtorEq,nA,nS,nM,nB,nE,nL,nT,nN,iL,iT,iE,iA,iM,iS,iG,iB,iN,iZ,h,Qp,Xa,Zc,q0,q1,q2]
 simp only[QY,Q2,Response.eqv (Response.mk y12 y7 y13) (Response.mk y14 y11 y15),Xrc,Xa6,Xj3,Bool.and_true]) (rfl)
def s60:SP Tryz.prog:=mkS tyA 60 Tryz.f60 [Xp8,Xqa] {md:=[.ro 1,.ro 1],rg:=[(0,[2,3],[2,3]),(1,[2,3,9],[2,3]),(2,[4],[]),(3,[2,3,14],[2,3]),(4,[4],[]),(5,[2,3,19],[2,3]),(6,[4],[]),(7,[2,3,25],[2,3]),(8,[4],[]),(9,[2,3,31],[2,3]),(10,[4],[]),(11,[2,3,36],[2,3]),(12,[4],[]),(13,[41],[]),(14,[4],[]),(15,[4],[])],rets:=some ([4],[])} Tryz.func60 (by kernel_rfl)
@[go_sem] def d60:s60.g=60/\s60.fs=⟨[.ro 1,.ro 1],s60.F,false⟩:=⟨nr rfl,nr rfl⟩
@[go_sem] def e60(y16 xId y17:Int)(y18 y19 y20:ByteArray)(y21:List Xg)(y22:Int)(y23:List Xg)(y24:List UInt8)(y25:ByteArray)(y26:Bool)(y27 yId y28:Int)(y29 y30 y31:ByteArray)(y32:List Xg)(y33:Int)(y34:List Xg)(y35:List UInt8)(y36:ByteArray)(y37:Bool)(h0:Xev (Event.mk y16 xId y17 (Request.mk y18 y19 y20 y21) (Response.mk y22 y23 y24) y25 y26)):s60.F [.agg [.i .i64 y16,.i .i64 xId,.i .i64 y17,.s y18,.s y19,.s y20,.sl .ro 2 (y21.map (Xb .ro)),.i .i64 y22,.sl .ro 2 (y23.map (Xb .ro)),.sl .ro 1 (y24.map XE),.s y25,.b y26],.agg [.i .i64 y27,.i .i64 yId,.i .i64 y28,.s y29,.s y30,.s y31,.sl .ro 2 (y32.map (Xb .ro)),.i .i64 y33,.sl .ro 2 (y34.map (Xb .ro)),.sl .ro 1 (y35.map XE),.s y36,.b y37]]=some (.b (eqv (Event.mk y16 xId y17 (Request.mk y18 y19 y20 y21) (Response.mk y22 y23 y24) y25 y26) (Event.mk y27 yId y28 (Request.mk y29 y30 y31 y32) (Response.mk y33 y34 y35) y36 y37)),[.u,.u]):=Xj (0) rfl rfl (λcx h=>by
 obtain⟨q0,q1,q2,q3,q4,q5,q6⟩:=h0
 simp only[go_sem,reduceIte,↓reduceIte,reduceCtorEq,nA,nS,nM,nB,nE,nL,nT,nN,iL,iT,iE,iA,iM,iS,iG,iB,iN,iZ,h,Qp,Xa,Zc,q0,q1,q2,q3,q4,q5,q6]
 simp only[QY,Q2,Event.eqv (Event.mk y16 xId y17 (Request.mk y18 y19 y20 y21) (Response.mk y22 y23 y24) y25 y26) (Event.mk y27 yId y28 (Request.mk y29 y30 y31 y32) (Response.mk y33 y34 y35) y36 y37),Xrc,Xa6,Xj3,Bool.and_true]) (rfl)
def s22:SP Tryz.prog:=mkS tyA 22 Tryz.f22 [s60] {md:=[.ro 1,.ro 1],rg:=[(0,[2,3],[2,3]),(1,[2,3,9],[2,3]),(2,[4],[]),(3,[15],[]),(4,[4],[]),(5,[4],[])],rets:=some ([4],[])} Tryz.func22 (by kernel_rfl)
@[go_sem] def d22:s22.g=22/\s22.fs=⟨[.ro 1,.ro 1],s22.F,false⟩:=⟨nr rfl,nr rfl⟩
@[go_sem] def e22(y38 y39 y40 y41:Int)(y42 y43 y44:ByteArray)(y45:List Xg)(y46:Int)(y47:List Xg)(y48:List UInt8)(y49:ByteArray)(y50:Bool)(y51 y52 y53 y54:Int)(y55 y56 y57:ByteArray)(y58:List Xg)(y59:Int)(y60:List Xg)(y61:List UInt8)(y62:ByteArray)(y63:Bool)(h0:UF (Xy.mk y38 (Event.mk y39 y40 y41 (Request.mk y42 y43 y44 y45) (Response.mk y46 y47 y48) y49 y50))):s22.F [.agg [.i .i64 y38,.i .i64 y39,.i .i64 y40,.i .i64 y41,.s y42,.s y43,.s y44,.sl .ro 2 (y45.map (Xb .ro)),.i .i64 y46,.sl .ro 2 (y47.map (Xb .ro)),.sl .ro 1 (y48.map XE),.s y49,.b y50],.agg [.i .i64 y51,.i .i64 y52,.i .i64 y53,.i .i64 y54,.s y55,.s y56,.s y57,.sl .ro 2 (y58.map (Xb .ro)),.i .i64 y59,.sl .ro 2 (y60.map (Xb .ro)),.sl .ro 1 (y61.map XE),.s y62,.b y63]]=some (.b (eqv (Xy.mk y38 (Event.mk y39 y40 y41 (Request.mk y42 y43 y44 y45) (Response.mk y46 y47 y48) y49 y50)) (Xy.mk y51 (Event.mk y52 y53 y54 (Request.mk y55 y56 y57 y58) (Response.mk y59 y60 y61) y62 y63))),[.u,.u]):=Xj (0) rfl rfl (λcx h=>by
 obtain⟨q0,q1⟩:=h0
 simp only[go_sem,reduceIte,↓reduceIte,reduceCtorEq,nA,nS,nM,nB,nE,nL,nT,nN,iL,iT,iE,iA,iM,iS,iG,iB,iN,iZ,h,Qp,Xa,Zc,q0,q1]
 simp only[QY,Q2,Xy.eqv (Xy.mk y38 (Event.mk y39 y40 y41 (Request.mk y42 y43 y44 y45) (Response.mk y46 y47 y48) y49 y50)) (Xy.mk y51 (Event.mk y52 y53 y54 (Request.mk y55 y56 y57 y58) (Response.mk y59 y60 y61) y62 y63)),Xrc,Xa6,Xj3,Bool.and_true]) (rfl)
def Xo4:SP Tryz.prog:=mkS tyA 186 Tryz.f186 [] {md:=[.ro 1],rg:=[(0,[0],[]),(1,[0,5],[]),(2,[2],[]),(3,[0,3],[]),(4,[0,3,7],[]),(5,[0,3],[]),(6,[0,3],[]),(7,[2],[])],lv:=[(0,[0,3],[])],out:=[(0,[3],[])],rets:=some ([2],[])} Tryz.func186 (by kernel_rfl)
@[go_sem] def XHB:Xo4.g=186/\Xo4.fs=⟨[.ro 1],Xo4.F,false⟩:=⟨nr rfl,nr rfl⟩
@[go_sem] def XHC(k:Int)(h0:k+1<=9223372036854775807):Xo4.F [.i .i64 k]=some (.s (Xhe k),[.u]):=Xj (k.toNat+1) rfl rfl (λcx h=>by
 have hb:=XF Tryz.f186 0 _ _ rfl rfl
 have lp:=Xeh (cx:=cx) (blk:=0) (body:=YN Tryz.f186 0) (λ(p:Int×ByteArray)=>⟨E [(0,.i .i64 p.1),(3,.s p.2)],B []⟩) (λp=>0<=p.1/\p.1+p.2.size<=9223372036854775807) (λp=>p.1.toNat) (λp r=>r=some (.ex 0,⟨E [(3,.s (XfJ p.1.toNat p.1 p.2))],B []⟩)) (λ⟨k,s⟩ ⟨i1,i2⟩=>by
  simp only at i1 i2 ⊢
  by_cases hk:0<k
  ·have e1:k.tdiv 10=k / 10:=Int.tdiv_eq_ediv_of_nonneg i1
   have e2:k.tmod 10=k%10:=Int.tmod_eq_emod_of_nonneg i1
   have w1:(IntKind.i64).wrap (48+k.tmod 10)=48+k.tmod 10:=YL (by omega) (by omega)
   have w2:(IntKind.u8).wrap (48+k.tmod 10)=(48+k.tmod 10)%256:=by simp[IntKind.wrap,IntKind.bits,IntKind.signed]
   have w3:(IntKind.i64).wrap (k.tdiv 10)=k.tdiv 10:=YL (by omega) (by omega)
   have z2:(#[UInt8.ofNat ((48+k.tmod 10)%256).toNat]:Array UInt8).size+s.size<=9223372036854775807:=by show 1+s.size<=_; omega
   refine .inr ⟨_,(k.tdiv 10,ByteArray.mk #[UInt8.ofNat ((48+k.tmod 10)%256).toNat]++s),?_,?_,?_,?_,λG=>by simp only[go_sem,reduceIte,↓reduceIte,reduceCtorEq,nA,nS,nM,nB,nE,nL,nT,nN,iL,iT,iE,iA,iM,iS,iG,iB,iN,iZ,h,hb,hk,w1,w2,w3,z2,Xcc]; rfl⟩
   ·simp only[go_sem,reduceIte,↓reduceIte,reduceCtorEq,nA,nS,nM,nB,nE,nL,nT,nN,iL,iT,iE,iA,iM,iS,iG,iB,iN,iZ,h]
   ·rw[ByteArray.size_append]; exact⟨by show 0<=k.tdiv 10; omega,by show k.tdiv 10+((1+s.size:Nat):Int)<=_; omega⟩
   ·simp only; omega
   ·intro r hr
    rw[hr,show XfJ k.toNat k s=XfJ (k.tdiv 10).toNat (k.tdiv 10) (ByteArray.mk #[UInt8.ofNat ((48+k.tmod 10)%256).toNat]++s) from by
     obtain⟨m,hm⟩:∃m,k.toNat=m+1:=⟨k.toNat-1,by omega⟩
     rw[hm,XfJ,if_pos hk]
     exact Xft _ _ _ _ (by omega) (Nat.le_refl _)]
  ·obtain rfl:k=0:=by omega
   exact .inl λG=>by simp only[go_sem,reduceIte,↓reduceIte,reduceCtorEq,nA,nS,nM,nB,nE,nL,nT,nN,iL,iT,iE,iA,iM,iS,iG,iB,iN,iZ,h,hb,XfJ])
 rw[hb] at lp
 unfold Xhe
 by_cases hk:k<=0
 ·simp only[go_sem,reduceIte,↓reduceIte,reduceCtorEq,nA,nS,nM,nB,nE,nL,nT,nN,iL,iT,iE,iA,iM,iS,iG,iB,iN,iZ,h,hk]
 ·have l1:=lp (k.toNat+1) (k,⟨#[]⟩) ⟨by omega,by show k+((0:Nat):Int)<=_; omega⟩ (Nat.lt_succ_self _)
  have z3:(#[109]:Array UInt8).size+(XfJ k.toNat k ⟨#[]⟩).size<=9223372036854775807:=by
   have:=Xfs k.toNat k ⟨#[]⟩
   show 1+_<=_
   have e2:(ByteArray.mk #[]).size=0:=rfl
   omega
  simp only[go_sem,reduceIte,↓reduceIte,reduceCtorEq,nA,nS,nM,nB,nE,nL,nT,nN,iL,iT,iE,iA,iM,iS,iG,iB,iN,iZ,h,hk,l1,z3]) (rfl)
def Xo5:SP Tryz.prog:=mkS tyA 158 Tryz.f158 [Xo4] {md:=[.mv,.ro 1],rg:=[(0,[0,1],[]),(1,[0,1,5],[]),(2,[0,1,5,9],[]),(3,[0,1,5],[]),(4,[0,1,5],[]),(5,[0,1,5],[]),(6,[0,1,5],[]),(7,[0,1,5],[]),(8,[0,4],[])],lv:=[(0,[0,1,5],[])],out:=[(0,[0,1],[])],rets:=some ([0,4],[])} Tryz.func158 (by kernel_rfl)
@[go_sem] def XHD:Xo5.g=158/\Xo5.fs=⟨[.mv,.ro 1],Xo5.F,false⟩:=⟨nr rfl,nr rfl⟩
@[go_sem] def XHE(xs:List Xg)(k:Int)(h1:0<=k)(h0:(mkL Xi xs k).2<=9223372036854775807):Xo5.F [.sl .mut 2 (xs.map (Xb .mut)),.i .i64 k]=some (.i .i64 (mkL Xi xs k).2,[.sl .mut 2 ((mkL Xi xs k).1.map (Xb .mut)),.u]):=Xj (xs.length+1) rfl rfl (λcx h=>by
 have hb:=XF Tryz.f158 0 _ _ rfl rfl
 have hx:=XcD Yi xs k
 have hr:=(YG (cx:=cx) (blk:=0) (body:=YN Tryz.f158 0) xs (λi (s:Int)=>⟨E [(0,.sl .mut 2 ((Xc3 Xi xs k i).map (Xb .mut))),(1,.i .i64 s),(5,.i .i64 i)],B []⟩) (λ_=>⟨E [(0,.sl .mut 2 ((mkL Xi xs k).1.map (Xb .mut))),(1,.i .i64 (mkL Xi xs k).2)],B []⟩) (λx s=>(Xi x s).2) (λi s=>s=Xfp Xi xs k i)
  (λs hI G=>by simp only[go_sem,reduceIte,↓reduceIte,reduceCtorEq,nA,nS,nM,nB,nE,nL,nT,nN,iL,iT,iE,iA,iM,iS,iG,iB,iN,iZ,h,Int.lt_irrefl,hb,UA,Xhb,Xa5,Xha,Y4,hI,XbT]) (λi hk s hI=>by
   have h2:((i:Int)<(xs.length:Int)):=Int.ofNat_lt.2 hk
   have g1:=Xem Yi xs k i
   have g2:=Xen Yi xs k i hk
   rw[<-hI] at g1 g2
   have h3:=Xhc (f:=Xi) (Xb .mut) xs k i hk
   rw[<-hI] at h3
   simp only[Xi,Xb] at h3 g2
   have v0:(IntKind.i64).wrap (s)=s:=YL (by omega) (by omega)
   have t1:s+1<=9223372036854775807:=by omega
   have v1:(IntKind.i64).wrap (s+1)=s+1:=YL (by omega) (by omega)
   have t2:s+1+1<=9223372036854775807:=by omega
   have v2:(IntKind.i64).wrap (s+1+1)=s+1+1:=YL (by omega) (by omega)
   have hL:i<((Xc3 Xi xs k i).map (Xb .mut)).length:=by rw[List.length_map,UA]; exact hk
   have hg:=λy=>XjT ((Xc3 Xi xs k i).map (Xb .mut)) i y hL
   have hG:=λy=>Xhd ((Xc3 Xi xs k i).map (Xb .mut)) i y hL
   refine⟨by rw[Xaa xs k i hk,<-hI],_,λG=>by simp only[go_sem,reduceIte,↓reduceIte,reduceCtorEq,nA,nS,nM,nB,nE,nL,nT,nN,iL,iT,iE,iA,iM,iS,iG,iB,iN,iZ,h,h3,hg,hG,UA (f:=Xi) xs k i,Xeo (f:=Xi) (Xb .mut) xs k i hk,Xfr (f:=Xi) (Xb .mut) xs k i hk,Xa5 (f:=Xi) (Xb .mut) xs k i,Xep,v0,t1,v1,t2,v2,h2,Xt _ _ hk,Xm (show i<9223372036854775807 by omega),hb]<;>with_reducible rfl,by simp only[go_sem,reduceIte,↓reduceIte,reduceCtorEq,nA,nS,nM,nB,nE,nL,nT,nN,iL,iT,iE,iA,iM,iS,iG,iB,iN,iZ,h,Xi]⟩) k rfl (xs.length+1) (Nat.le_refl _)).2
 rw[hb] at hr
 simp only[go_sem,reduceIte,↓reduceIte,reduceCtorEq,nA,nS,nM,nB,nE,nL,nT,nN,iL,iT,iE,iA,iM,iS,iG,iB,iN,iZ,h,hr,Xfq]) (by simp only[go_sem,reduceIte,↓reduceIte,reduceCtorEq,nA,nS,nM,nB,nE,nL,nT,nN,iL,iT,iE,iA,iM,iS,iG,iB,iN,iZ,ZS,XJ])
end
end Go.Vm.A
