/- Functions of the program, walked by the evaluator. -/
import Derived.Test.YtpoannkeaajngaaGreatDoorWb
import Derived.Test.YtpoannkeaajngaaGreatDoorWa
import Derived.Test.YtpoannkeaajngaaGreatDoorFa
import Derived.Test.YtpoannkeaajngaaGreatDoorFb
import Derived.Test.YtpoannkeaajngaaGreatDoorFk
import Derived.Test.YtpoannkeaajngaaGreatDoorFc
import Derived.Test.YtpoannkeaajngaaGreatDoorFd
import Derived.Test.YtpoannkeaajngaaGreatDoorFe
import Derived.Test.YtpoannkeaajngaaGreatDoorFf
import Derived.Test.YtpoannkeaajngaaGreatDoorFg
import Derived.Test.YtpoannkeaajngaaGreatDoorFh
import Derived.Test.YtpoannkeaajngaaGreatDoorFi
import Derived.Test.YtpoannkeaajngaaGreatDoorFj
set_option linter.unusedVariables false
set_option linter.unusedSimpArgs false
set_option autoImplicit false
set_option maxRecDepth 100000
set_option maxHeartbeats 4000000
set_option linter.defProp false
namespace Go.Vm.A
open Go.Proofs
open Nat renaming reduceAdd -> nA, reduceSub -> nS, reduceMul -> nM, reduceBEq -> nB, reduceEqDiff -> nE, reduceLeDiff -> nL, reduceLT -> nT, reduceBneDiff -> nN
open Int renaming reduceLE -> iL, reduceLT -> iT, reduceEq -> iE, reduceAdd -> iA, reduceMul -> iM, reduceSub -> iS, reduceNeg -> iG, reduceBEq -> iB, reduceBNe -> iN, reduceToNat -> iZ
noncomputable section
def s3:SP Tryz.prog:=mkS tyA 3 Tryz.f3 [s5,s6,s7,s8,s9,s10,s11,s12,s13,s14,s15,s16,s17,s18,s19] {md:=[.ro 1],rg:=[(0,[0],[]),(1,[0,14],[]),(2,[2],[]),(3,[0,3,4,5],[3,4]),(4,[0,3,4,5,6],[3,4,6]),(5,[0,3,4,5,6,7,8],[3,4,6,7]),(6,[0,3,4,5,6,7,8,9],[3,4,6,7,9]),(7,[3,4,5,6,7,8,9,10],[3,4,6,7,9]),(8,[3,4,5,6,7,8,9,69],[3,4,6,7,9]),(9,[2],[]),(10,[3,4,5,6,109],[3,4,6]),(11,[2],[]),(12,[3,4,5,6,112],[3,4,6]),(13,[2],[]),(14,[3,4,5,6,11],[3,4,6,11]),(15,[3,5,6,11,12],[3,6,11,12]),(16,[3,5,6,11,12,138],[3,6,11,12]),(17,[2],[]),(18,[2],[])],rets:=some ([2],[]),al:=[15,25],plan:=[(8,(.take 0 (.take 1 (.take 2 (.take 3 (.take 4 (.one 5 (.take 6 (.take 7 (.take 8 (.take 9 (.take 10 (.take 11 (.one 12 (.take 13 (.take 14 (.take 15 (.take 16 (.take 19 (.one 17 (.take 18 (.one 20 (.take 21 (.take 22 (.take 23 (.take 24 (.take 25 (.take 29 (.one 26 (.take 27 (.take 28 (.one 30 (.take 31 (.take 32 (.take 33 (.take 34 .done))))))))))))))))))))))))))))))))))))]} Tryz.func3 (by kernel_rfl)
@[go_sem] def d3:s3.g=3/\s3.fs=⟨[.ro 1],s3.F,false⟩:=⟨nr rfl,nr rfl⟩
def e3(code:List UInt8)(h0':okL XlQ code):s3.F [.sl .ro 1 (code.map Xn)]=some (.b true,[.u]):=Xm (0) rfl rfl (λcx h=>by
 by_cases hb:1048576<(code.length:Int)
 ·simp only[go_sem,reduceIte,↓reduceIte,reduceCtorEq,nA,nS,nM,nB,nE,nL,nT,nN,iL,iT,iE,iA,iM,iS,iG,iB,iN,iZ,h,hb]
 have hS1:=(Xdo code).1
 have hS2:=XjD code
 have hY:=Xmf code
 obtain⟨R,hR⟩:∃R,(XbC code).2=R:=⟨_,rfl⟩
 obtain⟨E,hE⟩:∃E,(Xe8 code).2=E:=⟨_,rfl⟩
 obtain⟨h0,hh⟩:∃h,XjB code=h:=⟨_,rfl⟩
 obtain⟨Y,hY0⟩:∃Y,Xjl code=Y:=⟨_,rfl⟩
 obtain⟨d,hd⟩:∃d,(XW code 26 3==0)=d:=⟨_,rfl⟩
 obtain⟨n,hn⟩:∃n,XZ code 0 [400,414,502,503,504,599,399,600]=n:=⟨_,rfl⟩
 rw[hR] at hS1
 rw[hE] at hS2
 rw[hY0] at hY
 obtain⟨rM,rH,rP,rHs⟩:=R
 obtain⟨eK,eS,eHs,eB,⟨m1,m2,m3,m4,m5,m6,m7⟩,eT,eP⟩:=E
 obtain⟨yS,yHs,yB⟩:=Y
 simp only at hS1 hS2
 have hY1:smL Xg yHs:=hY.2.1
 have hY2:yB.length<=1048576:=hY.2.2.1
 obtain⟨W,hW⟩:∃W,Xd8 n=W:=⟨_,rfl⟩
 have o3:okN ⟨#[105,102,45,110,111,110,101,45,109,97,116,99,104]⟩=true:=by decide
 have o4:okN ⟨#[105,102,45,109,111,100,105,102,105,101,100,45,115,105,110,99,101]⟩=true:=by decide
 have hcase:(∃c,Y1 (Request.mk rM rH rP rHs) (X2.mk eK eS eHs eB (Meta.mk m1 m2 m3 m4 m5 m6 m7) eT eP) h0=⟨c,U2⟩/\(c !=0)=true)\/(Y1 (Request.mk rM rH rP rHs) (X2.mk eK eS eHs eB (Meta.mk m1 m2 m3 m4 m5 m6 m7) eT eP) h0=⟨0,XH (Request.mk rM rH rP rHs) (X2.mk eK eS eHs eB (Meta.mk m1 m2 m3 m4 m5 m6 m7) eT eP) h0⟩/\(XH (Request.mk rM rH rP rHs) (X2.mk eK eS eHs eB (Meta.mk m1 m2 m3 m4 m5 m6 m7) eT eP) h0).Method=⟨#[71,69,84]⟩/\(XH (Request.mk rM rH rP rHs) (X2.mk eK eS eHs eB (Meta.mk m1 m2 m3 m4 m5 m6 m7) eT eP) h0).Path=rP/\Xe (XH (Request.mk rM rH rP rHs) (X2.mk eK eS eHs eB (Meta.mk m1 m2 m3 m4 m5 m6 m7) eT eP) h0)=0/\(Qv (XH (Request.mk rM rH rP rHs) (X2.mk eK eS eHs eB (Meta.mk m1 m2 m3 m4 m5 m6 m7) eT eP) h0).Headers ⟨#[105,102,45,109,111,100,105,102,105,101,100,45,115,105,110,99,101]⟩).Code=4/\smL Xg (XH (Request.mk rM rH rP rHs) (X2.mk eK eS eHs eB (Meta.mk m1 m2 m3 m4 m5 m6 m7) eT eP) h0).Headers /\
   ((∃t,Qv (XH (Request.mk rM rH rP rHs) (X2.mk eK eS eHs eB (Meta.mk m1 m2 m3 m4 m5 m6 m7) eT eP) h0).Headers ⟨#[105,102,45,110,111,110,101,45,109,97,116,99,104]⟩=⟨0,t⟩/\h0=true/\QF eHs=⟨0,t⟩)\/(Qv (XH (Request.mk rM rH rP rHs) (X2.mk eK eS eHs eB (Meta.mk m1 m2 m3 m4 m5 m6 m7) eT eP) h0).Headers ⟨#[105,102,45,110,111,110,101,45,109,97,116,99,104]⟩=⟨4,⟨#[]⟩⟩/\(h0=false\/((QF eHs).Code !=0)=true\/19<=(rHs.length:Int))))):=by
  have hu:Y1 (Request.mk rM rH rP rHs) (X2.mk eK eS eHs eB (Meta.mk m1 m2 m3 m4 m5 m6 m7) eT eP) h0=if(Xe (Request.mk rM rH rP rHs) !=0)=true then⟨Xe (Request.mk rM rH rP rHs),U2⟩ else if(h0&&Xf (X2.mk eK eS eHs eB (Meta.mk m1 m2 m3 m4 m5 m6 m7) eT eP) !=0)=true then⟨Xf (X2.mk eK eS eHs eB (Meta.mk m1 m2 m3 m4 m5 m6 m7) eT eP),U2⟩ else⟨0,XH (Request.mk rM rH rP rHs) (X2.mk eK eS eHs eB (Meta.mk m1 m2 m3 m4 m5 m6 m7) eT eP) h0⟩:=rfl
  by_cases z:Xe (Request.mk rM rH rP rHs)=0
  rotate_left
  ·exact .inl ⟨_,by rw[hu,if_pos (by simpa using z)],by simpa using z⟩
  cases y:(h0&&Xf (X2.mk eK eS eHs eB (Meta.mk m1 m2 m3 m4 m5 m6 m7) eT eP) !=0)
  rotate_left
  ·exact .inl ⟨_,by rw[hu,if_neg (by rw[z]; decide),if_pos y],by rw[Bool.and_eq_true] at y; exact y.2⟩
  have hf:Y1 (Request.mk rM rH rP rHs) (X2.mk eK eS eHs eB (Meta.mk m1 m2 m3 m4 m5 m6 m7) eT eP) h0=⟨0,XH (Request.mk rM rH rP rHs) (X2.mk eK eS eHs eB (Meta.mk m1 m2 m3 m4 m5 m6 m7) eT eP) h0⟩:=by rw[hu,if_neg (by rw[z]; decide),if_neg (by rw[y]; decide)]
  have hsm:smL Xg (XH (Request.mk rM rH rP rHs) (X2.mk eK eS eHs eB (Meta.mk m1 m2 m3 m4 m5 m6 m7) eT eP) h0).Headers:=by
   rw[Xdt]
   have hl:=XC (Qu z)
   have hl2:=Qt (Request.mk rM rH rP rHs)
   split
   ·refine⟨by simp only[List.length_append,List.length_cons,List.length_nil]; omega,λx hx=>?_⟩
    rcases List.mem_append.1 hx with hx | hx
    ·exact(XcG (r:=(Request.mk rM rH rP rHs)) hS1).2 x hx
    ·rw[List.mem_singleton.1 hx]; exact⟨by show(13:Nat)<=_; omega,XhL hS2⟩
   ·exact XcG (r:=(Request.mk rM rH rP rHs)) hS1
  exact .inr ⟨hf,rfl,rfl,Xfe z y,Xff z y,hsm,XgF z y⟩
 obtain⟨G,hG⟩:∃G,XH (Request.mk rM rH rP rHs) (X2.mk eK eS eHs eB (Meta.mk m1 m2 m3 m4 m5 m6 m7) eT eP) h0=G:=⟨_,rfl⟩
 rw[hG] at hcase
 obtain⟨gM,gH,gP,gHs⟩:=G
 simp only at hcase
 have hv:Xd7 (Response.mk yS yHs yB) d=if(Xu (Response.mk yS yHs yB) !=0)=true then⟨Xu (Response.mk yS yHs yB),⟨0,[],[]⟩⟩ else⟨0,⟨yS,QO (Response.mk yS yHs yB),if d=true then[] else yB⟩⟩:=rfl
 by_cases zy:Xu (Response.mk yS yHs yB)=0
 rotate_left
 ·have zy2:(Xu (Response.mk yS yHs yB) !=0)=true:=by simpa using zy
  have zy:(Xu (Response.mk yS yHs yB)==0)=false:=by simpa using zy
  have hZ:=hv
  rw[if_pos zy2] at hZ
  rcases hcase with⟨c,hO,hc⟩ | ⟨hO,rfl,rfl,hgf,hgs,hgsm,hmark⟩
  ·simp only[go_sem,reduceIte,↓reduceIte,reduceCtorEq,nA,nS,nM,nB,nE,nL,nT,nN,iL,iT,iE,iA,iM,iS,iG,iB,iN,iZ,h,hb,hR,hE,hh,hY0,hd,hn,hS1,hS2,hY,hY1,hY2,hW,Yu,Xq,Xt,hZ,zy,zy2,hO,hc,U2]
  rcases hmark with⟨t,k1,k2,k3⟩ | ⟨k1,k2⟩
  ·subst k2
   simp only[go_sem,reduceIte,↓reduceIte,reduceCtorEq,nA,nS,nM,nB,nE,nL,nT,nN,iL,iT,iE,iA,iM,iS,iG,iB,iN,iZ,h,hb,hR,hE,hh,hY0,hd,hn,hS1,hS2,hY,hY1,hY2,hW,Yu,Xq,Xt,hZ,zy,zy2,hO,hgf,hgs,hgsm,k1,k3,o3,o4]
  rcases k2 with k2 | k2 | k2
  ·subst k2
   simp only[go_sem,reduceIte,↓reduceIte,reduceCtorEq,nA,nS,nM,nB,nE,nL,nT,nN,iL,iT,iE,iA,iM,iS,iG,iB,iN,iZ,h,hb,hR,hE,hh,hY0,hd,hn,hS1,hS2,hY,hY1,hY2,hW,Yu,Xq,Xt,hZ,zy,zy2,hO,hgf,hgs,hgsm,k1,o3,o4]
  ·cases h0<;>simp only[go_sem,reduceIte,↓reduceIte,reduceCtorEq,nA,nS,nM,nB,nE,nL,nT,nN,iL,iT,iE,iA,iM,iS,iG,iB,iN,iZ,h,hb,hR,hE,hh,hY0,hd,hn,hS1,hS2,hY,hY1,hY2,hW,Yu,Xq,Xt,hZ,zy,zy2,hO,hgf,hgs,hgsm,k1,k2,o3,o4]
  ·cases h0<;>(cases k3:(QF eHs).Code !=0)<;>simp only[go_sem,reduceIte,↓reduceIte,reduceCtorEq,nA,nS,nM,nB,nE,nL,nT,nN,iL,iT,iE,iA,iM,iS,iG,iB,iN,iZ,h,hb,hR,hE,hh,hY0,hd,hn,hS1,hS2,hY,hY1,hY2,hW,Yu,Xq,Xt,hZ,zy,zy2,hO,hgf,hgs,hgsm,k1,k2,k3,o3,o4,List.length_map]
 have hq1:smL Xg (QO (Response.mk yS yHs yB)):=XgE hY1 (XC (Zp zy))
 have hq0:=λhead=>XjK (head:=head) zy
 have hZ:=hv
 rw[if_neg (by rw[zy]; decide)] at hZ
 cases hd2:d
 ·rw[hd2] at hZ hd
  have hq2:=hq0 false
  simp only[Bool.false_eq_true,if_false] at hZ hq2
  have hq3:=hq2
  rcases hcase with⟨c,hO,hc⟩ | ⟨hO,rfl,rfl,hgf,hgs,hgsm,hmark⟩
  ·simp only[go_sem,reduceIte,↓reduceIte,reduceCtorEq,nA,nS,nM,nB,nE,nL,nT,nN,iL,iT,iE,iA,iM,iS,iG,iB,iN,iZ,h,hb,hR,hE,hh,hY0,hd,hn,hS1,hS2,hY,hY1,hY2,hW,Yu,Xq,Xt,hZ,zy,hq1,hq2,hq3,hO,hc,U2]
  rcases hmark with⟨t,k1,k2,k3⟩ | ⟨k1,k2⟩
  ·subst k2
   simp only[go_sem,reduceIte,↓reduceIte,reduceCtorEq,nA,nS,nM,nB,nE,nL,nT,nN,iL,iT,iE,iA,iM,iS,iG,iB,iN,iZ,h,hb,hR,hE,hh,hY0,hd,hn,hS1,hS2,hY,hY1,hY2,hW,Yu,Xq,Xt,hZ,zy,hq1,hq2,hq3,hO,hgf,hgs,hgsm,k1,k3,o3,o4]
  rcases k2 with k2 | k2 | k2
  ·subst k2
   simp only[go_sem,reduceIte,↓reduceIte,reduceCtorEq,nA,nS,nM,nB,nE,nL,nT,nN,iL,iT,iE,iA,iM,iS,iG,iB,iN,iZ,h,hb,hR,hE,hh,hY0,hd,hn,hS1,hS2,hY,hY1,hY2,hW,Yu,Xq,Xt,hZ,zy,hq1,hq2,hq3,hO,hgf,hgs,hgsm,k1,o3,o4]
  ·cases h0<;>simp only[go_sem,reduceIte,↓reduceIte,reduceCtorEq,nA,nS,nM,nB,nE,nL,nT,nN,iL,iT,iE,iA,iM,iS,iG,iB,iN,iZ,h,hb,hR,hE,hh,hY0,hd,hn,hS1,hS2,hY,hY1,hY2,hW,Yu,Xq,Xt,hZ,zy,hq1,hq2,hq3,hO,hgf,hgs,hgsm,k1,k2,o3,o4]
  ·cases h0<;>(cases k3:(QF eHs).Code !=0)<;>simp only[go_sem,reduceIte,↓reduceIte,reduceCtorEq,nA,nS,nM,nB,nE,nL,nT,nN,iL,iT,iE,iA,iM,iS,iG,iB,iN,iZ,h,hb,hR,hE,hh,hY0,hd,hn,hS1,hS2,hY,hY1,hY2,hW,Yu,Xq,Xt,hZ,zy,hq1,hq2,hq3,hO,hgf,hgs,hgsm,k1,k2,k3,o3,o4,List.length_map]
 ·rw[hd2] at hZ hd
  have hq2:=hq0 true
  simp only[if_true] at hZ hq2
  have hq3:=e16 yS (QO (Response.mk yS yHs yB)) []
  rw[hq2,List.map_nil] at hq3
  rcases hcase with⟨c,hO,hc⟩ | ⟨hO,rfl,rfl,hgf,hgs,hgsm,hmark⟩
  ·simp only[go_sem,reduceIte,↓reduceIte,reduceCtorEq,nA,nS,nM,nB,nE,nL,nT,nN,iL,iT,iE,iA,iM,iS,iG,iB,iN,iZ,h,hb,hR,hE,hh,hY0,hd,hn,hS1,hS2,hY,hY1,hY2,hW,Yu,Xq,Xt,hZ,zy,hq1,hq2,hq3,hO,hc,U2]
  rcases hmark with⟨t,k1,k2,k3⟩ | ⟨k1,k2⟩
  ·subst k2
   simp only[go_sem,reduceIte,↓reduceIte,reduceCtorEq,nA,nS,nM,nB,nE,nL,nT,nN,iL,iT,iE,iA,iM,iS,iG,iB,iN,iZ,h,hb,hR,hE,hh,hY0,hd,hn,hS1,hS2,hY,hY1,hY2,hW,Yu,Xq,Xt,hZ,zy,hq1,hq2,hq3,hO,hgf,hgs,hgsm,k1,k3,o3,o4]
  rcases k2 with k2 | k2 | k2
  ·subst k2
   simp only[go_sem,reduceIte,↓reduceIte,reduceCtorEq,nA,nS,nM,nB,nE,nL,nT,nN,iL,iT,iE,iA,iM,iS,iG,iB,iN,iZ,h,hb,hR,hE,hh,hY0,hd,hn,hS1,hS2,hY,hY1,hY2,hW,Yu,Xq,Xt,hZ,zy,hq1,hq2,hq3,hO,hgf,hgs,hgsm,k1,o3,o4]
  ·cases h0<;>simp only[go_sem,reduceIte,↓reduceIte,reduceCtorEq,nA,nS,nM,nB,nE,nL,nT,nN,iL,iT,iE,iA,iM,iS,iG,iB,iN,iZ,h,hb,hR,hE,hh,hY0,hd,hn,hS1,hS2,hY,hY1,hY2,hW,Yu,Xq,Xt,hZ,zy,hq1,hq2,hq3,hO,hgf,hgs,hgsm,k1,k2,o3,o4]
  ·cases h0<;>(cases k3:(QF eHs).Code !=0)<;>simp only[go_sem,reduceIte,↓reduceIte,reduceCtorEq,nA,nS,nM,nB,nE,nL,nT,nN,iL,iT,iE,iA,iM,iS,iG,iB,iN,iZ,h,hb,hR,hE,hh,hY0,hd,hn,hS1,hS2,hY,hY1,hY2,hW,Yu,Xq,Xt,hZ,zy,hq1,hq2,hq3,hO,hgf,hgs,hgsm,k1,k2,k3,o3,o4,List.length_map]) (rfl)
end
end Go.Vm.A
