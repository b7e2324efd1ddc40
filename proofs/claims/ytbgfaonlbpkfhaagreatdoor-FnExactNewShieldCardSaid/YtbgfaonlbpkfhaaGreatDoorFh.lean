/- Functions of the program, walked by the evaluator. -/
import Derived.Test.YtbgfaonlbpkfhaaGreatDoorWb
import Derived.Test.YtbgfaonlbpkfhaaGreatDoorWa
import Derived.Test.YtbgfaonlbpkfhaaGreatDoorFg
set_option linter.unusedVariables false
set_option linter.unusedSimpArgs false
set_option autoImplicit false
set_option maxRecDepth 100000
set_option maxHeartbeats 4000000
set_option linter.defProp false
namespace Go.Vm.A
open Go.Proofs
open Nat renaming reduceAdd -> nA, reduceSub -> nS, reduceMul -> nM, reduceBEq -> nB, reduceEqDiff -> nE, reduceLeDiff -> nL, reduceLT -> nT, reduceBneDiff -> nN
open Int renaming reduceLE -> iL, reduceLT -> iT, reduceEq -> iE, reduceAdd -> iA, reduceMul -> iM, reduceSub -> iS, reduceNeg -> iG, reduceBEq -> iB, reduceBNe -> iN, reduceToNat -> iZ
noncomputable section
def XpA:SP Tryz.prog:=mkS tyA 218 Tryz.f218 [Xpz] {md:=[.ro 1,.ro 1],rg:=[(0,[0,1],[]),(1,[0,1,10],[]),(2,[4],[]),(3,[0,1,5],[]),(4,[0,1,5,14],[]),(5,[0,1,5],[]),(6,[0,1,5,26],[]),(7,[4],[]),(8,[4],[])],lv:=[(0,[0,1,5],[])],out:=[(0,[],[])],rets:=some ([4],[]),plan:=[(6,(.take 0 (.take 1 (.take 2 (.take 3 (.take 4 (.take 5 (.take 6 (.take 7 (.one 8 (.take 9 .done)))))))))))]} Tryz.func218 (by kernel_rfl)
@[go_sem] def XHh:XpA.g=218/\XpA.fs=⟨[.ro 1,.ro 1],XpA.F,false⟩:=⟨nr rfl,nr rfl⟩
@[go_sem] def XHi(xs ys:List Zc)(h0:smL U6 xs):XpA.F [.sl .ro 4 (xs.map (XS .ro)),.sl .ro 4 (ys.map (XS .ro))]=some (.b (eqv xs ys),[.u,.u]):=Xd (xs.length+1) rfl rfl (λcx h=>by
 have hb:=Xn Tryz.f218 0 _ _ rfl rfl
 have hx:=h0.1
 by_cases hl:xs.length=ys.length
 ·obtain⟨r,hr,hq⟩:=Zx (cx:=cx) (blk:=0) (body:=Yl Tryz.f218 0) (xs.zip ys) (λk (_:Unit)=>⟨E [(0,.sl .ro 4 (xs.map (XS .ro))),(1,.sl .ro 4 (ys.map (XS .ro))),(5,.i .i64 k)],B []⟩) (λ_=>⟨E [],B []⟩) (λx _=>!eqv x.1 x.2) (λ_ _=>()) (λ_ _=>(.ret,⟨E [(4,.b false)],B []⟩)) (λ_ _=>True)
   (λl _ G=>by simp only[go_sem,reduceIte,↓reduceIte,reduceCtorEq,nA,nS,nM,nB,nE,nL,nT,nN,iL,iT,iE,iA,iM,iS,iG,iB,iN,iZ,h,YC hl,hl,Int.lt_irrefl,hb]) (λk hk l _=>by
    have hk:k<xs.length:=by rwa [YC hl] at hk
    have h1:((k:Int)<(xs.length:Int)):=Int.ofNat_lt.2 hk
    have h2:=h0.2 _ (List.getElem_mem hk)
    have h3:(xs.zip ys)[k]=(xs[k],ys[k]'(by omega)):=by simp
    rw[h3]
    cases hc:eqv xs[k] (ys[k]'(by omega))
    ·exact .inl ⟨rfl,λG=>by simp only[go_sem,reduceIte,↓reduceIte,reduceCtorEq,nA,nS,nM,nB,nE,nL,nT,nN,iL,iT,iE,iA,iM,iS,iG,iB,iN,iZ,h,hc,XP (XS .ro) xs k hk,XP (XS .ro) ys k (by omega),Xp ys.length k (by omega),h2,h1,Xp _ _ hk,Xe (show k<9223372036854775807 by omega),hb]⟩
    ·exact .inr ⟨rfl,trivial,_,λG=>by simp only[go_sem,reduceIte,↓reduceIte,reduceCtorEq,nA,nS,nM,nB,nE,nL,nT,nN,iL,iT,iE,iA,iM,iS,iG,iB,iN,iZ,h,hc,XP (XS .ro) xs k hk,XP (XS .ro) ys k (by omega),Xp ys.length k (by omega),h2,h1,Xp _ _ hk,Xe (show k<9223372036854775807 by omega),hb]<;>with_reducible rfl,by simp only[go_sem,reduceIte,↓reduceIte,reduceCtorEq,nA,nS,nM,nB,nE,nL,nT,nN,iL,iT,iE,iA,iM,iS,iG,iB,iN,iZ,h]⟩) () trivial (xs.length+1) (by rw[YC hl]; exact Nat.le_refl _)
  rw[hb] at hr
  have hl2:((xs.length:Int) !=(ys.length:Int))=false:=by simp[hl]
  rcases hq with⟨s',e1,e2,e3⟩ | ⟨x,s',e1,e3⟩
  ·simp only[go_sem,reduceIte,↓reduceIte,reduceCtorEq,nA,nS,nM,nB,nE,nL,nT,nN,iL,iT,iE,iA,iM,iS,iG,iB,iN,iZ,h,hl2,hr,e3,Um hl e1]
  ·simp only[go_sem,reduceIte,↓reduceIte,reduceCtorEq,nA,nS,nM,nB,nE,nL,nT,nN,iL,iT,iE,iA,iM,iS,iG,iB,iN,iZ,h,hl2,hr,e3,Un hl e1]
 ·have hl2:((xs.length:Int) !=(ys.length:Int))=true:=by simpa using λh=>hl (Int.ofNat_inj.1 h)
  simp only[go_sem,reduceIte,↓reduceIte,reduceCtorEq,nA,nS,nM,nB,nE,nL,nT,nN,iL,iT,iE,iA,iM,iS,iG,iB,iN,iZ,h,hl2,U1 hl]) (rfl)
def XpB:SP Tryz.prog:=mkS tyA 148 Tryz.f148 [Xpy,XpA] {md:=[.ro 1,.ro 1],rg:=[(0,[2,3],[2,3]),(1,[2,3,9],[2,3]),(2,[4],[]),(3,[2,3,14],[2,3]),(4,[4],[]),(5,[2,3,19],[2,3]),(6,[4],[]),(7,[2,3,24],[2,3]),(8,[4],[]),(9,[2,3,29],[2,3]),(10,[4],[]),(11,[2,3,34],[2,3]),(12,[4],[]),(13,[2,3,40],[2,3]),(14,[4],[]),(15,[46],[]),(16,[4],[]),(17,[4],[])],rets:=some ([4],[])} Tryz.func148 (by kernel_rfl)
@[go_sem] def XHj:XpB.g=148/\XpB.fs=⟨[.ro 1,.ro 1],XpB.F,false⟩:=⟨nr rfl,nr rfl⟩
@[go_sem] def XHk(xId:Int)(y0:ByteArray)(y1 y2:Bool)(y3:Int)(y4:Bool)(y5 y6 y7:ByteArray)(y8:List XL)(y9:List Zc)(yId:Int)(y10:ByteArray)(y11 y12:Bool)(y13:Int)(y14:Bool)(y15 y16 y17:ByteArray)(y18:List XL)(y19:List Zc)(h0:Xcv (Yk.mk xId y0 y1 y2 y3 y4 (Yt.mk y5 y6 y7 y8) y9)):XpB.F [.agg [.i .i64 xId,.s y0,.b y1,.b y2,.i .i64 y3,.b y4,.s y5,.s y6,.s y7,.sl .ro 2 (y8.map (Xl .ro)),.sl .ro 4 (y9.map (XS .ro))],.agg [.i .i64 yId,.s y10,.b y11,.b y12,.i .i64 y13,.b y14,.s y15,.s y16,.s y17,.sl .ro 2 (y18.map (Xl .ro)),.sl .ro 4 (y19.map (XS .ro))]]=some (.b (eqv (Yk.mk xId y0 y1 y2 y3 y4 (Yt.mk y5 y6 y7 y8) y9) (Yk.mk yId y10 y11 y12 y13 y14 (Yt.mk y15 y16 y17 y18) y19)),[.u,.u]):=Xd (0) rfl rfl (λcx h=>by
 obtain⟨q0,q1,q2,q3,q4,q5,q6,q7⟩:=h0
 simp only[go_sem,reduceIte,↓reduceIte,reduceCtorEq,nA,nS,nM,nB,nE,nL,nT,nN,iL,iT,iE,iA,iM,iS,iG,iB,iN,iZ,h,YI,X8,X9,q0,q1,q2,q3,q4,q5,q6,q7]
 simp only[Y2,ZA,Yk.eqv (Yk.mk xId y0 y1 y2 y3 y4 (Yt.mk y5 y6 y7 y8) y9) (Yk.mk yId y10 y11 y12 y13 y14 (Yt.mk y15 y16 y17 y18) y19),Xfw,Zb,Xat,Bool.and_true]) (rfl)
def s72:SP Tryz.prog:=mkS tyA 72 Tryz.f72 [XpB] {md:=[.ro 1,.ro 1],rg:=[(0,[0,1],[]),(1,[0,1,10],[]),(2,[4],[]),(3,[0,1,5],[]),(4,[0,1,5,14],[]),(5,[0,1,5],[]),(6,[0,1,5,26],[]),(7,[4],[]),(8,[4],[])],lv:=[(0,[0,1,5],[])],out:=[(0,[],[])],rets:=some ([4],[]),plan:=[(6,(.take 0 (.take 1 (.take 2 (.take 3 (.take 4 (.take 5 (.take 6 (.take 7 (.one 8 (.take 9 .done)))))))))))]} Tryz.func72 (by kernel_rfl)
@[go_sem] def d72:s72.g=72/\s72.fs=⟨[.ro 1,.ro 1],s72.F,false⟩:=⟨nr rfl,nr rfl⟩
@[go_sem] def e72(xs ys:List Yk)(h0:smL Xcv xs):s72.F [.sl .ro 11 (xs.map (Xx .ro)),.sl .ro 11 (ys.map (Xx .ro))]=some (.b (eqv xs ys),[.u,.u]):=Xd (xs.length+1) rfl rfl (λcx h=>by
 have hb:=Xn Tryz.f72 0 _ _ rfl rfl
 have hx:=h0.1
 by_cases hl:xs.length=ys.length
 ·obtain⟨r,hr,hq⟩:=Zx (cx:=cx) (blk:=0) (body:=Yl Tryz.f72 0) (xs.zip ys) (λk (_:Unit)=>⟨E [(0,.sl .ro 11 (xs.map (Xx .ro))),(1,.sl .ro 11 (ys.map (Xx .ro))),(5,.i .i64 k)],B []⟩) (λ_=>⟨E [],B []⟩) (λx _=>!eqv x.1 x.2) (λ_ _=>()) (λ_ _=>(.ret,⟨E [(4,.b false)],B []⟩)) (λ_ _=>True)
   (λl _ G=>by simp only[go_sem,reduceIte,↓reduceIte,reduceCtorEq,nA,nS,nM,nB,nE,nL,nT,nN,iL,iT,iE,iA,iM,iS,iG,iB,iN,iZ,h,YC hl,hl,Int.lt_irrefl,hb]) (λk hk l _=>by
    have hk:k<xs.length:=by rwa [YC hl] at hk
    have h1:((k:Int)<(xs.length:Int)):=Int.ofNat_lt.2 hk
    have h2:=h0.2 _ (List.getElem_mem hk)
    have h3:(xs.zip ys)[k]=(xs[k],ys[k]'(by omega)):=by simp
    rw[h3]
    cases hc:eqv xs[k] (ys[k]'(by omega))
    ·exact .inl ⟨rfl,λG=>by simp only[go_sem,reduceIte,↓reduceIte,reduceCtorEq,nA,nS,nM,nB,nE,nL,nT,nN,iL,iT,iE,iA,iM,iS,iG,iB,iN,iZ,h,hc,XP (Xx .ro) xs k hk,XP (Xx .ro) ys k (by omega),Xp ys.length k (by omega),h2,h1,Xp _ _ hk,Xe (show k<9223372036854775807 by omega),hb]⟩
    ·exact .inr ⟨rfl,trivial,_,λG=>by simp only[go_sem,reduceIte,↓reduceIte,reduceCtorEq,nA,nS,nM,nB,nE,nL,nT,nN,iL,iT,iE,iA,iM,iS,iG,iB,iN,iZ,h,hc,XP (Xx .ro) xs k hk,XP (Xx .ro) ys k (by omega),Xp ys.length k (by omega),h2,h1,Xp _ _ hk,Xe (show k<9223372036854775807 by omega),hb]<;>with_reducible rfl,by simp only[go_sem,reduceIte,↓reduceIte,reduceCtorEq,nA,nS,nM,nB,nE,nL,nT,nN,iL,iT,iE,iA,iM,iS,iG,iB,iN,iZ,h]⟩) () trivial (xs.length+1) (by rw[YC hl]; exact Nat.le_refl _)
  rw[hb] at hr
  have hl2:((xs.length:Int) !=(ys.length:Int))=false:=by simp[hl]
  rcases hq with⟨s',e1,e2,e3⟩ | ⟨x,s',e1,e3⟩
  ·simp only[go_sem,reduceIte,↓reduceIte,reduceCtorEq,nA,nS,nM,nB,nE,nL,nT,nN,iL,iT,iE,iA,iM,iS,iG,iB,iN,iZ,h,hl2,hr,e3,Um hl e1]
  ·simp only[go_sem,reduceIte,↓reduceIte,reduceCtorEq,nA,nS,nM,nB,nE,nL,nT,nN,iL,iT,iE,iA,iM,iS,iG,iB,iN,iZ,h,hl2,hr,e3,Un hl e1]
 ·have hl2:((xs.length:Int) !=(ys.length:Int))=true:=by simpa using λh=>hl (Int.ofNat_inj.1 h)
  simp only[go_sem,reduceIte,↓reduceIte,reduceCtorEq,nA,nS,nM,nB,nE,nL,nT,nN,iL,iT,iE,iA,iM,iS,iG,iB,iN,iZ,h,hl2,U1 hl]) (rfl)
def s21:SP Tryz.prog:=mkS tyA 21 Tryz.f21 [s13,s70,s71,s72] {md:=[.ro 1,.ro 1],rg:=[(0,[2,3],[2,3]),(1,[2,3,10],[2,3]),(2,[4],[]),(3,[2,3,15],[2,3]),(4,[4],[]),(5,[2,3,20],[2,3]),(6,[4],[]),(7,[2,3,26],[2,3]),(8,[4],[]),(9,[2,3,32],[2,3]),(10,[4],[]),(11,[38],[]),(12,[4],[]),(13,[4],[])],rets:=some ([4],[])} Tryz.func21 (by kernel_rfl)
@[go_sem] def d21:s21.g=21/\s21.fs=⟨[.ro 1,.ro 1],s21.F,false⟩:=⟨nr rfl,nr rfl⟩
@[go_sem] def e21(y20 y21 y22 y23 y24 y25 y26 y27:Int)(y28:List ByteArray)(y29 y30 y31 y32 y33 y34 y35 y36 y37 y38 y39 y40:Int)(y41 y42:List XM)(y43:List Origin)(y44:List Yk)(y45 y46 y47 y48 y49 y50 y51 y52:Int)(y53:List ByteArray)(y54 y55 y56 y57 y58 y59 y60 y61 y62 y63 y64 y65:Int)(y66 y67:List XM)(y68:List Origin)(y69:List Yk)(h0:XaH (Shield.mk (Config.mk y20 y21 y22 y23 y24 y25 y26 y27 y28 (Lanes.mk y29 y30 y31) (Rules.mk y32 y33 y34 y35 y36)) y37 y38 (Store.mk y39 y40 y41 y42) y43 y44)):s21.F [.agg [.i .i64 y20,.i .i64 y21,.i .i64 y22,.i .i64 y23,.i .i64 y24,.i .i64 y25,.i .i64 y26,.i .i64 y27,.sl .ro 1 (y28.map Yf),.i .i64 y29,.i .i64 y30,.i .i64 y31,.i .i64 y32,.i .i64 y33,.i .i64 y34,.i .i64 y35,.i .i64 y36,.i .i64 y37,.i .i64 y38,.i .i64 y39,.i .i64 y40,.sl .ro 13 (y41.map (Xa .ro)),.sl .ro 13 (y42.map (Xa .ro)),.sl .ro 7 (y43.map (Xv .ro)),.sl .ro 11 (y44.map (Xx .ro))],.agg [.i .i64 y45,.i .i64 y46,.i .i64 y47,.i .i64 y48,.i .i64 y49,.i .i64 y50,.i .i64 y51,.i .i64 y52,.sl .ro 1 (y53.map Yf),.i .i64 y54,.i .i64 y55,.i .i64 y56,.i .i64 y57,.i .i64 y58,.i .i64 y59,.i .i64 y60,.i .i64 y61,.i .i64 y62,.i .i64 y63,.i .i64 y64,.i .i64 y65,.sl .ro 13 (y66.map (Xa .ro)),.sl .ro 13 (y67.map (Xa .ro)),.sl .ro 7 (y68.map (Xv .ro)),.sl .ro 11 (y69.map (Xx .ro))]]=some (.b (eqv (Shield.mk (Config.mk y20 y21 y22 y23 y24 y25 y26 y27 y28 (Lanes.mk y29 y30 y31) (Rules.mk y32 y33 y34 y35 y36)) y37 y38 (Store.mk y39 y40 y41 y42) y43 y44) (Shield.mk (Config.mk y45 y46 y47 y48 y49 y50 y51 y52 y53 (Lanes.mk y54 y55 y56) (Rules.mk y57 y58 y59 y60 y61)) y62 y63 (Store.mk y64 y65 y66 y67) y68 y69)),[.u,.u]):=Xd (0) rfl rfl (λcx h=>by
 obtain⟨q0,q1,q2,q3,q4,q5⟩:=h0
 simp only[go_sem,reduceIte,↓reduceIte,reduceCtorEq,nA,nS,nM,nB,nE,nL,nT,nN,iL,iT,iE,iA,iM,iS,iG,iB,iN,iZ,h,YI,X8,X9,q0,q1,q2,q3,q4,q5]
 simp only[Y2,ZA,Shield.eqv (Shield.mk (Config.mk y20 y21 y22 y23 y24 y25 y26 y27 y28 (Lanes.mk y29 y30 y31) (Rules.mk y32 y33 y34 y35 y36)) y37 y38 (Store.mk y39 y40 y41 y42) y43 y44) (Shield.mk (Config.mk y45 y46 y47 y48 y49 y50 y51 y52 y53 (Lanes.mk y54 y55 y56) (Rules.mk y57 y58 y59 y60 y61)) y62 y63 (Store.mk y64 y65 y66 y67) y68 y69),Xfw,Zb,Xat,Bool.and_true]) (rfl)
def s12:SP Tryz.prog:=mkS tyA 12 Tryz.f12 [s21] {md:=[.ro 1,.ro 1],rg:=[(0,[2,3],[2,3]),(1,[2,3,9],[2,3]),(2,[4],[]),(3,[15],[]),(4,[4],[]),(5,[4],[])],rets:=some ([4],[])} Tryz.func12 (by kernel_rfl)
@[go_sem] def d12:s12.g=12/\s12.fs=⟨[.ro 1,.ro 1],s12.F,false⟩:=⟨nr rfl,nr rfl⟩
@[go_sem] def e12(y70 y71 y72 y73 y74 y75 y76 y77 y78:Int)(y79:List ByteArray)(y80 y81 y82 y83 y84 y85 y86 y87 y88 y89 y90 y91:Int)(y92 y93:List XM)(y94:List Origin)(y95:List Yk)(y96 y97 y98 y99 y100 y101 y102 y103 y104:Int)(y105:List ByteArray)(y106 y107 y108 y109 y110 y111 y112 y113 y114 y115 y116 y117:Int)(y118 y119:List XM)(y120:List Origin)(y121:List Yk)(h0:Uo (Xr.mk y70 (Shield.mk (Config.mk y71 y72 y73 y74 y75 y76 y77 y78 y79 (Lanes.mk y80 y81 y82) (Rules.mk y83 y84 y85 y86 y87)) y88 y89 (Store.mk y90 y91 y92 y93) y94 y95))):s12.F [.agg [.i .i64 y70,.i .i64 y71,.i .i64 y72,.i .i64 y73,.i .i64 y74,.i .i64 y75,.i .i64 y76,.i .i64 y77,.i .i64 y78,.sl .ro 1 (y79.map Yf),.i .i64 y80,.i .i64 y81,.i .i64 y82,.i .i64 y83,.i .i64 y84,.i .i64 y85,.i .i64 y86,.i .i64 y87,.i .i64 y88,.i .i64 y89,.i .i64 y90,.i .i64 y91,.sl .ro 13 (y92.map (Xa .ro)),.sl .ro 13 (y93.map (Xa .ro)),.sl .ro 7 (y94.map (Xv .ro)),.sl .ro 11 (y95.map (Xx .ro))],.agg [.i .i64 y96,.i .i64 y97,.i .i64 y98,.i .i64 y99,.i .i64 y100,.i .i64 y101,.i .i64 y102,.i .i64 y103,.i .i64 y104,.sl .ro 1 (y105.map Yf),.i .i64 y106,.i .i64 y107,.i .i64 y108,.i .i64 y109,.i .i64 y110,.i .i64 y111,.i .i64 y112,.i .i64 y113,.i .i64 y114,.i .i64 y115,.i .i64 y116,.i .i64 y117,.sl .ro 13 (y118.map (Xa .ro)),.sl .ro 13 (y119.map (Xa .ro)),.sl .ro 7 (y120.map (Xv .ro)),.sl .ro 11 (y121.map (Xx .ro))]]=some (.b (eqv (Xr.mk y70 (Shield.mk (Config.mk y71 y72 y73 y74 y75 y76 y77 y78 y79 (Lanes.mk y80 y81 y82) (Rules.mk y83 y84 y85 y86 y87)) y88 y89 (Store.mk y90 y91 y92 y93) y94 y95)) (Xr.mk y96 (Shield.mk (Config.mk y97 y98 y99 y100 y101 y102 y103 y104 y105 (Lanes.mk y106 y107 y108) (Rules.mk y109 y110 y111 y112 y113)) y114 y115 (Store.mk y116 y117 y118 y119) y120 y121))),[.u,.u]):=Xd (0) rfl rfl (λcx h=>by
 obtain⟨q0,q1⟩:=h0
 simp only[go_sem,reduceIte,↓reduceIte,reduceCtorEq,nA,nS,nM,nB,nE,nL,nT,nN,iL,iT,iE,iA,iM,iS,iG,iB,iN,iZ,h,YI,X8,X9,q0,q1]
 simp only[Y2,ZA,Xr.eqv (Xr.mk y70 (Shield.mk (Config.mk y71 y72 y73 y74 y75 y76 y77 y78 y79 (Lanes.mk y80 y81 y82) (Rules.mk y83 y84 y85 y86 y87)) y88 y89 (Store.mk y90 y91 y92 y93) y94 y95)) (Xr.mk y96 (Shield.mk (Config.mk y97 y98 y99 y100 y101 y102 y103 y104 y105 (Lanes.mk y106 y107 y108) (Rules.mk y109 y110 y111 y112 y113)) y114 y115 (Store.mk y116 y117 y118 y119) y120 y121)),Xfw,Zb,Xat,Bool.and_true]) (rfl)
def XgG:SP Tryz.prog:=mkS tyA 103 Tryz.f103 [] {md:=[.ro 1],rg:=[(0,[0],[]),(1,[0,5],[]),(2,[2],[]),(3,[0,3],[]),(4,[0,3,7],[]),(5,[0,3],[]),(6,[0,3],[]),(7,[2],[])],lv:=[(0,[0,3],[])],out:=[(0,[3],[])],rets:=some ([2],[])} Tryz.func103 (by kernel_rfl)
@[go_sem] def XHl:XgG.g=103/\XgG.fs=⟨[.ro 1],XgG.F,false⟩:=⟨nr rfl,nr rfl⟩
@[go_sem] def XHm(k:Int)(h0:k+1<=9223372036854775807):XgG.F [.i .i64 k]=some (.s (Xar k),[.u]):=Xd (k.toNat+1) rfl rfl (λcx h=>by
 have hb:=Xn Tryz.f103 0 _ _ rfl rfl
 have lp:=Xev (cx:=cx) (blk:=0) (body:=Yl Tryz.f103 0) (λ(p:Int×ByteArray)=>⟨E [(0,.i .i64 p.1),(3,.s p.2)],B []⟩) (λp=>0<=p.1/\p.1+p.2.size<=9223372036854775807) (λp=>p.1.toNat) (λp r=>r=some (.ex 0,⟨E [(3,.s (XfH p.1.toNat p.1 p.2))],B []⟩)) (λ⟨k,s⟩ ⟨i1,i2⟩=>by
  simp only at i1 i2 ⊢
  by_cases hk:0<k
  ·have e1:k.tdiv 10=k / 10:=Int.tdiv_eq_ediv_of_nonneg i1
   have e2:k.tmod 10=k%10:=Int.tmod_eq_emod_of_nonneg i1
   have w1:(IntKind.i64).wrap (48+k.tmod 10)=48+k.tmod 10:=Xc (by omega) (by omega)
   have w2:(IntKind.u8).wrap (48+k.tmod 10)=(48+k.tmod 10)%256:=by simp[IntKind.wrap,IntKind.bits,IntKind.signed]
   have w3:(IntKind.i64).wrap (k.tdiv 10)=k.tdiv 10:=Xc (by omega) (by omega)
   have z2:(#[UInt8.ofNat ((48+k.tmod 10)%256).toNat]:Array UInt8).size+s.size<=9223372036854775807:=by show 1+s.size<=_; omega
   refine .inr ⟨_,(k.tdiv 10,ByteArray.mk #[UInt8.ofNat ((48+k.tmod 10)%256).toNat]++s),?_,?_,?_,?_,λG=>by simp only[go_sem,reduceIte,↓reduceIte,reduceCtorEq,nA,nS,nM,nB,nE,nL,nT,nN,iL,iT,iE,iA,iM,iS,iG,iB,iN,iZ,h,hb,hk,w1,w2,w3,z2,XcG]; rfl⟩
   ·simp only[go_sem,reduceIte,↓reduceIte,reduceCtorEq,nA,nS,nM,nB,nE,nL,nT,nN,iL,iT,iE,iA,iM,iS,iG,iB,iN,iZ,h]
   ·rw[ByteArray.size_append]; exact⟨by show 0<=k.tdiv 10; omega,by show k.tdiv 10+((1+s.size:Nat):Int)<=_; omega⟩
   ·simp only; omega
   ·intro r hr
    rw[hr,show XfH k.toNat k s=XfH (k.tdiv 10).toNat (k.tdiv 10) (ByteArray.mk #[UInt8.ofNat ((48+k.tmod 10)%256).toNat]++s) from by
     obtain⟨m,hm⟩:∃m,k.toNat=m+1:=⟨k.toNat-1,by omega⟩
     rw[hm,XfH,if_pos hk]
     exact Xft _ _ _ _ (by omega) (Nat.le_refl _)]
  ·obtain rfl:k=0:=by omega
   exact .inl λG=>by simp only[go_sem,reduceIte,↓reduceIte,reduceCtorEq,nA,nS,nM,nB,nE,nL,nT,nN,iL,iT,iE,iA,iM,iS,iG,iB,iN,iZ,h,hb,XfH])
 rw[hb] at lp
 unfold Xar
 by_cases hk:k<=0
 ·simp only[go_sem,reduceIte,↓reduceIte,reduceCtorEq,nA,nS,nM,nB,nE,nL,nT,nN,iL,iT,iE,iA,iM,iS,iG,iB,iN,iZ,h,hk]
 ·have l1:=lp (k.toNat+1) (k,⟨#[]⟩) ⟨by omega,by show k+((0:Nat):Int)<=_; omega⟩ (Nat.lt_succ_self _)
  have z3:(#[109]:Array UInt8).size+(XfH k.toNat k ⟨#[]⟩).size<=9223372036854775807:=by
   have:=Xfs k.toNat k ⟨#[]⟩
   show 1+_<=_
   have e2:(ByteArray.mk #[]).size=0:=rfl
   omega
  simp only[go_sem,reduceIte,↓reduceIte,reduceCtorEq,nA,nS,nM,nB,nE,nL,nT,nN,iL,iT,iE,iA,iM,iS,iG,iB,iN,iZ,h,hk,l1,z3]) (rfl)
def s44:SP Tryz.prog:=mkS tyA 44 Tryz.f44 [XgG] {md:=[.mv,.ro 1],rg:=[(0,[0,1],[]),(1,[0,1,5],[]),(2,[0,1,5,9],[]),(3,[0,1,5],[]),(4,[0,1,5],[]),(5,[0,1,5],[]),(6,[0,4],[])],lv:=[(0,[0,1,5],[])],out:=[(0,[0,1],[])],rets:=some ([0,4],[])} Tryz.func44 (by kernel_rfl)
@[go_sem] def d44:s44.g=44/\s44.fs=⟨[.mv,.ro 1],s44.F,false⟩:=⟨nr rfl,nr rfl⟩
@[go_sem] def e44(xs:List ByteArray)(k:Int)(h1:0<=k)(h0:(mkL YE xs k).2<=9223372036854775807):s44.F [.sl .mut 1 (xs.map Yf),.i .i64 k]=some (.i .i64 (mkL YE xs k).2,[.sl .mut 1 ((mkL YE xs k).1.map Yf),.u]):=Xd (xs.length+1) rfl rfl (λcx h=>by
 have hb:=Xn Tryz.f44 0 _ _ rfl rfl
 have hx:=Zu Z1 xs k
 have hr:=(XY (cx:=cx) (blk:=0) (body:=Yl Tryz.f44 0) xs (λi (s:Int)=>⟨E [(0,.sl .mut 1 ((QP YE xs k i).map Yf)),(1,.i .i64 s),(5,.i .i64 i)],B []⟩) (λ_=>⟨E [(0,.sl .mut 1 ((mkL YE xs k).1.map Yf)),(1,.i .i64 (mkL YE xs k).2)],B []⟩) (λx s=>(YE x s).2) (λi s=>s=XaX YE xs k i)
  (λs hI G=>by simp only[go_sem,reduceIte,↓reduceIte,reduceCtorEq,nA,nS,nM,nB,nE,nL,nT,nN,iL,iT,iE,iA,iM,iS,iG,iB,iN,iZ,h,Int.lt_irrefl,hb,X5,QR,Yw,QQ,XU,hI,Y3]) (λi hk s hI=>by
   have h2:((i:Int)<(xs.length:Int)):=Int.ofNat_lt.2 hk
   have g1:=ZB Z1 xs k i
   have g2:=ZC Z1 xs k i hk
   rw[<-hI] at g1 g2
   have h3:=QS (f:=YE) Yf xs k i hk
   rw[<-hI] at h3
   simp only[YE,Yf] at h3 g2
   have v0:(IntKind.i64).wrap (s)=s:=Xc (by omega) (by omega)
   have t1:s+1<=9223372036854775807:=by omega
   have v1:(IntKind.i64).wrap (s+1)=s+1:=Xc (by omega) (by omega)
   have hL:i<((QP YE xs k i).map Yf).length:=by rw[List.length_map,X5]; exact hk
   have hg:=λy=>UY ((QP YE xs k i).map Yf) i y hL
   have hG:=λy=>QT ((QP YE xs k i).map Yf) i y hL
   refine⟨by rw[Yo xs k i hk,<-hI],_,λG=>by simp only[go_sem,reduceIte,↓reduceIte,reduceCtorEq,nA,nS,nM,nB,nE,nL,nT,nN,iL,iT,iE,iA,iM,iS,iG,iB,iN,iZ,h,h3,hg,hG,X5 (f:=YE) xs k i,Qp (f:=YE) Yf xs k i hk,Qh (f:=YE) Yf xs k i hk,Yw (f:=YE) Yf xs k i,ZD,v0,t1,v1,h2,Xp _ _ hk,Xe (show i<9223372036854775807 by omega),hb]<;>with_reducible rfl,by simp only[go_sem,reduceIte,↓reduceIte,reduceCtorEq,nA,nS,nM,nB,nE,nL,nT,nN,iL,iT,iE,iA,iM,iS,iG,iB,iN,iZ,h,YE]⟩) k rfl (xs.length+1) (Nat.le_refl _)).2
 rw[hb] at hr
 simp only[go_sem,reduceIte,↓reduceIte,reduceCtorEq,nA,nS,nM,nB,nE,nL,nT,nN,iL,iT,iE,iA,iM,iS,iG,iB,iN,iZ,h,hr,Qg]) (by simp only[go_sem,reduceIte,↓reduceIte,reduceCtorEq,nA,nS,nM,nB,nE,nL,nT,nN,iL,iT,iE,iA,iM,iS,iG,iB,iN,iZ,Y6,XD])
def s14:SP Tryz.prog:=mkS tyA 14 Tryz.f14 [s44] {md:=[.mv,.ro 1],rg:=[(0,[0,1,2],[2]),(1,[0,1],[]),(2,[0,4],[])],rets:=some ([0,4],[]),al:=[2]} Tryz.func14 (by kernel_rfl)
@[go_sem] def d14:s14.g=14/\s14.fs=⟨[.mv,.ro 1],s14.F,false⟩:=⟨nr rfl,nr rfl⟩
@[go_sem] def e14(y122 y123 y124 y125 y126 y127 y128 y129:Int)(y130:List ByteArray)(y131 y132 y133 y134 y135 y136 y137 y138 k:Int)(h1:0<=k)(h0:(Yy (Config.mk y122 y123 y124 y125 y126 y127 y128 y129 y130 (Lanes.mk y131 y132 y133) (Rules.mk y134 y135 y136 y137 y138)) k).2<=9223372036854775807):s14.F [.agg [.i .i64 y122,.i .i64 y123,.i .i64 y124,.i .i64 y125,.i .i64 y126,.i .i64 y127,.i .i64 y128,.i .i64 y129,.sl .mut 1 (y130.map Yf),.i .i64 y131,.i .i64 y132,.i .i64 y133,.i .i64 y134,.i .i64 y135,.i .i64 y136,.i .i64 y137,.i .i64 y138],.i .i64 k]=some (.i .i64 (Yy (Config.mk y122 y123 y124 y125 y126 y127 y128 y129 y130 (Lanes.mk y131 y132 y133) (Rules.mk y134 y135 y136 y137 y138)) k).2,[.agg (Q8 .mut (Yy (Config.mk y122 y123 y124 y125 y126 y127 y128 y129 y130 (Lanes.mk y131 y132 y133) (Rules.mk y134 y135 y136 y137 y138)) k).1),.u]):=Xd (0) rfl rfl (λcx h=>by
 obtain⟨q0,hq0⟩:∃q,(mkL YE y130 k).2=q:=⟨_,rfl⟩
 have b0:=Yn Z1 y130 k
 rw[hq0] at b0
 have p0:0<=k:=by omega
 simp only[Yb,hq0] at h0
 have c0:q0<=9223372036854775807:=by omega
 have d0:¬(q0<0):=by omega
 simp only[go_sem,reduceIte,↓reduceIte,reduceCtorEq,nA,nS,nM,nB,nE,nL,nT,nN,iL,iT,iE,iA,iM,iS,iG,iB,iN,iZ,h,p0,c0,d0,hq0,Yb]) (by simp only[go_sem,reduceIte,↓reduceIte,reduceCtorEq,nA,nS,nM,nB,nE,nL,nT,nN,iL,iT,iE,iA,iM,iS,iG,iB,iN,iZ,Yb,Y6,XD,XN,XF])
def Xoh:SP Tryz.prog:=mkS tyA 158 Tryz.f158 [XgG] {md:=[.mv,.ro 1],rg:=[(0,[0,1],[]),(1,[0,1,5],[]),(2,[0,1,5,9],[]),(3,[0,1,5],[]),(4,[0,1,5],[]),(5,[0,1,5],[]),(6,[0,1,5],[]),(7,[0,1,5],[]),(8,[0,4],[])],lv:=[(0,[0,1,5],[])],out:=[(0,[0,1],[])],rets:=some ([0,4],[])} Tryz.func158 (by kernel_rfl)
@[go_sem] def XHn:Xoh.g=158/\Xoh.fs=⟨[.mv,.ro 1],Xoh.F,false⟩:=⟨nr rfl,nr rfl⟩
@[go_sem] def XHo(xs:List XL)(k:Int)(h1:0<=k)(h0:(mkL Xt xs k).2<=9223372036854775807):Xoh.F [.sl .mut 2 (xs.map (Xl .mut)),.i .i64 k]=some (.i .i64 (mkL Xt xs k).2,[.sl .mut 2 ((mkL Xt xs k).1.map (Xl .mut)),.u]):=Xd (xs.length+1) rfl rfl (λcx h=>by
 have hb:=Xn Tryz.f158 0 _ _ rfl rfl
 have hx:=Zu Yr xs k
 have hr:=(XY (cx:=cx) (blk:=0) (body:=Yl Tryz.f158 0) xs (λi (s:Int)=>⟨E [(0,.sl .mut 2 ((QP Xt xs k i).map (Xl .mut))),(1,.i .i64 s),(5,.i .i64 i)],B []⟩) (λ_=>⟨E [(0,.sl .mut 2 ((mkL Xt xs k).1.map (Xl .mut))),(1,.i .i64 (mkL Xt xs k).2)],B []⟩) (λx s=>(Xt x s).2) (λi s=>s=XaX Xt xs k i)
  (λs hI G=>by simp only[go_sem,reduceIte,↓reduceIte,reduceCtorEq,nA,nS,nM,nB,nE,nL,nT,nN,iL,iT,iE,iA,iM,iS,iG,iB,iN,iZ,h,Int.lt_irrefl,hb,X5,QR,Yw,QQ,XU,hI,Y3]) (λi hk s hI=>by
   have h2:((i:Int)<(xs.length:Int)):=Int.ofNat_lt.2 hk
   have g1:=ZB Yr xs k i
   have g2:=ZC Yr xs k i hk
   rw[<-hI] at g1 g2
   have h3:=QS (f:=Xt) (Xl .mut) xs k i hk
   rw[<-hI] at h3
   simp only[Xt,Xl] at h3 g2
   have v0:(IntKind.i64).wrap (s)=s:=Xc (by omega) (by omega)
   have t1:s+1<=9223372036854775807:=by omega
   have v1:(IntKind.i64).wrap (s+1)=s+1:=Xc (by omega) (by omega)
   have t2:s+1+1<=9223372036854775807:=by omega
   have v2:(IntKind.i64).wrap (s+1+1)=s+1+1:=Xc (by omega) (by omega)
   have hL:i<((QP Xt xs k i).map (Xl .mut)).length:=by rw[List.length_map,X5]; exact hk
   have hg:=λy=>UY ((QP Xt xs k i).map (Xl .mut)) i y hL
   have hG:=λy=>QT ((QP Xt xs k i).map (Xl .mut)) i y hL
   refine⟨by rw[Yo xs k i hk,<-hI],_,λG=>by simp only[go_sem,reduceIte,↓reduceIte,reduceCtorEq,nA,nS,nM,nB,nE,nL,nT,nN,iL,iT,iE,iA,iM,iS,iG,iB,iN,iZ,h,h3,hg,hG,X5 (f:=Xt) xs k i,Qp (f:=Xt) (Xl .mut) xs k i hk,Qh (f:=Xt) (Xl .mut) xs k i hk,Yw (f:=Xt) (Xl .mut) xs k i,ZD,v0,t1,v1,t2,v2,h2,Xp _ _ hk,Xe (show i<9223372036854775807 by omega),hb]<;>with_reducible rfl,by simp only[go_sem,reduceIte,↓reduceIte,reduceCtorEq,nA,nS,nM,nB,nE,nL,nT,nN,iL,iT,iE,iA,iM,iS,iG,iB,iN,iZ,h,Xt]⟩) k rfl (xs.length+1) (Nat.le_refl _)).2
 rw[hb] at hr
 simp only[go_sem,reduceIte,↓reduceIte,reduceCtorEq,nA,nS,nM,nB,nE,nL,nT,nN,iL,iT,iE,iA,iM,iS,iG,iB,iN,iZ,h,hr,Qg]) (by simp only[go_sem,reduceIte,↓reduceIte,reduceCtorEq,nA,nS,nM,nB,nE,nL,nT,nN,iL,iT,iE,iA,iM,iS,iG,iB,iN,iZ,Y6,XD])
def XpC:SP Tryz.prog:=mkS tyA 223 Tryz.f223 [] {md:=[.mv,.ro 1],rg:=[(0,[0,1],[]),(1,[0,1,5],[]),(2,[0,1,5,9],[]),(3,[0,1,5],[]),(4,[0,1,5],[]),(5,[0,1,5],[]),(6,[0,4],[])],lv:=[(0,[0,1,5],[])],out:=[(0,[0,1],[])],rets:=some ([0,4],[])} Tryz.func223 (by kernel_rfl)
@[go_sem] def XHp:XpC.g=223/\XpC.fs=⟨[.mv,.ro 1],XpC.F,false⟩:=⟨nr rfl,nr rfl⟩
@[go_sem] def XHq(xs:List UInt8)(k:Int)(h1:0<=k)(h0:(mkL Yx xs k).2<=9223372036854775807):XpC.F [.sl .mut 1 (xs.map YL),.i .i64 k]=some (.i .i64 (mkL Yx xs k).2,[.sl .mut 1 ((mkL Yx xs k).1.map YL),.u]):=Xd (xs.length+1) rfl rfl (λcx h=>by
 have hb:=Xn Tryz.f223 0 _ _ rfl rfl
 have hx:=Zu Qi xs k
 have hr:=(XY (cx:=cx) (blk:=0) (body:=Yl Tryz.f223 0) xs (λi (s:Int)=>⟨E [(0,.sl .mut 1 ((QP Yx xs k i).map YL)),(1,.i .i64 s),(5,.i .i64 i)],B []⟩) (λ_=>⟨E [(0,.sl .mut 1 ((mkL Yx xs k).1.map YL)),(1,.i .i64 (mkL Yx xs k).2)],B []⟩) (λx s=>(Yx x s).2) (λi s=>s=XaX Yx xs k i)
  (λs hI G=>by simp only[go_sem,reduceIte,↓reduceIte,reduceCtorEq,nA,nS,nM,nB,nE,nL,nT,nN,iL,iT,iE,iA,iM,iS,iG,iB,iN,iZ,h,Int.lt_irrefl,hb,X5,QR,Yw,QQ,XU,hI,Y3]) (λi hk s hI=>by
   have h2:((i:Int)<(xs.length:Int)):=Int.ofNat_lt.2 hk
   have g1:=ZB Qi xs k i
   have g2:=ZC Qi xs k i hk
   rw[<-hI] at g1 g2
   have h3:=QS (f:=Yx) YL xs k i hk
   rw[<-hI] at h3
   simp only[Yx,YL] at h3 g2
   have v0:(IntKind.i64).wrap (s)=s:=Xc (by omega) (by omega)
   have v1:(IntKind.i64).wrap (s+1)=s+1:=Xc (by omega) (by omega)
   have hL:i<((QP Yx xs k i).map YL).length:=by rw[List.length_map,X5]; exact hk
   have hg:=λy=>UY ((QP Yx xs k i).map YL) i y hL
   have hG:=λy=>QT ((QP Yx xs k i).map YL) i y hL
   refine⟨by rw[Yo xs k i hk,<-hI],_,λG=>by simp only[go_sem,reduceIte,↓reduceIte,reduceCtorEq,nA,nS,nM,nB,nE,nL,nT,nN,iL,iT,iE,iA,iM,iS,iG,iB,iN,iZ,h,h3,hg,hG,X5 (f:=Yx) xs k i,Qp (f:=Yx) YL xs k i hk,Qh (f:=Yx) YL xs k i hk,Yw (f:=Yx) YL xs k i,ZD,v0,v1,h2,Xp _ _ hk,Xe (show i<9223372036854775807 by omega),hb]<;>with_reducible rfl,by simp only[go_sem,reduceIte,↓reduceIte,reduceCtorEq,nA,nS,nM,nB,nE,nL,nT,nN,iL,iT,iE,iA,iM,iS,iG,iB,iN,iZ,h,Yx]⟩) k rfl (xs.length+1) (Nat.le_refl _)).2
 rw[hb] at hr
 simp only[go_sem,reduceIte,↓reduceIte,reduceCtorEq,nA,nS,nM,nB,nE,nL,nT,nN,iL,iT,iE,iA,iM,iS,iG,iB,iN,iZ,h,hr,Qg]) (by simp only[go_sem,reduceIte,↓reduceIte,reduceCtorEq,nA,nS,nM,nB,nE,nL,nT,nN,iL,iT,iE,iA,iM,iS,iG,iB,iN,iZ,Y6,XD])
def XpD:SP Tryz.prog:=mkS tyA 155 Tryz.f155 [s44,XgG,Xoh,XpC] {md:=[.mv,.ro 1],rg:=[(0,[0,1],[]),(1,[0,1,5],[]),(2,[0,1,5,9],[]),(3,[0,1,5],[]),(4,[0,1,5],[]),(5,[0,1,5],[]),(6,[0,1,5],[]),(7,[0,1,5],[]),(8,[0,1,5],[]),(9,[0,1,5],[]),(10,[0,1,5],[]),(11,[0,1,5],[]),(12,[0,1,5],[]),(13,[0,1,5],[]),(14,[0,1,5],[]),(15,[0,1,5],[]),(16,[0,1,5],[]),(17,[0,1,5],[]),(18,[0,1,5],[]),(19,[0,1,5],[]),(20,[0,1,5],[]),(21,[0,1,5],[]),(22,[0,1,5],[]),(23,[0,1,5],[]),(24,[0,1,5],[]),(25,[0,1,5],[]),(26,[0,1,5],[]),(27,[0,4],[])],lv:=[(0,[0,1,5],[])],out:=[(0,[0,1],[])],rets:=some ([0,4],[])} Tryz.func155 (by kernel_rfl)
@[go_sem] def XHr:XpD.g=155/\XpD.fs=⟨[.mv,.ro 1],XpD.F,false⟩:=⟨nr rfl,nr rfl⟩
@[go_sem] def XHs(xs:List XM)(k:Int)(h1:0<=k)(h0:(mkL Xk xs k).2<=9223372036854775807):XpD.F [.sl .mut 13 (xs.map (Xa .mut)),.i .i64 k]=some (.i .i64 (mkL Xk xs k).2,[.sl .mut 13 ((mkL Xk xs k).1.map (Xa .mut)),.u]):=Xd (xs.length+1) rfl rfl (λcx h=>by
 have hb:=Xn Tryz.f155 0 _ _ rfl rfl
 have hx:=Zu YM xs k
 have hr:=(XY (cx:=cx) (blk:=0) (body:=Yl Tryz.f155 0) xs (λi (s:Int)=>⟨E [(0,.sl .mut 13 ((QP Xk xs k i).map (Xa .mut))),(1,.i .i64 s),(5,.i .i64 i)],B []⟩) (λ_=>⟨E [(0,.sl .mut 13 ((mkL Xk xs k).1.map (Xa .mut))),(1,.i .i64 (mkL Xk xs k).2)],B []⟩) (λx s=>(Xk x s).2) (λi s=>s=XaX Xk xs k i)
  (λs hI G=>by simp only[go_sem,reduceIte,↓reduceIte,reduceCtorEq,nA,nS,nM,nB,nE,nL,nT,nN,iL,iT,iE,iA,iM,iS,iG,iB,iN,iZ,h,Int.lt_irrefl,hb,X5,QR,Yw,QQ,XU,hI,Y3]) (λi hk s hI=>by
   have h2:((i:Int)<(xs.length:Int)):=Int.ofNat_lt.2 hk
   have g1:=ZB YM xs k i
   have g2:=ZC YM xs k i hk
   rw[<-hI] at g1 g2
   obtain⟨q0,hq0⟩:∃q,(mkL Xt xs[i].Headers (s+1+1)).2=q:=⟨_,rfl⟩
   have b0:=Yn Yr xs[i].Headers (s+1+1)
   rw[hq0] at b0
   obtain⟨q1,hq1⟩:∃q,(mkL Yx xs[i].Body (q0)).2=q:=⟨_,rfl⟩
   have b1:=Yn Qi xs[i].Body (q0)
   rw[hq1] at b1
   obtain⟨q2,hq2⟩:∃q,(mkL YE xs[i].Tags (q1+1+1+1+1+1+1+1)).2=q:=⟨_,rfl⟩
   have b2:=Yn Z1 xs[i].Tags (q1+1+1+1+1+1+1+1)
   rw[hq2] at b2
   have h3:=QS (f:=Xk) (Xa .mut) xs k i hk
   rw[<-hI] at h3
   simp only[Xk,Xa,hq0,hq1,hq2] at h3 g2
   have v0:(IntKind.i64).wrap (s)=s:=Xc (by omega) (by omega)
   have t1:s+1<=9223372036854775807:=by omega
   have v1:(IntKind.i64).wrap (s+1)=s+1:=Xc (by omega) (by omega)
   have v2:(IntKind.i64).wrap (s+1+1)=s+1+1:=Xc (by omega) (by omega)
   have p0:0<=s+1+1:=by omega
   have c0:q0<=9223372036854775807:=by omega
   have d0:¬(q0<0):=by omega
   have v3:(IntKind.i64).wrap (q0)=q0:=Xc (by omega) (by omega)
   have p1:0<=q0:=by omega
   have c1:q1<=9223372036854775807:=by omega
   have d1:¬(q1<0):=by omega
   have v4:(IntKind.i64).wrap (q1)=q1:=Xc (by omega) (by omega)
   have v5:(IntKind.i64).wrap (q1+1)=q1+1:=Xc (by omega) (by omega)
   have v6:(IntKind.i64).wrap (q1+1+1)=q1+1+1:=Xc (by omega) (by omega)
   have v7:(IntKind.i64).wrap (q1+1+1+1)=q1+1+1+1:=Xc (by omega) (by omega)
   have v8:(IntKind.i64).wrap (q1+1+1+1+1)=q1+1+1+1+1:=Xc (by omega) (by omega)
   have v9:(IntKind.i64).wrap (q1+1+1+1+1+1)=q1+1+1+1+1+1:=Xc (by omega) (by omega)
   have v10:(IntKind.i64).wrap (q1+1+1+1+1+1+1)=q1+1+1+1+1+1+1:=Xc (by omega) (by omega)
   have v11:(IntKind.i64).wrap (q1+1+1+1+1+1+1+1)=q1+1+1+1+1+1+1+1:=Xc (by omega) (by omega)
   have p2:0<=q1+1+1+1+1+1+1+1:=by omega
   have c2:q2<=9223372036854775807:=by omega
   have d2:¬(q2<0):=by omega
   have v12:(IntKind.i64).wrap (q2)=q2:=Xc (by omega) (by omega)
   have v13:(IntKind.i64).wrap (q2+1)=q2+1:=Xc (by omega) (by omega)
   have hL:i<((QP Xk xs k i).map (Xa .mut)).length:=by rw[List.length_map,X5]; exact hk
   have hg:=λy=>UY ((QP Xk xs k i).map (Xa .mut)) i y hL
   have hG:=λy=>QT ((QP Xk xs k i).map (Xa .mut)) i y hL
   refine⟨by rw[Yo xs k i hk,<-hI],_,λG=>by simp only[go_sem,reduceIte,↓reduceIte,reduceCtorEq,nA,nS,nM,nB,nE,nL,nT,nN,iL,iT,iE,iA,iM,iS,iG,iB,iN,iZ,h,h3,hg,hG,X5 (f:=Xk) xs k i,Qp (f:=Xk) (Xa .mut) xs k i hk,Qh (f:=Xk) (Xa .mut) xs k i hk,Yw (f:=Xk) (Xa .mut) xs k i,ZD,hq0,hq1,hq2,v0,t1,v1,v2,p0,c0,d0,v3,p1,c1,d1,v4,v5,v6,v7,v8,v9,v10,v11,p2,c2,d2,v12,v13,h2,Xp _ _ hk,Xe (show i<9223372036854775807 by omega),hb]<;>with_reducible rfl,by simp only[go_sem,reduceIte,↓reduceIte,reduceCtorEq,nA,nS,nM,nB,nE,nL,nT,nN,iL,iT,iE,iA,iM,iS,iG,iB,iN,iZ,h,Xk,hq0,hq1,hq2]⟩) k rfl (xs.length+1) (Nat.le_refl _)).2
 rw[hb] at hr
 simp only[go_sem,reduceIte,↓reduceIte,reduceCtorEq,nA,nS,nM,nB,nE,nL,nT,nN,iL,iT,iE,iA,iM,iS,iG,iB,iN,iZ,h,hr,Qg]) (by simp only[go_sem,reduceIte,↓reduceIte,reduceCtorEq,nA,nS,nM,nB,nE,nL,nT,nN,iL,iT,iE,iA,iM,iS,iG,iB,iN,iZ,Y6,XD])
end
end Go.Vm.A
