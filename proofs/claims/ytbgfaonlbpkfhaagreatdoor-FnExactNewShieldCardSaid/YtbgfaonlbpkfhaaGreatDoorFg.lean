/- Functions of the program, walked by the evaluator. -/
import Derived.Test.YtbgfaonlbpkfhaaGreatDoorWb
import Derived.Test.YtbgfaonlbpkfhaaGreatDoorWa
import Derived.Test.YtbgfaonlbpkfhaaGreatDoorFf
set_option linter.unusedVariables false
set_option linter.unusedSimpArgs false
set_option autoImplicit false
set_option maxRecDepth 100000
set_option maxHeartbeats 4000000
set_option linter.defProp false
namespace Go.Vm.A
open Go.Proofs
open Nat renaming reduceAdd -> nA, reduceSub -> nS, reduceMul -> nM, reduceBEq -> nB, reduceEqDiff -> nE, reduceLeDiff -> nL, reduceLT -> nT, reduceBneDiff -> nN
open Int renaming reduceLE -> iL, reduceLT -> iT, reduceEq -> iE, reduceAdd -> iA, reduceMul -> iM, reduceSub -> iS, reduceNeg -> iG, reduceBEq -> iB, reduceBNe -> iN, reduceToNat -> iZ
noncomputable section
def s13:SP Tryz.prog:=mkS tyA 13 Tryz.f13 [s41,s42,s43] {md:=[.ro 1,.ro 1],rg:=[(0,[2,3],[2,3]),(1,[2,3,9],[2,3]),(2,[4],[]),(3,[2,3,14],[2,3]),(4,[4],[]),(5,[2,3,19],[2,3]),(6,[4],[]),(7,[2,3,24],[2,3]),(8,[4],[]),(9,[2,3,29],[2,3]),(10,[4],[]),(11,[2,3,34],[2,3]),(12,[4],[]),(13,[2,3,39],[2,3]),(14,[4],[]),(15,[2,3,44],[2,3]),(16,[4],[]),(17,[2,3,50],[2,3]),(18,[4],[]),(19,[2,3,56],[2,3]),(20,[4],[]),(21,[62],[]),(22,[4],[]),(23,[4],[])],rets:=some ([4],[])} Tryz.func13 (by kernel_rfl)
@[go_sem] def d13:s13.g=13/\s13.fs=⟨[.ro 1,.ro 1],s13.F,false⟩:=⟨nr rfl,nr rfl⟩
@[go_sem] def e13(w0 w1 w2 w3 w4 w5 w6 w7:Int)(w9:List ByteArray)(w10 w11 w12 w13 w14 w15 w16 w17 w18 w19 w20 w21 w22 w23 w24 w25:Int)(w26:List ByteArray)(w28 w29 w30 w31 w32 w33 w34 w35:Int)(h0:Qq (Config.mk w0 w1 w2 w3 w4 w5 w6 w7 w9 (Lanes.mk w10 w11 w12) (Rules.mk w13 w14 w15 w16 w17))):s13.F [.agg [.i .i64 w0,.i .i64 w1,.i .i64 w2,.i .i64 w3,.i .i64 w4,.i .i64 w5,.i .i64 w6,.i .i64 w7,.sl .ro 1 (w9.map Yf),.i .i64 w10,.i .i64 w11,.i .i64 w12,.i .i64 w13,.i .i64 w14,.i .i64 w15,.i .i64 w16,.i .i64 w17],.agg [.i .i64 w18,.i .i64 w19,.i .i64 w20,.i .i64 w21,.i .i64 w22,.i .i64 w23,.i .i64 w24,.i .i64 w25,.sl .ro 1 (w26.map Yf),.i .i64 w28,.i .i64 w29,.i .i64 w30,.i .i64 w31,.i .i64 w32,.i .i64 w33,.i .i64 w34,.i .i64 w35]]=some (.b (eqv (Config.mk w0 w1 w2 w3 w4 w5 w6 w7 w9 (Lanes.mk w10 w11 w12) (Rules.mk w13 w14 w15 w16 w17)) (Config.mk w18 w19 w20 w21 w22 w23 w24 w25 w26 (Lanes.mk w28 w29 w30) (Rules.mk w31 w32 w33 w34 w35))),[.u,.u]):=Xd (0) rfl rfl (λcx h=>by
 obtain⟨q0,q1,q2,q3,q4,q5,q6,q7,q8,q9,q10⟩:=h0
 simp only[go_sem,reduceIte,↓reduceIte,reduceCtorEq,nA,nS,nM,nB,nE,nL,nT,nN,iL,iT,iE,iA,iM,iS,iG,iB,iN,iZ,h,YI,X8,X9,q0,q1,q2,q3,q4,q5,q6,q7,q8,q9,q10]
 simp only[Y2,ZA,Config.eqv (Config.mk w0 w1 w2 w3 w4 w5 w6 w7 w9 (Lanes.mk w10 w11 w12) (Rules.mk w13 w14 w15 w16 w17)) (Config.mk w18 w19 w20 w21 w22 w23 w24 w25 w26 (Lanes.mk w28 w29 w30) (Rules.mk w31 w32 w33 w34 w35)),Xfw,Zb,Xat,Bool.and_true]) (rfl)
def Xpn:SP Tryz.prog:=mkS tyA 277 Tryz.f277 [] {md:=[.ro 1,.ro 1],rg:=[(0,[2,3],[2,3]),(1,[2,3,9],[2,3]),(2,[4],[]),(3,[14],[]),(4,[4],[]),(5,[4],[])],rets:=some ([4],[])} Tryz.func277 (by kernel_rfl)
@[go_sem] def XGP:Xpn.g=277/\Xpn.fs=⟨[.ro 1,.ro 1],Xpn.F,false⟩:=⟨nr rfl,nr rfl⟩
@[go_sem] def XGQ(w8 w36 w27 w37:ByteArray)(h0:Yv (XL.mk w8 w36)):Xpn.F [.agg [.s w8,.s w36],.agg [.s w27,.s w37]]=some (.b (eqv (XL.mk w8 w36) (XL.mk w27 w37)),[.u,.u]):=Xd (0) rfl rfl (λcx h=>by
 obtain⟨q0,q1⟩:=h0
 simp only[go_sem,reduceIte,↓reduceIte,reduceCtorEq,nA,nS,nM,nB,nE,nL,nT,nN,iL,iT,iE,iA,iM,iS,iG,iB,iN,iZ,h,YI,X8,X9,q0,q1]
 simp only[Y2,ZA,XL.eqv (XL.mk w8 w36) (XL.mk w27 w37),Xfw,Zb,Xat,Bool.and_true]) (rfl)
def Xog:SP Tryz.prog:=mkS tyA 254 Tryz.f254 [Xpn] {md:=[.ro 1,.ro 1],rg:=[(0,[0,1],[]),(1,[0,1,10],[]),(2,[4],[]),(3,[0,1,5],[]),(4,[0,1,5,14],[]),(5,[0,1,5],[]),(6,[0,1,5,26],[]),(7,[4],[]),(8,[4],[])],lv:=[(0,[0,1,5],[])],out:=[(0,[],[])],rets:=some ([4],[]),plan:=[(6,(.take 0 (.take 1 (.take 2 (.take 3 (.take 4 (.take 5 (.take 6 (.take 7 (.one 8 (.take 9 .done)))))))))))]} Tryz.func254 (by kernel_rfl)
@[go_sem] def XGR:Xog.g=254/\Xog.fs=⟨[.ro 1,.ro 1],Xog.F,false⟩:=⟨nr rfl,nr rfl⟩
@[go_sem] def XGS(xs ys:List XL)(h0:smL Yv xs):Xog.F [.sl .ro 2 (xs.map (Xl .ro)),.sl .ro 2 (ys.map (Xl .ro))]=some (.b (eqv xs ys),[.u,.u]):=Xd (xs.length+1) rfl rfl (λcx h=>by
 have hb:=Xn Tryz.f254 0 _ _ rfl rfl
 have hx:=h0.1
 by_cases hl:xs.length=ys.length
 ·obtain⟨r,hr,hq⟩:=Zx (cx:=cx) (blk:=0) (body:=Yl Tryz.f254 0) (xs.zip ys) (λk (_:Unit)=>⟨E [(0,.sl .ro 2 (xs.map (Xl .ro))),(1,.sl .ro 2 (ys.map (Xl .ro))),(5,.i .i64 k)],B []⟩) (λ_=>⟨E [],B []⟩) (λx _=>!eqv x.1 x.2) (λ_ _=>()) (λ_ _=>(.ret,⟨E [(4,.b false)],B []⟩)) (λ_ _=>True)
   (λl _ G=>by simp only[go_sem,reduceIte,↓reduceIte,reduceCtorEq,nA,nS,nM,nB,nE,nL,nT,nN,iL,iT,iE,iA,iM,iS,iG,iB,iN,iZ,h,YC hl,hl,Int.lt_irrefl,hb]) (λk hk l _=>by
    have hk:k<xs.length:=by rwa [YC hl] at hk
    have h1:((k:Int)<(xs.length:Int)):=Int.ofNat_lt.2 hk
    have h2:=h0.2 _ (List.getElem_mem hk)
    have h3:(xs.zip ys)[k]=(xs[k],ys[k]'(by omega)):=by simp
    rw[h3]
    cases hc:eqv xs[k] (ys[k]'(by omega))
    ·exact .inl ⟨rfl,λG=>by simp only[go_sem,reduceIte,↓reduceIte,reduceCtorEq,nA,nS,nM,nB,nE,nL,nT,nN,iL,iT,iE,iA,iM,iS,iG,iB,iN,iZ,h,hc,XP (Xl .ro) xs k hk,XP (Xl .ro) ys k (by omega),Xp ys.length k (by omega),h2,h1,Xp _ _ hk,Xe (show k<9223372036854775807 by omega),hb]⟩
    ·exact .inr ⟨rfl,trivial,_,λG=>by simp only[go_sem,reduceIte,↓reduceIte,reduceCtorEq,nA,nS,nM,nB,nE,nL,nT,nN,iL,iT,iE,iA,iM,iS,iG,iB,iN,iZ,h,hc,XP (Xl .ro) xs k hk,XP (Xl .ro) ys k (by omega),Xp ys.length k (by omega),h2,h1,Xp _ _ hk,Xe (show k<9223372036854775807 by omega),hb]<;>with_reducible rfl,by simp only[go_sem,reduceIte,↓reduceIte,reduceCtorEq,nA,nS,nM,nB,nE,nL,nT,nN,iL,iT,iE,iA,iM,iS,iG,iB,iN,iZ,h]⟩) () trivial (xs.length+1) (by rw[YC hl]; exact Nat.le_refl _)
  rw[hb] at hr
  have hl2:((xs.length:Int) !=(ys.length:Int))=false:=by simp[hl]
  rcases hq with⟨s',e1,e2,e3⟩ | ⟨x,s',e1,e3⟩
  ·simp only[go_sem,reduceIte,↓reduceIte,reduceCtorEq,nA,nS,nM,nB,nE,nL,nT,nN,iL,iT,iE,iA,iM,iS,iG,iB,iN,iZ,h,hl2,hr,e3,Um hl e1]
  ·simp only[go_sem,reduceIte,↓reduceIte,reduceCtorEq,nA,nS,nM,nB,nE,nL,nT,nN,iL,iT,iE,iA,iM,iS,iG,iB,iN,iZ,h,hl2,hr,e3,Un hl e1]
 ·have hl2:((xs.length:Int) !=(ys.length:Int))=true:=by simpa using λh=>hl (Int.ofNat_inj.1 h)
  simp only[go_sem,reduceIte,↓reduceIte,reduceCtorEq,nA,nS,nM,nB,nE,nL,nT,nN,iL,iT,iE,iA,iM,iS,iG,iB,iN,iZ,h,hl2,U1 hl]) (rfl)
def Xpo:SP Tryz.prog:=mkS tyA 255 Tryz.f255 [] {md:=[.ro 1,.ro 1],rg:=[(0,[0,1],[]),(1,[0,1,10],[]),(2,[4],[]),(3,[0,1,5],[]),(4,[0,1,5,14],[]),(5,[0,1,5],[]),(6,[0,1,5,25],[]),(7,[4],[]),(8,[4],[])],lv:=[(0,[0,1,5],[])],out:=[(0,[],[])],rets:=some ([4],[]),plan:=[(6,(.take 0 (.take 1 (.take 2 (.take 3 (.take 4 (.take 5 (.take 6 (.take 7 (.take 8 .done))))))))))]} Tryz.func255 (by kernel_rfl)
@[go_sem] def XGT:Xpo.g=255/\Xpo.fs=⟨[.ro 1,.ro 1],Xpo.F,false⟩:=⟨nr rfl,nr rfl⟩
@[go_sem] def XGU(xs ys:List UInt8)(h0:smL Xfv xs):Xpo.F [.sl .ro 1 (xs.map YL),.sl .ro 1 (ys.map YL)]=some (.b (eqv xs ys),[.u,.u]):=Xd (xs.length+1) rfl rfl (λcx h=>by
 have hb:=Xn Tryz.f255 0 _ _ rfl rfl
 have hx:=h0.1
 by_cases hl:xs.length=ys.length
 ·obtain⟨r,hr,hq⟩:=Zx (cx:=cx) (blk:=0) (body:=Yl Tryz.f255 0) (xs.zip ys) (λk (_:Unit)=>⟨E [(0,.sl .ro 1 (xs.map YL)),(1,.sl .ro 1 (ys.map YL)),(5,.i .i64 k)],B []⟩) (λ_=>⟨E [],B []⟩) (λx _=>!eqv x.1 x.2) (λ_ _=>()) (λ_ _=>(.ret,⟨E [(4,.b false)],B []⟩)) (λ_ _=>True)
   (λl _ G=>by simp only[go_sem,reduceIte,↓reduceIte,reduceCtorEq,nA,nS,nM,nB,nE,nL,nT,nN,iL,iT,iE,iA,iM,iS,iG,iB,iN,iZ,h,YC hl,hl,Int.lt_irrefl,hb]) (λk hk l _=>by
    have hk:k<xs.length:=by rwa [YC hl] at hk
    have h1:((k:Int)<(xs.length:Int)):=Int.ofNat_lt.2 hk
    have h2:=h0.2 _ (List.getElem_mem hk)
    have h3:(xs.zip ys)[k]=(xs[k],ys[k]'(by omega)):=by simp
    rw[h3]
    cases hc:eqv xs[k] (ys[k]'(by omega))
    ·exact .inl ⟨rfl,λG=>by simp only[go_sem,reduceIte,↓reduceIte,reduceCtorEq,nA,nS,nM,nB,nE,nL,nT,nN,iL,iT,iE,iA,iM,iS,iG,iB,iN,iZ,h,hc,XP YL xs k hk,XP YL ys k (by omega),Xp ys.length k (by omega),XgX,h1,Xp _ _ hk,Xe (show k<9223372036854775807 by omega),hb]⟩
    ·exact .inr ⟨rfl,trivial,_,λG=>by simp only[go_sem,reduceIte,↓reduceIte,reduceCtorEq,nA,nS,nM,nB,nE,nL,nT,nN,iL,iT,iE,iA,iM,iS,iG,iB,iN,iZ,h,hc,XP YL xs k hk,XP YL ys k (by omega),Xp ys.length k (by omega),XgX,h1,Xp _ _ hk,Xe (show k<9223372036854775807 by omega),hb]<;>with_reducible rfl,by simp only[go_sem,reduceIte,↓reduceIte,reduceCtorEq,nA,nS,nM,nB,nE,nL,nT,nN,iL,iT,iE,iA,iM,iS,iG,iB,iN,iZ,h]⟩) () trivial (xs.length+1) (by rw[YC hl]; exact Nat.le_refl _)
  rw[hb] at hr
  have hl2:((xs.length:Int) !=(ys.length:Int))=false:=by simp[hl]
  rcases hq with⟨s',e1,e2,e3⟩ | ⟨x,s',e1,e3⟩
  ·simp only[go_sem,reduceIte,↓reduceIte,reduceCtorEq,nA,nS,nM,nB,nE,nL,nT,nN,iL,iT,iE,iA,iM,iS,iG,iB,iN,iZ,h,hl2,hr,e3,Um hl e1]
  ·simp only[go_sem,reduceIte,↓reduceIte,reduceCtorEq,nA,nS,nM,nB,nE,nL,nT,nN,iL,iT,iE,iA,iM,iS,iG,iB,iN,iZ,h,hl2,hr,e3,Un hl e1]
 ·have hl2:((xs.length:Int) !=(ys.length:Int))=true:=by simpa using λh=>hl (Int.ofNat_inj.1 h)
  simp only[go_sem,reduceIte,↓reduceIte,reduceCtorEq,nA,nS,nM,nB,nE,nL,nT,nN,iL,iT,iE,iA,iM,iS,iG,iB,iN,iZ,h,hl2,U1 hl]) (rfl)
def Xpp:SP Tryz.prog:=mkS tyA 256 Tryz.f256 [] {md:=[.ro 1,.ro 1],rg:=[(0,[2,3],[2,3]),(1,[2,3,9],[2,3]),(2,[4],[]),(3,[2,3,14],[2,3]),(4,[4],[]),(5,[2,3,19],[2,3]),(6,[4],[]),(7,[2,3,24],[2,3]),(8,[4],[]),(9,[2,3,29],[2,3]),(10,[4],[]),(11,[2,3,34],[2,3]),(12,[4],[]),(13,[39],[]),(14,[4],[]),(15,[4],[])],rets:=some ([4],[])} Tryz.func256 (by kernel_rfl)
@[go_sem] def XGV:Xpp.g=256/\Xpp.fs=⟨[.ro 1,.ro 1],Xpp.F,false⟩:=⟨nr rfl,nr rfl⟩
@[go_sem] def XGW(xAt w38 w39 w40 w41:Int)(w42 w43:Bool)(yAt w44 w45 w46 w47:Int)(w48 w49:Bool)(h0:XlZ (Meta.mk xAt w38 w39 w40 w41 w42 w43)):Xpp.F [.agg [.i .i64 xAt,.i .i64 w38,.i .i64 w39,.i .i64 w40,.i .i64 w41,.b w42,.b w43],.agg [.i .i64 yAt,.i .i64 w44,.i .i64 w45,.i .i64 w46,.i .i64 w47,.b w48,.b w49]]=some (.b (eqv (Meta.mk xAt w38 w39 w40 w41 w42 w43) (Meta.mk yAt w44 w45 w46 w47 w48 w49)),[.u,.u]):=Xd (0) rfl rfl (λcx h=>by
 obtain⟨q0,q1,q2,q3,q4,q5,q6⟩:=h0
 simp only[go_sem,reduceIte,↓reduceIte,reduceCtorEq,nA,nS,nM,nB,nE,nL,nT,nN,iL,iT,iE,iA,iM,iS,iG,iB,iN,iZ,h,YI,X8,X9,q0,q1,q2,q3,q4,q5,q6]
 simp only[Y2,ZA,Meta.eqv (Meta.mk xAt w38 w39 w40 w41 w42 w43) (Meta.mk yAt w44 w45 w46 w47 w48 w49),Xfw,Zb,Xat,Bool.and_true]) (rfl)
def Xpq:SP Tryz.prog:=mkS tyA 216 Tryz.f216 [s41,Xog,Xpo,Xpp] {md:=[.ro 1,.ro 1],rg:=[(0,[2,3],[2,3]),(1,[2,3,9],[2,3]),(2,[4],[]),(3,[2,3,14],[2,3]),(4,[4],[]),(5,[2,3,20],[2,3]),(6,[4],[]),(7,[2,3,26],[2,3]),(8,[4],[]),(9,[2,3,32],[2,3]),(10,[4],[]),(11,[2,3,38],[2,3]),(12,[4],[]),(13,[43],[]),(14,[4],[]),(15,[4],[])],rets:=some ([4],[])} Tryz.func216 (by kernel_rfl)
@[go_sem] def XGX:Xpq.g=216/\Xpq.fs=⟨[.ro 1,.ro 1],Xpq.F,false⟩:=⟨nr rfl,nr rfl⟩
@[go_sem] def XGY(w50:ByteArray)(w51:Int)(w53:List XL)(w54:List UInt8)(w55 w56 w57 w58 w59:Int)(w60 w61:Bool)(w62:List ByteArray)(w63:Int)(w64:ByteArray)(w65:Int)(w66:List XL)(w68:List UInt8)(w69 w70 w71 w72 w73:Int)(w74 w75:Bool)(w76:List ByteArray)(w77:Int)(h0:Y0 (XM.mk w50 w51 w53 w54 (Meta.mk w55 w56 w57 w58 w59 w60 w61) w62 w63)):Xpq.F [.agg [.s w50,.i .i64 w51,.sl .ro 2 (w53.map (Xl .ro)),.sl .ro 1 (w54.map YL),.i .i64 w55,.i .i64 w56,.i .i64 w57,.i .i64 w58,.i .i64 w59,.b w60,.b w61,.sl .ro 1 (w62.map Yf),.i .i64 w63],.agg [.s w64,.i .i64 w65,.sl .ro 2 (w66.map (Xl .ro)),.sl .ro 1 (w68.map YL),.i .i64 w69,.i .i64 w70,.i .i64 w71,.i .i64 w72,.i .i64 w73,.b w74,.b w75,.sl .ro 1 (w76.map Yf),.i .i64 w77]]=some (.b (eqv (XM.mk w50 w51 w53 w54 (Meta.mk w55 w56 w57 w58 w59 w60 w61) w62 w63) (XM.mk w64 w65 w66 w68 (Meta.mk w69 w70 w71 w72 w73 w74 w75) w76 w77)),[.u,.u]):=Xd (0) rfl rfl (λcx h=>by
 obtain⟨q0,q1,q2,q3,q4,q5,q6⟩:=h0
 simp only[go_sem,reduceIte,↓reduceIte,reduceCtorEq,nA,nS,nM,nB,nE,nL,nT,nN,iL,iT,iE,iA,iM,iS,iG,iB,iN,iZ,h,YI,X8,X9,q0,q1,q2,q3,q4,q5,q6]
 simp only[Y2,ZA,XM.eqv (XM.mk w50 w51 w53 w54 (Meta.mk w55 w56 w57 w58 w59 w60 w61) w62 w63) (XM.mk w64 w65 w66 w68 (Meta.mk w69 w70 w71 w72 w73 w74 w75) w76 w77),Xfw,Zb,Xat,Bool.and_true]) (rfl)
def Xpr:SP Tryz.prog:=mkS tyA 147 Tryz.f147 [Xpq] {md:=[.ro 1,.ro 1],rg:=[(0,[0,1],[]),(1,[0,1,10],[]),(2,[4],[]),(3,[0,1,5],[]),(4,[0,1,5,14],[]),(5,[0,1,5],[]),(6,[0,1,5,26],[]),(7,[4],[]),(8,[4],[])],lv:=[(0,[0,1,5],[])],out:=[(0,[],[])],rets:=some ([4],[]),plan:=[(6,(.take 0 (.take 1 (.take 2 (.take 3 (.take 4 (.take 5 (.take 6 (.take 7 (.one 8 (.take 9 .done)))))))))))]} Tryz.func147 (by kernel_rfl)
@[go_sem] def XGZ:Xpr.g=147/\Xpr.fs=⟨[.ro 1,.ro 1],Xpr.F,false⟩:=⟨nr rfl,nr rfl⟩
@[go_sem] def XG0(xs ys:List XM)(h0:smL Y0 xs):Xpr.F [.sl .ro 13 (xs.map (Xa .ro)),.sl .ro 13 (ys.map (Xa .ro))]=some (.b (eqv xs ys),[.u,.u]):=Xd (xs.length+1) rfl rfl (λcx h=>by
 have hb:=Xn Tryz.f147 0 _ _ rfl rfl
 have hx:=h0.1
 by_cases hl:xs.length=ys.length
 ·obtain⟨r,hr,hq⟩:=Zx (cx:=cx) (blk:=0) (body:=Yl Tryz.f147 0) (xs.zip ys) (λk (_:Unit)=>⟨E [(0,.sl .ro 13 (xs.map (Xa .ro))),(1,.sl .ro 13 (ys.map (Xa .ro))),(5,.i .i64 k)],B []⟩) (λ_=>⟨E [],B []⟩) (λx _=>!eqv x.1 x.2) (λ_ _=>()) (λ_ _=>(.ret,⟨E [(4,.b false)],B []⟩)) (λ_ _=>True)
   (λl _ G=>by simp only[go_sem,reduceIte,↓reduceIte,reduceCtorEq,nA,nS,nM,nB,nE,nL,nT,nN,iL,iT,iE,iA,iM,iS,iG,iB,iN,iZ,h,YC hl,hl,Int.lt_irrefl,hb]) (λk hk l _=>by
    have hk:k<xs.length:=by rwa [YC hl] at hk
    have h1:((k:Int)<(xs.length:Int)):=Int.ofNat_lt.2 hk
    have h2:=h0.2 _ (List.getElem_mem hk)
    have h3:(xs.zip ys)[k]=(xs[k],ys[k]'(by omega)):=by simp
    rw[h3]
    cases hc:eqv xs[k] (ys[k]'(by omega))
    ·exact .inl ⟨rfl,λG=>by simp only[go_sem,reduceIte,↓reduceIte,reduceCtorEq,nA,nS,nM,nB,nE,nL,nT,nN,iL,iT,iE,iA,iM,iS,iG,iB,iN,iZ,h,hc,XP (Xa .ro) xs k hk,XP (Xa .ro) ys k (by omega),Xp ys.length k (by omega),h2,h1,Xp _ _ hk,Xe (show k<9223372036854775807 by omega),hb]⟩
    ·exact .inr ⟨rfl,trivial,_,λG=>by simp only[go_sem,reduceIte,↓reduceIte,reduceCtorEq,nA,nS,nM,nB,nE,nL,nT,nN,iL,iT,iE,iA,iM,iS,iG,iB,iN,iZ,h,hc,XP (Xa .ro) xs k hk,XP (Xa .ro) ys k (by omega),Xp ys.length k (by omega),h2,h1,Xp _ _ hk,Xe (show k<9223372036854775807 by omega),hb]<;>with_reducible rfl,by simp only[go_sem,reduceIte,↓reduceIte,reduceCtorEq,nA,nS,nM,nB,nE,nL,nT,nN,iL,iT,iE,iA,iM,iS,iG,iB,iN,iZ,h]⟩) () trivial (xs.length+1) (by rw[YC hl]; exact Nat.le_refl _)
  rw[hb] at hr
  have hl2:((xs.length:Int) !=(ys.length:Int))=false:=by simp[hl]
  rcases hq with⟨s',e1,e2,e3⟩ | ⟨x,s',e1,e3⟩
  ·simp only[go_sem,reduceIte,↓reduceIte,reduceCtorEq,nA,nS,nM,nB,nE,nL,nT,nN,iL,iT,iE,iA,iM,iS,iG,iB,iN,iZ,h,hl2,hr,e3,Um hl e1]
  ·simp only[go_sem,reduceIte,↓reduceIte,reduceCtorEq,nA,nS,nM,nB,nE,nL,nT,nN,iL,iT,iE,iA,iM,iS,iG,iB,iN,iZ,h,hl2,hr,e3,Un hl e1]
 ·have hl2:((xs.length:Int) !=(ys.length:Int))=true:=by simpa using λh=>hl (Int.ofNat_inj.1 h)
  simp only[go_sem,reduceIte,↓reduceIte,reduceCtorEq,nA,nS,nM,nB,nE,nL,nT,nN,iL,iT,iE,iA,iM,iS,iG,iB,iN,iZ,h,hl2,U1 hl]) (rfl)
def s70:SP Tryz.prog:=mkS tyA 70 Tryz.f70 [Xpr] {md:=[.ro 1,.ro 1],rg:=[(0,[2,3],[2,3]),(1,[2,3,9],[2,3]),(2,[4],[]),(3,[2,3,14],[2,3]),(4,[4],[]),(5,[2,3,20],[2,3]),(6,[4],[]),(7,[26],[]),(8,[4],[]),(9,[4],[])],rets:=some ([4],[])} Tryz.func70 (by kernel_rfl)
@[go_sem] def d70:s70.g=70/\s70.fs=⟨[.ro 1,.ro 1],s70.F,false⟩:=⟨nr rfl,nr rfl⟩
@[go_sem] def e70(w0 w1:Int)(w78 w79:List XM)(w18 w19:Int)(w80 w81:List XM)(h0:Xdf (Store.mk w0 w1 w78 w79)):s70.F [.agg [.i .i64 w0,.i .i64 w1,.sl .ro 13 (w78.map (Xa .ro)),.sl .ro 13 (w79.map (Xa .ro))],.agg [.i .i64 w18,.i .i64 w19,.sl .ro 13 (w80.map (Xa .ro)),.sl .ro 13 (w81.map (Xa .ro))]]=some (.b (eqv (Store.mk w0 w1 w78 w79) (Store.mk w18 w19 w80 w81)),[.u,.u]):=Xd (0) rfl rfl (λcx h=>by
 obtain⟨q0,q1,q2,q3⟩:=h0
 simp only[go_sem,reduceIte,↓reduceIte,reduceCtorEq,nA,nS,nM,nB,nE,nL,nT,nN,iL,iT,iE,iA,iM,iS,iG,iB,iN,iZ,h,YI,X8,X9,q0,q1,q2,q3]
 simp only[Y2,ZA,Store.eqv (Store.mk w0 w1 w78 w79) (Store.mk w18 w19 w80 w81),Xfw,Zb,Xat,Bool.and_true]) (rfl)
def Xps:SP Tryz.prog:=mkS tyA 258 Tryz.f258 [] {md:=[.ro 1,.ro 1],rg:=[(0,[2,3],[2,3]),(1,[2,3,9],[2,3]),(2,[4],[]),(3,[14],[]),(4,[4],[]),(5,[4],[])],rets:=some ([4],[])} Tryz.func258 (by kernel_rfl)
@[go_sem] def XG1:Xps.g=258/\Xps.fs=⟨[.ro 1,.ro 1],Xps.F,false⟩:=⟨nr rfl,nr rfl⟩
@[go_sem] def XG2(xId w82 yId w83:Int)(h0:Xce (XaP.mk xId w82)):Xps.F [.agg [.i .i64 xId,.i .i64 w82],.agg [.i .i64 yId,.i .i64 w83]]=some (.b (eqv (XaP.mk xId w82) (XaP.mk yId w83)),[.u,.u]):=Xd (0) rfl rfl (λcx h=>by
 obtain⟨q0,q1⟩:=h0
 simp only[go_sem,reduceIte,↓reduceIte,reduceCtorEq,nA,nS,nM,nB,nE,nL,nT,nN,iL,iT,iE,iA,iM,iS,iG,iB,iN,iZ,h,YI,X8,X9,q0,q1]
 simp only[Y2,ZA,XaP.eqv (XaP.mk xId w82) (XaP.mk yId w83),Xfw,Zb,Xat,Bool.and_true]) (rfl)
def Xpt:SP Tryz.prog:=mkS tyA 221 Tryz.f221 [Xps] {md:=[.ro 1,.ro 1],rg:=[(0,[0,1],[]),(1,[0,1,10],[]),(2,[4],[]),(3,[0,1,5],[]),(4,[0,1,5,14],[]),(5,[0,1,5],[]),(6,[0,1,5,26],[]),(7,[4],[]),(8,[4],[])],lv:=[(0,[0,1,5],[])],out:=[(0,[],[])],rets:=some ([4],[]),plan:=[(6,(.take 0 (.take 1 (.take 2 (.take 3 (.take 4 (.take 5 (.take 6 (.take 7 (.one 8 (.take 9 .done)))))))))))]} Tryz.func221 (by kernel_rfl)
@[go_sem] def XG3:Xpt.g=221/\Xpt.fs=⟨[.ro 1,.ro 1],Xpt.F,false⟩:=⟨nr rfl,nr rfl⟩
@[go_sem] def XG4(xs ys:List XaP)(h0:smL Xce xs):Xpt.F [.sl .ro 2 (xs.map (YU .ro)),.sl .ro 2 (ys.map (YU .ro))]=some (.b (eqv xs ys),[.u,.u]):=Xd (xs.length+1) rfl rfl (λcx h=>by
 have hb:=Xn Tryz.f221 0 _ _ rfl rfl
 have hx:=h0.1
 by_cases hl:xs.length=ys.length
 ·obtain⟨r,hr,hq⟩:=Zx (cx:=cx) (blk:=0) (body:=Yl Tryz.f221 0) (xs.zip ys) (λk (_:Unit)=>⟨E [(0,.sl .ro 2 (xs.map (YU .ro))),(1,.sl .ro 2 (ys.map (YU .ro))),(5,.i .i64 k)],B []⟩) (λ_=>⟨E [],B []⟩) (λx _=>!eqv x.1 x.2) (λ_ _=>()) (λ_ _=>(.ret,⟨E [(4,.b false)],B []⟩)) (λ_ _=>True)
   (λl _ G=>by simp only[go_sem,reduceIte,↓reduceIte,reduceCtorEq,nA,nS,nM,nB,nE,nL,nT,nN,iL,iT,iE,iA,iM,iS,iG,iB,iN,iZ,h,YC hl,hl,Int.lt_irrefl,hb]) (λk hk l _=>by
    have hk:k<xs.length:=by rwa [YC hl] at hk
    have h1:((k:Int)<(xs.length:Int)):=Int.ofNat_lt.2 hk
    have h2:=h0.2 _ (List.getElem_mem hk)
    have h3:(xs.zip ys)[k]=(xs[k],ys[k]'(by omega)):=by simp
    rw[h3]
    cases hc:eqv xs[k] (ys[k]'(by omega))
    ·exact .inl ⟨rfl,λG=>by simp only[go_sem,reduceIte,↓reduceIte,reduceCtorEq,nA,nS,nM,nB,nE,nL,nT,nN,iL,iT,iE,iA,iM,iS,iG,iB,iN,iZ,h,hc,XP (YU .ro) xs k hk,XP (YU .ro) ys k (by omega),Xp ys.length k (by omega),h2,h1,Xp _ _ hk,Xe (show k<9223372036854775807 by omega),hb]⟩
    ·exact .inr ⟨rfl,trivial,_,λG=>by simp only[go_sem,reduceIte,↓reduceIte,reduceCtorEq,nA,nS,nM,nB,nE,nL,nT,nN,iL,iT,iE,iA,iM,iS,iG,iB,iN,iZ,h,hc,XP (YU .ro) xs k hk,XP (YU .ro) ys k (by omega),Xp ys.length k (by omega),h2,h1,Xp _ _ hk,Xe (show k<9223372036854775807 by omega),hb]<;>with_reducible rfl,by simp only[go_sem,reduceIte,↓reduceIte,reduceCtorEq,nA,nS,nM,nB,nE,nL,nT,nN,iL,iT,iE,iA,iM,iS,iG,iB,iN,iZ,h]⟩) () trivial (xs.length+1) (by rw[YC hl]; exact Nat.le_refl _)
  rw[hb] at hr
  have hl2:((xs.length:Int) !=(ys.length:Int))=false:=by simp[hl]
  rcases hq with⟨s',e1,e2,e3⟩ | ⟨x,s',e1,e3⟩
  ·simp only[go_sem,reduceIte,↓reduceIte,reduceCtorEq,nA,nS,nM,nB,nE,nL,nT,nN,iL,iT,iE,iA,iM,iS,iG,iB,iN,iZ,h,hl2,hr,e3,Um hl e1]
  ·simp only[go_sem,reduceIte,↓reduceIte,reduceCtorEq,nA,nS,nM,nB,nE,nL,nT,nN,iL,iT,iE,iA,iM,iS,iG,iB,iN,iZ,h,hl2,hr,e3,Un hl e1]
 ·have hl2:((xs.length:Int) !=(ys.length:Int))=true:=by simpa using λh=>hl (Int.ofNat_inj.1 h)
  simp only[go_sem,reduceIte,↓reduceIte,reduceCtorEq,nA,nS,nM,nB,nE,nL,nT,nN,iL,iT,iE,iA,iM,iS,iG,iB,iN,iZ,h,hl2,U1 hl]) (rfl)
def Xpu:SP Tryz.prog:=mkS tyA 153 Tryz.f153 [Xpt] {md:=[.ro 1,.ro 1],rg:=[(0,[2,3],[2,3]),(1,[2,3,9],[2,3]),(2,[4],[]),(3,[15],[]),(4,[4],[]),(5,[4],[])],rets:=some ([4],[])} Tryz.func153 (by kernel_rfl)
@[go_sem] def XG5:Xpu.g=153/\Xpu.fs=⟨[.ro 1,.ro 1],Xpu.F,false⟩:=⟨nr rfl,nr rfl⟩
@[go_sem] def XG6(w84:Int)(w85:List XaP)(w86:Int)(w87:List XaP)(h0:Xl1 (Bulk.mk w84 w85)):Xpu.F [.agg [.i .i64 w84,.sl .ro 2 (w85.map (YU .ro))],.agg [.i .i64 w86,.sl .ro 2 (w87.map (YU .ro))]]=some (.b (eqv (Bulk.mk w84 w85) (Bulk.mk w86 w87)),[.u,.u]):=Xd (0) rfl rfl (λcx h=>by
 obtain⟨q0,q1⟩:=h0
 simp only[go_sem,reduceIte,↓reduceIte,reduceCtorEq,nA,nS,nM,nB,nE,nL,nT,nN,iL,iT,iE,iA,iM,iS,iG,iB,iN,iZ,h,YI,X8,X9,q0,q1]
 simp only[Y2,ZA,Bulk.eqv (Bulk.mk w84 w85) (Bulk.mk w86 w87),Xfw,Zb,Xat,Bool.and_true]) (rfl)
def Xpv:SP Tryz.prog:=mkS tyA 259 Tryz.f259 [] {md:=[.ro 1,.ro 1],rg:=[(0,[2,3],[2,3]),(1,[2,3,9],[2,3]),(2,[4],[]),(3,[14],[]),(4,[4],[]),(5,[4],[])],rets:=some ([4],[])} Tryz.func259 (by kernel_rfl)
@[go_sem] def XG7:Xpv.g=259/\Xpv.fs=⟨[.ro 1,.ro 1],Xpv.F,false⟩:=⟨nr rfl,nr rfl⟩
@[go_sem] def XG8(xAt:Int)(w88:Bool)(yAt:Int)(w89:Bool)(h0:Xcf (XaQ.mk xAt w88)):Xpv.F [.agg [.i .i64 xAt,.b w88],.agg [.i .i64 yAt,.b w89]]=some (.b (eqv (XaQ.mk xAt w88) (XaQ.mk yAt w89)),[.u,.u]):=Xd (0) rfl rfl (λcx h=>by
 obtain⟨q0,q1⟩:=h0
 simp only[go_sem,reduceIte,↓reduceIte,reduceCtorEq,nA,nS,nM,nB,nE,nL,nT,nN,iL,iT,iE,iA,iM,iS,iG,iB,iN,iZ,h,YI,X8,X9,q0,q1]
 simp only[Y2,ZA,XaQ.eqv (XaQ.mk xAt w88) (XaQ.mk yAt w89),Xfw,Zb,Xat,Bool.and_true]) (rfl)
def Xpw:SP Tryz.prog:=mkS tyA 222 Tryz.f222 [Xpv] {md:=[.ro 1,.ro 1],rg:=[(0,[0,1],[]),(1,[0,1,10],[]),(2,[4],[]),(3,[0,1,5],[]),(4,[0,1,5,14],[]),(5,[0,1,5],[]),(6,[0,1,5,26],[]),(7,[4],[]),(8,[4],[])],lv:=[(0,[0,1,5],[])],out:=[(0,[],[])],rets:=some ([4],[]),plan:=[(6,(.take 0 (.take 1 (.take 2 (.take 3 (.take 4 (.take 5 (.take 6 (.take 7 (.one 8 (.take 9 .done)))))))))))]} Tryz.func222 (by kernel_rfl)
@[go_sem] def XG9:Xpw.g=222/\Xpw.fs=⟨[.ro 1,.ro 1],Xpw.F,false⟩:=⟨nr rfl,nr rfl⟩
@[go_sem] def XHa(xs ys:List XaQ)(h0:smL Xcf xs):Xpw.F [.sl .ro 2 (xs.map (YV .ro)),.sl .ro 2 (ys.map (YV .ro))]=some (.b (eqv xs ys),[.u,.u]):=Xd (xs.length+1) rfl rfl (λcx h=>by
 have hb:=Xn Tryz.f222 0 _ _ rfl rfl
 have hx:=h0.1
 by_cases hl:xs.length=ys.length
 ·obtain⟨r,hr,hq⟩:=Zx (cx:=cx) (blk:=0) (body:=Yl Tryz.f222 0) (xs.zip ys) (λk (_:Unit)=>⟨E [(0,.sl .ro 2 (xs.map (YV .ro))),(1,.sl .ro 2 (ys.map (YV .ro))),(5,.i .i64 k)],B []⟩) (λ_=>⟨E [],B []⟩) (λx _=>!eqv x.1 x.2) (λ_ _=>()) (λ_ _=>(.ret,⟨E [(4,.b false)],B []⟩)) (λ_ _=>True)
   (λl _ G=>by simp only[go_sem,reduceIte,↓reduceIte,reduceCtorEq,nA,nS,nM,nB,nE,nL,nT,nN,iL,iT,iE,iA,iM,iS,iG,iB,iN,iZ,h,YC hl,hl,Int.lt_irrefl,hb]) (λk hk l _=>by
    have hk:k<xs.length:=by rwa [YC hl] at hk
    have h1:((k:Int)<(xs.length:Int)):=Int.ofNat_lt.2 hk
    have h2:=h0.2 _ (List.getElem_mem hk)
    have h3:(xs.zip ys)[k]=(xs[k],ys[k]'(by omega)):=by simp
    rw[h3]
    cases hc:eqv xs[k] (ys[k]'(by omega))
    ·exact .inl ⟨rfl,λG=>by simp only[go_sem,reduceIte,↓reduceIte,reduceCtorEq,nA,nS,nM,nB,nE,nL,nT,nN,iL,iT,iE,iA,iM,iS,iG,iB,iN,iZ,h,hc,XP (YV .ro) xs k hk,XP (YV .ro) ys k (by omega),Xp ys.length k (by omega),h2,h1,Xp _ _ hk,Xe (show k<9223372036854775807 by omega),hb]⟩
    ·exact .inr ⟨rfl,trivial,_,λG=>by simp only[go_sem,reduceIte,↓reduceIte,reduceCtorEq,nA,nS,nM,nB,nE,nL,nT,nN,iL,iT,iE,iA,iM,iS,iG,iB,iN,iZ,h,hc,XP (YV .ro) xs k hk,XP (YV .ro) ys k (by omega),Xp ys.length k (by omega),h2,h1,Xp _ _ hk,Xe (show k<9223372036854775807 by omega),hb]<;>with_reducible rfl,by simp only[go_sem,reduceIte,↓reduceIte,reduceCtorEq,nA,nS,nM,nB,nE,nL,nT,nN,iL,iT,iE,iA,iM,iS,iG,iB,iN,iZ,h]⟩) () trivial (xs.length+1) (by rw[YC hl]; exact Nat.le_refl _)
  rw[hb] at hr
  have hl2:((xs.length:Int) !=(ys.length:Int))=false:=by simp[hl]
  rcases hq with⟨s',e1,e2,e3⟩ | ⟨x,s',e1,e3⟩
  ·simp only[go_sem,reduceIte,↓reduceIte,reduceCtorEq,nA,nS,nM,nB,nE,nL,nT,nN,iL,iT,iE,iA,iM,iS,iG,iB,iN,iZ,h,hl2,hr,e3,Um hl e1]
  ·simp only[go_sem,reduceIte,↓reduceIte,reduceCtorEq,nA,nS,nM,nB,nE,nL,nT,nN,iL,iT,iE,iA,iM,iS,iG,iB,iN,iZ,h,hl2,hr,e3,Un hl e1]
 ·have hl2:((xs.length:Int) !=(ys.length:Int))=true:=by simpa using λh=>hl (Int.ofNat_inj.1 h)
  simp only[go_sem,reduceIte,↓reduceIte,reduceCtorEq,nA,nS,nM,nB,nE,nL,nT,nN,iL,iT,iE,iA,iM,iS,iG,iB,iN,iZ,h,hl2,U1 hl]) (rfl)
def Xpx:SP Tryz.prog:=mkS tyA 154 Tryz.f154 [Xpw] {md:=[.ro 1,.ro 1],rg:=[(0,[2,3],[2,3]),(1,[2,3,9],[2,3]),(2,[4],[]),(3,[2,3,14],[2,3]),(4,[4],[]),(5,[2,3,19],[2,3]),(6,[4],[]),(7,[25],[]),(8,[4],[]),(9,[4],[])],rets:=some ([4],[])} Tryz.func154 (by kernel_rfl)
@[go_sem] def XHb:Xpx.g=154/\Xpx.fs=⟨[.ro 1,.ro 1],Xpx.F,false⟩:=⟨nr rfl,nr rfl⟩
@[go_sem] def XHc(w90 w91 w92:Int)(w93:List XaQ)(w94 w95 w96:Int)(w97:List XaQ)(h0:Xfz (Breaker.mk w90 w91 w92 w93)):Xpx.F [.agg [.i .i64 w90,.i .i64 w91,.i .i64 w92,.sl .ro 2 (w93.map (YV .ro))],.agg [.i .i64 w94,.i .i64 w95,.i .i64 w96,.sl .ro 2 (w97.map (YV .ro))]]=some (.b (eqv (Breaker.mk w90 w91 w92 w93) (Breaker.mk w94 w95 w96 w97)),[.u,.u]):=Xd (0) rfl rfl (λcx h=>by
 obtain⟨q0,q1,q2,q3⟩:=h0
 simp only[go_sem,reduceIte,↓reduceIte,reduceCtorEq,nA,nS,nM,nB,nE,nL,nT,nN,iL,iT,iE,iA,iM,iS,iG,iB,iN,iZ,h,YI,X8,X9,q0,q1,q2,q3]
 simp only[Y2,ZA,Breaker.eqv (Breaker.mk w90 w91 w92 w93) (Breaker.mk w94 w95 w96 w97),Xfw,Zb,Xat,Bool.and_true]) (rfl)
def s79:SP Tryz.prog:=mkS tyA 79 Tryz.f79 [Xpu,Xpx] {md:=[.ro 1,.ro 1],rg:=[(0,[2,3],[2,3]),(1,[2,3,9],[2,3]),(2,[4],[]),(3,[2,3,15],[2,3]),(4,[4],[]),(5,[21],[]),(6,[4],[]),(7,[4],[])],rets:=some ([4],[])} Tryz.func79 (by kernel_rfl)
@[go_sem] def d79:s79.g=79/\s79.fs=⟨[.ro 1,.ro 1],s79.F,false⟩:=⟨nr rfl,nr rfl⟩
@[go_sem] def e79(w98:ByteArray)(w99:Int)(w100:List XaP)(w101 w102 w103:Int)(w104:List XaQ)(w105:ByteArray)(w106:Int)(w107:List XaP)(w108 w109 w110:Int)(w111:List XaQ)(h0:Xcu (Origin.mk w98 (Bulk.mk w99 w100) (Breaker.mk w101 w102 w103 w104))):s79.F [.agg [.s w98,.i .i64 w99,.sl .ro 2 (w100.map (YU .ro)),.i .i64 w101,.i .i64 w102,.i .i64 w103,.sl .ro 2 (w104.map (YV .ro))],.agg [.s w105,.i .i64 w106,.sl .ro 2 (w107.map (YU .ro)),.i .i64 w108,.i .i64 w109,.i .i64 w110,.sl .ro 2 (w111.map (YV .ro))]]=some (.b (eqv (Origin.mk w98 (Bulk.mk w99 w100) (Breaker.mk w101 w102 w103 w104)) (Origin.mk w105 (Bulk.mk w106 w107) (Breaker.mk w108 w109 w110 w111))),[.u,.u]):=Xd (0) rfl rfl (λcx h=>by
 obtain⟨q0,q1,q2⟩:=h0
 simp only[go_sem,reduceIte,↓reduceIte,reduceCtorEq,nA,nS,nM,nB,nE,nL,nT,nN,iL,iT,iE,iA,iM,iS,iG,iB,iN,iZ,h,YI,X8,X9,q0,q1,q2]
 simp only[Y2,ZA,Origin.eqv (Origin.mk w98 (Bulk.mk w99 w100) (Breaker.mk w101 w102 w103 w104)) (Origin.mk w105 (Bulk.mk w106 w107) (Breaker.mk w108 w109 w110 w111)),Xfw,Zb,Xat,Bool.and_true]) (rfl)
def s71:SP Tryz.prog:=mkS tyA 71 Tryz.f71 [s79] {md:=[.ro 1,.ro 1],rg:=[(0,[0,1],[]),(1,[0,1,10],[]),(2,[4],[]),(3,[0,1,5],[]),(4,[0,1,5,14],[]),(5,[0,1,5],[]),(6,[0,1,5,26],[]),(7,[4],[]),(8,[4],[])],lv:=[(0,[0,1,5],[])],out:=[(0,[],[])],rets:=some ([4],[]),plan:=[(6,(.take 0 (.take 1 (.take 2 (.take 3 (.take 4 (.take 5 (.take 6 (.take 7 (.one 8 (.take 9 .done)))))))))))]} Tryz.func71 (by kernel_rfl)
@[go_sem] def d71:s71.g=71/\s71.fs=⟨[.ro 1,.ro 1],s71.F,false⟩:=⟨nr rfl,nr rfl⟩
@[go_sem] def e71(xs ys:List Origin)(h0:smL Xcu xs):s71.F [.sl .ro 7 (xs.map (Xv .ro)),.sl .ro 7 (ys.map (Xv .ro))]=some (.b (eqv xs ys),[.u,.u]):=Xd (xs.length+1) rfl rfl (λcx h=>by
 have hb:=Xn Tryz.f71 0 _ _ rfl rfl
 have hx:=h0.1
 by_cases hl:xs.length=ys.length
 ·obtain⟨r,hr,hq⟩:=Zx (cx:=cx) (blk:=0) (body:=Yl Tryz.f71 0) (xs.zip ys) (λk (_:Unit)=>⟨E [(0,.sl .ro 7 (xs.map (Xv .ro))),(1,.sl .ro 7 (ys.map (Xv .ro))),(5,.i .i64 k)],B []⟩) (λ_=>⟨E [],B []⟩) (λx _=>!eqv x.1 x.2) (λ_ _=>()) (λ_ _=>(.ret,⟨E [(4,.b false)],B []⟩)) (λ_ _=>True)
   (λl _ G=>by simp only[go_sem,reduceIte,↓reduceIte,reduceCtorEq,nA,nS,nM,nB,nE,nL,nT,nN,iL,iT,iE,iA,iM,iS,iG,iB,iN,iZ,h,YC hl,hl,Int.lt_irrefl,hb]) (λk hk l _=>by
    have hk:k<xs.length:=by rwa [YC hl] at hk
    have h1:((k:Int)<(xs.length:Int)):=Int.ofNat_lt.2 hk
    have h2:=h0.2 _ (List.getElem_mem hk)
    have h3:(xs.zip ys)[k]=(xs[k],ys[k]'(by omega)):=by simp
    rw[h3]
    cases hc:eqv xs[k] (ys[k]'(by omega))
    ·exact .inl ⟨rfl,λG=>by simp only[go_sem,reduceIte,↓reduceIte,reduceCtorEq,nA,nS,nM,nB,nE,nL,nT,nN,iL,iT,iE,iA,iM,iS,iG,iB,iN,iZ,h,hc,XP (Xv .ro) xs k hk,XP (Xv .ro) ys k (by omega),Xp ys.length k (by omega),h2,h1,Xp _ _ hk,Xe (show k<9223372036854775807 by omega),hb]⟩
    ·exact .inr ⟨rfl,trivial,_,λG=>by simp only[go_sem,reduceIte,↓reduceIte,reduceCtorEq,nA,nS,nM,nB,nE,nL,nT,nN,iL,iT,iE,iA,iM,iS,iG,iB,iN,iZ,h,hc,XP (Xv .ro) xs k hk,XP (Xv .ro) ys k (by omega),Xp ys.length k (by omega),h2,h1,Xp _ _ hk,Xe (show k<9223372036854775807 by omega),hb]<;>with_reducible rfl,by simp only[go_sem,reduceIte,↓reduceIte,reduceCtorEq,nA,nS,nM,nB,nE,nL,nT,nN,iL,iT,iE,iA,iM,iS,iG,iB,iN,iZ,h]⟩) () trivial (xs.length+1) (by rw[YC hl]; exact Nat.le_refl _)
  rw[hb] at hr
  have hl2:((xs.length:Int) !=(ys.length:Int))=false:=by simp[hl]
  rcases hq with⟨s',e1,e2,e3⟩ | ⟨x,s',e1,e3⟩
  ·simp only[go_sem,reduceIte,↓reduceIte,reduceCtorEq,nA,nS,nM,nB,nE,nL,nT,nN,iL,iT,iE,iA,iM,iS,iG,iB,iN,iZ,h,hl2,hr,e3,Um hl e1]
  ·simp only[go_sem,reduceIte,↓reduceIte,reduceCtorEq,nA,nS,nM,nB,nE,nL,nT,nN,iL,iT,iE,iA,iM,iS,iG,iB,iN,iZ,h,hl2,hr,e3,Un hl e1]
 ·have hl2:((xs.length:Int) !=(ys.length:Int))=true:=by simpa using λh=>hl (Int.ofNat_inj.1 h)
  simp only[go_sem,reduceIte,↓reduceIte,reduceCtorEq,nA,nS,nM,nB,nE,nL,nT,nN,iL,iT,iE,iA,iM,iS,iG,iB,iN,iZ,h,hl2,U1 hl]) (rfl)
def Xpy:SP Tryz.prog:=mkS tyA 217 Tryz.f217 [Xog] {md:=[.ro 1,.ro 1],rg:=[(0,[2,3],[2,3]),(1,[2,3,9],[2,3]),(2,[4],[]),(3,[2,3,14],[2,3]),(4,[4],[]),(5,[2,3,19],[2,3]),(6,[4],[]),(7,[25],[]),(8,[4],[]),(9,[4],[])],rets:=some ([4],[])} Tryz.func217 (by kernel_rfl)
@[go_sem] def XHd:Xpy.g=217/\Xpy.fs=⟨[.ro 1,.ro 1],Xpy.F,false⟩:=⟨nr rfl,nr rfl⟩
@[go_sem] def XHe(w112 w98 w113:ByteArray)(w53:List XL)(w114 w105 w115:ByteArray)(w66:List XL)(h0:XfA (Yt.mk w112 w98 w113 w53)):Xpy.F [.agg [.s w112,.s w98,.s w113,.sl .ro 2 (w53.map (Xl .ro))],.agg [.s w114,.s w105,.s w115,.sl .ro 2 (w66.map (Xl .ro))]]=some (.b (eqv (Yt.mk w112 w98 w113 w53) (Yt.mk w114 w105 w115 w66)),[.u,.u]):=Xd (0) rfl rfl (λcx h=>by
 obtain⟨q0,q1,q2,q3⟩:=h0
 simp only[go_sem,reduceIte,↓reduceIte,reduceCtorEq,nA,nS,nM,nB,nE,nL,nT,nN,iL,iT,iE,iA,iM,iS,iG,iB,iN,iZ,h,YI,X8,X9,q0,q1,q2,q3]
 simp only[Y2,ZA,Yt.eqv (Yt.mk w112 w98 w113 w53) (Yt.mk w114 w105 w115 w66),Xfw,Zb,Xat,Bool.and_true]) (rfl)
def Xpz:SP Tryz.prog:=mkS tyA 257 Tryz.f257 [] {md:=[.ro 1,.ro 1],rg:=[(0,[2,3],[2,3]),(1,[2,3,9],[2,3]),(2,[4],[]),(3,[2,3,14],[2,3]),(4,[4],[]),(5,[2,3,19],[2,3]),(6,[4],[]),(7,[24],[]),(8,[4],[]),(9,[4],[])],rets:=some ([4],[])} Tryz.func257 (by kernel_rfl)
@[go_sem] def XHf:Xpz.g=257/\Xpz.fs=⟨[.ro 1,.ro 1],Xpz.F,false⟩:=⟨nr rfl,nr rfl⟩
@[go_sem] def XHg(w116:Int)(w52:Bool)(w82:Int)(w117:Bool)(w118:Int)(w67:Bool)(w83:Int)(w119:Bool)(h0:U6 (Zc.mk w116 w52 w82 w117)):Xpz.F [.agg [.i .i64 w116,.b w52,.i .i64 w82,.b w117],.agg [.i .i64 w118,.b w67,.i .i64 w83,.b w119]]=some (.b (eqv (Zc.mk w116 w52 w82 w117) (Zc.mk w118 w67 w83 w119)),[.u,.u]):=Xd (0) rfl rfl (λcx h=>by
 obtain⟨q0,q1,q2,q3⟩:=h0
 simp only[go_sem,reduceIte,↓reduceIte,reduceCtorEq,nA,nS,nM,nB,nE,nL,nT,nN,iL,iT,iE,iA,iM,iS,iG,iB,iN,iZ,h,YI,X8,X9,q0,q1,q2,q3]
 simp only[Y2,ZA,Zc.eqv (Zc.mk w116 w52 w82 w117) (Zc.mk w118 w67 w83 w119),Xfw,Zb,Xat,Bool.and_true]) (rfl)
end
end Go.Vm.A
