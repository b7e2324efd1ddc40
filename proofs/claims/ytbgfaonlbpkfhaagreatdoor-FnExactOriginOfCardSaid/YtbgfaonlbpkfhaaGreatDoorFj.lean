/- Functions of the program, walked by the evaluator. -/
import Derived.Test.YtbgfaonlbpkfhaaGreatDoorWb
import Derived.Test.YtbgfaonlbpkfhaaGreatDoorWa
set_option linter.unusedVariables false
set_option linter.unusedSimpArgs false
set_option autoImplicit false
set_option maxRecDepth 100000
set_option maxHeartbeats 4000000
set_option linter.defProp false
namespace Go.Vm.A
open Go.Proofs
open Nat renaming reduceAdd -> nA, reduceSub -> nS, reduceMul -> nM, reduceBEq -> nB, reduceEqDiff -> nE, reduceLeDiff -> nL, reduceLT -> nT, reduceBneDiff -> nN
open Int renaming reduceLE -> iL, reduceLT -> iT, reduceEq -> iE, reduceAdd -> iA, reduceMul -> iM, reduceSub -> iS, reduceNeg -> iG, reduceBEq -> iB, reduceBNe -> iN, reduceToNat -> iZ
noncomputable section
def s41:SP Tryz.prog:=mkS tyA 41 Tryz.f41 [] {md:=[.ro 1,.ro 1],rg:=[(0,[0,1],[]),(1,[0,1,10],[]),(2,[4],[]),(3,[0,1,5],[]),(4,[0,1,5,14],[]),(5,[0,1,5],[]),(6,[0,1,5,25],[]),(7,[4],[]),(8,[4],[])],lv:=[(0,[0,1,5],[])],out:=[(0,[],[])],rets:=some ([4],[]),plan:=[(6,(.take 0 (.take 1 (.take 2 (.take 3 (.take 4 (.take 5 (.take 6 (.take 7 (.take 8 .done))))))))))]} Tryz.func41 (by kernel_rfl)
@[go_sem] def d41:s41.g=41/\s41.fs=⟨[.ro 1,.ro 1],s41.F,false⟩:=⟨nr rfl,nr rfl⟩
@[go_sem] def e41(xs ys:List ByteArray)(h0:smL Xdj xs):s41.F [.sl .ro 1 (xs.map Ye),.sl .ro 1 (ys.map Ye)]=some (.b (eqv xs ys),[.u,.u]):=Xb (xs.length+1) rfl rfl (λcx h=>by
 have hb:=Xg Tryz.f41 0 _ _ rfl rfl
 have hx:=h0.1
 by_cases hl:xs.length=ys.length
 ·obtain⟨r,hr,hq⟩:=YH (cx:=cx) (blk:=0) (body:=XN Tryz.f41 0) (xs.zip ys) (λk (_:Unit)=>⟨E [(0,.sl .ro 1 (xs.map Ye)),(1,.sl .ro 1 (ys.map Ye)),(5,.i .i64 k)],B []⟩) (λ_=>⟨E [],B []⟩) (λx _=>!eqv x.1 x.2) (λ_ _=>()) (λ_ _=>(.ret,⟨E [(4,.b false)],B []⟩)) (λ_ _=>True)
   (λl _ G=>by simp only[go_sem,reduceIte,↓reduceIte,nB,nE,h,YQ hl,hl,Int.lt_irrefl,hb]) (λk hk l _=>by
    have hk:k<xs.length:=by rwa [YQ hl] at hk
    have h1:((k:Int)<(xs.length:Int)):=Int.ofNat_lt.2 hk
    have h2:=h0.2 _ (List.getElem_mem hk)
    have h3:(xs.zip ys)[k]=(xs[k],ys[k]'(by omega)):=by simp
    rw[h3]
    cases hc:eqv xs[k] (ys[k]'(by omega))
    ·exact .inl ⟨rfl,λG=>by simp only[go_sem,reduceIte,↓reduceIte,nB,nE,h,hc,Xi Ye xs k hk,Xi Ye ys k (by omega),Xh ys.length k (by omega),XH,h1,Xh _ _ hk,hb]⟩
    ·exact .inr ⟨rfl,trivial,_,λG=>by simp only[go_sem,reduceIte,↓reduceIte,nB,nE,h,hc,Xi Ye xs k hk,Xi Ye ys k (by omega),Xh ys.length k (by omega),XH,h1,Xh _ _ hk,Xd (show k<9223372036854775807 by omega),hb]<;>with_reducible rfl,by simp only[go_sem,reduceIte,↓reduceIte,nB,h]⟩) () trivial (xs.length+1) (by rw[YQ hl]; exact Nat.le_refl _)
  rw[hb] at hr
  have hl2:((xs.length:Int) !=(ys.length:Int))=false:=by simp[hl]
  rcases hq with⟨s',e1,e2,e3⟩ | ⟨x,s',e1,e3⟩
  ·simp only[go_sem,reduceIte,↓reduceIte,nB,nE,h,hl2,hr,e3,Xaw hl e1]
  ·simp only[go_sem,reduceIte,↓reduceIte,nB,nE,h,hl2,hr,e3,Xax hl e1]
 ·have hl2:((xs.length:Int) !=(ys.length:Int))=true:=by simpa using λh=>hl (Int.ofNat_inj.1 h)
  simp only[go_sem,reduceIte,↓reduceIte,nB,nE,h,hl2,Xbe hl]) (rfl)
def s42:SP Tryz.prog:=mkS tyA 42 Tryz.f42 [] {md:=[.ro 1,.ro 1],rg:=[(0,[2,3],[2,3]),(1,[2,3,9],[2,3]),(2,[4],[]),(3,[2,3,14],[2,3]),(4,[4],[]),(5,[19],[]),(6,[4],[]),(7,[4],[])],rets:=some ([4],[])} Tryz.func42 (by kernel_rfl)
@[go_sem] def d42:s42.g=42/\s42.fs=⟨[.ro 1,.ro 1],s42.F,false⟩:=⟨nr rfl,nr rfl⟩
@[go_sem] def e42(w0 w1 w2 w3 w4 w5:Int)(h0:Xgr (Lanes.mk w0 w1 w2)):s42.F [.agg [.i .i64 w0,.i .i64 w1,.i .i64 w2],.agg [.i .i64 w3,.i .i64 w4,.i .i64 w5]]=some (.b (eqv (Lanes.mk w0 w1 w2) (Lanes.mk w3 w4 w5)),[.u,.u]):=Xb (0) rfl rfl (λcx h=>by
 obtain⟨q0,q1,q2⟩:=h0
 simp only[go_sem,reduceIte,↓reduceIte,nA,nB,nE,nL,h,Zd]
 simp only[Lanes.eqv (Lanes.mk w0 w1 w2) (Lanes.mk w3 w4 w5),XgE,Zf,Xbs,Bool.and_true]) (rfl)
def s43:SP Tryz.prog:=mkS tyA 43 Tryz.f43 [] {md:=[.ro 1,.ro 1],rg:=[(0,[2,3],[2,3]),(1,[2,3,9],[2,3]),(2,[4],[]),(3,[2,3,14],[2,3]),(4,[4],[]),(5,[2,3,19],[2,3]),(6,[4],[]),(7,[2,3,24],[2,3]),(8,[4],[]),(9,[29],[]),(10,[4],[]),(11,[4],[])],rets:=some ([4],[])} Tryz.func43 (by kernel_rfl)
@[go_sem] def d43:s43.g=43/\s43.fs=⟨[.ro 1,.ro 1],s43.F,false⟩:=⟨nr rfl,nr rfl⟩
@[go_sem] def e43(w6 w7 w8 w9 w10 w11 w12 w13 w14 w15:Int)(h0:Xgs (Rules.mk w6 w7 w8 w9 w10)):s43.F [.agg [.i .i64 w6,.i .i64 w7,.i .i64 w8,.i .i64 w9,.i .i64 w10],.agg [.i .i64 w11,.i .i64 w12,.i .i64 w13,.i .i64 w14,.i .i64 w15]]=some (.b (eqv (Rules.mk w6 w7 w8 w9 w10) (Rules.mk w11 w12 w13 w14 w15)),[.u,.u]):=Xb (0) rfl rfl (λcx h=>by
 obtain⟨q0,q1,q2,q3,q4⟩:=h0
 simp only[go_sem,reduceIte,↓reduceIte,nA,nB,nE,nL,h,Zd]
 simp only[Rules.eqv (Rules.mk w6 w7 w8 w9 w10) (Rules.mk w11 w12 w13 w14 w15),XgE,Zf,Xbs,Bool.and_true]) (rfl)
def s13:SP Tryz.prog:=mkS tyA 13 Tryz.f13 [s41,s42,s43] {md:=[.ro 1,.ro 1],rg:=[(0,[2,3],[2,3]),(1,[2,3,9],[2,3]),(2,[4],[]),(3,[2,3,14],[2,3]),(4,[4],[]),(5,[2,3,19],[2,3]),(6,[4],[]),(7,[2,3,24],[2,3]),(8,[4],[]),(9,[2,3,29],[2,3]),(10,[4],[]),(11,[2,3,34],[2,3]),(12,[4],[]),(13,[2,3,39],[2,3]),(14,[4],[]),(15,[2,3,44],[2,3]),(16,[4],[]),(17,[2,3,50],[2,3]),(18,[4],[]),(19,[2,3,56],[2,3]),(20,[4],[]),(21,[62],[]),(22,[4],[]),(23,[4],[])],rets:=some ([4],[])} Tryz.func13 (by kernel_rfl)
@[go_sem] def d13:s13.g=13/\s13.fs=⟨[.ro 1,.ro 1],s13.F,false⟩:=⟨nr rfl,nr rfl⟩
@[go_sem] def e13(w16 w17 w18 w19 w20 w21 w22 w23:Int)(w25:List ByteArray)(w26 w27 w28 w29 w30 w31 w32 w33 w34 w35 w36 w37 w38 w39 w40 w41:Int)(w42:List ByteArray)(w44 w45 w46 w47 w48 w49 w50 w51:Int)(h0:XcN (Config.mk w16 w17 w18 w19 w20 w21 w22 w23 w25 (Lanes.mk w26 w27 w28) (Rules.mk w29 w30 w31 w32 w33))):s13.F [.agg [.i .i64 w16,.i .i64 w17,.i .i64 w18,.i .i64 w19,.i .i64 w20,.i .i64 w21,.i .i64 w22,.i .i64 w23,.sl .ro 1 (w25.map Ye),.i .i64 w26,.i .i64 w27,.i .i64 w28,.i .i64 w29,.i .i64 w30,.i .i64 w31,.i .i64 w32,.i .i64 w33],.agg [.i .i64 w34,.i .i64 w35,.i .i64 w36,.i .i64 w37,.i .i64 w38,.i .i64 w39,.i .i64 w40,.i .i64 w41,.sl .ro 1 (w42.map Ye),.i .i64 w44,.i .i64 w45,.i .i64 w46,.i .i64 w47,.i .i64 w48,.i .i64 w49,.i .i64 w50,.i .i64 w51]]=some (.b (eqv (Config.mk w16 w17 w18 w19 w20 w21 w22 w23 w25 (Lanes.mk w26 w27 w28) (Rules.mk w29 w30 w31 w32 w33)) (Config.mk w34 w35 w36 w37 w38 w39 w40 w41 w42 (Lanes.mk w44 w45 w46) (Rules.mk w47 w48 w49 w50 w51))),[.u,.u]):=Xb (0) rfl rfl (λcx h=>by
 obtain⟨q0,q1,q2,q3,q4,q5,q6,q7,q8,q9,q10⟩:=h0
 simp only[go_sem,reduceIte,↓reduceIte,nA,nB,nE,nL,h,Zd,q8,q9,q10]
 simp only[Config.eqv (Config.mk w16 w17 w18 w19 w20 w21 w22 w23 w25 (Lanes.mk w26 w27 w28) (Rules.mk w29 w30 w31 w32 w33)) (Config.mk w34 w35 w36 w37 w38 w39 w40 w41 w42 (Lanes.mk w44 w45 w46) (Rules.mk w47 w48 w49 w50 w51)),XgE,Zf,Xbs,Bool.and_true]) (rfl)
def Xs4:SP Tryz.prog:=mkS tyA 277 Tryz.f277 [] {md:=[.ro 1,.ro 1],rg:=[(0,[2,3],[2,3]),(1,[2,3,9],[2,3]),(2,[4],[]),(3,[14],[]),(4,[4],[]),(5,[4],[])],rets:=some ([4],[])} Tryz.func277 (by kernel_rfl)
@[go_sem] def XMs:Xs4.g=277/\Xs4.fs=⟨[.ro 1,.ro 1],Xs4.F,false⟩:=⟨nr rfl,nr rfl⟩
@[go_sem] def XMt(w24 w52 w43 w53:ByteArray)(h0:X6 (Xx.mk w24 w52)):Xs4.F [.agg [.s w24,.s w52],.agg [.s w43,.s w53]]=some (.b (eqv (Xx.mk w24 w52) (Xx.mk w43 w53)),[.u,.u]):=Xb (0) rfl rfl (λcx h=>by
 obtain⟨q0,q1⟩:=h0
 simp only[go_sem,reduceIte,↓reduceIte,nA,nB,nE,nL,h,XH]
 simp only[Xx.eqv (Xx.mk w24 w52) (Xx.mk w43 w53),XgE,Zf,Xbs,Bool.and_true]) (rfl)
def Xrl:SP Tryz.prog:=mkS tyA 254 Tryz.f254 [Xs4] {md:=[.ro 1,.ro 1],rg:=[(0,[0,1],[]),(1,[0,1,10],[]),(2,[4],[]),(3,[0,1,5],[]),(4,[0,1,5,14],[]),(5,[0,1,5],[]),(6,[0,1,5,26],[]),(7,[4],[]),(8,[4],[])],lv:=[(0,[0,1,5],[])],out:=[(0,[],[])],rets:=some ([4],[]),plan:=[(6,(.take 0 (.take 1 (.take 2 (.take 3 (.take 4 (.take 5 (.take 6 (.take 7 (.one 8 (.take 9 .done)))))))))))]} Tryz.func254 (by kernel_rfl)
@[go_sem] def XMu:Xrl.g=254/\Xrl.fs=⟨[.ro 1,.ro 1],Xrl.F,false⟩:=⟨nr rfl,nr rfl⟩
@[go_sem] def XMv(xs ys:List Xx)(h0:smL X6 xs):Xrl.F [.sl .ro 2 (xs.map (Xj .ro)),.sl .ro 2 (ys.map (Xj .ro))]=some (.b (eqv xs ys),[.u,.u]):=Xb (xs.length+1) rfl rfl (λcx h=>by
 have hb:=Xg Tryz.f254 0 _ _ rfl rfl
 have hx:=h0.1
 by_cases hl:xs.length=ys.length
 ·obtain⟨r,hr,hq⟩:=YH (cx:=cx) (blk:=0) (body:=XN Tryz.f254 0) (xs.zip ys) (λk (_:Unit)=>⟨E [(0,.sl .ro 2 (xs.map (Xj .ro))),(1,.sl .ro 2 (ys.map (Xj .ro))),(5,.i .i64 k)],B []⟩) (λ_=>⟨E [],B []⟩) (λx _=>!eqv x.1 x.2) (λ_ _=>()) (λ_ _=>(.ret,⟨E [(4,.b false)],B []⟩)) (λ_ _=>True)
   (λl _ G=>by simp only[go_sem,reduceIte,↓reduceIte,nB,nE,h,YQ hl,hl,Int.lt_irrefl,hb]) (λk hk l _=>by
    have hk:k<xs.length:=by rwa [YQ hl] at hk
    have h1:((k:Int)<(xs.length:Int)):=Int.ofNat_lt.2 hk
    have h2:=h0.2 _ (List.getElem_mem hk)
    have h3:(xs.zip ys)[k]=(xs[k],ys[k]'(by omega)):=by simp
    rw[h3]
    cases hc:eqv xs[k] (ys[k]'(by omega))
    ·exact .inl ⟨rfl,λG=>by simp only[go_sem,reduceIte,↓reduceIte,nA,nB,nE,h,hc,Xi (Xj .ro) xs k hk,Xi (Xj .ro) ys k (by omega),Xh ys.length k (by omega),h2,h1,Xh _ _ hk,hb]⟩
    ·exact .inr ⟨rfl,trivial,_,λG=>by simp only[go_sem,reduceIte,↓reduceIte,nA,nB,nE,h,hc,Xi (Xj .ro) xs k hk,Xi (Xj .ro) ys k (by omega),Xh ys.length k (by omega),h2,h1,Xh _ _ hk,Xd (show k<9223372036854775807 by omega),hb]<;>with_reducible rfl,by simp only[go_sem,reduceIte,↓reduceIte,nB,h]⟩) () trivial (xs.length+1) (by rw[YQ hl]; exact Nat.le_refl _)
  rw[hb] at hr
  have hl2:((xs.length:Int) !=(ys.length:Int))=false:=by simp[hl]
  rcases hq with⟨s',e1,e2,e3⟩ | ⟨x,s',e1,e3⟩
  ·simp only[go_sem,reduceIte,↓reduceIte,nB,nE,h,hl2,hr,e3,Xaw hl e1]
  ·simp only[go_sem,reduceIte,↓reduceIte,nB,nE,h,hl2,hr,e3,Xax hl e1]
 ·have hl2:((xs.length:Int) !=(ys.length:Int))=true:=by simpa using λh=>hl (Int.ofNat_inj.1 h)
  simp only[go_sem,reduceIte,↓reduceIte,nB,nE,h,hl2,Xbe hl]) (rfl)
def Xs5:SP Tryz.prog:=mkS tyA 255 Tryz.f255 [] {md:=[.ro 1,.ro 1],rg:=[(0,[0,1],[]),(1,[0,1,10],[]),(2,[4],[]),(3,[0,1,5],[]),(4,[0,1,5,14],[]),(5,[0,1,5],[]),(6,[0,1,5,25],[]),(7,[4],[]),(8,[4],[])],lv:=[(0,[0,1,5],[])],out:=[(0,[],[])],rets:=some ([4],[]),plan:=[(6,(.take 0 (.take 1 (.take 2 (.take 3 (.take 4 (.take 5 (.take 6 (.take 7 (.take 8 .done))))))))))]} Tryz.func255 (by kernel_rfl)
@[go_sem] def XMw:Xs5.g=255/\Xs5.fs=⟨[.ro 1,.ro 1],Xs5.F,false⟩:=⟨nr rfl,nr rfl⟩
@[go_sem] def XMx(xs ys:List UInt8)(h0:smL Xjm xs):Xs5.F [.sl .ro 1 (xs.map Yq),.sl .ro 1 (ys.map Yq)]=some (.b (eqv xs ys),[.u,.u]):=Xb (xs.length+1) rfl rfl (λcx h=>by
 have hb:=Xg Tryz.f255 0 _ _ rfl rfl
 have hx:=h0.1
 by_cases hl:xs.length=ys.length
 ·obtain⟨r,hr,hq⟩:=YH (cx:=cx) (blk:=0) (body:=XN Tryz.f255 0) (xs.zip ys) (λk (_:Unit)=>⟨E [(0,.sl .ro 1 (xs.map Yq)),(1,.sl .ro 1 (ys.map Yq)),(5,.i .i64 k)],B []⟩) (λ_=>⟨E [],B []⟩) (λx _=>!eqv x.1 x.2) (λ_ _=>()) (λ_ _=>(.ret,⟨E [(4,.b false)],B []⟩)) (λ_ _=>True)
   (λl _ G=>by simp only[go_sem,reduceIte,↓reduceIte,nB,nE,h,YQ hl,hl,Int.lt_irrefl,hb]) (λk hk l _=>by
    have hk:k<xs.length:=by rwa [YQ hl] at hk
    have h1:((k:Int)<(xs.length:Int)):=Int.ofNat_lt.2 hk
    have h2:=h0.2 _ (List.getElem_mem hk)
    have h3:(xs.zip ys)[k]=(xs[k],ys[k]'(by omega)):=by simp
    rw[h3]
    cases hc:eqv xs[k] (ys[k]'(by omega))
    ·exact .inl ⟨rfl,λG=>by simp only[go_sem,reduceIte,↓reduceIte,nB,nE,h,hc,Xi Yq xs k hk,Xi Yq ys k (by omega),Xh ys.length k (by omega),Xji,h1,Xh _ _ hk,hb]⟩
    ·exact .inr ⟨rfl,trivial,_,λG=>by simp only[go_sem,reduceIte,↓reduceIte,nB,nE,h,hc,Xi Yq xs k hk,Xi Yq ys k (by omega),Xh ys.length k (by omega),Xji,h1,Xh _ _ hk,Xd (show k<9223372036854775807 by omega),hb]<;>with_reducible rfl,by simp only[go_sem,reduceIte,↓reduceIte,nB,h]⟩) () trivial (xs.length+1) (by rw[YQ hl]; exact Nat.le_refl _)
  rw[hb] at hr
  have hl2:((xs.length:Int) !=(ys.length:Int))=false:=by simp[hl]
  rcases hq with⟨s',e1,e2,e3⟩ | ⟨x,s',e1,e3⟩
  ·simp only[go_sem,reduceIte,↓reduceIte,nB,nE,h,hl2,hr,e3,Xaw hl e1]
  ·simp only[go_sem,reduceIte,↓reduceIte,nB,nE,h,hl2,hr,e3,Xax hl e1]
 ·have hl2:((xs.length:Int) !=(ys.length:Int))=true:=by simpa using λh=>hl (Int.ofNat_inj.1 h)
  simp only[go_sem,reduceIte,↓reduceIte,nB,nE,h,hl2,Xbe hl]) (rfl)
def Xs6:SP Tryz.prog:=mkS tyA 256 Tryz.f256 [] {md:=[.ro 1,.ro 1],rg:=[(0,[2,3],[2,3]),(1,[2,3,9],[2,3]),(2,[4],[]),(3,[2,3,14],[2,3]),(4,[4],[]),(5,[2,3,19],[2,3]),(6,[4],[]),(7,[2,3,24],[2,3]),(8,[4],[]),(9,[2,3,29],[2,3]),(10,[4],[]),(11,[2,3,34],[2,3]),(12,[4],[]),(13,[39],[]),(14,[4],[]),(15,[4],[])],rets:=some ([4],[])} Tryz.func256 (by kernel_rfl)
@[go_sem] def XMy:Xs6.g=256/\Xs6.fs=⟨[.ro 1,.ro 1],Xs6.F,false⟩:=⟨nr rfl,nr rfl⟩
@[go_sem] def XMz(xAt w54 w55 w56 w57:Int)(w58 w59:Bool)(yAt w60 w61 w62 w63:Int)(w64 w65:Bool)(h0:Xjn (Meta.mk xAt w54 w55 w56 w57 w58 w59)):Xs6.F [.agg [.i .i64 xAt,.i .i64 w54,.i .i64 w55,.i .i64 w56,.i .i64 w57,.b w58,.b w59],.agg [.i .i64 yAt,.i .i64 w60,.i .i64 w61,.i .i64 w62,.i .i64 w63,.b w64,.b w65]]=some (.b (eqv (Meta.mk xAt w54 w55 w56 w57 w58 w59) (Meta.mk yAt w60 w61 w62 w63 w64 w65)),[.u,.u]):=Xb (0) rfl rfl (λcx h=>by
 obtain⟨q0,q1,q2,q3,q4,q5,q6⟩:=h0
 simp only[go_sem,reduceIte,↓reduceIte,nA,nB,nE,nL,h,Zd]
 simp only[Xd3,Meta.eqv (Meta.mk xAt w54 w55 w56 w57 w58 w59) (Meta.mk yAt w60 w61 w62 w63 w64 w65),XgE,Zf,Xbs,Bool.and_true]) (rfl)
def Xs7:SP Tryz.prog:=mkS tyA 216 Tryz.f216 [s41,Xrl,Xs5,Xs6] {md:=[.ro 1,.ro 1],rg:=[(0,[2,3],[2,3]),(1,[2,3,9],[2,3]),(2,[4],[]),(3,[2,3,14],[2,3]),(4,[4],[]),(5,[2,3,20],[2,3]),(6,[4],[]),(7,[2,3,26],[2,3]),(8,[4],[]),(9,[2,3,32],[2,3]),(10,[4],[]),(11,[2,3,38],[2,3]),(12,[4],[]),(13,[43],[]),(14,[4],[]),(15,[4],[])],rets:=some ([4],[])} Tryz.func216 (by kernel_rfl)
@[go_sem] def XMA:Xs7.g=216/\Xs7.fs=⟨[.ro 1,.ro 1],Xs7.F,false⟩:=⟨nr rfl,nr rfl⟩
@[go_sem] def XMB(w66:ByteArray)(w67:Int)(w69:List Xx)(w70:List UInt8)(w71 w72 w73 w74 w75:Int)(w76 w77:Bool)(w78:List ByteArray)(w79:Int)(w80:ByteArray)(w81:Int)(w83:List Xx)(w84:List UInt8)(w85 w86 w87 w88 w89:Int)(w90 w91:Bool)(w92:List ByteArray)(w93:Int)(h0:Zo (XK.mk w66 w67 w69 w70 (Meta.mk w71 w72 w73 w74 w75 w76 w77) w78 w79)):Xs7.F [.agg [.s w66,.i .i64 w67,.sl .ro 2 (w69.map (Xj .ro)),.sl .ro 1 (w70.map Yq),.i .i64 w71,.i .i64 w72,.i .i64 w73,.i .i64 w74,.i .i64 w75,.b w76,.b w77,.sl .ro 1 (w78.map Ye),.i .i64 w79],.agg [.s w80,.i .i64 w81,.sl .ro 2 (w83.map (Xj .ro)),.sl .ro 1 (w84.map Yq),.i .i64 w85,.i .i64 w86,.i .i64 w87,.i .i64 w88,.i .i64 w89,.b w90,.b w91,.sl .ro 1 (w92.map Ye),.i .i64 w93]]=some (.b (eqv (XK.mk w66 w67 w69 w70 (Meta.mk w71 w72 w73 w74 w75 w76 w77) w78 w79) (XK.mk w80 w81 w83 w84 (Meta.mk w85 w86 w87 w88 w89 w90 w91) w92 w93)),[.u,.u]):=Xb (0) rfl rfl (λcx h=>by
 obtain⟨q0,q1,q2,q3,q4,q5,q6⟩:=h0
 simp only[go_sem,reduceIte,↓reduceIte,nA,nB,nE,nL,h,Zd,XH,q2,q3,q4,q5]
 simp only[XK.eqv (XK.mk w66 w67 w69 w70 (Meta.mk w71 w72 w73 w74 w75 w76 w77) w78 w79) (XK.mk w80 w81 w83 w84 (Meta.mk w85 w86 w87 w88 w89 w90 w91) w92 w93),XgE,Zf,Xbs,Bool.and_true]) (rfl)
def Xs8:SP Tryz.prog:=mkS tyA 147 Tryz.f147 [Xs7] {md:=[.ro 1,.ro 1],rg:=[(0,[0,1],[]),(1,[0,1,10],[]),(2,[4],[]),(3,[0,1,5],[]),(4,[0,1,5,14],[]),(5,[0,1,5],[]),(6,[0,1,5,26],[]),(7,[4],[]),(8,[4],[])],lv:=[(0,[0,1,5],[])],out:=[(0,[],[])],rets:=some ([4],[]),plan:=[(6,(.take 0 (.take 1 (.take 2 (.take 3 (.take 4 (.take 5 (.take 6 (.take 7 (.one 8 (.take 9 .done)))))))))))]} Tryz.func147 (by kernel_rfl)
@[go_sem] def XMC:Xs8.g=147/\Xs8.fs=⟨[.ro 1,.ro 1],Xs8.F,false⟩:=⟨nr rfl,nr rfl⟩
@[go_sem] def XMD(xs ys:List XK)(h0:smL Zo xs):Xs8.F [.sl .ro 13 (xs.map (Xa .ro)),.sl .ro 13 (ys.map (Xa .ro))]=some (.b (eqv xs ys),[.u,.u]):=Xb (xs.length+1) rfl rfl (λcx h=>by
 have hb:=Xg Tryz.f147 0 _ _ rfl rfl
 have hx:=h0.1
 by_cases hl:xs.length=ys.length
 ·obtain⟨r,hr,hq⟩:=YH (cx:=cx) (blk:=0) (body:=XN Tryz.f147 0) (xs.zip ys) (λk (_:Unit)=>⟨E [(0,.sl .ro 13 (xs.map (Xa .ro))),(1,.sl .ro 13 (ys.map (Xa .ro))),(5,.i .i64 k)],B []⟩) (λ_=>⟨E [],B []⟩) (λx _=>!eqv x.1 x.2) (λ_ _=>()) (λ_ _=>(.ret,⟨E [(4,.b false)],B []⟩)) (λ_ _=>True)
   (λl _ G=>by simp only[go_sem,reduceIte,↓reduceIte,nB,nE,h,YQ hl,hl,Int.lt_irrefl,hb]) (λk hk l _=>by
    have hk:k<xs.length:=by rwa [YQ hl] at hk
    have h1:((k:Int)<(xs.length:Int)):=Int.ofNat_lt.2 hk
    have h2:=h0.2 _ (List.getElem_mem hk)
    have h3:(xs.zip ys)[k]=(xs[k],ys[k]'(by omega)):=by simp
    rw[h3]
    cases hc:eqv xs[k] (ys[k]'(by omega))
    ·exact .inl ⟨rfl,λG=>by simp only[go_sem,reduceIte,↓reduceIte,nA,nB,nE,h,hc,Xi (Xa .ro) xs k hk,Xi (Xa .ro) ys k (by omega),Xh ys.length k (by omega),h2,h1,Xh _ _ hk,hb]⟩
    ·exact .inr ⟨rfl,trivial,_,λG=>by simp only[go_sem,reduceIte,↓reduceIte,nA,nB,nE,h,hc,Xi (Xa .ro) xs k hk,Xi (Xa .ro) ys k (by omega),Xh ys.length k (by omega),h2,h1,Xh _ _ hk,Xd (show k<9223372036854775807 by omega),hb]<;>with_reducible rfl,by simp only[go_sem,reduceIte,↓reduceIte,nB,h]⟩) () trivial (xs.length+1) (by rw[YQ hl]; exact Nat.le_refl _)
  rw[hb] at hr
  have hl2:((xs.length:Int) !=(ys.length:Int))=false:=by simp[hl]
  rcases hq with⟨s',e1,e2,e3⟩ | ⟨x,s',e1,e3⟩
  ·simp only[go_sem,reduceIte,↓reduceIte,nB,nE,h,hl2,hr,e3,Xaw hl e1]
  ·simp only[go_sem,reduceIte,↓reduceIte,nB,nE,h,hl2,hr,e3,Xax hl e1]
 ·have hl2:((xs.length:Int) !=(ys.length:Int))=true:=by simpa using λh=>hl (Int.ofNat_inj.1 h)
  simp only[go_sem,reduceIte,↓reduceIte,nB,nE,h,hl2,Xbe hl]) (rfl)
def s70:SP Tryz.prog:=mkS tyA 70 Tryz.f70 [Xs8] {md:=[.ro 1,.ro 1],rg:=[(0,[2,3],[2,3]),(1,[2,3,9],[2,3]),(2,[4],[]),(3,[2,3,14],[2,3]),(4,[4],[]),(5,[2,3,20],[2,3]),(6,[4],[]),(7,[26],[]),(8,[4],[]),(9,[4],[])],rets:=some ([4],[])} Tryz.func70 (by kernel_rfl)
@[go_sem] def d70:s70.g=70/\s70.fs=⟨[.ro 1,.ro 1],s70.F,false⟩:=⟨nr rfl,nr rfl⟩
@[go_sem] def e70(w16 w17:Int)(w94 w95:List XK)(w34 w35:Int)(w96 w97:List XK)(h0:Xck (Store.mk w16 w17 w94 w95)):s70.F [.agg [.i .i64 w16,.i .i64 w17,.sl .ro 13 (w94.map (Xa .ro)),.sl .ro 13 (w95.map (Xa .ro))],.agg [.i .i64 w34,.i .i64 w35,.sl .ro 13 (w96.map (Xa .ro)),.sl .ro 13 (w97.map (Xa .ro))]]=some (.b (eqv (Store.mk w16 w17 w94 w95) (Store.mk w34 w35 w96 w97)),[.u,.u]):=Xb (0) rfl rfl (λcx h=>by
 obtain⟨q0,q1,q2,q3⟩:=h0
 simp only[go_sem,reduceIte,↓reduceIte,nA,nB,nE,nL,h,Zd,q2,q3]
 simp only[Store.eqv (Store.mk w16 w17 w94 w95) (Store.mk w34 w35 w96 w97),XgE,Zf,Xbs,Bool.and_true]) (rfl)
def Xs9:SP Tryz.prog:=mkS tyA 258 Tryz.f258 [] {md:=[.ro 1,.ro 1],rg:=[(0,[2,3],[2,3]),(1,[2,3,9],[2,3]),(2,[4],[]),(3,[14],[]),(4,[4],[]),(5,[4],[])],rets:=some ([4],[])} Tryz.func258 (by kernel_rfl)
@[go_sem] def XME:Xs9.g=258/\Xs9.fs=⟨[.ro 1,.ro 1],Xs9.F,false⟩:=⟨nr rfl,nr rfl⟩
@[go_sem] def XMF(xId w98 yId w99:Int)(h0:Xab (ZM.mk xId w98)):Xs9.F [.agg [.i .i64 xId,.i .i64 w98],.agg [.i .i64 yId,.i .i64 w99]]=some (.b (eqv (ZM.mk xId w98) (ZM.mk yId w99)),[.u,.u]):=Xb (0) rfl rfl (λcx h=>by
 obtain⟨q0,q1⟩:=h0
 simp only[go_sem,reduceIte,↓reduceIte,nA,nB,nE,nL,h,Zd]
 simp only[ZM.eqv (ZM.mk xId w98) (ZM.mk yId w99),XgE,Zf,Xbs,Bool.and_true]) (rfl)
def Xta:SP Tryz.prog:=mkS tyA 221 Tryz.f221 [Xs9] {md:=[.ro 1,.ro 1],rg:=[(0,[0,1],[]),(1,[0,1,10],[]),(2,[4],[]),(3,[0,1,5],[]),(4,[0,1,5,14],[]),(5,[0,1,5],[]),(6,[0,1,5,26],[]),(7,[4],[]),(8,[4],[])],lv:=[(0,[0,1,5],[])],out:=[(0,[],[])],rets:=some ([4],[]),plan:=[(6,(.take 0 (.take 1 (.take 2 (.take 3 (.take 4 (.take 5 (.take 6 (.take 7 (.one 8 (.take 9 .done)))))))))))]} Tryz.func221 (by kernel_rfl)
@[go_sem] def XMG:Xta.g=221/\Xta.fs=⟨[.ro 1,.ro 1],Xta.F,false⟩:=⟨nr rfl,nr rfl⟩
@[go_sem] def XMH(xs ys:List ZM)(h0:smL Xab xs):Xta.F [.sl .ro 2 (xs.map (XF .ro)),.sl .ro 2 (ys.map (XF .ro))]=some (.b (eqv xs ys),[.u,.u]):=Xb (xs.length+1) rfl rfl (λcx h=>by
 have hb:=Xg Tryz.f221 0 _ _ rfl rfl
 have hx:=h0.1
 by_cases hl:xs.length=ys.length
 ·obtain⟨r,hr,hq⟩:=YH (cx:=cx) (blk:=0) (body:=XN Tryz.f221 0) (xs.zip ys) (λk (_:Unit)=>⟨E [(0,.sl .ro 2 (xs.map (XF .ro))),(1,.sl .ro 2 (ys.map (XF .ro))),(5,.i .i64 k)],B []⟩) (λ_=>⟨E [],B []⟩) (λx _=>!eqv x.1 x.2) (λ_ _=>()) (λ_ _=>(.ret,⟨E [(4,.b false)],B []⟩)) (λ_ _=>True)
   (λl _ G=>by simp only[go_sem,reduceIte,↓reduceIte,nB,nE,h,YQ hl,hl,Int.lt_irrefl,hb]) (λk hk l _=>by
    have hk:k<xs.length:=by rwa [YQ hl] at hk
    have h1:((k:Int)<(xs.length:Int)):=Int.ofNat_lt.2 hk
    have h2:=h0.2 _ (List.getElem_mem hk)
    have h3:(xs.zip ys)[k]=(xs[k],ys[k]'(by omega)):=by simp
    rw[h3]
    cases hc:eqv xs[k] (ys[k]'(by omega))
    ·exact .inl ⟨rfl,λG=>by simp only[go_sem,reduceIte,↓reduceIte,nA,nB,nE,h,hc,Xi (XF .ro) xs k hk,Xi (XF .ro) ys k (by omega),Xh ys.length k (by omega),h2,h1,Xh _ _ hk,hb]⟩
    ·exact .inr ⟨rfl,trivial,_,λG=>by simp only[go_sem,reduceIte,↓reduceIte,nA,nB,nE,h,hc,Xi (XF .ro) xs k hk,Xi (XF .ro) ys k (by omega),Xh ys.length k (by omega),h2,h1,Xh _ _ hk,Xd (show k<9223372036854775807 by omega),hb]<;>with_reducible rfl,by simp only[go_sem,reduceIte,↓reduceIte,nB,h]⟩) () trivial (xs.length+1) (by rw[YQ hl]; exact Nat.le_refl _)
  rw[hb] at hr
  have hl2:((xs.length:Int) !=(ys.length:Int))=false:=by simp[hl]
  rcases hq with⟨s',e1,e2,e3⟩ | ⟨x,s',e1,e3⟩
  ·simp only[go_sem,reduceIte,↓reduceIte,nB,nE,h,hl2,hr,e3,Xaw hl e1]
  ·simp only[go_sem,reduceIte,↓reduceIte,nB,nE,h,hl2,hr,e3,Xax hl e1]
 ·have hl2:((xs.length:Int) !=(ys.length:Int))=true:=by simpa using λh=>hl (Int.ofNat_inj.1 h)
  simp only[go_sem,reduceIte,↓reduceIte,nB,nE,h,hl2,Xbe hl]) (rfl)
def Xtb:SP Tryz.prog:=mkS tyA 153 Tryz.f153 [Xta] {md:=[.ro 1,.ro 1],rg:=[(0,[2,3],[2,3]),(1,[2,3,9],[2,3]),(2,[4],[]),(3,[15],[]),(4,[4],[]),(5,[4],[])],rets:=some ([4],[])} Tryz.func153 (by kernel_rfl)
@[go_sem] def XMI:Xtb.g=153/\Xtb.fs=⟨[.ro 1,.ro 1],Xtb.F,false⟩:=⟨nr rfl,nr rfl⟩
@[go_sem] def XMJ(w100:Int)(w101:List ZM)(w102:Int)(w103:List ZM)(h0:XhJ (Bulk.mk w100 w101)):Xtb.F [.agg [.i .i64 w100,.sl .ro 2 (w101.map (XF .ro))],.agg [.i .i64 w102,.sl .ro 2 (w103.map (XF .ro))]]=some (.b (eqv (Bulk.mk w100 w101) (Bulk.mk w102 w103)),[.u,.u]):=Xb (0) rfl rfl (λcx h=>by
 obtain⟨q0,q1⟩:=h0
 simp only[go_sem,reduceIte,↓reduceIte,nA,nB,nE,nL,h,Zd,q1]
 simp only[Bulk.eqv (Bulk.mk w100 w101) (Bulk.mk w102 w103),XgE,Zf,Xbs,Bool.and_true]) (rfl)
def Xtc:SP Tryz.prog:=mkS tyA 259 Tryz.f259 [] {md:=[.ro 1,.ro 1],rg:=[(0,[2,3],[2,3]),(1,[2,3,9],[2,3]),(2,[4],[]),(3,[14],[]),(4,[4],[]),(5,[4],[])],rets:=some ([4],[])} Tryz.func259 (by kernel_rfl)
@[go_sem] def XMK:Xtc.g=259/\Xtc.fs=⟨[.ro 1,.ro 1],Xtc.F,false⟩:=⟨nr rfl,nr rfl⟩
@[go_sem] def XML(xAt:Int)(w104:Bool)(yAt:Int)(w105:Bool)(h0:Xan (Z2.mk xAt w104)):Xtc.F [.agg [.i .i64 xAt,.b w104],.agg [.i .i64 yAt,.b w105]]=some (.b (eqv (Z2.mk xAt w104) (Z2.mk yAt w105)),[.u,.u]):=Xb (0) rfl rfl (λcx h=>by
 obtain⟨q0,q1⟩:=h0
 simp only[go_sem,reduceIte,↓reduceIte,nA,nB,nE,nL,h,Zd]
 simp only[Xd3,Z2.eqv (Z2.mk xAt w104) (Z2.mk yAt w105),XgE,Zf,Xbs,Bool.and_true]) (rfl)
def Xtd:SP Tryz.prog:=mkS tyA 222 Tryz.f222 [Xtc] {md:=[.ro 1,.ro 1],rg:=[(0,[0,1],[]),(1,[0,1,10],[]),(2,[4],[]),(3,[0,1,5],[]),(4,[0,1,5,14],[]),(5,[0,1,5],[]),(6,[0,1,5,26],[]),(7,[4],[]),(8,[4],[])],lv:=[(0,[0,1,5],[])],out:=[(0,[],[])],rets:=some ([4],[]),plan:=[(6,(.take 0 (.take 1 (.take 2 (.take 3 (.take 4 (.take 5 (.take 6 (.take 7 (.one 8 (.take 9 .done)))))))))))]} Tryz.func222 (by kernel_rfl)
@[go_sem] def XMM:Xtd.g=222/\Xtd.fs=⟨[.ro 1,.ro 1],Xtd.F,false⟩:=⟨nr rfl,nr rfl⟩
@[go_sem] def XMN(xs ys:List Z2)(h0:smL Xan xs):Xtd.F [.sl .ro 2 (xs.map (XL .ro)),.sl .ro 2 (ys.map (XL .ro))]=some (.b (eqv xs ys),[.u,.u]):=Xb (xs.length+1) rfl rfl (λcx h=>by
 have hb:=Xg Tryz.f222 0 _ _ rfl rfl
 have hx:=h0.1
 by_cases hl:xs.length=ys.length
 ·obtain⟨r,hr,hq⟩:=YH (cx:=cx) (blk:=0) (body:=XN Tryz.f222 0) (xs.zip ys) (λk (_:Unit)=>⟨E [(0,.sl .ro 2 (xs.map (XL .ro))),(1,.sl .ro 2 (ys.map (XL .ro))),(5,.i .i64 k)],B []⟩) (λ_=>⟨E [],B []⟩) (λx _=>!eqv x.1 x.2) (λ_ _=>()) (λ_ _=>(.ret,⟨E [(4,.b false)],B []⟩)) (λ_ _=>True)
   (λl _ G=>by simp only[go_sem,reduceIte,↓reduceIte,nB,nE,h,YQ hl,hl,Int.lt_irrefl,hb]) (λk hk l _=>by
    have hk:k<xs.length:=by rwa [YQ hl] at hk
    have h1:((k:Int)<(xs.length:Int)):=Int.ofNat_lt.2 hk
    have h2:=h0.2 _ (List.getElem_mem hk)
    have h3:(xs.zip ys)[k]=(xs[k],ys[k]'(by omega)):=by simp
    rw[h3]
    cases hc:eqv xs[k] (ys[k]'(by omega))
    ·exact .inl ⟨rfl,λG=>by simp only[go_sem,reduceIte,↓reduceIte,nA,nB,nE,h,hc,Xi (XL .ro) xs k hk,Xi (XL .ro) ys k (by omega),Xh ys.length k (by omega),h2,h1,Xh _ _ hk,hb]⟩
    ·exact .inr ⟨rfl,trivial,_,λG=>by simp only[go_sem,reduceIte,↓reduceIte,nA,nB,nE,h,hc,Xi (XL .ro) xs k hk,Xi (XL .ro) ys k (by omega),Xh ys.length k (by omega),h2,h1,Xh _ _ hk,Xd (show k<9223372036854775807 by omega),hb]<;>with_reducible rfl,by simp only[go_sem,reduceIte,↓reduceIte,nB,h]⟩) () trivial (xs.length+1) (by rw[YQ hl]; exact Nat.le_refl _)
  rw[hb] at hr
  have hl2:((xs.length:Int) !=(ys.length:Int))=false:=by simp[hl]
  rcases hq with⟨s',e1,e2,e3⟩ | ⟨x,s',e1,e3⟩
  ·simp only[go_sem,reduceIte,↓reduceIte,nB,nE,h,hl2,hr,e3,Xaw hl e1]
  ·simp only[go_sem,reduceIte,↓reduceIte,nB,nE,h,hl2,hr,e3,Xax hl e1]
 ·have hl2:((xs.length:Int) !=(ys.length:Int))=true:=by simpa using λh=>hl (Int.ofNat_inj.1 h)
  simp only[go_sem,reduceIte,↓reduceIte,nB,nE,h,hl2,Xbe hl]) (rfl)
def Xte:SP Tryz.prog:=mkS tyA 154 Tryz.f154 [Xtd] {md:=[.ro 1,.ro 1],rg:=[(0,[2,3],[2,3]),(1,[2,3,9],[2,3]),(2,[4],[]),(3,[2,3,14],[2,3]),(4,[4],[]),(5,[2,3,19],[2,3]),(6,[4],[]),(7,[25],[]),(8,[4],[]),(9,[4],[])],rets:=some ([4],[])} Tryz.func154 (by kernel_rfl)
@[go_sem] def XMO:Xte.g=154/\Xte.fs=⟨[.ro 1,.ro 1],Xte.F,false⟩:=⟨nr rfl,nr rfl⟩
@[go_sem] def XMP(w106 w107 w108:Int)(w109:List Z2)(w110 w111 w112:Int)(w113:List Z2)(h0:XbL (Breaker.mk w106 w107 w108 w109)):Xte.F [.agg [.i .i64 w106,.i .i64 w107,.i .i64 w108,.sl .ro 2 (w109.map (XL .ro))],.agg [.i .i64 w110,.i .i64 w111,.i .i64 w112,.sl .ro 2 (w113.map (XL .ro))]]=some (.b (eqv (Breaker.mk w106 w107 w108 w109) (Breaker.mk w110 w111 w112 w113)),[.u,.u]):=Xb (0) rfl rfl (λcx h=>by
 obtain⟨q0,q1,q2,q3⟩:=h0
 simp only[go_sem,reduceIte,↓reduceIte,nA,nB,nE,nL,h,Zd,q3]
 simp only[Breaker.eqv (Breaker.mk w106 w107 w108 w109) (Breaker.mk w110 w111 w112 w113),XgE,Zf,Xbs,Bool.and_true]) (rfl)
def s79:SP Tryz.prog:=mkS tyA 79 Tryz.f79 [Xtb,Xte] {md:=[.ro 1,.ro 1],rg:=[(0,[2,3],[2,3]),(1,[2,3,9],[2,3]),(2,[4],[]),(3,[2,3,15],[2,3]),(4,[4],[]),(5,[21],[]),(6,[4],[]),(7,[4],[])],rets:=some ([4],[])} Tryz.func79 (by kernel_rfl)
@[go_sem] def d79:s79.g=79/\s79.fs=⟨[.ro 1,.ro 1],s79.F,false⟩:=⟨nr rfl,nr rfl⟩
@[go_sem] def e79(w114:ByteArray)(w115:Int)(w116:List ZM)(w117 w118 w119:Int)(w120:List Z2)(w121:ByteArray)(w122:Int)(w123:List ZM)(w124 w125 w126:Int)(w127:List Z2)(h0:Ud (Origin.mk w114 (Bulk.mk w115 w116) (Breaker.mk w117 w118 w119 w120))):s79.F [.agg [.s w114,.i .i64 w115,.sl .ro 2 (w116.map (XF .ro)),.i .i64 w117,.i .i64 w118,.i .i64 w119,.sl .ro 2 (w120.map (XL .ro))],.agg [.s w121,.i .i64 w122,.sl .ro 2 (w123.map (XF .ro)),.i .i64 w124,.i .i64 w125,.i .i64 w126,.sl .ro 2 (w127.map (XL .ro))]]=some (.b (eqv (Origin.mk w114 (Bulk.mk w115 w116) (Breaker.mk w117 w118 w119 w120)) (Origin.mk w121 (Bulk.mk w122 w123) (Breaker.mk w124 w125 w126 w127))),[.u,.u]):=Xb (0) rfl rfl (λcx h=>by
 obtain⟨q0,q1,q2⟩:=h0
 simp only[go_sem,reduceIte,↓reduceIte,nA,nB,nE,nL,h,XH,q1,q2]
 simp only[Origin.eqv (Origin.mk w114 (Bulk.mk w115 w116) (Breaker.mk w117 w118 w119 w120)) (Origin.mk w121 (Bulk.mk w122 w123) (Breaker.mk w124 w125 w126 w127)),XgE,Zf,Xbs,Bool.and_true]) (rfl)
def s71:SP Tryz.prog:=mkS tyA 71 Tryz.f71 [s79] {md:=[.ro 1,.ro 1],rg:=[(0,[0,1],[]),(1,[0,1,10],[]),(2,[4],[]),(3,[0,1,5],[]),(4,[0,1,5,14],[]),(5,[0,1,5],[]),(6,[0,1,5,26],[]),(7,[4],[]),(8,[4],[])],lv:=[(0,[0,1,5],[])],out:=[(0,[],[])],rets:=some ([4],[]),plan:=[(6,(.take 0 (.take 1 (.take 2 (.take 3 (.take 4 (.take 5 (.take 6 (.take 7 (.one 8 (.take 9 .done)))))))))))]} Tryz.func71 (by kernel_rfl)
@[go_sem] def d71:s71.g=71/\s71.fs=⟨[.ro 1,.ro 1],s71.F,false⟩:=⟨nr rfl,nr rfl⟩
@[go_sem] def e71(xs ys:List Origin)(h0:smL Ud xs):s71.F [.sl .ro 7 (xs.map (Xe .ro)),.sl .ro 7 (ys.map (Xe .ro))]=some (.b (eqv xs ys),[.u,.u]):=Xb (xs.length+1) rfl rfl (λcx h=>by
 have hb:=Xg Tryz.f71 0 _ _ rfl rfl
 have hx:=h0.1
 by_cases hl:xs.length=ys.length
 ·obtain⟨r,hr,hq⟩:=YH (cx:=cx) (blk:=0) (body:=XN Tryz.f71 0) (xs.zip ys) (λk (_:Unit)=>⟨E [(0,.sl .ro 7 (xs.map (Xe .ro))),(1,.sl .ro 7 (ys.map (Xe .ro))),(5,.i .i64 k)],B []⟩) (λ_=>⟨E [],B []⟩) (λx _=>!eqv x.1 x.2) (λ_ _=>()) (λ_ _=>(.ret,⟨E [(4,.b false)],B []⟩)) (λ_ _=>True)
   (λl _ G=>by simp only[go_sem,reduceIte,↓reduceIte,nB,nE,h,YQ hl,hl,Int.lt_irrefl,hb]) (λk hk l _=>by
    have hk:k<xs.length:=by rwa [YQ hl] at hk
    have h1:((k:Int)<(xs.length:Int)):=Int.ofNat_lt.2 hk
    have h2:=h0.2 _ (List.getElem_mem hk)
    have h3:(xs.zip ys)[k]=(xs[k],ys[k]'(by omega)):=by simp
    rw[h3]
    cases hc:eqv xs[k] (ys[k]'(by omega))
    ·exact .inl ⟨rfl,λG=>by simp only[go_sem,reduceIte,↓reduceIte,nA,nB,nE,h,hc,Xi (Xe .ro) xs k hk,Xi (Xe .ro) ys k (by omega),Xh ys.length k (by omega),h2,h1,Xh _ _ hk,hb]⟩
    ·exact .inr ⟨rfl,trivial,_,λG=>by simp only[go_sem,reduceIte,↓reduceIte,nA,nB,nE,h,hc,Xi (Xe .ro) xs k hk,Xi (Xe .ro) ys k (by omega),Xh ys.length k (by omega),h2,h1,Xh _ _ hk,Xd (show k<9223372036854775807 by omega),hb]<;>with_reducible rfl,by simp only[go_sem,reduceIte,↓reduceIte,nB,h]⟩) () trivial (xs.length+1) (by rw[YQ hl]; exact Nat.le_refl _)
  rw[hb] at hr
  have hl2:((xs.length:Int) !=(ys.length:Int))=false:=by simp[hl]
  rcases hq with⟨s',e1,e2,e3⟩ | ⟨x,s',e1,e3⟩
  ·simp only[go_sem,reduceIte,↓reduceIte,nB,nE,h,hl2,hr,e3,Xaw hl e1]
  ·simp only[go_sem,reduceIte,↓reduceIte,nB,nE,h,hl2,hr,e3,Xax hl e1]
 ·have hl2:((xs.length:Int) !=(ys.length:Int))=true:=by simpa using λh=>hl (Int.ofNat_inj.1 h)
  simp only[go_sem,reduceIte,↓reduceIte,nB,nE,h,hl2,Xbe hl]) (rfl)
def Xtf:SP Tryz.prog:=mkS tyA 217 Tryz.f217 [Xrl] {md:=[.ro 1,.ro 1],rg:=[(0,[2,3],[2,3]),(1,[2,3,9],[2,3]),(2,[4],[]),(3,[2,3,14],[2,3]),(4,[4],[]),(5,[2,3,19],[2,3]),(6,[4],[]),(7,[25],[]),(8,[4],[]),(9,[4],[])],rets:=some ([4],[])} Tryz.func217 (by kernel_rfl)
@[go_sem] def XMQ:Xtf.g=217/\Xtf.fs=⟨[.ro 1,.ro 1],Xtf.F,false⟩:=⟨nr rfl,nr rfl⟩
@[go_sem] def XMR(w128 w114 w129:ByteArray)(w69:List Xx)(w130 w121 w131:ByteArray)(w83:List Xx)(h0:XcR (XQ.mk w128 w114 w129 w69)):Xtf.F [.agg [.s w128,.s w114,.s w129,.sl .ro 2 (w69.map (Xj .ro))],.agg [.s w130,.s w121,.s w131,.sl .ro 2 (w83.map (Xj .ro))]]=some (.b (eqv (XQ.mk w128 w114 w129 w69) (XQ.mk w130 w121 w131 w83)),[.u,.u]):=Xb (0) rfl rfl (λcx h=>by
 obtain⟨q0,q1,q2,q3⟩:=h0
 simp only[go_sem,reduceIte,↓reduceIte,nA,nB,nE,nL,h,XH,q3]
 simp only[XQ.eqv (XQ.mk w128 w114 w129 w69) (XQ.mk w130 w121 w131 w83),XgE,Zf,Xbs,Bool.and_true]) (rfl)
def Xtg:SP Tryz.prog:=mkS tyA 257 Tryz.f257 [] {md:=[.ro 1,.ro 1],rg:=[(0,[2,3],[2,3]),(1,[2,3,9],[2,3]),(2,[4],[]),(3,[2,3,14],[2,3]),(4,[4],[]),(5,[2,3,19],[2,3]),(6,[4],[]),(7,[24],[]),(8,[4],[]),(9,[4],[])],rets:=some ([4],[])} Tryz.func257 (by kernel_rfl)
@[go_sem] def XMS:Xtg.g=257/\Xtg.fs=⟨[.ro 1,.ro 1],Xtg.F,false⟩:=⟨nr rfl,nr rfl⟩
@[go_sem] def XMT(w132:Int)(w68:Bool)(w98:Int)(w133:Bool)(w134:Int)(w82:Bool)(w99:Int)(w135:Bool)(h0:Xbi (X2.mk w132 w68 w98 w133)):Xtg.F [.agg [.i .i64 w132,.b w68,.i .i64 w98,.b w133],.agg [.i .i64 w134,.b w82,.i .i64 w99,.b w135]]=some (.b (eqv (X2.mk w132 w68 w98 w133) (X2.mk w134 w82 w99 w135)),[.u,.u]):=Xb (0) rfl rfl (λcx h=>by
 obtain⟨q0,q1,q2,q3⟩:=h0
 simp only[go_sem,reduceIte,↓reduceIte,nA,nB,nE,nL,h,Zd]
 simp only[Xd3,X2.eqv (X2.mk w132 w68 w98 w133) (X2.mk w134 w82 w99 w135),XgE,Zf,Xbs,Bool.and_true]) (rfl)
def Xth:SP Tryz.prog:=mkS tyA 218 Tryz.f218 [Xtg] {md:=[.ro 1,.ro 1],rg:=[(0,[0,1],[]),(1,[0,1,10],[]),(2,[4],[]),(3,[0,1,5],[]),(4,[0,1,5,14],[]),(5,[0,1,5],[]),(6,[0,1,5,26],[]),(7,[4],[]),(8,[4],[])],lv:=[(0,[0,1,5],[])],out:=[(0,[],[])],rets:=some ([4],[]),plan:=[(6,(.take 0 (.take 1 (.take 2 (.take 3 (.take 4 (.take 5 (.take 6 (.take 7 (.one 8 (.take 9 .done)))))))))))]} Tryz.func218 (by kernel_rfl)
@[go_sem] def XMU:Xth.g=218/\Xth.fs=⟨[.ro 1,.ro 1],Xth.F,false⟩:=⟨nr rfl,nr rfl⟩
@[go_sem] def XMV(xs ys:List X2)(h0:smL Xbi xs):Xth.F [.sl .ro 4 (xs.map (Xk .ro)),.sl .ro 4 (ys.map (Xk .ro))]=some (.b (eqv xs ys),[.u,.u]):=Xb (xs.length+1) rfl rfl (λcx h=>by
 have hb:=Xg Tryz.f218 0 _ _ rfl rfl
 have hx:=h0.1
 by_cases hl:xs.length=ys.length
 ·obtain⟨r,hr,hq⟩:=YH (cx:=cx) (blk:=0) (body:=XN Tryz.f218 0) (xs.zip ys) (λk (_:Unit)=>⟨E [(0,.sl .ro 4 (xs.map (Xk .ro))),(1,.sl .ro 4 (ys.map (Xk .ro))),(5,.i .i64 k)],B []⟩) (λ_=>⟨E [],B []⟩) (λx _=>!eqv x.1 x.2) (λ_ _=>()) (λ_ _=>(.ret,⟨E [(4,.b false)],B []⟩)) (λ_ _=>True)
   (λl _ G=>by simp only[go_sem,reduceIte,↓reduceIte,nB,nE,h,YQ hl,hl,Int.lt_irrefl,hb]) (λk hk l _=>by
    have hk:k<xs.length:=by rwa [YQ hl] at hk
    have h1:((k:Int)<(xs.length:Int)):=Int.ofNat_lt.2 hk
    have h2:=h0.2 _ (List.getElem_mem hk)
    have h3:(xs.zip ys)[k]=(xs[k],ys[k]'(by omega)):=by simp
    rw[h3]
    cases hc:eqv xs[k] (ys[k]'(by omega))
    ·exact .inl ⟨rfl,λG=>by simp only[go_sem,reduceIte,↓reduceIte,nA,nB,nE,h,hc,Xi (Xk .ro) xs k hk,Xi (Xk .ro) ys k (by omega),Xh ys.length k (by omega),h2,h1,Xh _ _ hk,hb]⟩
    ·exact .inr ⟨rfl,trivial,_,λG=>by simp only[go_sem,reduceIte,↓reduceIte,nA,nB,nE,h,hc,Xi (Xk .ro) xs k hk,Xi (Xk .ro) ys k (by omega),Xh ys.length k (by omega),h2,h1,Xh _ _ hk,Xd (show k<9223372036854775807 by omega),hb]<;>with_reducible rfl,by simp only[go_sem,reduceIte,↓reduceIte,nB,h]⟩) () trivial (xs.length+1) (by rw[YQ hl]; exact Nat.le_refl _)
  rw[hb] at hr
  have hl2:((xs.length:Int) !=(ys.length:Int))=false:=by simp[hl]
  rcases hq with⟨s',e1,e2,e3⟩ | ⟨x,s',e1,e3⟩
  ·simp only[go_sem,reduceIte,↓reduceIte,nB,nE,h,hl2,hr,e3,Xaw hl e1]
  ·simp only[go_sem,reduceIte,↓reduceIte,nB,nE,h,hl2,hr,e3,Xax hl e1]
 ·have hl2:((xs.length:Int) !=(ys.length:Int))=true:=by simpa using λh=>hl (Int.ofNat_inj.1 h)
  simp only[go_sem,reduceIte,↓reduceIte,nB,nE,h,hl2,Xbe hl]) (rfl)
def Xti:SP Tryz.prog:=mkS tyA 148 Tryz.f148 [Xtf,Xth] {md:=[.ro 1,.ro 1],rg:=[(0,[2,3],[2,3]),(1,[2,3,9],[2,3]),(2,[4],[]),(3,[2,3,14],[2,3]),(4,[4],[]),(5,[2,3,19],[2,3]),(6,[4],[]),(7,[2,3,24],[2,3]),(8,[4],[]),(9,[2,3,29],[2,3]),(10,[4],[]),(11,[2,3,34],[2,3]),(12,[4],[]),(13,[2,3,40],[2,3]),(14,[4],[]),(15,[46],[]),(16,[4],[]),(17,[4],[])],rets:=some ([4],[])} Tryz.func148 (by kernel_rfl)
@[go_sem] def XMW:Xti.g=148/\Xti.fs=⟨[.ro 1,.ro 1],Xti.F,false⟩:=⟨nr rfl,nr rfl⟩
@[go_sem] def XMX(xId:Int)(w66:ByteArray)(w136 w108:Bool)(w98:Int)(w137:Bool)(w138 w139 w140:ByteArray)(w141:List Xx)(w142:List X2)(yId:Int)(w80:ByteArray)(w143 w112:Bool)(w99:Int)(w144:Bool)(w145 w146 w147:ByteArray)(w148:List Xx)(w149:List X2)(h0:QX (Xl.mk xId w66 w136 w108 w98 w137 (XQ.mk w138 w139 w140 w141) w142)):Xti.F [.agg [.i .i64 xId,.s w66,.b w136,.b w108,.i .i64 w98,.b w137,.s w138,.s w139,.s w140,.sl .ro 2 (w141.map (Xj .ro)),.sl .ro 4 (w142.map (Xk .ro))],.agg [.i .i64 yId,.s w80,.b w143,.b w112,.i .i64 w99,.b w144,.s w145,.s w146,.s w147,.sl .ro 2 (w148.map (Xj .ro)),.sl .ro 4 (w149.map (Xk .ro))]]=some (.b (eqv (Xl.mk xId w66 w136 w108 w98 w137 (XQ.mk w138 w139 w140 w141) w142) (Xl.mk yId w80 w143 w112 w99 w144 (XQ.mk w145 w146 w147 w148) w149)),[.u,.u]):=Xb (0) rfl rfl (λcx h=>by
 obtain⟨q0,q1,q2,q3,q4,q5,q6,q7⟩:=h0
 simp only[go_sem,reduceIte,↓reduceIte,nA,nB,nE,nL,h,Zd,XH,q6,q7]
 simp only[Xd3,Xl.eqv (Xl.mk xId w66 w136 w108 w98 w137 (XQ.mk w138 w139 w140 w141) w142) (Xl.mk yId w80 w143 w112 w99 w144 (XQ.mk w145 w146 w147 w148) w149),XgE,Zf,Xbs,Bool.and_true]) (rfl)
def s72:SP Tryz.prog:=mkS tyA 72 Tryz.f72 [Xti] {md:=[.ro 1,.ro 1],rg:=[(0,[0,1],[]),(1,[0,1,10],[]),(2,[4],[]),(3,[0,1,5],[]),(4,[0,1,5,14],[]),(5,[0,1,5],[]),(6,[0,1,5,26],[]),(7,[4],[]),(8,[4],[])],lv:=[(0,[0,1,5],[])],out:=[(0,[],[])],rets:=some ([4],[]),plan:=[(6,(.take 0 (.take 1 (.take 2 (.take 3 (.take 4 (.take 5 (.take 6 (.take 7 (.one 8 (.take 9 .done)))))))))))]} Tryz.func72 (by kernel_rfl)
@[go_sem] def d72:s72.g=72/\s72.fs=⟨[.ro 1,.ro 1],s72.F,false⟩:=⟨nr rfl,nr rfl⟩
@[go_sem] def e72(xs ys:List Xl)(h0:smL QX xs):s72.F [.sl .ro 11 (xs.map (Xc .ro)),.sl .ro 11 (ys.map (Xc .ro))]=some (.b (eqv xs ys),[.u,.u]):=Xb (xs.length+1) rfl rfl (λcx h=>by
 have hb:=Xg Tryz.f72 0 _ _ rfl rfl
 have hx:=h0.1
 by_cases hl:xs.length=ys.length
 ·obtain⟨r,hr,hq⟩:=YH (cx:=cx) (blk:=0) (body:=XN Tryz.f72 0) (xs.zip ys) (λk (_:Unit)=>⟨E [(0,.sl .ro 11 (xs.map (Xc .ro))),(1,.sl .ro 11 (ys.map (Xc .ro))),(5,.i .i64 k)],B []⟩) (λ_=>⟨E [],B []⟩) (λx _=>!eqv x.1 x.2) (λ_ _=>()) (λ_ _=>(.ret,⟨E [(4,.b false)],B []⟩)) (λ_ _=>True)
   (λl _ G=>by simp only[go_sem,reduceIte,↓reduceIte,nB,nE,h,YQ hl,hl,Int.lt_irrefl,hb]) (λk hk l _=>by
    have hk:k<xs.length:=by rwa [YQ hl] at hk
    have h1:((k:Int)<(xs.length:Int)):=Int.ofNat_lt.2 hk
    have h2:=h0.2 _ (List.getElem_mem hk)
    have h3:(xs.zip ys)[k]=(xs[k],ys[k]'(by omega)):=by simp
    rw[h3]
    cases hc:eqv xs[k] (ys[k]'(by omega))
    ·exact .inl ⟨rfl,λG=>by simp only[go_sem,reduceIte,↓reduceIte,nA,nB,nE,h,hc,Xi (Xc .ro) xs k hk,Xi (Xc .ro) ys k (by omega),Xh ys.length k (by omega),h2,h1,Xh _ _ hk,hb]⟩
    ·exact .inr ⟨rfl,trivial,_,λG=>by simp only[go_sem,reduceIte,↓reduceIte,nA,nB,nE,h,hc,Xi (Xc .ro) xs k hk,Xi (Xc .ro) ys k (by omega),Xh ys.length k (by omega),h2,h1,Xh _ _ hk,Xd (show k<9223372036854775807 by omega),hb]<;>with_reducible rfl,by simp only[go_sem,reduceIte,↓reduceIte,nB,h]⟩) () trivial (xs.length+1) (by rw[YQ hl]; exact Nat.le_refl _)
  rw[hb] at hr
  have hl2:((xs.length:Int) !=(ys.length:Int))=false:=by simp[hl]
  rcases hq with⟨s',e1,e2,e3⟩ | ⟨x,s',e1,e3⟩
  ·simp only[go_sem,reduceIte,↓reduceIte,nB,nE,h,hl2,hr,e3,Xaw hl e1]
  ·simp only[go_sem,reduceIte,↓reduceIte,nB,nE,h,hl2,hr,e3,Xax hl e1]
 ·have hl2:((xs.length:Int) !=(ys.length:Int))=true:=by simpa using λh=>hl (Int.ofNat_inj.1 h)
  simp only[go_sem,reduceIte,↓reduceIte,nB,nE,h,hl2,Xbe hl]) (rfl)
def s21:SP Tryz.prog:=mkS tyA 21 Tryz.f21 [s13,s70,s71,s72] {md:=[.ro 1,.ro 1],rg:=[(0,[2,3],[2,3]),(1,[2,3,10],[2,3]),(2,[4],[]),(3,[2,3,15],[2,3]),(4,[4],[]),(5,[2,3,20],[2,3]),(6,[4],[]),(7,[2,3,26],[2,3]),(8,[4],[]),(9,[2,3,32],[2,3]),(10,[4],[]),(11,[38],[]),(12,[4],[]),(13,[4],[])],rets:=some ([4],[])} Tryz.func21 (by kernel_rfl)
@[go_sem] def d21:s21.g=21/\s21.fs=⟨[.ro 1,.ro 1],s21.F,false⟩:=⟨nr rfl,nr rfl⟩
@[go_sem] def e21(w150 w151 w152 w153 w154 w155 w156 w157:Int)(w158:List ByteArray)(w159 w160 w161 w162 w163 w164 w165 w166 w167 w168 w169 w170:Int)(w171 w172:List XK)(w173:List Origin)(w174:List Xl)(w175 w176 w177 w178 w179 w180 w181 w182:Int)(w183:List ByteArray)(w184 w185 w186 w187 w188 w189 w190 w191 w192 w193 w194 w195:Int)(w196 w197:List XK)(w198:List Origin)(w199:List Xl)(h0:YS (Shield.mk (Config.mk w150 w151 w152 w153 w154 w155 w156 w157 w158 (Lanes.mk w159 w160 w161) (Rules.mk w162 w163 w164 w165 w166)) w167 w168 (Store.mk w169 w170 w171 w172) w173 w174)):s21.F [.agg [.i .i64 w150,.i .i64 w151,.i .i64 w152,.i .i64 w153,.i .i64 w154,.i .i64 w155,.i .i64 w156,.i .i64 w157,.sl .ro 1 (w158.map Ye),.i .i64 w159,.i .i64 w160,.i .i64 w161,.i .i64 w162,.i .i64 w163,.i .i64 w164,.i .i64 w165,.i .i64 w166,.i .i64 w167,.i .i64 w168,.i .i64 w169,.i .i64 w170,.sl .ro 13 (w171.map (Xa .ro)),.sl .ro 13 (w172.map (Xa .ro)),.sl .ro 7 (w173.map (Xe .ro)),.sl .ro 11 (w174.map (Xc .ro))],.agg [.i .i64 w175,.i .i64 w176,.i .i64 w177,.i .i64 w178,.i .i64 w179,.i .i64 w180,.i .i64 w181,.i .i64 w182,.sl .ro 1 (w183.map Ye),.i .i64 w184,.i .i64 w185,.i .i64 w186,.i .i64 w187,.i .i64 w188,.i .i64 w189,.i .i64 w190,.i .i64 w191,.i .i64 w192,.i .i64 w193,.i .i64 w194,.i .i64 w195,.sl .ro 13 (w196.map (Xa .ro)),.sl .ro 13 (w197.map (Xa .ro)),.sl .ro 7 (w198.map (Xe .ro)),.sl .ro 11 (w199.map (Xc .ro))]]=some (.b (eqv (Shield.mk (Config.mk w150 w151 w152 w153 w154 w155 w156 w157 w158 (Lanes.mk w159 w160 w161) (Rules.mk w162 w163 w164 w165 w166)) w167 w168 (Store.mk w169 w170 w171 w172) w173 w174) (Shield.mk (Config.mk w175 w176 w177 w178 w179 w180 w181 w182 w183 (Lanes.mk w184 w185 w186) (Rules.mk w187 w188 w189 w190 w191)) w192 w193 (Store.mk w194 w195 w196 w197) w198 w199)),[.u,.u]):=Xb (0) rfl rfl (λcx h=>by
 obtain⟨q0,q1,q2,q3,q4,q5⟩:=h0
 simp only[go_sem,reduceIte,↓reduceIte,nA,nB,nE,nL,h,Zd,q0,q3,q4,q5]
 simp only[Shield.eqv (Shield.mk (Config.mk w150 w151 w152 w153 w154 w155 w156 w157 w158 (Lanes.mk w159 w160 w161) (Rules.mk w162 w163 w164 w165 w166)) w167 w168 (Store.mk w169 w170 w171 w172) w173 w174) (Shield.mk (Config.mk w175 w176 w177 w178 w179 w180 w181 w182 w183 (Lanes.mk w184 w185 w186) (Rules.mk w187 w188 w189 w190 w191)) w192 w193 (Store.mk w194 w195 w196 w197) w198 w199),XgE,Zf,Xbs,Bool.and_true]) (rfl)
end
end Go.Vm.A
