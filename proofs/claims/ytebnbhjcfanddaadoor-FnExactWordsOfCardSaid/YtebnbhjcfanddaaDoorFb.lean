/- Functions of the program, walked by the evaluator. -/
import Derived.Test.YtebnbhjcfanddaaDoorWb
import Derived.Test.YtebnbhjcfanddaaDoorWa
import Derived.Test.YtebnbhjcfanddaaDoorFa
set_option linter.unusedVariables false
set_option linter.unusedSimpArgs false
set_option autoImplicit false
set_option maxRecDepth 100000
set_option maxHeartbeats 4000000
set_option linter.defProp false
namespace Go.Vm.A
open Go.Proofs
open Nat renaming reduceAdd -> nA, reduceSub -> nS, reduceMul -> nM, reduceBEq -> nB, reduceEqDiff -> nE, reduceLeDiff -> nL, reduceLT -> nT, reduceBneDiff -> nN
open Int renaming reduceLE -> iL, reduceLT -> iT, reduceEq -> iE, reduceAdd -> iA, reduceMul -> iM, reduceSub -> iS, reduceNeg -> iG, reduceBEq -> iB, reduceBNe -> iN, reduceToNat -> iZ
noncomputable section
def s56:SP Tryd.prog:=⟨56,⟨[.ro 1,.ro 1],Xct,false⟩,Xh1 (gM:=1) Tryd.func56 (by kernel_rfl) rfl (λIm w (h:tbm 1 Im w)=>h.2) (λs sep m w h1 h2 h3=>Go.Proofs.Tryd.strings_Split s sep m w h1 h2 h3)⟩
@[go_sem] def d56:s56.g=56/\s56.fs=⟨[.ro 1,.ro 1],s56.F,false⟩:=⟨nr rfl,nr rfl⟩
@[go_sem] def e56(t:ByteArray)(c:UInt8)(h0:t.size<=1048576):s56.F [.s t,.s ⟨#[c]⟩]=some (.sl .mut 1 ((Xcx t c).map Yk),[.u,.u]):=by
 show Xct [.s t,.s ⟨#[c]⟩]=_
 have hc:(⟨#[c]⟩:ByteArray).size=1/\t.size<=1048576:=⟨rfl,h0⟩
 exact if_pos hc
def s27:SP Tryd.prog:=mkS tyA 27 Tryd.f27 [s55,s56,s57] {md:=[.ro 1],rets:=some ([2],[])} Tryd.func27 (by kernel_rfl)
@[go_sem] def d27:s27.g=27/\s27.fs=⟨[.ro 1],s27.F,false⟩:=⟨nr rfl,nr rfl⟩
@[go_sem] def e27(t:ByteArray)(h0:t.size<=1048575):s27.F [.s t]=some (.sl .mut 1 ((UY t).map Yk),[.u]):=Zf (0) rfl rfl (λcx h=>by
 have h1:(Xcx t 32).length<=1048576:=by have:=Xbe t 32; omega
 have h2:t.size<=1048576:=by omega
 simp only[go_sem,reduceIte,↓reduceIte,reduceCtorEq,nA,nS,nM,nB,nE,nL,nT,nN,iL,iT,iE,iA,iM,iS,iG,iB,iN,iZ,h,h0,h1,h2,UY]) (by simp only[go_sem,reduceIte,↓reduceIte,reduceCtorEq,nA,nS,nM,nB,nE,nL,nT,nN,iL,iT,iE,iA,iM,iS,iG,iB,iN,iZ,Q9,XF])
def s7:SP Tryd.prog:=mkS tyA 7 Tryd.f7 [s27] {md:=[.ro 1],rg:=[(0,[0,2,8],[2]),(1,[0,2,5,8],[2]),(2,[2,8],[2]),(3,[2,8],[2])],rets:=some ([2,8],[2])} Tryd.func7 (by kernel_rfl)
@[go_sem] def d7:s7.g=7/\s7.fs=⟨[.ro 1],s7.F,false⟩:=⟨nr rfl,nr rfl⟩
@[go_sem] def e7(t:ByteArray):s7.F [.s t]=some (.agg (X4 .mut (QN t)),[.u]):=Zf (0) rfl rfl (λcx h=>by
 by_cases c:(3000:Int)<(t.size:Int)
 ·simp only[go_sem,reduceIte,↓reduceIte,reduceCtorEq,nA,nS,nM,nB,nE,nL,nT,nN,iL,iT,iE,iA,iM,iS,iG,iB,iN,iZ,h,c,QN]
 ·have h1:t.size<=1048576:=by omega
  have h2:t.size<=1048575:=by omega
  simp only[go_sem,reduceIte,↓reduceIte,reduceCtorEq,nA,nS,nM,nB,nE,nL,nT,nN,iL,iT,iE,iA,iM,iS,iG,iB,iN,iZ,h,c,h1,h2,QN]) (by simp only[go_sem,reduceIte,↓reduceIte,reduceCtorEq,nA,nS,nM,nB,nE,nL,nT,nN,iL,iT,iE,iA,iM,iS,iG,iB,iN,iZ,Q9,XF,X0,XU])
def s28:SP Tryd.prog:=mkS tyA 28 Tryd.f28 [] {md:=[.ro 1,.ro 1],rg:=[(0,[0,1],[]),(1,[0,1,10],[]),(2,[4],[]),(3,[0,1,5],[]),(4,[0,1,5,14],[]),(5,[0,1,5],[]),(6,[0,1,5,25],[]),(7,[4],[]),(8,[4],[])],lv:=[(0,[0,1,5],[])],out:=[(0,[],[])],rets:=some ([4],[]),plan:=[(6,(.take 0 (.take 1 (.take 2 (.take 3 (.take 4 (.take 5 (.take 6 (.take 7 (.take 8 .done))))))))))]} Tryd.func28 (by kernel_rfl)
@[go_sem] def d28:s28.g=28/\s28.fs=⟨[.ro 1,.ro 1],s28.F,false⟩:=⟨nr rfl,nr rfl⟩
@[go_sem] def e28(xs ys:List ByteArray)(h0:smL XjY xs):s28.F [.sl .ro 1 (xs.map Yk),.sl .ro 1 (ys.map Yk)]=some (.b (eqv xs ys),[.u,.u]):=Zf (xs.length+1) rfl rfl (λcx h=>by
 have hb:=ZB Tryd.f28 0 _ _ rfl rfl
 have hx:=h0.1
 by_cases hl:xs.length=ys.length
 ·obtain⟨r,hr,hq⟩:=Xav (cx:=cx) (blk:=0) (body:=XaK Tryd.f28 0) (xs.zip ys) (λk (_:Unit)=>⟨E [(0,.sl .ro 1 (xs.map Yk)),(1,.sl .ro 1 (ys.map Yk)),(5,.i .i64 k)],B []⟩) (λ_=>⟨E [],B []⟩) (λx _=>!eqv x.1 x.2) (λ_ _=>()) (λ_ _=>(.ret,⟨E [(4,.b false)],B []⟩)) (λ_ _=>True)
   (λl _ G=>by simp only[go_sem,reduceIte,↓reduceIte,reduceCtorEq,nA,nS,nM,nB,nE,nL,nT,nN,iL,iT,iE,iA,iM,iS,iG,iB,iN,iZ,h,Xdo hl,hl,Int.lt_irrefl,hb]) (λk hk l _=>by
    have hk:k<xs.length:=by rwa [Xdo hl] at hk
    have h1:((k:Int)<(xs.length:Int)):=Int.ofNat_lt.2 hk
    have h2:=h0.2 _ (List.getElem_mem hk)
    have h3:(xs.zip ys)[k]=(xs[k],ys[k]'(by omega)):=by simp
    rw[h3]
    cases hc:eqv xs[k] (ys[k]'(by omega))
    ·exact .inl ⟨rfl,λG=>by simp only[go_sem,reduceIte,↓reduceIte,reduceCtorEq,nA,nS,nM,nB,nE,nL,nT,nN,iL,iT,iE,iA,iM,iS,iG,iB,iN,iZ,h,hc,UM Yk xs k hk,UM Yk ys k (by omega),ZO ys.length k (by omega),ZP,h1,ZO _ _ hk,Yl (show k<9223372036854775807 by omega),hb]⟩
    ·exact .inr ⟨rfl,trivial,_,λG=>by simp only[go_sem,reduceIte,↓reduceIte,reduceCtorEq,nA,nS,nM,nB,nE,nL,nT,nN,iL,iT,iE,iA,iM,iS,iG,iB,iN,iZ,h,hc,UM Yk xs k hk,UM Yk ys k (by omega),ZO ys.length k (by omega),ZP,h1,ZO _ _ hk,Yl (show k<9223372036854775807 by omega),hb]<;>with_reducible rfl,by simp only[go_sem,reduceIte,↓reduceIte,reduceCtorEq,nA,nS,nM,nB,nE,nL,nT,nN,iL,iT,iE,iA,iM,iS,iG,iB,iN,iZ,h]⟩) () trivial (xs.length+1) (by rw[Xdo hl]; exact Nat.le_refl _)
  rw[hb] at hr
  have hl2:((xs.length:Int) !=(ys.length:Int))=false:=by simp[hl]
  rcases hq with⟨s',e1,e2,e3⟩ | ⟨x,s',e1,e3⟩
  ·simp only[go_sem,reduceIte,↓reduceIte,reduceCtorEq,nA,nS,nM,nB,nE,nL,nT,nN,iL,iT,iE,iA,iM,iS,iG,iB,iN,iZ,h,hl2,hr,e3,Xga hl e1]
  ·simp only[go_sem,reduceIte,↓reduceIte,reduceCtorEq,nA,nS,nM,nB,nE,nL,nT,nN,iL,iT,iE,iA,iM,iS,iG,iB,iN,iZ,h,hl2,hr,e3,Xgb hl e1]
 ·have hl2:((xs.length:Int) !=(ys.length:Int))=true:=by simpa using λh=>hl (Int.ofNat_inj.1 h)
  simp only[go_sem,reduceIte,↓reduceIte,reduceCtorEq,nA,nS,nM,nB,nE,nL,nT,nN,iL,iT,iE,iA,iM,iS,iG,iB,iN,iZ,h,hl2,XjZ hl]) (rfl)
def s8:SP Tryd.prog:=mkS tyA 8 Tryd.f8 [s28] {md:=[.ro 1,.ro 1],rg:=[(0,[2,3],[2,3]),(1,[2,3,9],[2,3]),(2,[4],[]),(3,[15],[]),(4,[4],[]),(5,[4],[])],rets:=some ([4],[])} Tryd.func8 (by kernel_rfl)
@[go_sem] def d8:s8.g=8/\s8.fs=⟨[.ro 1,.ro 1],s8.F,false⟩:=⟨nr rfl,nr rfl⟩
@[go_sem] def e8(y0:Int)(y1:List ByteArray)(y2:Int)(y3:List ByteArray)(h0:Z9 (Xi.mk y0 y1)):s8.F [.agg [.i .i64 y0,.sl .ro 1 (y1.map Yk)],.agg [.i .i64 y2,.sl .ro 1 (y3.map Yk)]]=some (.b (eqv (Xi.mk y0 y1) (Xi.mk y2 y3)),[.u,.u]):=Zf (0) rfl rfl (λcx h=>by
 obtain⟨q0,q1⟩:=h0
 simp only[go_sem,reduceIte,↓reduceIte,reduceCtorEq,nA,nS,nM,nB,nE,nL,nT,nN,iL,iT,iE,iA,iM,iS,iG,iB,iN,iZ,h,Xf1,ZP,Xew,q0,q1]
 simp only[XdJ,Xf0,Xi.eqv (Xi.mk y0 y1) (Xi.mk y2 y3),Xy5,Xh2,XmM,Bool.and_true]) (rfl)
def s58:SP Tryd.prog:=mkS tyA 58 Tryd.f58 [] {md:=[.ro 1],rg:=[(0,[0],[]),(1,[0,5],[]),(2,[2],[]),(3,[0,3],[]),(4,[0,3,7],[]),(5,[0,3],[]),(6,[0,3],[]),(7,[2],[])],lv:=[(0,[0,3],[])],out:=[(0,[3],[])],rets:=some ([2],[])} Tryd.func58 (by kernel_rfl)
@[go_sem] def d58:s58.g=58/\s58.fs=⟨[.ro 1],s58.F,false⟩:=⟨nr rfl,nr rfl⟩
@[go_sem] def e58(k:Int)(h0:k+1<=9223372036854775807):s58.F [.i .i64 k]=some (.s (Xf7 k),[.u]):=Zf (k.toNat+1) rfl rfl (λcx h=>by
 have hb:=ZB Tryd.f58 0 _ _ rfl rfl
 have lp:=XhR (cx:=cx) (blk:=0) (body:=XaK Tryd.f58 0) (λ(p:Int×ByteArray)=>⟨E [(0,.i .i64 p.1),(3,.s p.2)],B []⟩) (λp=>0<=p.1/\p.1+p.2.size<=9223372036854775807) (λp=>p.1.toNat) (λp r=>r=some (.ex 0,⟨E [(3,.s (Xcw p.1.toNat p.1 p.2))],B []⟩)) (λ⟨k,s⟩ ⟨i1,i2⟩=>by
  simp only at i1 i2 ⊢
  by_cases hk:0<k
  ·have e1:k.tdiv 10=k / 10:=Int.tdiv_eq_ediv_of_nonneg i1
   have e2:k.tmod 10=k%10:=Int.tmod_eq_emod_of_nonneg i1
   have w1:(IntKind.i64).wrap (48+k.tmod 10)=48+k.tmod 10:=QL (by omega) (by omega)
   have w2:(IntKind.u8).wrap (48+k.tmod 10)=(48+k.tmod 10)%256:=by simp[IntKind.wrap,IntKind.bits,IntKind.signed]
   have w3:(IntKind.i64).wrap (k.tdiv 10)=k.tdiv 10:=QL (by omega) (by omega)
   have z2:(#[UInt8.ofNat ((48+k.tmod 10)%256).toNat]:Array UInt8).size+s.size<=9223372036854775807:=by show 1+s.size<=_; omega
   refine .inr ⟨_,(k.tdiv 10,ByteArray.mk #[UInt8.ofNat ((48+k.tmod 10)%256).toNat]++s),?_,?_,?_,?_,λG=>by simp only[go_sem,reduceIte,↓reduceIte,reduceCtorEq,nA,nS,nM,nB,nE,nL,nT,nN,iL,iT,iE,iA,iM,iS,iG,iB,iN,iZ,h,hb,hk,w1,w2,w3,z2,U5]; rfl⟩
   ·simp only[go_sem,reduceIte,↓reduceIte,reduceCtorEq,nA,nS,nM,nB,nE,nL,nT,nN,iL,iT,iE,iA,iM,iS,iG,iB,iN,iZ,h]
   ·rw[ByteArray.size_append]; exact⟨by show 0<=k.tdiv 10; omega,by show k.tdiv 10+((1+s.size:Nat):Int)<=_; omega⟩
   ·simp only; omega
   ·intro r hr
    rw[hr,show Xcw k.toNat k s=Xcw (k.tdiv 10).toNat (k.tdiv 10) (ByteArray.mk #[UInt8.ofNat ((48+k.tmod 10)%256).toNat]++s) from by
     obtain⟨m,hm⟩:∃m,k.toNat=m+1:=⟨k.toNat-1,by omega⟩
     rw[hm,Xcw,if_pos hk]
     exact Xcq _ _ _ _ (by omega) (Nat.le_refl _)]
  ·obtain rfl:k=0:=by omega
   exact .inl λG=>by simp only[go_sem,reduceIte,↓reduceIte,reduceCtorEq,nA,nS,nM,nB,nE,nL,nT,nN,iL,iT,iE,iA,iM,iS,iG,iB,iN,iZ,h,hb,Xcw])
 rw[hb] at lp
 unfold Xf7
 by_cases hk:k<=0
 ·simp only[go_sem,reduceIte,↓reduceIte,reduceCtorEq,nA,nS,nM,nB,nE,nL,nT,nN,iL,iT,iE,iA,iM,iS,iG,iB,iN,iZ,h,hk]
 ·have l1:=lp (k.toNat+1) (k,⟨#[]⟩) ⟨by omega,by show k+((0:Nat):Int)<=_; omega⟩ (Nat.lt_succ_self _)
  have z3:(#[109]:Array UInt8).size+(Xcw k.toNat k ⟨#[]⟩).size<=9223372036854775807:=by
   have:=Xcp k.toNat k ⟨#[]⟩
   show 1+_<=_
   have e2:(ByteArray.mk #[]).size=0:=rfl
   omega
  simp only[go_sem,reduceIte,↓reduceIte,reduceCtorEq,nA,nS,nM,nB,nE,nL,nT,nN,iL,iT,iE,iA,iM,iS,iG,iB,iN,iZ,h,hk,l1,z3]) (rfl)
def s29:SP Tryd.prog:=mkS tyA 29 Tryd.f29 [s58] {md:=[.mv,.ro 1],rg:=[(0,[0,1],[]),(1,[0,1,5],[]),(2,[0,1,5,9],[]),(3,[0,1,5],[]),(4,[0,1,5],[]),(5,[0,1,5],[]),(6,[0,4],[])],lv:=[(0,[0,1,5],[])],out:=[(0,[0,1],[])],rets:=some ([0,4],[])} Tryd.func29 (by kernel_rfl)
@[go_sem] def d29:s29.g=29/\s29.fs=⟨[.mv,.ro 1],s29.F,false⟩:=⟨nr rfl,nr rfl⟩
@[go_sem] def e29(xs:List ByteArray)(k:Int)(h1:0<=k)(h0:(mkL Yi xs k).2<=9223372036854775807):s29.F [.sl .mut 1 (xs.map Yk),.i .i64 k]=some (.i .i64 (mkL Yi xs k).2,[.sl .mut 1 ((mkL Yi xs k).1.map Yk),.u]):=Zf (xs.length+1) rfl rfl (λcx h=>by
 have hb:=ZB Tryd.f29 0 _ _ rfl rfl
 have hx:=Xdm Zm xs k
 have hr:=(Qt (cx:=cx) (blk:=0) (body:=XaK Tryd.f29 0) xs (λi (s:Int)=>⟨E [(0,.sl .mut 1 ((Xcn Yi xs k i).map Yk)),(1,.i .i64 s),(5,.i .i64 i)],B []⟩) (λ_=>⟨E [(0,.sl .mut 1 ((mkL Yi xs k).1.map Yk)),(1,.i .i64 (mkL Yi xs k).2)],B []⟩) (λx s=>(Yi x s).2) (λi s=>s=Xdl Yi xs k i)
  (λs hI G=>by simp only[go_sem,reduceIte,↓reduceIte,reduceCtorEq,nA,nS,nM,nB,nE,nL,nT,nN,iL,iT,iE,iA,iM,iS,iG,iB,iN,iZ,h,Int.lt_irrefl,hb,UX,XhV,Xco,XhU,YA,hI,XdK]) (λi hk s hI=>by
   have h2:((i:Int)<(xs.length:Int)):=Int.ofNat_lt.2 hk
   have g1:=Xf2 Zm xs k i
   have g2:=Xf3 Zm xs k i hk
   rw[<-hI] at g1 g2
   have h3:=XhW (f:=Yi) Yk xs k i hk
   rw[<-hI] at h3
   simp only[Yi,Yk] at h3 g2
   have v0:(IntKind.i64).wrap (s)=s:=QL (by omega) (by omega)
   have t1:s+1<=9223372036854775807:=by omega
   have v1:(IntKind.i64).wrap (s+1)=s+1:=QL (by omega) (by omega)
   have hL:i<((Xcn Yi xs k i).map Yk).length:=by rw[List.length_map,UX]; exact hk
   have hg:=λy=>XjR ((Xcn Yi xs k i).map Yk) i y hL
   have hG:=λy=>XhX ((Xcn Yi xs k i).map Yk) i y hL
   refine⟨by rw[Xaw xs k i hk,<-hI],_,λG=>by simp only[go_sem,reduceIte,↓reduceIte,reduceCtorEq,nA,nS,nM,nB,nE,nL,nT,nN,iL,iT,iE,iA,iM,iS,iG,iB,iN,iZ,h,h3,hg,hG,UX (f:=Yi) xs k i,XdL (f:=Yi) Yk xs k i hk,Xf5 (f:=Yi) Yk xs k i hk,Xco (f:=Yi) Yk xs k i,Xf6,v0,t1,v1,h2,ZO _ _ hk,Yl (show i<9223372036854775807 by omega),hb]<;>with_reducible rfl,by simp only[go_sem,reduceIte,↓reduceIte,reduceCtorEq,nA,nS,nM,nB,nE,nL,nT,nN,iL,iT,iE,iA,iM,iS,iG,iB,iN,iZ,h,Yi]⟩) k rfl (xs.length+1) (Nat.le_refl _)).2
 rw[hb] at hr
 simp only[go_sem,reduceIte,↓reduceIte,reduceCtorEq,nA,nS,nM,nB,nE,nL,nT,nN,iL,iT,iE,iA,iM,iS,iG,iB,iN,iZ,h,hr,Xf4]) (by simp only[go_sem,reduceIte,↓reduceIte,reduceCtorEq,nA,nS,nM,nB,nE,nL,nT,nN,iL,iT,iE,iA,iM,iS,iG,iB,iN,iZ,Q9,XF])
def s9:SP Tryd.prog:=mkS tyA 9 Tryd.f9 [s29] {md:=[.mv,.ro 1],rg:=[(0,[0,1,2],[2]),(1,[0,1],[]),(2,[0,4],[])],rets:=some ([0,4],[]),al:=[2]} Tryd.func9 (by kernel_rfl)
@[go_sem] def d9:s9.g=9/\s9.fs=⟨[.mv,.ro 1],s9.F,false⟩:=⟨nr rfl,nr rfl⟩
@[go_sem] def e9(y0:Int)(y1:List ByteArray)(k:Int)(h1:0<=k)(h0:(XA (Xi.mk y0 y1) k).2<=9223372036854775807):s9.F [.agg [.i .i64 y0,.sl .mut 1 (y1.map Yk)],.i .i64 k]=some (.i .i64 (XA (Xi.mk y0 y1) k).2,[.agg (X4 .mut (XA (Xi.mk y0 y1) k).1),.u]):=Zf (0) rfl rfl (λcx h=>by
 obtain⟨q0,hq0⟩:∃q,(mkL Yi y1 k).2=q:=⟨_,rfl⟩
 have b0:=Xbc Zm y1 k
 rw[hq0] at b0
 have p0:0<=k:=by omega
 simp only[XO,hq0] at h0
 have c0:q0<=9223372036854775807:=by omega
 have d0:¬(q0<0):=by omega
 simp only[go_sem,reduceIte,↓reduceIte,reduceCtorEq,nA,nS,nM,nB,nE,nL,nT,nN,iL,iT,iE,iA,iM,iS,iG,iB,iN,iZ,h,p0,c0,d0,hq0,XO]) (by simp only[go_sem,reduceIte,↓reduceIte,reduceCtorEq,nA,nS,nM,nB,nE,nL,nT,nN,iL,iT,iE,iA,iM,iS,iG,iB,iN,iZ,XO,Q9,XF,X0,XU])
def s30:SP Tryd.prog:=mkS tyA 30 Tryd.f30 [s58] {md:=[.ro 1,.ro 1],rg:=[(0,[0,1],[]),(1,[0,1,5],[]),(2,[0,1,5,9],[]),(3,[0,1,5],[]),(4,[0,1,5,18],[]),(5,[4],[]),(6,[0,1,5],[]),(7,[4],[])],lv:=[(0,[0,1,5],[])],out:=[(0,[1],[])],rets:=some ([4],[]),plan:=[(4,(.take 0 (.take 1 (.take 2 (.take 3 (.take 4 (.one 5 (.take 6 .done))))))))]} Tryd.func30 (by kernel_rfl)
@[go_sem] def d30:s30.g=30/\s30.fs=⟨[.ro 1,.ro 1],s30.F,false⟩:=⟨nr rfl,nr rfl⟩
@[go_sem] def e30(xs:List ByteArray)(k:Int)(h1:0<=k)(h0:(mkL Yi xs k).2<=9223372036854775807):s30.F [.sl .ro 1 ((mkL Yi xs k).1.map Yk),.i .i64 k]=some (.i .i64 (mkL Yi xs k).2,[.u,.u]):=Zf (xs.length+1) rfl rfl (λcx h=>by
 have hb:=ZB Tryd.f30 0 _ _ rfl rfl
 have hx:=Xdm Zm xs k
 have hr:=(Qt (cx:=cx) (blk:=0) (body:=XaK Tryd.f30 0) xs (λi (s:Int)=>⟨E [(0,.sl .ro 1 ((mkL Yi xs k).1.map Yk)),(1,.i .i64 s),(5,.i .i64 i)],B []⟩) (λ_=>⟨E [(1,.i .i64 (mkL Yi xs k).2)],B []⟩) (λx s=>(Yi x s).2) (λi s=>s=Xdl Yi xs k i)
  (λs hI G=>by simp only[go_sem,reduceIte,↓reduceIte,reduceCtorEq,nA,nS,nM,nB,nE,nL,nT,nN,iL,iT,iE,iA,iM,iS,iG,iB,iN,iZ,h,Int.lt_irrefl,hb,YA,hI,XdK]) (λi hk s hI=>by
   have h2:((i:Int)<(xs.length:Int)):=Int.ofNat_lt.2 hk
   have g1:=Xf2 Zm xs k i
   have g2:=Xf3 Zm xs k i hk
   rw[<-hI] at g1 g2
   have h3:=Xk1 (f:=Yi) Yk xs k i hk
   rw[<-hI] at h3
   simp only[Yi,Yk] at h3 g2
   have v0:(IntKind.i64).wrap (s)=s:=QL (by omega) (by omega)
   have t1:s+1<=9223372036854775807:=by omega
   have v1:(IntKind.i64).wrap (s+1)=s+1:=QL (by omega) (by omega)
   refine⟨by rw[Xaw xs k i hk,<-hI],_,λG=>by simp only[go_sem,reduceIte,↓reduceIte,reduceCtorEq,nA,nS,nM,nB,nE,nL,nT,nN,iL,iT,iE,iA,iM,iS,iG,iB,iN,iZ,h,h3,YA,Xf6,v0,t1,v1,h2,ZO _ _ hk,Yl (show i<9223372036854775807 by omega),hb]<;>with_reducible rfl,by simp only[go_sem,reduceIte,↓reduceIte,reduceCtorEq,nA,nS,nM,nB,nE,nL,nT,nN,iL,iT,iE,iA,iM,iS,iG,iB,iN,iZ,h,Yi]⟩) k rfl (xs.length+1) (Nat.le_refl _)).2
 rw[hb] at hr
 simp only[go_sem,reduceIte,↓reduceIte,reduceCtorEq,nA,nS,nM,nB,nE,nL,nT,nN,iL,iT,iE,iA,iM,iS,iG,iB,iN,iZ,h,hr]) (rfl)
def s10:SP Tryd.prog:=mkS tyA 10 Tryd.f10 [s30] {md:=[.ro 1,.ro 1],rg:=[(0,[1,2],[2]),(1,[1],[]),(2,[1,10],[]),(3,[4],[]),(4,[4],[])],rets:=some ([4],[])} Tryd.func10 (by kernel_rfl)
@[go_sem] def d10:s10.g=10/\s10.fs=⟨[.ro 1,.ro 1],s10.F,false⟩:=⟨nr rfl,nr rfl⟩
@[go_sem] def e10(y0:Int)(y1:List ByteArray)(k:Int)(h1:0<=k)(h0:(XA (Xi.mk y0 y1) k).2<=9223372036854775807):s10.F [.agg [.i .i64 y0,.sl .ro 1 ((mkL Yi y1 k).1.map Yk)],.i .i64 k]=some (.i .i64 (XA (Xi.mk y0 y1) k).2,[.u,.u]):=Zf (0) rfl rfl (λcx h=>by
 obtain⟨q0,hq0⟩:∃q,(mkL Yi y1 k).2=q:=⟨_,rfl⟩
 have b0:=Xbc Zm y1 k
 rw[hq0] at b0
 have p0:0<=k:=by omega
 simp only[XO,hq0] at h0
 have c0:q0<=9223372036854775807:=by omega
 have d0:¬(q0<0):=by omega
 simp only[go_sem,reduceIte,↓reduceIte,reduceCtorEq,nA,nS,nM,nB,nE,nL,nT,nN,iL,iT,iE,iA,iM,iS,iG,iB,iN,iZ,h,p0,c0,d0,hq0,XO]) (rfl)
def s3:SP Tryd.prog:=mkS tyA 3 Tryd.f3 [s6,s7,s8,s9,s10] {md:=[.ro 1],rg:=[(0,[0],[]),(1,[0,10],[]),(2,[2],[]),(3,[0,3],[3]),(4,[0,3,4],[3,4]),(5,[0,3,4,18],[3,4]),(6,[2],[]),(7,[0,3,4,5],[3,4]),(8,[0,3,4,5],[3,4]),(9,[0,3,4,5,6],[3,4]),(10,[0,3,4,5,6],[3,4]),(11,[0,3,4,5,6,26],[3,4]),(12,[2],[]),(13,[0,3,4,5,29],[3,4]),(14,[2],[]),(15,[3,4,5,7],[3,4,7]),(16,[4,5,35],[4]),(17,[2],[]),(18,[4,5,6],[4]),(19,[5,6],[]),(20,[5,6,40],[]),(21,[2],[]),(22,[43],[]),(23,[2],[]),(24,[2],[])],rets:=some ([2],[])} Tryd.func3 (by kernel_rfl)
@[go_sem] def d3:s3.g=3/\s3.fs=⟨[.ro 1],s3.F,false⟩:=⟨nr rfl,nr rfl⟩
def e3(t:ByteArray)(h0:XmK t):s3.F [.s t]=some (.b true,[.u]):=Zf (0) rfl rfl (λcx h=>by
 by_cases hc0:(1048576:Int)<t.size
 ·simp only[go_sem,reduceIte,↓reduceIte,reduceCtorEq,nA,nS,nM,nB,nE,nL,nT,nN,iL,iT,iE,iA,iM,iS,iG,iB,iN,iZ,h,hc0]
 have hs0:t.size<=1048576:=by omega
 obtain⟨R,hR⟩:∃R,QN t=R:=⟨_,rfl⟩
 have hsm:=XeI t
 rw[hR] at hsm
 have f0:=Uy R 1 hsm
 have g0:=Ux R 1
 have f0':(XA R 1).2<=9223372036854775807:=by omega
 have g0':¬((XA R 1).2<0):=by omega
 simp only[XO] at f0' g0'
 simp only[go_sem,reduceIte,↓reduceIte,reduceCtorEq,nA,nS,nM,nB,nE,nL,nT,nN,iL,iT,iE,iA,iM,iS,iG,iB,iN,iZ,h,hc0,hs0,hR,hsm,f0',g0',Ub,XO]) (rfl)
end
end Go.Vm.A
