/- Functions of the program, walked by the evaluator. -/
import Derived.Test.YtebnbhjcfanddaaGreatDoorWb
import Derived.Test.YtebnbhjcfanddaaGreatDoorWa
import Derived.Test.YtebnbhjcfanddaaGreatDoorFa
import Derived.Test.YtebnbhjcfanddaaGreatDoorFb
set_option linter.unusedVariables false
set_option linter.unusedSimpArgs false
set_option autoImplicit false
set_option maxRecDepth 100000
set_option maxHeartbeats 4000000
set_option linter.defProp false
namespace Go.Vm.A
open Go.Proofs
open Nat renaming reduceAdd -> nA, reduceSub -> nS, reduceMul -> nM, reduceBEq -> nB, reduceEqDiff -> nE, reduceLeDiff -> nL, reduceLT -> nT, reduceBneDiff -> nN
open Int renaming reduceLE -> iL, reduceLT -> iT, reduceEq -> iE, reduceAdd -> iA, reduceMul -> iM, reduceSub -> iS, reduceNeg -> iG, reduceBEq -> iB, reduceBNe -> iN, reduceToNat -> iZ
noncomputable section
def XeN(F:List AV->Option (AV×List AV))(h:Zk Tryz.prog 128 ⟨[.ro 1],F,false⟩):SP Tryz.prog:=⟨128,⟨[.ro 1],F,false⟩,h⟩
@[go_sem] def Xq4(F:List AV->Option (AV×List AV))(h:Zk Tryz.prog 128 ⟨[.ro 1],F,false⟩):(XeN F h).g=128/\(XeN F h).fs=⟨[.ro 1],(XeN F h).F,false⟩:=⟨nr rfl,nr rfl⟩
@[go_sem] def Xq5(F:List AV->Option (AV×List AV))(h:Zk Tryz.prog 128 ⟨[.ro 1],F,false⟩):(XeN F h).F=F:=nr rfl
def XpD(F:List AV->Option (AV×List AV))(h:Zk Tryz.prog 128 ⟨[.ro 1],F,false⟩):ckS tyA [XeN F h] {md:=[.ro 1],rg:=[(0,[0],[]),(1,[0,4],[]),(2,[2],[]),(3,[2],[])],rets:=some ([2],[]),plan:=[(3,(.take 0 (.take 1 (.take 3 (.take 4 (.take 5 (.take 6 (.alt 2 (.one 7 (.take 8 (.take 9 (.one 10 .done)))) (.one 7 (.take 8 (.one 2 (.take 9 (.one 10 .done)))))))))))))]} Tryz.f128=true:=by kernel_rfl
def Xll(F:List AV->Option (AV×List AV))(h:Zk Tryz.prog 128 ⟨[.ro 1],F,false⟩):SP Tryz.prog:=mkS tyA 128 Tryz.f128 [XeN F h] {md:=[.ro 1],rg:=[(0,[0],[]),(1,[0,4],[]),(2,[2],[]),(3,[2],[])],rets:=some ([2],[]),plan:=[(3,(.take 0 (.take 1 (.take 3 (.take 4 (.take 5 (.take 6 (.alt 2 (.one 7 (.take 8 (.take 9 (.one 10 .done)))) (.one 7 (.take 8 (.one 2 (.take 9 (.one 10 .done)))))))))))))]} Tryz.func128 (XpD F h)
def XeO:Nat->{F:List AV->Option (AV×List AV) // Zk Tryz.prog 128 ⟨[.ro 1],F,false⟩}
 | 0=>⟨λ_=>none,λ_ _ _ _ _ _ _ h=>nomatch h⟩
 | k+1=>⟨(Xll (XeO k).1 (XeO k).2).F,(Xll (XeO k).1 (XeO k).2).ok⟩
def XnL(F:List AV->Option (AV×List AV))(hv:Zk Tryz.prog 128 ⟨[.ro 1],F,false⟩)(n:Int)(h0:0<=n/\n<=1000000000000000000)(hF:¬n<10->F [.i .i64 (n.tdiv 10)]=some (.s (Xbo (n.tdiv 10)),[.u])):(Xll F hv).F [.i .i64 n]=some (.s (Xbo n),[.u]):=Xm (0) rfl rfl (λcx h=>by
 by_cases c1:n<10
 ·have w1:(IntKind.i64).wrap (48+n)=48+n:=Yl (by omega) (by omega)
  have w2:(IntKind.u8).wrap (48+n)=48+n:=XfS (by omega) (by omega)
  have e:=Xbv h0.1 c1
  simp only[go_sem,reduceIte,↓reduceIte,nA,nM,nB,nE,nL,h,c1,w1,w2,Xaz,e]
 ·have hq:=hF c1
  have e:=Xhs h0.1 c1
  have r1:=Int.tmod_lt_of_pos n (b:=10) (by omega)
  have r0:=Int.tmod_nonneg (a:=n) 10 (by omega)
  obtain⟨q,hq'⟩:∃q,n.tdiv 10=q:=⟨_,rfl⟩
  obtain⟨r,hr⟩:∃r,n.tmod 10=r:=⟨_,rfl⟩
  have eq:=Int.mul_tdiv_add_tmod n 10
  rw[hr] at r1 r0 e eq
  rw[hq'] at hq e eq
  have d1:(IntKind.i64).wrap q=q:=Yl (by omega) (by omega)
  have d2:(IntKind.i64).wrap r=r:=Yl (by omega) (by omega)
  have w1:(IntKind.i64).wrap (48+r)=48+r:=Yl (by omega) (by omega)
  have w2:(IntKind.u8).wrap (48+r)=48+r:=XfS (by omega) (by omega)
  have hz:(Xbo q).size+#[UInt8.ofNat (48+r).toNat].size<=9223372036854775807:=by
   have:=Xht q (by omega) 19 (by rw[show(10:Int)^(19+1)=100000000000000000000 from by decide]; omega)
   show _+1<=_
   omega
  simp only[go_sem,reduceIte,↓reduceIte,nA,nM,nB,nE,nL,iE,h,c1,hq,hq',hr,d1,w1,w2,Xaz,e,hz]) (rfl)
def XnM:∀(k:Nat) (n:Int),0<=n->n<=1000000000000000000->n<10^k->(XeO (k+1)).1 [.i .i64 n]=some (.s (Xbo n),[.u])
 | 0,n,h0,h1,h2=>XnL _ _ n ⟨h0,h1⟩ (λc=>absurd h2 (by simp; omega))
 | k+1,n,h0,h1,h2=>XnL _ _ n ⟨h0,h1⟩ (λc=>by
   have e:n.tdiv 10=n / 10:=Int.tdiv_eq_ediv_of_nonneg h0
   rw[e]
   exact XnM k (n / 10) (by omega) (by omega) (by rw[Int.pow_succ] at h2; omega))
def XnN:SP Tryz.prog:=XeN (XeO 20).1 (XeO 20).2
@[go_sem] def XDB:XnN.g=128/\XnN.fs=⟨[.ro 1],XnN.F,false⟩:=⟨nr rfl,nr rfl⟩
@[go_sem] def XDC(n:Int)(h0:0<=n/\n<=1000000000000000000):XnN.F [.i .i64 n]=some (.s (Xbo n),[.u]):=XnM 19 n h0.1 h0.2 (by rw[show(10:Int)^19=10000000000000000000 from by decide]; omega)
def XnO:SP Tryz.prog:=mkS tyA 190 Tryz.f190 [] {md:=[.ro 1,.ro 1],rg:=[(0,[0,1],[]),(1,[0,1,7],[]),(2,[4],[]),(3,[4],[])],rets:=some ([4],[])} Tryz.func190 (by kernel_rfl)
@[go_sem] def XDD:XnO.g=190/\XnO.fs=⟨[.ro 1,.ro 1],XnO.F,false⟩:=⟨nr rfl,nr rfl⟩
@[go_sem] def XDE(a b:Int):XnO.F [.i .i64 a,.i .i64 b]=some (.i .i64 (if a<b then a else b),[.u,.u]):=Xm (0) rfl rfl (λcx h=>by
 simp only[go_sem,reduceIte,↓reduceIte,nB,nE,h,XpC]) (rfl)
def XnP:SP Tryz.prog:=mkS tyA 187 Tryz.f187 [XnO] {md:=[.ro 1,.ro 1],rets:=some ([4],[])} Tryz.func187 (by kernel_rfl)
@[go_sem] def XDF:XnP.g=187/\XnP.fs=⟨[.ro 1,.ro 1],XnP.F,false⟩:=⟨nr rfl,nr rfl⟩
@[go_sem] def XDG(a b:Int)(h0:(Ym a=true/\0<=b/\b<=1000000000000000)):XnP.F [.i .i64 a,.i .i64 b]=some (.i .i64 (Xm4 a b),[.u,.u]):=Xm (0) rfl rfl (λcx h=>by
 have h1:=U6.1 h0.1
 have h2:(IntKind.i64).wrap (a+b)=a+b:=Yl (by omega) (by omega)
 simp only[go_sem,reduceIte,↓reduceIte,nA,nB,h,h2,Xm4]
 try (split<;>first | rfl | (simp only[Option.some.injEq,Prod.mk.injEq,AV.i.injEq,true_and,and_true]; omega))) (rfl)
def Xm5:SP Tryz.prog:=mkS tyA 129 Tryz.f129 [XnP] {md:=[.ro 1,.ro 1],rets:=some ([4],[]),plan:=[(1,(.take 0 (.take 1 (.take 2 (.take 3 (.take 4 (.take 5 (.take 6 (.take 7 (.take 8 (.take 9 (.one 10 (.one 11 .done)))))))))))))]} Tryz.func129 (by kernel_rfl)
@[go_sem] def XDH:Xm5.g=129/\Xm5.fs=⟨[.ro 1,.ro 1],Xm5.F,false⟩:=⟨nr rfl,nr rfl⟩
@[go_sem] def XDI(mAt y0 y1 y2 y3:Int)(y4 y5:Bool)(now:Int)(h0:XV (Meta.mk mAt y0 y1 y2 y3 y4 y5) now=0):Xm5.F [.pr [.i .i64 mAt,.i .i64 y0,.i .i64 y1,.i .i64 y2,.i .i64 y3,.b y4,.b y5],.i .i64 now]=some (.i .i64 (Xbs (Meta.mk mAt y0 y1 y2 y3 y4 y5) now),[.u,.u]):=Xm (0) rfl rfl (λcx h=>by
 obtain⟨w1,w2,w3,w4⟩:=U8 h0
 simp only at w1 w2
 simp only[go_sem,reduceIte,↓reduceIte,nA,nB,nL,h,w1,w2,Xbs]) (rfl)
def XnQ:SP Tryz.prog:=mkS tyA 188 Tryz.f188 [] {md:=[.ro 1],rets:=some ([2],[])} Tryz.func188 (by kernel_rfl)
@[go_sem] def XDJ:XnQ.g=188/\XnQ.fs=⟨[.ro 1],XnQ.F,false⟩:=⟨nr rfl,nr rfl⟩
@[go_sem] def XDK(xs:List UInt8)(h0:smL QQ xs):XnQ.F [.sl .ro 1 (xs.map Xx)]=some (.sl .mut 1 (xs.map Xx),[.u]):=Xm (0) rfl rfl (λcx h=>by
 have h1:(xs.map Xx).all (·.all plain)=true:=by simp[Xx,plain]
 have h2:xs.length*1<=140737488355328:=by have:=h0.1; omega
 simp only[go_sem,reduceIte,↓reduceIte,nA,nM,nB,h,h1,h2]) (by simp only[go_sem,Zl,XB])
def XnR:SP Tryz.prog:=mkS tyA 130 Tryz.f130 [XnQ] {md:=[.ro 1,.ro 1],rg:=[(0,[0,1],[]),(1,[0,5],[]),(2,[4],[]),(3,[4],[])],rets:=some ([4],[])} Tryz.func130 (by kernel_rfl)
@[go_sem] def XDL:XnR.g=130/\XnR.fs=⟨[.ro 1,.ro 1],XnR.F,false⟩:=⟨nr rfl,nr rfl⟩
@[go_sem] def XDM(body:List UInt8)(head:Bool)(h0:smL QQ body):XnR.F [.sl .ro 1 (body.map Xx),.b head]=some (.sl .mut 1 ((if head=true then[] else body).map Xx),[.u,.u]):=Xm (0) rfl rfl (λcx h=>by
 cases head<;>simp only[go_sem,reduceIte,↓reduceIte,nB,nE,h,h0]) (by simp only[go_sem,Zl,XB])
def Um(e:Xt)(now:Int):List Xg:=setV ⟨#[65,103,101]⟩ (Xbo ((Xbs e.Meta now).tdiv 1000)) e.Headers
def YT(e:Xt)(now:Int)(src:ByteArray):List Xg:=setV ⟨#[88,45,67,97,99,104,101]⟩ src (Um e now)
def YN(e:Xt)(now:Int)(src:ByteArray):Int:=if(Xc e !=0)=true then Xc e else if(XV e.Meta now !=0)=true then 3 else if Ud src=false then 5 else if(20:Int)<((YT e now src).length:Int) then 2 else 0
def UT(e:Xt)(now:Int)(src:ByteArray)(head:Bool):Xh:=if(YN e now src !=0)=true then⟨YN e now src,⟨0,[],[]⟩⟩ else⟨0,⟨e.Status,YT e now src,if head=true then[] else e.Body⟩⟩
def Xja{n:Int}(h0:0<=n)(h:n<=1000000000000000000):(Xbo n).size<=1048576:=by
 have:=Xht n h0 19 (by rw[show(10:Int)^(19+1)=100000000000000000000 from by decide]; omega)
 omega
def Xbw{m:Meta}{now:Int}(h:XV m now=0):(IntKind.i64).wrap ((Xbs m now).tdiv 1000)=(Xbs m now).tdiv 1000/\(0<=(Xbs m now).tdiv 1000/\(Xbs m now).tdiv 1000<=1000000000000000000)/\(-9223372036854775808<=(Xbs m now).tdiv 1000/\(Xbs m now).tdiv 1000<=9223372036854775807):=by
 obtain⟨_,_,w3,w4⟩:=U8 h
 have h1:(Xbs m now).tdiv 1000=(Xbs m now) / 1000:=Int.tdiv_eq_ediv_of_nonneg w3
 rw[h1]
 exact⟨Yl (by omega) (by omega),⟨by omega,by omega⟩,by omega,by omega⟩
def Xbg{e:Xt}{now:Int}(h:smL XO e.Headers)(hz:XV e.Meta now=0)(hl:e.Headers.length<=20):(Um e now).length<=21/\smL XO (Um e now):=by
 have h1:=XcZ ⟨#[65,103,101]⟩ (Xbo ((Xbs e.Meta now).tdiv 1000)) e.Headers
 unfold Um
 exact⟨by omega,by omega,XeM (by decide) (Xja (Xbw hz).2.1.1 (Xbw hz).2.1.2) h.2⟩
def XeP{e:Xt}{now:Int}{src:ByteArray}(h:smL XO e.Headers)(hz:XV e.Meta now=0)(hl:e.Headers.length<=20)(hs:src.size<=1048576):smL XO (YT e now src):=by
 obtain⟨h1,h2⟩:=Xbg h hz hl
 have h3:=XcZ ⟨#[88,45,67,97,99,104,101]⟩ src (Um e now)
 unfold YT
 exact⟨by omega,XeM (by decide) hs h2.2⟩
def Xgm{e:Xt}(h:Uc e)(now:Int){src:ByteArray}(hs:src.size<=1048576)(head:Bool):ZX (UT e now src head):=by
 unfold UT
 split
 ·exact⟨trivial,trivial,⟨Nat.zero_le _,λx hx=>by cases hx⟩,⟨Nat.zero_le _,λx hx=>by cases hx⟩⟩
 ·rename_i hc
  have h0:YN e now src=0:=by simpa using hc
  unfold YN at h0
  split at h0
  ·rename_i hq; rw[h0] at hq; exact absurd hq (by decide)
  split at h0
  ·cases h0
  rename_i q1 q2
  refine⟨trivial,trivial,XeP h.2.2.1 (by simpa using q2) (Qh (QS (by simpa using q1))) hs,?_⟩
  show smL QQ (if head=true then[] else e.Body)
  split
  ·exact⟨Nat.zero_le _,λx hx=>by cases hx⟩
  ·exact h.2.2.2.1
@[go_sem] def XpE(ttt1 ttt2:AV)(mAt y0 y1 y2 y3:Int)(y4 y5:Bool)(now:Int)(h0:XV (Meta.mk mAt y0 y1 y2 y3 y4 y5) now=0):Xm5.F [.pr [.i .i64 mAt,.i .i64 y0,.i .i64 y1,.i .i64 y2,.i .i64 y3,.b y4,.b y5,ttt1,ttt2],.i .i64 now]=some (.i .i64 (Xbs (Meta.mk mAt y0 y1 y2 y3 y4 y5) now),[.u,.u]):=Xm (0) rfl rfl (λcx h=>by
 obtain⟨w1,w2,w3,w4⟩:=U8 h0
 simp only at w1 w2
 simp only[go_sem,reduceIte,↓reduceIte,nA,nB,nL,h,w1,w2,Xbs]) (rfl)
def s69:SP Tryz.prog:=mkS tyA 69 Tryz.f69 [XnK,XnN,Xm5,XnR] {md:=[.ro 1,.ro 1,.ro 1,.ro 1],rg:=[(0,[0,1,2,3,8,9,31,37],[8]),(1,[0,2,3,8,9,31,37],[8]),(2,[0,3,8,9,31,37],[8]),(3,[8,9,31,37],[8])],rets:=some ([8,9,31,37],[8]),plan:=[(1,(.take 0 (.take 1 (.take 2 (.take 3 (.take 4 (.take 5 (.take 6 (.take 7 (.one 8 (.take 9 (.one 10 (.take 11 (.one 12 (.one 13 .done))))))))))))))),(3,(.take 0 (.take 1 (.take 2 (.take 3 (.take 4 (.take 5 (.take 6 (.take 7 (.take 8 (.take 9 (.one 10 (.take 11 (.one 12 .done))))))))))))))]} Tryz.func69 (by kernel_rfl)
@[go_sem] def d69:s69.g=69/\s69.fs=⟨[.ro 1,.ro 1,.ro 1,.ro 1],s69.F,false⟩:=⟨nr rfl,nr rfl⟩
@[go_sem] def e69(y6:ByteArray)(y7:Int)(eHeaders:List Xg)(eBody:List UInt8)(y8 y9 y10 y11 y12:Int)(y13 y14:Bool)(y15:List ByteArray)(y16 now:Int)(source:ByteArray)(head:Bool)(h0:(Uc (Xt.mk y6 y7 eHeaders eBody (Meta.mk y8 y9 y10 y11 y12 y13 y14) y15 y16)/\XV (Xt.mk y6 y7 eHeaders eBody (Meta.mk y8 y9 y10 y11 y12 y13 y14) y15 y16).Meta now=0/\(Xt.mk y6 y7 eHeaders eBody (Meta.mk y8 y9 y10 y11 y12 y13 y14) y15 y16).Headers.length<=20)):s69.F [.pr [.s y6,.i .i64 y7,.sl .ro 2 (eHeaders.map (Xa .ro)),.sl .ro 1 (eBody.map Xx),.i .i64 y8,.i .i64 y9,.i .i64 y10,.i .i64 y11,.i .i64 y12,.b y13,.b y14,.sl .ro 1 (y15.map Zw),.i .i64 y16],.i .i64 now,.s source,.b head]=some (.agg (ZQ .mut (Response.mk (Xt.mk y6 y7 eHeaders eBody (Meta.mk y8 y9 y10 y11 y12 y13 y14) y15 y16).Status (YT (Xt.mk y6 y7 eHeaders eBody (Meta.mk y8 y9 y10 y11 y12 y13 y14) y15 y16) now source) (if head=true then[] else(Xt.mk y6 y7 eHeaders eBody (Meta.mk y8 y9 y10 y11 y12 y13 y14) y15 y16).Body))),[.u,.u,.u,.u]):=Xm (0) rfl rfl (λcx h=>by
 obtain⟨h0,za,hl⟩:=h0
 simp only at za hl
 obtain⟨v1,v2,v3⟩:=Xbw za
 obtain⟨g1,g2⟩:=@Xbg (Xt.mk y6 y7 eHeaders eBody (Meta.mk y8 y9 y10 y11 y12 y13 y14) y15 y16) now h0.2.2.1 za hl
 have k1:eHeaders.length<=1000/\smL XO eHeaders/\okN ⟨#[65,103,101]⟩=true:=⟨Nat.le_trans hl (by decide),h0.2.2.1,by decide⟩
 have k2:(Um (Xt.mk y6 y7 eHeaders eBody (Meta.mk y8 y9 y10 y11 y12 y13 y14) y15 y16) now).length<=1000/\smL XO (Um (Xt.mk y6 y7 eHeaders eBody (Meta.mk y8 y9 y10 y11 y12 y13 y14) y15 y16) now)/\okN ⟨#[88,45,67,97,99,104,101]⟩=true:=⟨by omega,g2,by decide⟩
 have u1:setV ⟨#[65,103,101]⟩ (Xbo ((Xbs (Meta.mk y8 y9 y10 y11 y12 y13 y14) now).tdiv 1000)) eHeaders=Um (Xt.mk y6 y7 eHeaders eBody (Meta.mk y8 y9 y10 y11 y12 y13 y14) y15 y16) now:=rfl
 have u2:setV ⟨#[88,45,67,97,99,104,101]⟩ source (Um (Xt.mk y6 y7 eHeaders eBody (Meta.mk y8 y9 y10 y11 y12 y13 y14) y15 y16) now)=YT (Xt.mk y6 y7 eHeaders eBody (Meta.mk y8 y9 y10 y11 y12 y13 y14) y15 y16) now source:=rfl
 have hb:smL QQ eBody:=h0.2.2.2.1
 cases head<;>simp only[go_sem,reduceIte,↓reduceIte,nA,nB,nE,nL,nT,iE,h,za,v1,v2,k1,k2,u1,u2,hb]) (by simp only[go_sem,Zl,XB,XU])
def Xcr{e:Xt}(h:Xc e=0):XN e.Meta=0:=by
 unfold Xc at h
 split at h
 ·cases h
 split at h
 ·cases h
 split at h
 ·rename_i hc; rw[h] at hc; exact absurd hc (by decide)
 split at h
 ·cases h
 ·exact h
def XnS{m:Meta}{now:Int}(h:XN m=0)(h2:XV m now≠0):XV m now=3:=by
 unfold XV at h2 ⊢
 rw[h] at h2 ⊢
 simp only[bne_self_eq_false,Bool.false_eq_true,if_false] at h2 ⊢
 split
 ·rfl
 ·rename_i hc; rw[if_neg hc] at h2; exact absurd rfl h2
@[go_sem] def XqM(ttt1 ttt2:AV)(mAt y0 y1 y2 y3:Int)(y4 y5:Bool)(now:Int):s67.F [.pr [.i .i64 mAt,.i .i64 y0,.i .i64 y1,.i .i64 y2,.i .i64 y3,.b y4,.b y5,ttt1,ttt2],.i .i64 now]=some (.i .i64 (XV (Meta.mk mAt y0 y1 y2 y3 y4 y5) now),[.u,.u]):=Xm (0) rfl rfl (λcx h=>by
 have hu:XV (Meta.mk mAt y0 y1 y2 y3 y4 y5) now=if(XN (Meta.mk mAt y0 y1 y2 y3 y4 y5) !=0)=true then XN (Meta.mk mAt y0 y1 y2 y3 y4 y5) else if(!Ym now||decide (now<mAt))=true then 3 else 0:=rfl
 rcases US (Meta.mk mAt y0 y1 y2 y3 y4 y5) with z | z
 rotate_left
 ·simp only[go_sem,reduceIte,↓reduceIte,nA,nB,nE,nL,iN,h,z,hu]
 rcases Bool.eq_false_or_eq_true (Ym now) with a1 | a1
 rotate_left
 ·simp only[go_sem,reduceIte,↓reduceIte,nA,nB,nE,nL,h,z,a1,hu]
 by_cases a2:now<mAt<;>simp only[go_sem,reduceIte,↓reduceIte,nA,nB,nE,nL,h,z,a1,a2,hu]) (rfl)
def s22:SP Tryz.prog:=mkS tyA 22 Tryz.f22 [s49,s67,s68,s69] {md:=[.ro 1,.ro 1,.ro 1,.ro 1],rg:=[(0,[1,2,3,4,8,38],[4,8,11]),(1,[1,2,3,4,8,9,38],[4,8,11]),(2,[1,2,3,4,8,9,15,38],[4,8,11]),(3,[8,38],[8,11]),(4,[1,2,3,4,8,10,38],[4,8,11]),(5,[1,2,3,4,8,10,22,38],[4,8,11]),(6,[8,38],[8,11]),(7,[1,2,3,4,8,27,38],[4,8,11]),(8,[8,38],[8,11]),(9,[8,11,38],[8,11]),(10,[8,11,36,38],[8,11]),(11,[8,38],[8,11]),(12,[8,38],[8,11])],rets:=some ([8,38],[8,11]),fz:=[4]} Tryz.func22 (by kernel_rfl)
@[go_sem] def d22:s22.g=22/\s22.fs=⟨[.ro 1,.ro 1,.ro 1,.ro 1],s22.F,false⟩:=⟨nr rfl,nr rfl⟩
@[go_sem] def e22(y6:ByteArray)(y7:Int)(eHeaders:List Xg)(eBody:List UInt8)(y8 y9 y10 y11 y12:Int)(y13 y14:Bool)(y15:List ByteArray)(y16 now:Int)(source:ByteArray)(head:Bool)(h0:Uc (Xt.mk y6 y7 eHeaders eBody (Meta.mk y8 y9 y10 y11 y12 y13 y14) y15 y16)):s22.F [.agg [.s y6,.i .i64 y7,.sl .ro 2 (eHeaders.map (Xa .ro)),.sl .ro 1 (eBody.map Xx),.i .i64 y8,.i .i64 y9,.i .i64 y10,.i .i64 y11,.i .i64 y12,.b y13,.b y14,.sl .ro 1 (y15.map Zw),.i .i64 y16],.i .i64 now,.s source,.b head]=some (.agg (X5 .mut (UT (Xt.mk y6 y7 eHeaders eBody (Meta.mk y8 y9 y10 y11 y12 y13 y14) y15 y16) now source head)),[.u,.u,.u,.u]):=Xm (0) rfl rfl (λcx h=>by
 have hcu:YN (Xt.mk y6 y7 eHeaders eBody (Meta.mk y8 y9 y10 y11 y12 y13 y14) y15 y16) now source=if(Xc (Xt.mk y6 y7 eHeaders eBody (Meta.mk y8 y9 y10 y11 y12 y13 y14) y15 y16) !=0)=true then Xc (Xt.mk y6 y7 eHeaders eBody (Meta.mk y8 y9 y10 y11 y12 y13 y14) y15 y16) else if(XV (Meta.mk y8 y9 y10 y11 y12 y13 y14) now !=0)=true then 3 else if Ud source=false then 5 else if(20:Int)<((YT (Xt.mk y6 y7 eHeaders eBody (Meta.mk y8 y9 y10 y11 y12 y13 y14) y15 y16) now source).length:Int) then 2 else 0:=rfl
 have hvu:UT (Xt.mk y6 y7 eHeaders eBody (Meta.mk y8 y9 y10 y11 y12 y13 y14) y15 y16) now source head=if(YN (Xt.mk y6 y7 eHeaders eBody (Meta.mk y8 y9 y10 y11 y12 y13 y14) y15 y16) now source !=0)=true then⟨YN (Xt.mk y6 y7 eHeaders eBody (Meta.mk y8 y9 y10 y11 y12 y13 y14) y15 y16) now source,⟨0,[],[]⟩⟩ else⟨0,⟨y7,YT (Xt.mk y6 y7 eHeaders eBody (Meta.mk y8 y9 y10 y11 y12 y13 y14) y15 y16) now source,if head=true then[] else eBody⟩⟩:=rfl
 have hh:smL XO eHeaders:=h0.2.2.1
 by_cases z:Xc (Xt.mk y6 y7 eHeaders eBody (Meta.mk y8 y9 y10 y11 y12 y13 y14) y15 y16)=0
 rotate_left
 ·have z':(Xc (Xt.mk y6 y7 eHeaders eBody (Meta.mk y8 y9 y10 y11 y12 y13 y14) y15 y16) !=0)=true:=by simpa using z
  have z2:(Xc (Xt.mk y6 y7 eHeaders eBody (Meta.mk y8 y9 y10 y11 y12 y13 y14) y15 y16)==0)=false:=by simpa using z
  simp only[go_sem,reduceIte,↓reduceIte,nA,nB,nE,h,hh,z',hcu,hvu]
 have hl:eHeaders.length<=20:=Qh (QS z)
 have m0:XN (Meta.mk y8 y9 y10 y11 y12 y13 y14)=0:=Xcr z
 by_cases za:XV (Meta.mk y8 y9 y10 y11 y12 y13 y14) now=0
 rotate_left
 ·have za':XV (Meta.mk y8 y9 y10 y11 y12 y13 y14) now=3:=XnS m0 za
  simp only[go_sem,reduceIte,↓reduceIte,nA,nB,nE,iN,h,hh,z,za',hcu,hvu]
 rcases Bool.eq_false_or_eq_true (Ud source) with b | b
 rotate_left
 ·simp only[go_sem,reduceIte,↓reduceIte,nA,nB,nE,iN,h,hh,z,za,b,hcu,hvu]
 obtain⟨v1,v2,v3⟩:=Xbw za
 obtain⟨g1,g2⟩:=@Xbg (Xt.mk y6 y7 eHeaders eBody (Meta.mk y8 y9 y10 y11 y12 y13 y14) y15 y16) now h0.2.2.1 za hl
 have k1:eHeaders.length<=1000/\smL XO eHeaders/\okN ⟨#[65,103,101]⟩=true:=⟨Nat.le_trans hl (by decide),h0.2.2.1,by decide⟩
 have k2:(Um (Xt.mk y6 y7 eHeaders eBody (Meta.mk y8 y9 y10 y11 y12 y13 y14) y15 y16) now).length<=1000/\smL XO (Um (Xt.mk y6 y7 eHeaders eBody (Meta.mk y8 y9 y10 y11 y12 y13 y14) y15 y16) now)/\okN ⟨#[88,45,67,97,99,104,101]⟩=true:=⟨by omega,g2,by decide⟩
 have u1:setV ⟨#[65,103,101]⟩ (Xbo ((Xbs (Meta.mk y8 y9 y10 y11 y12 y13 y14) now).tdiv 1000)) eHeaders=Um (Xt.mk y6 y7 eHeaders eBody (Meta.mk y8 y9 y10 y11 y12 y13 y14) y15 y16) now:=rfl
 have u2:setV ⟨#[88,45,67,97,99,104,101]⟩ source (Um (Xt.mk y6 y7 eHeaders eBody (Meta.mk y8 y9 y10 y11 y12 y13 y14) y15 y16) now)=YT (Xt.mk y6 y7 eHeaders eBody (Meta.mk y8 y9 y10 y11 y12 y13 y14) y15 y16) now source:=rfl
 have hb:smL QQ eBody:=h0.2.2.2.1
 have hz:Uc (Xt.mk y6 y7 eHeaders eBody (Meta.mk y8 y9 y10 y11 y12 y13 y14) y15 y16)/\XV (Meta.mk y8 y9 y10 y11 y12 y13 y14) now=0/\eHeaders.length<=20:=⟨h0,za,hl⟩
 by_cases c:(20:Int)<((YT (Xt.mk y6 y7 eHeaders eBody (Meta.mk y8 y9 y10 y11 y12 y13 y14) y15 y16) now source).length:Int)
 ·cases head<;>simp only[go_sem,reduceIte,↓reduceIte,nA,nB,nE,nL,iN,h,hh,z,b,hz,c,List.length_map,hcu,hvu]
 ·cases head<;>simp only[go_sem,reduceIte,↓reduceIte,nA,nB,nE,nL,nT,h,hh,z,b,hz,c,List.length_map,hcu,hvu]) (by simp only[go_sem,Zl,XB,XU])
def XnT:SP Tryz.prog:=mkS tyA 131 Tryz.f131 [] {md:=[.ro 1],rg:=[(0,[1,2],[1,2,3]),(1,[1,2,3],[1,2,3]),(2,[1,2,3],[1,2,3]),(3,[2,3],[2,3]),(4,[2],[2,3])],rets:=some ([2],[2,3])} Tryz.func131 (by kernel_rfl)
@[go_sem] def XDN:XnT.g=131/\XnT.fs=⟨[.ro 1],XnT.F,false⟩:=⟨nr rfl,nr rfl⟩
@[go_sem] def XDO(y17 y18:ByteArray)(h0:XO (Xg.mk y17 y18)):XnT.F [.agg [.s y17,.s y18]]=some (.agg (Xa .mut (Xg.mk y17 y18)),[.u]):=Xm (0) rfl rfl (λcx h=>by
 obtain⟨q0,q1⟩:=h0
 simp only[go_sem,reduceIte,↓reduceIte,nA,nB,nE,nL,h]) (by simp only[go_sem,Zl,XB,XU])
def s70:SP Tryz.prog:=mkS tyA 70 Tryz.f70 [XnT] {md:=[.ro 1],rg:=[(0,[0],[]),(1,[0,3],[]),(2,[0,3,4],[]),(3,[0,3,4,11],[]),(4,[0,3,4],[]),(5,[0,3,4],[]),(6,[2],[])],lv:=[(0,[0,3,4],[])],out:=[(0,[3],[])],rets:=some ([2],[])} Tryz.func70 (by kernel_rfl)
@[go_sem] def d70:s70.g=70/\s70.fs=⟨[.ro 1],s70.F,false⟩:=⟨nr rfl,nr rfl⟩
@[go_sem] def e70(xs:List Xg)(h0:smL XO xs):s70.F [.sl .ro 2 (xs.map (Xa .ro))]=some (.sl .mut 2 (xs.map (Xa .mut)),[.u]):=Xm (xs.length+1) rfl rfl (λcx h=>by
 have hb:=XG Tryz.f70 0 _ _ rfl rfl
 have hx:=h0.1
 have c1:((xs.length:Int)*(32:Nat)<=140737488355328):=by omega
 have c2:0<=(xs.length:Int):=by omega
 have hr:=(YB (cx:=cx) (blk:=0) (body:=Za Tryz.f70 0) xs (λk (_:Unit)=>⟨E [(0,.sl .ro 2 (xs.map (Xa .ro))),(3,.sl .mut 2 (Zg (Xa .mut) [.s ⟨#[]⟩,.s ⟨#[]⟩] xs k)),(4,.i .i64 k)],B []⟩) (λ_=>⟨E [(3,.sl .mut 2 (xs.map (Xa .mut)))],B []⟩) (λ_ _=>()) (λ_ _=>True)
  (λl _ G=>by simp only[go_sem,reduceIte,↓reduceIte,nB,nE,h,Int.lt_irrefl,hb,XaS]) (λk hk l _=>by
   have h1:((k:Int)<(xs.length:Int)):=Int.ofNat_lt.2 hk
   have h2:=h0.2 _ (List.getElem_mem hk)
   have h3:(Zg (Xa .mut) [.s ⟨#[]⟩,.s ⟨#[]⟩] xs k).set k [.s xs[k].Name,.s xs[k].Value]=Zg (Xa .mut) [.s ⟨#[]⟩,.s ⟨#[]⟩] xs (k+1):=XaU (Xa .mut) [.s ⟨#[]⟩,.s ⟨#[]⟩] xs k hk
   exact⟨trivial,_,λG=>by simp only[go_sem,reduceIte,↓reduceIte,nA,nB,nE,h,h2,h3,YJ (Xa .ro) xs k hk,UH (Xa .mut) [.s ⟨#[]⟩,.s ⟨#[]⟩] xs k hk,U3 (Xa .mut) [.s ⟨#[]⟩,.s ⟨#[]⟩] xs k hk,XaT (Xa .mut) [.s ⟨#[]⟩,.s ⟨#[]⟩] xs k (Nat.le_of_lt hk),h1,X0 _ _ hk,Xz (show k<9223372036854775807 by omega),hb]<;>with_reducible rfl,by simp only[go_sem,reduceIte,↓reduceIte,nB,h]⟩) () trivial (xs.length+1) (Nat.le_refl _)).2
 rw[hb] at hr
 simp only[go_sem,reduceIte,↓reduceIte,nA,nB,nE,nT,h,c1,c2,Int.toNat_natCast,U2 (Xa .mut) [.s ⟨#[]⟩,.s ⟨#[]⟩],hr]) (by simp only[go_sem,Zl,XB])
def s71:SP Tryz.prog:=mkS tyA 71 Tryz.f71 [] {md:=[.ro 1],rg:=[(0,[0],[]),(1,[0,3],[]),(2,[0,3,4],[]),(3,[0,3,4,11],[]),(4,[0,3,4],[]),(5,[0,3,4],[]),(6,[2],[])],lv:=[(0,[0,3,4],[])],out:=[(0,[3],[])],rets:=some ([2],[])} Tryz.func71 (by kernel_rfl)
@[go_sem] def d71:s71.g=71/\s71.fs=⟨[.ro 1],s71.F,false⟩:=⟨nr rfl,nr rfl⟩
@[go_sem] def e71(xs:List UInt8)(h0:smL QQ xs):s71.F [.sl .ro 1 (xs.map Xx)]=some (.sl .mut 1 (xs.map Xx),[.u]):=Xm (xs.length+1) rfl rfl (λcx h=>by
 have hb:=XG Tryz.f71 0 _ _ rfl rfl
 have hx:=h0.1
 have c1:((xs.length:Int)*1<=140737488355328):=by omega
 have c2:0<=(xs.length:Int):=by omega
 have hr:=(YB (cx:=cx) (blk:=0) (body:=Za Tryz.f71 0) xs (λk (_:Unit)=>⟨E [(0,.sl .ro 1 (xs.map Xx)),(3,.sl .mut 1 (Zg Xx [.i .u8 0] xs k)),(4,.i .i64 k)],B []⟩) (λ_=>⟨E [(3,.sl .mut 1 (xs.map Xx))],B []⟩) (λ_ _=>()) (λ_ _=>True)
  (λl _ G=>by simp only[go_sem,reduceIte,↓reduceIte,nB,nE,h,Int.lt_irrefl,hb,XaS]) (λk hk l _=>by
   have h1:((k:Int)<(xs.length:Int)):=Int.ofNat_lt.2 hk
   have h2:=h0.2 _ (List.getElem_mem hk)
   have h3:(Zg Xx [.i .u8 0] xs k).set k [.i .u8 xs[k].toNat]=Zg Xx [.i .u8 0] xs (k+1):=XaU Xx [.i .u8 0] xs k hk
   exact⟨trivial,_,λG=>by simp only[go_sem,reduceIte,↓reduceIte,nB,nE,h,h3,YJ Xx xs k hk,UH Xx [.i .u8 0] xs k hk,U3 Xx [.i .u8 0] xs k hk,XaT Xx [.i .u8 0] xs k (Nat.le_of_lt hk),h1,X0 _ _ hk,Xz (show k<9223372036854775807 by omega),hb]<;>with_reducible rfl,by simp only[go_sem,reduceIte,↓reduceIte,nB,h]⟩) () trivial (xs.length+1) (Nat.le_refl _)).2
 rw[hb] at hr
 simp only[go_sem,reduceIte,↓reduceIte,nB,nE,nT,h,c1,c2,Int.toNat_natCast,U2 Xx [.i .u8 0],hr]) (by simp only[go_sem,Zl,XB])
def s72:SP Tryz.prog:=mkS tyA 72 Tryz.f72 [] {md:=[.ro 1],rg:=[(0,[1,2],[1,2,3]),(1,[1,2,3],[1,2,3]),(2,[1,2,3],[1,2,3]),(3,[1,2,3],[1,2,3]),(4,[1,2,3],[1,2,3]),(5,[1,2,3],[1,2,3]),(6,[1,2,3],[1,2,3]),(7,[1,2,3],[1,2,3]),(8,[2,3],[2,3]),(9,[2],[2,3])],rets:=some ([2],[2,3])} Tryz.func72 (by kernel_rfl)
@[go_sem] def d72:s72.g=72/\s72.fs=⟨[.ro 1],s72.F,false⟩:=⟨nr rfl,nr rfl⟩
@[go_sem] def e72(xAt y19 y20 y21 y22:Int)(y23 y24:Bool)(h0:Xgh (Meta.mk xAt y19 y20 y21 y22 y23 y24)):s72.F [.agg [.i .i64 xAt,.i .i64 y19,.i .i64 y20,.i .i64 y21,.i .i64 y22,.b y23,.b y24]]=some (.agg (XfG .mut (Meta.mk xAt y19 y20 y21 y22 y23 y24)),[.u]):=Xm (0) rfl rfl (λcx h=>by
 obtain⟨q0,q1,q2,q3,q4,q5,q6⟩:=h0
 simp only[go_sem,reduceIte,↓reduceIte,nA,nB,nE,nL,h]) (by simp only[go_sem,Zl,XB,XU])
def s73:SP Tryz.prog:=mkS tyA 73 Tryz.f73 [] {md:=[.ro 1],rg:=[(0,[0],[]),(1,[0,3],[]),(2,[0,3,4],[]),(3,[0,3,4,11],[]),(4,[0,3,4],[]),(5,[0,3,4],[]),(6,[2],[])],lv:=[(0,[0,3,4],[])],out:=[(0,[3],[])],rets:=some ([2],[])} Tryz.func73 (by kernel_rfl)
@[go_sem] def d73:s73.g=73/\s73.fs=⟨[.ro 1],s73.F,false⟩:=⟨nr rfl,nr rfl⟩
@[go_sem] def e73(xs:List ByteArray)(h0:smL XfC xs):s73.F [.sl .ro 1 (xs.map Zw)]=some (.sl .mut 1 (xs.map Zw),[.u]):=Xm (xs.length+1) rfl rfl (λcx h=>by
 have hb:=XG Tryz.f73 0 _ _ rfl rfl
 have hx:=h0.1
 have c1:((xs.length:Int)*(16:Nat)<=140737488355328):=by omega
 have c2:0<=(xs.length:Int):=by omega
 have hr:=(YB (cx:=cx) (blk:=0) (body:=Za Tryz.f73 0) xs (λk (_:Unit)=>⟨E [(0,.sl .ro 1 (xs.map Zw)),(3,.sl .mut 1 (Zg Zw [.s ⟨#[]⟩] xs k)),(4,.i .i64 k)],B []⟩) (λ_=>⟨E [(3,.sl .mut 1 (xs.map Zw))],B []⟩) (λ_ _=>()) (λ_ _=>True)
  (λl _ G=>by simp only[go_sem,reduceIte,↓reduceIte,nB,nE,h,Int.lt_irrefl,hb,XaS]) (λk hk l _=>by
   have h1:((k:Int)<(xs.length:Int)):=Int.ofNat_lt.2 hk
   have h2:=h0.2 _ (List.getElem_mem hk)
   have h3:(Zg Zw [.s ⟨#[]⟩] xs k).set k [.s xs[k]]=Zg Zw [.s ⟨#[]⟩] xs (k+1):=XaU Zw [.s ⟨#[]⟩] xs k hk
   exact⟨trivial,_,λG=>by simp only[go_sem,reduceIte,↓reduceIte,nB,nE,h,h3,YJ Zw xs k hk,UH Zw [.s ⟨#[]⟩] xs k hk,U3 Zw [.s ⟨#[]⟩] xs k hk,XaT Zw [.s ⟨#[]⟩] xs k (Nat.le_of_lt hk),h1,X0 _ _ hk,Xz (show k<9223372036854775807 by omega),hb]<;>with_reducible rfl,by simp only[go_sem,reduceIte,↓reduceIte,nB,h]⟩) () trivial (xs.length+1) (Nat.le_refl _)).2
 rw[hb] at hr
 simp only[go_sem,reduceIte,↓reduceIte,nB,nE,nT,h,c1,c2,Int.toNat_natCast,U2 Zw [.s ⟨#[]⟩],hr]) (by simp only[go_sem,Zl,XB])
def s23:SP Tryz.prog:=mkS tyA 23 Tryz.f23 [s70,s71,s72,s73] {md:=[.ro 1],rg:=[(0,[1,2],[1,2,3]),(1,[1,2,3],[1,2,3]),(2,[1,2,3],[1,2,3]),(3,[1,2,3],[1,2,3]),(4,[1,2,3],[1,2,3]),(5,[1,2,3],[1,2,3]),(6,[1,2,3],[1,2,3]),(7,[1,2,3],[1,2,3]),(8,[2,3],[2,3]),(9,[2],[2,3])],rets:=some ([2],[2,3])} Tryz.func23 (by kernel_rfl)
@[go_sem] def d23:s23.g=23/\s23.fs=⟨[.ro 1],s23.F,false⟩:=⟨nr rfl,nr rfl⟩
@[go_sem] def e23(y25:ByteArray)(y26:Int)(y27:List Xg)(y28:List UInt8)(y29 y30 y31 y32 y33:Int)(y34 y35:Bool)(y36:List ByteArray)(y37:Int)(h0:Uc (Xt.mk y25 y26 y27 y28 (Meta.mk y29 y30 y31 y32 y33 y34 y35) y36 y37)):s23.F [.agg [.s y25,.i .i64 y26,.sl .ro 2 (y27.map (Xa .ro)),.sl .ro 1 (y28.map Xx),.i .i64 y29,.i .i64 y30,.i .i64 y31,.i .i64 y32,.i .i64 y33,.b y34,.b y35,.sl .ro 1 (y36.map Zw),.i .i64 y37]]=some (.agg (UR .mut (Xt.mk y25 y26 y27 y28 (Meta.mk y29 y30 y31 y32 y33 y34 y35) y36 y37)),[.u]):=Xm (0) rfl rfl (λcx h=>by
 obtain⟨q0,q1,q2,q3,q4,q5,q6⟩:=h0
 simp only[go_sem,reduceIte,↓reduceIte,nA,nB,nE,nL,nT,h,q2,q3,q4,q5]) (by simp only[go_sem,Zl,XB,XU])
def s53:SP Tryz.prog:=mkS tyA 53 Tryz.f53 [] {md:=[.ro 1,.ro 1,.ro 1],rets:=some ([6],[])} Tryz.func53 (by kernel_rfl)
@[go_sem] def d53:s53.g=53/\s53.fs=⟨[.ro 1,.ro 1,.ro 1],s53.F,false⟩:=⟨nr rfl,nr rfl⟩
@[go_sem] def e53(a b c:Int):s53.F [.i .i64 a,.i .i64 b,.i .i64 c]=some (.b (within a b c),[.u,.u,.u]):=Xm (0) rfl rfl (λcx h=>by
 simp only[go_sem,reduceIte,↓reduceIte,nA,nB,h,within]
 by_cases h:b<=a<;>simp[h]) (rfl)
def Xm6:SP Tryz.prog:=mkS tyA 184 Tryz.f184 [] {md:=[.ro 1],rets:=some ([2],[])} Tryz.func184 (by kernel_rfl)
@[go_sem] def XDP:Xm6.g=184/\Xm6.fs=⟨[.ro 1],Xm6.F,false⟩:=⟨nr rfl,nr rfl⟩
@[go_sem] def XDQ(c:UInt8):Xm6.F [.i .u8 c.toNat]=some (.b (Qg c),[.u]):=Xm (0) rfl rfl (λcx h=>by
 by_cases h1:97<=(c.toNat:Int)<;>by_cases h2:(c.toNat:Int)<=122<;>by_cases h3:65<=(c.toNat:Int)<;>by_cases h4:(c.toNat:Int)<=90<;>simp only[go_sem,reduceIte,↓reduceIte,nB,h,h1,h2,h3,h4,Qg]) (rfl)
def Xlm:SP Tryz.prog:=mkS tyA 185 Tryz.f185 [] {md:=[.ro 1],rets:=some ([2],[])} Tryz.func185 (by kernel_rfl)
@[go_sem] def XDR:Xlm.g=185/\Xlm.fs=⟨[.ro 1],Xlm.F,false⟩:=⟨nr rfl,nr rfl⟩
@[go_sem] def XDS(c:UInt8):Xlm.F [.i .u8 c.toNat]=some (.b (Qs c),[.u]):=Xm (0) rfl rfl (λcx h=>by
 by_cases h1:48<=(c.toNat:Int)<;>by_cases h2:(c.toNat:Int)<=57<;>simp only[go_sem,reduceIte,↓reduceIte,nB,h,h1,h2,Qs]) (rfl)
def XnU:SP Tryz.prog:=⟨235,⟨[.ro 1,.ro 1],Xpw,false⟩,XoP Tryz.func235 (by kernel_rfl) (by kernel_rfl) (by kernel_rfl) (by kernel_rfl)⟩
@[go_sem] def XDT:XnU.g=235/\XnU.fs=⟨[.ro 1,.ro 1],XnU.F,false⟩:=⟨nr rfl,nr rfl⟩
@[go_sem] def XDU(s:ByteArray)(c:UInt8):XnU.F [.s s,.i .u8 c.toNat]=some (.i .i64 (ixB s c),[.u,.u]):=by
 show Xpw [.s s,.i .u8 c.toNat]=_
 rw[XmP,Xnz]
 rfl
def XnV:SP Tryz.prog:=mkS tyA 217 Tryz.f217 [XnU] {md:=[.ro 1,.ro 1],rets:=some ([4],[])} Tryz.func217 (by kernel_rfl)
@[go_sem] def XDV:XnV.g=217/\XnV.fs=⟨[.ro 1,.ro 1],XnV.F,false⟩:=⟨nr rfl,nr rfl⟩
@[go_sem] def XDW(s:ByteArray)(c:UInt8):XnV.F [.s s,.i .u8 c.toNat]=some (.i .i64 (ixB s c),[.u,.u]):=Xm (0) rfl rfl (λcx h=>by
 simp only[go_sem,reduceIte,↓reduceIte,nA,nB,h]) (rfl)
end
end Go.Vm.A
