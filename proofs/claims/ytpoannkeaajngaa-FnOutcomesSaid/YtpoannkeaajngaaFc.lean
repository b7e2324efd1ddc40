/- Functions of the program, walked by the evaluator. -/
import Derived.Test.YtpoannkeaajngaaWb
import Derived.Test.YtpoannkeaajngaaWa
import Derived.Test.YtpoannkeaajngaaFa
import Derived.Test.YtpoannkeaajngaaFb
set_option linter.unusedVariables false
set_option linter.unusedSimpArgs false
set_option autoImplicit false
set_option maxRecDepth 100000
set_option maxHeartbeats 4000000
set_option linter.defProp false
namespace Go.Vm.A
open Go.Proofs
open Nat renaming reduceAdd -> nA, reduceSub -> nS, reduceMul -> nM, reduceBEq -> nB, reduceEqDiff -> nE, reduceLeDiff -> nL, reduceLT -> nT, reduceBneDiff -> nN
open Int renaming reduceLE -> iL, reduceLT -> iT, reduceEq -> iE, reduceAdd -> iA, reduceMul -> iM, reduceSub -> iS, reduceNeg -> iG, reduceBEq -> iB, reduceBNe -> iN, reduceToNat -> iZ
noncomputable section
def QA(b:Breaker)(r:Xf)(now:Int):Bool:=if b.State=0 then true else if b.State=1 then decide (r.Cool<=now-b.Since) else decide (b.Out<r.Quota)
def YO(b:Breaker)(r:Xf)(now:Int):Breaker:=if b.State=0 then b else if b.State=1 then(if r.Cool<=now-b.Since then⟨2,b.Since,1,b.Marks⟩ else b) else if b.Out<r.Quota then⟨2,b.Since,b.Out+1,b.Marks⟩ else b
def s50:SP Try.prog:=mkS tyA 50 Try.f50 [] {md:=[.rw 4,.ro 1,.ro 1],wk:=true,rg:=[(0,[0,1,2],[0]),(1,[0,1,2,10],[0]),(2,[0,1,2,10,11],[0]),(3,[0,6],[0]),(4,[0,1,2,13],[0]),(5,[0,25],[0]),(6,[0,6],[0]),(7,[0],[0]),(8,[0],[0]),(9,[0,6],[0]),(10,[0,40],[0]),(11,[0,6],[0]),(12,[0],[0]),(13,[0,6],[0])],rets:=some ([0,6],[0]),plan:=[(5,(.take 0 (.take 1 (.take 2 (.take 3 (.take 4 (.take 5 (.take 6 (.take 7 (.take 8 (.take 9 (.take 10 .done)))))))))))),(10,(.take 0 (.take 1 (.take 2 (.take 3 (.take 4 (.take 5 (.take 6 (.take 7 (.take 8 .done))))))))))]} Try.func50 (by kernel_rfl)
@[go_sem] def d50:s50.g=50/\s50.fs=⟨[.rw 4,.ro 1,.ro 1],s50.F,true⟩:=⟨nr rfl,nr rfl⟩
@[go_sem] def e50(y0 bSince bOut:Int)(y1:List XQ)(y2 y3 y4 rCool y5 now:Int)(hf:Xd (Breaker.mk y0 bSince bOut y1)=0)(hg:Xr (Xf.mk y2 y3 y4 rCool y5)=0)(ht:XF now=true):s50.F [.agg [.i .i64 y0,.i .i64 bSince,.i .i64 bOut,.sl .app 2 (y1.map (Xb .ro))],.pr [.i .i64 y2,.i .i64 y3,.i .i64 y4,.i .i64 rCool,.i .i64 y5],.i .i64 now]=some (.b (QA (Breaker.mk y0 bSince bOut y1) (Xf.mk y2 y3 y4 rCool y5) now),[.agg [.i .i64 (YO (Breaker.mk y0 bSince bOut y1) (Xf.mk y2 y3 y4 rCool y5) now).State,.i .i64 (YO (Breaker.mk y0 bSince bOut y1) (Xf.mk y2 y3 y4 rCool y5) now).Since,.i .i64 (YO (Breaker.mk y0 bSince bOut y1) (Xf.mk y2 y3 y4 rCool y5) now).Out,.sl .app 2 ((YO (Breaker.mk y0 bSince bOut y1) (Xf.mk y2 y3 y4 rCool y5) now).Marks.map (Xb .ro))],.u,.u]):=Xy (0) rfl rfl (λcx h=>by
 have hB:=Xn hf
 have hR:=X3 hg
 simp only at hB hR
 have hT:=Y4.1 ht
 have w1:(IntKind.i64).wrap (now-bSince)=now-bSince:=Xv (by omega) (by omega)
 have w2:(IntKind.i64).wrap (bOut+1)=bOut+1:=Xv (by omega) (by omega)
 by_cases s0:y0=0
 ·subst s0
  simp only[go_sem,reduceIte,↓reduceIte,reduceCtorEq,nA,nS,nM,nB,nE,nL,nT,nN,iL,iT,iE,iA,iM,iS,iG,iB,iN,iZ,h,YO,QA]
 by_cases s1:y0=1
 ·subst s1
  by_cases d:rCool<=now-bSince
  ·have d':¬now-bSince<rCool:=by omega
   simp only[go_sem,reduceIte,↓reduceIte,reduceCtorEq,nA,nS,nM,nB,nE,nL,nT,nN,iL,iT,iE,iA,iM,iS,iG,iB,iN,iZ,h,YO,QA,w1,d,d']
  ·have d':now-bSince<rCool:=by omega
   simp only[go_sem,reduceIte,↓reduceIte,reduceCtorEq,nA,nS,nM,nB,nE,nL,nT,nN,iL,iT,iE,iA,iM,iS,iG,iB,iN,iZ,h,YO,QA,w1,d,d']
 have s2:y0=2:=by omega
 subst s2
 by_cases d:bOut<y5
 ·have d':¬y5<=bOut:=by omega
  simp only[go_sem,reduceIte,↓reduceIte,reduceCtorEq,nA,nS,nM,nB,nE,nL,nT,nN,iL,iT,iE,iA,iM,iS,iG,iB,iN,iZ,h,YO,QA,w2,d,d']
 ·have d':y5<=bOut:=by omega
  simp only[go_sem,reduceIte,↓reduceIte,reduceCtorEq,nA,nS,nM,nB,nE,nL,nT,nN,iL,iT,iE,iA,iM,iS,iG,iB,iN,iZ,h,YO,QA,w2,d,d']) (rfl)
def Xfi:SP Try.prog:=mkS tyA 50 Try.f50 [] {md:=[.rw 4,.rw 5,.ro 1],wk:=true,rg:=[(0,[0,1,2],[0,1]),(1,[0,1,2,10],[0,1]),(2,[0,1,2,10,11],[0,1]),(3,[0,1,6],[0,1]),(4,[0,1,2,13],[0,1]),(5,[0,1,25],[0,1]),(6,[0,1,6],[0,1]),(7,[0,1],[0,1]),(8,[0,1],[0,1]),(9,[0,1,6],[0,1]),(10,[0,1,40],[0,1]),(11,[0,1,6],[0,1]),(12,[0,1],[0,1]),(13,[0,1,6],[0,1])],rets:=some ([0,1,6],[0,1]),plan:=[(5,(.take 0 (.take 1 (.take 2 (.take 3 (.take 4 (.take 5 (.take 6 (.take 7 (.take 8 (.take 9 (.take 10 .done)))))))))))),(10,(.take 0 (.take 1 (.take 2 (.take 3 (.take 4 (.take 5 (.take 6 (.take 7 (.take 8 .done))))))))))]} Try.func50 (by kernel_rfl)
@[go_sem] def Xn1:Xfi.g=50/\Xfi.fs=⟨[.rw 4,.rw 5,.ro 1],Xfi.F,true⟩:=⟨nr rfl,nr rfl⟩
@[go_sem] def Xn2(y0 bSince bOut:Int)(y1:List XQ)(y2 y3 y4 rCool y5 now:Int)(hf:Xd (Breaker.mk y0 bSince bOut y1)=0)(hg:Xr (Xf.mk y2 y3 y4 rCool y5)=0)(ht:XF now=true):Xfi.F [.agg [.i .i64 y0,.i .i64 bSince,.i .i64 bOut,.sl .app 2 (y1.map (Xb .ro))],.agg [.i .i64 y2,.i .i64 y3,.i .i64 y4,.i .i64 rCool,.i .i64 y5],.i .i64 now]=some (.b (QA (Breaker.mk y0 bSince bOut y1) (Xf.mk y2 y3 y4 rCool y5) now),[.agg [.i .i64 (YO (Breaker.mk y0 bSince bOut y1) (Xf.mk y2 y3 y4 rCool y5) now).State,.i .i64 (YO (Breaker.mk y0 bSince bOut y1) (Xf.mk y2 y3 y4 rCool y5) now).Since,.i .i64 (YO (Breaker.mk y0 bSince bOut y1) (Xf.mk y2 y3 y4 rCool y5) now).Out,.sl .app 2 ((YO (Breaker.mk y0 bSince bOut y1) (Xf.mk y2 y3 y4 rCool y5) now).Marks.map (Xb .ro))],.agg [.i .i64 y2,.i .i64 y3,.i .i64 y4,.i .i64 rCool,.i .i64 y5],.u]):=Xy (0) rfl rfl (λcx h=>by
 have hB:=Xn hf
 have hR:=X3 hg
 simp only at hB hR
 have hT:=Y4.1 ht
 have w1:(IntKind.i64).wrap (now-bSince)=now-bSince:=Xv (by omega) (by omega)
 have w2:(IntKind.i64).wrap (bOut+1)=bOut+1:=Xv (by omega) (by omega)
 by_cases s0:y0=0
 ·subst s0
  simp only[go_sem,reduceIte,↓reduceIte,reduceCtorEq,nA,nS,nM,nB,nE,nL,nT,nN,iL,iT,iE,iA,iM,iS,iG,iB,iN,iZ,h,YO,QA]
 by_cases s1:y0=1
 ·subst s1
  by_cases d:rCool<=now-bSince
  ·have d':¬now-bSince<rCool:=by omega
   simp only[go_sem,reduceIte,↓reduceIte,reduceCtorEq,nA,nS,nM,nB,nE,nL,nT,nN,iL,iT,iE,iA,iM,iS,iG,iB,iN,iZ,h,YO,QA,w1,d,d']
  ·have d':now-bSince<rCool:=by omega
   simp only[go_sem,reduceIte,↓reduceIte,reduceCtorEq,nA,nS,nM,nB,nE,nL,nT,nN,iL,iT,iE,iA,iM,iS,iG,iB,iN,iZ,h,YO,QA,w1,d,d']
 have s2:y0=2:=by omega
 subst s2
 by_cases d:bOut<y5
 ·have d':¬y5<=bOut:=by omega
  simp only[go_sem,reduceIte,↓reduceIte,reduceCtorEq,nA,nS,nM,nB,nE,nL,nT,nN,iL,iT,iE,iA,iM,iS,iG,iB,iN,iZ,h,YO,QA,w2,d,d']
 ·have d':y5<=bOut:=by omega
  simp only[go_sem,reduceIte,↓reduceIte,reduceCtorEq,nA,nS,nM,nB,nE,nL,nT,nN,iL,iT,iE,iA,iM,iS,iG,iB,iN,iZ,h,YO,QA,w2,d,d']) (rfl)
def UM:∀(ms:List XQ),Yc ms=false↔ms.Pairwise (λx y=>x.At<=y.At)
 | []=>by simp[Yc]
 | [x]=>by simp[Yc]
 | x :: y :: r=>by
  have ih:=UM (y :: r)
  have e:Yc (x :: y :: r)=(decide (y.At<x.At)||Yc (y :: r)):=by simp[Yc]
  rw[e,List.pairwise_cons]
  constructor
  ·intro h
   simp only[Bool.or_eq_false_iff,decide_eq_false_iff_not] at h
   have h2:=ih.1 h.2
   refine⟨λz hz=>?_,h2⟩
   rcases List.mem_cons.1 hz with hz | hz
   ·subst hz; omega
   ·have:=(List.pairwise_cons.1 h2).1 z hz; omega
  ·intro h
   have h1:=h.1 y (by simp)
   rw[ih.2 h.2]
   simp; omega
def XgH(b:Breaker)(now:Int):Prop:=Xd b=0/\b.Since<=now/\∀m∈b.Marks,m.At<=now
def XiX{b:Breaker}{r:Xf}{now:Int}(h:XD b r now=0):XgH b now/\Xr r=0/\XF now=true:=by
 have h1:=Z0 h
 refine⟨⟨h1.1,?_⟩,h1.2.1,h1.2.2.1⟩
 unfold XD at h
 rw[if_neg (by simpa using h1.1),if_neg (by simpa using h1.2.1)] at h
 split at h
 ·cases h
 ·rename_i hc
  simp only[Bool.or_eq_true,not_or,Bool.not_eq_true,decide_eq_true_eq] at hc
  refine⟨by omega,λm hm=>?_⟩
  have:=List.any_eq_false.1 hc.2 m hm
  simp at this; exact this
def Qg{b:Breaker}(h1:0<=b.State/\b.State<=2)(h2:XF b.Since=true)(h3:0<=b.Out/\b.Out<=5)(h4:b.Marks.length<=60)(h5:∀m∈b.Marks,XF m.At=true)(h6:b.Marks.Pairwise (λx y=>x.At<=y.At))(h7:b.State≠0->b.Marks=[])(h8:b.State≠2->b.Out=0):Xd b=0:=by
 unfold Xd
 rw[if_neg (by rw[Q1.2 h1,h2,Q1.2 h3]; decide),if_neg (by omega),if_neg (by
  intro h
  obtain⟨m,hm,hb⟩:=List.any_eq_true.1 h
  rw[h5 m hm] at hb; cases hb),if_neg (by rw[(UM _).2 h6]; decide),if_neg]
 intro h
 simp only[Bool.or_eq_true,Bool.and_eq_true,bne_iff_ne,decide_eq_true_eq] at h
 rcases h with⟨a,c⟩ | ⟨a,c⟩
 ·rw[h7 a] at c; simp at c
 ·exact c (h8 a)
def Xfj{b:Breaker}{r:Xf}{now:Int}{good:Bool}(h:XgH b now)(hn:XF now=true):(Yf b r now good).length<=60/\(∀m∈Yf b r now good,XF m.At=true/\m.At<=now)/\(Yf b r now good).Pairwise (λx y=>x.At<=y.At):=by
 obtain⟨h1,h2,h3⟩:=h
 have hb:=Xn h1
 have hK:(Ue b r now).length<=60:=Nat.le_trans (Qf b r now) hb.2.2.2.1
 have hm:∀m∈Ue b r now++[XQ.mk now good],XF m.At=true/\m.At<=now:=by
  intro m hm
  rcases List.mem_append.1 hm with hm | hm
  ·have hm2:=(List.mem_filter.1 hm).1
   exact⟨ZW hb.2.2.2.2.1 hm2,h3 m hm2⟩
  ·rw[List.mem_singleton.1 hm]; exact⟨hn,Int.le_refl _⟩
 have hp:(Ue b r now++[XQ.mk now good]).Pairwise (λx y=>x.At<=y.At):=by
  rw[List.pairwise_append]
  refine⟨((UM _).1 hb.2.2.2.2.2.1).filter _,by simp,λx hx y hy=>?_⟩
  rw[List.mem_singleton.1 hy]
  exact h3 x (List.mem_filter.1 hx).1
 unfold Yf
 split
 ·rename_i hc
  refine⟨by simp only[List.length_drop,List.length_append,List.length_cons,List.length_nil] at hc ⊢; omega,λm h=>hm m (List.mem_of_mem_drop h),hp.sublist (List.drop_sublist _ _)⟩
 ·rename_i hc
  exact⟨by omega,hm,hp⟩
def Xd2{b:Breaker}{r:Xf}{now:Int}{good:Bool}(h:XgH b now)(hn:XF now=true):XgH (X6 b r now good) now:=by
 have hk:=h
 obtain⟨h1,h2,h3⟩:=h
 have hb:=Xn h1
 have hs:XF b.Since=true:=Y4.2 hb.2.1
 have em:∀m∈([]:List XQ),m.At<=now:=λm hm=>by cases hm
 have et:∀m∈([]:List XQ),XF m.At=true:=λm hm=>by cases hm
 unfold X6
 split
 ·exact⟨h1,h2,h3⟩
 rename_i c1
 split
 ·split
  ·exact⟨Qg (by simp) hs (by simp) (by simp) et (by simp) (λ_=>rfl) (λ_=>rfl),h2,em⟩
  ·exact⟨Qg (by simp) hn (by simp) (by simp) et (by simp) (λ_=>rfl) (λ_=>rfl),Int.le_refl _,em⟩
 rename_i c2
 split
 ·exact⟨Qg (by simp) hn (by simp) (by simp) et (by simp) (λ_=>rfl) (λ_=>rfl),Int.le_refl _,em⟩
 ·obtain⟨k1,k2,k3⟩:=Xfj (r:=r) (good:=good) hk hn
  have ho:b.Out=0:=hb.2.2.2.2.2.2.2 c2
  exact⟨Qg (by simp) hs (by simp[ho]) k1 (λm hm=>(k2 m hm).1) k3 (λh=>absurd rfl h) (λ_=>ho),h2,λm hm=>(k2 m hm).2⟩
def Xfk{b:Breaker}{r:Xf}{now:Int}(h:XgH b now)(hr:Xr r=0):XgH (YO b r now) now:=by
 obtain⟨h1,h2,h3⟩:=h
 have hb:=Xn h1
 have hq:=X3 hr
 have hs:XF b.Since=true:=Y4.2 hb.2.1
 unfold YO
 split
 ·exact⟨h1,h2,h3⟩
 rename_i c0
 have hm:=hb.2.2.2.2.2.2.1 c0
 split
 ·split
  ·exact⟨Qg (by simp) hs (by simp) (by rw[hm]; simp) (by rw[hm]; intro m h; cases h) (by rw[hm]; simp) (λ_=>hm) (λh=>absurd rfl h),h2,h3⟩
  ·exact⟨h1,h2,h3⟩
 ·split
  ·exact⟨Qg (by simp) hs (by simp; omega) (by rw[hm]; simp) (by rw[hm]; intro m h; cases h) (by rw[hm]; simp) (λ_=>hm) (λh=>absurd rfl h),h2,h3⟩
  ·exact⟨h1,h2,h3⟩
def XgH.mono{b:Breaker}{t u:Int}(h:XgH b t)(htu:t<=u):XgH b u:=⟨h.1,by have:=h.2.1; omega,λm hm=>by have:=h.2.2 m hm; omega⟩
def Zl(code:List UInt8){a:Int}(xs:List Int)(h:aOk a=true)(hx:0<xs.length):X5 code a xs∈xs:=by
 obtain⟨i,e,hi⟩:=XdZ code xs h hx
 have:X5 code a xs=xs[i]:=by unfold X5; rw[e]; simp[List.getD,hi]
 rw[this]; exact List.getElem_mem hi
def Xan(code:List UInt8){a:Int}(h1:bOk a=true):Xr (Uq code a)=0:=by
 have p0:aOk (a)=true:=by have:=XaW h1 0 (by omega) (by omega); rwa [show a+(0:Int)=a by omega] at this
 have p1:aOk (a+1)=true:=by have:=XaW h1 1 (by omega) (by omega); rwa [show a+(1:Int)=a+1 by omega] at this
 have p2:aOk (a+1+1)=true:=by have:=XaW h1 2 (by omega) (by omega); rwa [show a+(2:Int)=a+1+1 by omega] at this
 have p3:aOk (a+1+1+1)=true:=by have:=XaW h1 3 (by omega) (by omega); rwa [show a+(3:Int)=a+1+1+1 by omega] at this
 have p4:aOk (a+1+1+1+1)=true:=by have:=XaW h1 4 (by omega) (by omega); rwa [show a+(4:Int)=a+1+1+1+1 by omega] at this
 have m0:=Zl code [1000,5000,300] p0 (by simp)
 have m1:=Zl code [1,2,3,5] p1 (by simp)
 have m2:=Zl code [500,500,1000,1,300] p2 (by simp)
 have m3:=Zl code [0,500,2000] p3 (by simp)
 have m4:=Zl code [1,1,2,5] p4 (by simp)
 simp only[List.mem_cons,List.not_mem_nil,or_false] at m0 m1 m2 m3 m4
 unfold Xr
 refine if_pos ?_
 simp only[Uq,Bool.and_eq_true,Q1]
 omega
def Xao(code:List UInt8)(r:Xf)(s:Int×Int×Breaker):Int×Int×Breaker :=
 if(YL code (s.1+1) 3==0)=true then(s.1+1+1,s.2.1+X5 code s.1 [0,10,100,600,2500],YO s.2.2 r (s.2.1+X5 code s.1 [0,10,100,600,2500]))
 else(s.1+1+1+1,s.2.1+X5 code s.1 [0,10,100,600,2500],X6 s.2.2 r (s.2.1+X5 code s.1 [0,10,100,600,2500]) (YL code (s.1+1+1) 2==0))
def BdI(a:Int)(k:Nat)(s:Int×Int×Breaker):Prop:=a+1<=s.1/\s.1<=a+1+3*k/\0<=s.2.1/\s.2.1<=2500*k/\XgH s.2.2 s.2.1
def Xfl(code:List UInt8){a:Int}(h:aOk a=true):0<=X5 code a [0,10,100,600,2500]/\X5 code a [0,10,100,600,2500]<=2500:=by
 have m0:=Zl code [0,10,100,600,2500] h (by simp)
 simp only[List.mem_cons,List.not_mem_nil,or_false] at m0
 omega
def bdI(code:List UInt8)(r:Xf)(hr:Xr r=0){a:Int}(ha:0<=a/\a<=1000)(k:Nat)(s:Int×Int×Breaker)(h:BdI a k s)(hk:k<=100):BdI a (k+1) (Xao code r s):=by
 obtain⟨i,now,b⟩:=s
 obtain⟨h1,h2,h3,h4,h5⟩:=h
 simp only at h1 h2 h3 h4 h5
 have hp:=Xfl code (a:=i) (by simp only[aOk,decide_eq_true_eq]; omega)
 have h6:=h5.mono (u:=now+X5 code i [0,10,100,600,2500]) (by omega)
 have ht:XF (now+X5 code i [0,10,100,600,2500])=true:=Y4.2 (by omega)
 unfold Xao BdI
 split
 ·exact⟨by simp only; omega,by simp only; omega,by simp only; omega,by simp only; omega,Xfk h6 hr⟩
 ·exact⟨by simp only; omega,by simp only; omega,by simp only; omega,by simp only; omega,Xd2 h6 ht⟩
def bdN(code:List UInt8)(a:Int):Int:=X5 code a [0,2,5,9,14]
def Xc8(code:List UInt8)(r:Xf)(a:Int):Int×Int×Breaker:=(List.range (bdN code a).toNat).foldl (λs _=>Xao code r s) (a+1,0,⟨0,0,0,[]⟩)
def Xit(code:List UInt8){a:Int}(h:aOk a=true):0<=bdN code a/\bdN code a<=14:=by
 have m0:=Zl code [0,2,5,9,14] h (by simp)
 simp only[List.mem_cons,List.not_mem_nil,or_false] at m0
 unfold bdN; omega
def bd0(a:Int):BdI a 0 (a+1,0,⟨0,0,0,[]⟩):=⟨Int.le_refl _,by simp,Int.le_refl _,by simp,Qg (by simp) rfl (by simp) (by simp) (λm hm=>by cases hm) (by simp) (λh=>absurd rfl h) (λ_=>rfl),Int.le_refl _,λm hm=>by cases hm⟩
def Xiu(code:List UInt8)(r:Xf)(hr:Xr r=0){a:Int}(ha:0<=a/\a<=1000):∀n:Nat,n<=100->BdI a n ((List.range n).foldl (λs _=>Xao code r s) (a+1,0,⟨0,0,0,[]⟩))
 | 0,_=>bd0 a
 | n+1,hn=>by
  rw[List.range_succ,List.foldl_append]
  exact bdI code r hr ha n _ (Xiu code r hr ha n (by omega)) (by omega)
def Xfm(code:List UInt8)(r:Xf)(hr:Xr r=0){a:Int}(ha:0<=a/\a<=1000):∃n:Nat,n<=14/\BdI a n (Xc8 code r a):=by
 have h1:=Xit code (a:=a) (by simp only[aOk,decide_eq_true_eq]; omega)
 exact⟨(bdN code a).toNat,by omega,Xiu code r hr ha _ (by omega)⟩
def Xmg(ms:List XQ)(now n:Int):List XQ:=ms++List.replicate (n.toNat-ms.length) (XQ.mk now true)
def Xen(code:List UInt8)(s:Int×Int×Breaker):Int×Int×Breaker :=
 if(YL code s.1 25==0)=true then(if s.2.2.State=0 then(s.1+1+1,s.2.1,⟨s.2.2.State,s.2.2.Since,s.2.2.Out,Xmg s.2.2.Marks s.2.1 (X5 code (s.1+1) [59,60])⟩) else(s.1+1,s.2.1,s.2.2)) else(s.1+1,s.2.1,s.2.2)
def Ud(code:List UInt8)(r:Xf)(a:Int):Int×Int×Breaker:=Xen code (Xc8 code r a)
def s47:SP Try.prog:=mkS tyA 47 Try.f47 [s13,Xem,s32,Xfi] {md:=[.rw 2,.rw 5],wk:=true,rg:=[(0,[0,1,4],[0,1,4,6]),(1,[0,1,4,6],[0,1,4,6]),(2,[0,1,4,6,7],[0,1,4,6]),(3,[0,1,4,6,7,8],[0,1,4,6]),(4,[0,1,4,6,7,8,15],[0,1,4,6]),(5,[0,1,4,6,7,8],[0,1,4,6]),(6,[0,1,4,6,7,8],[0,1,4,6]),(7,[0,1,4,6,7,8,24],[0,1,4,6]),(8,[0,1,4,6,7,8],[0,1,4,6]),(9,[0,1,4,6,7,8],[0,1,4,6]),(10,[0,1,4,6,7,39],[0,1,4,6]),(11,[0,1,4,6,7,9],[0,1,4,6]),(12,[0,1,4,6,7,9,47],[0,1,4,6]),(13,[0,1,4,6,7,9],[0,1,4,6]),(14,[0,1,4,5],[0,1,4,6])],lv:=[(0,[0,1,4,6,7,8],[0,1,4,6]),(2,[0,1,4,6,7,9],[0,1,4,6])],out:=[(0,[0,1,4,6,7],[0,1,4,6]),(2,[0,1,4,6,7],[0,1,4,6])],rets:=some ([0,1,4,5],[0,1,4,6]),ws:=[(1,[(false,6,3)])]} Try.func47 (by kernel_rfl)
@[go_sem] def d47:s47.g=47/\s47.fs=⟨[.rw 2,.rw 5],s47.F,true⟩:=⟨nr rfl,nr rfl⟩
@[go_sem] def e47(code:List UInt8)(a y2 y3 y4 rCool y5:Int)(hg:Xr (Xf.mk y2 y3 y4 rCool y5)=0)(ha:0<=a/\a<=1000):s47.F [.agg [.sl .ro 1 (code.map XP),.i .i64 a],.agg [.i .i64 y2,.i .i64 y3,.i .i64 y4,.i .i64 rCool,.i .i64 y5]]=some (.tup [.agg [.i .i64 (Ud code (Xf.mk y2 y3 y4 rCool y5) a).2.2.State,.i .i64 (Ud code (Xf.mk y2 y3 y4 rCool y5) a).2.2.Since,.i .i64 (Ud code (Xf.mk y2 y3 y4 rCool y5) a).2.2.Out,.sl .app 2 ((Ud code (Xf.mk y2 y3 y4 rCool y5) a).2.2.Marks.map (Xb .ro))],.i .i64 (Ud code (Xf.mk y2 y3 y4 rCool y5) a).2.1],[.agg [.sl .ro 1 (code.map XP),.i .i64 (Ud code (Xf.mk y2 y3 y4 rCool y5) a).1],.agg [.i .i64 y2,.i .i64 y3,.i .i64 y4,.i .i64 rCool,.i .i64 y5]]):=Xy (200) rfl rfl (λcx h=>by
 have hK0:=Xit code (a:=a) (by simp only[aOk,decide_eq_true_eq]; omega)
 have pa:aOk a=true:=by simp only[aOk,decide_eq_true_eq]; omega
 obtain⟨K,hK⟩:∃K,bdN code a=K:=⟨_,rfl⟩
 have hKe:X5 code a [0,2,5,9,14]=K:=hK
 rw[hK] at hK0
 have hb0:=Yk Try.f47 0 _ _ rfl rfl
 obtain⟨hI,hr0⟩:=YU (cx:=cx) (blk:=0) (body:=Qz Try.f47 0) (List.range K.toNat) (λk (s:Int×Int×Breaker)=>⟨E [(0,.p ⟨false,0,[],0⟩),(1,.p ⟨false,1,[],0⟩),(4,.p ⟨false,4,[],0⟩),(6,.p ⟨false,6,[],0⟩),(7,.i .i64 s.2.1),(8,.i .i64 (K-k))],B [(0,[.sl .ro 1 (code.map XP),.i .i64 s.1]),(1,[.i .i64 y2,.i .i64 y3,.i .i64 y4,.i .i64 rCool,.i .i64 y5]),(4,[.i .i64 0,.i .i64 0,.i .i64 0,.sl .mut 2 []]),(6,[.i .i64 s.2.2.State,.i .i64 s.2.2.Since,.i .i64 s.2.2.Out,.sl .app 2 (s.2.2.Marks.map (Xb .ro))])]⟩) (λs=>⟨E [(0,.p ⟨false,0,[],0⟩),(1,.p ⟨false,1,[],0⟩),(4,.p ⟨false,4,[],0⟩),(6,.p ⟨false,6,[],0⟩),(7,.i .i64 s.2.1)],B [(0,[.sl .ro 1 (code.map XP),.i .i64 s.1]),(1,[.i .i64 y2,.i .i64 y3,.i .i64 y4,.i .i64 rCool,.i .i64 y5]),(4,[.i .i64 0,.i .i64 0,.i .i64 0,.sl .mut 2 []]),(6,[.i .i64 s.2.2.State,.i .i64 s.2.2.Since,.i .i64 s.2.2.Out,.sl .app 2 (s.2.2.Marks.map (Xb .ro))])]⟩) (λx s=>Xao code (Xf.mk y2 y3 y4 rCool y5) s) (λk s=>BdI a k s)
   (λs hI G=>by simp only[go_sem,reduceIte,↓reduceIte,reduceCtorEq,nA,nS,nM,nB,nE,nL,nT,nN,iL,iT,iE,iA,iM,iS,iG,iB,iN,iZ,h,Int.lt_irrefl,hb0,List.length_range,show ¬(0<K-(K.toNat:Int)) from by omega]) (λk hk s hI=>by
    have h1:((k:Int)<((List.range K.toNat).length:Int)):=Int.ofNat_lt.2 hk
    simp only[List.length_range] at hk h1
    rcases s with⟨i,now,⟨bS,bSi,bO,bM⟩⟩
    have hJ:=bdI code (Xf.mk y2 y3 y4 rCool y5) hg ha k _ hI (by omega)
    obtain⟨q1,q2,q3,q4,q5⟩:=hI
    simp only at q1 q2 q3 q4 q5
    have t1:0<K-(k:Int):=by omega
    have t2:(IntKind.i64).wrap (K-(k:Int)-1)=K-((k+1:Nat):Int):=by rw[Xv (by omega) (by omega)]; omega
    have p0:aOk i=true:=by simp only[aOk,decide_eq_true_eq]; omega
    have p1:aOk (i+1)=true:=by simp only[aOk,decide_eq_true_eq]; omega
    have p2:aOk (i+1+1)=true:=by simp only[aOk,decide_eq_true_eq]; omega
    have hp:=Xfl code p0
    have w1:(IntKind.i64).wrap (now+X5 code i [0,10,100,600,2500])=now+X5 code i [0,10,100,600,2500]:=Xv (by omega) (by omega)
    have v1:Xd ⟨bS,bSi,bO,bM⟩=0:=q5.1
    have v3:XF (now+X5 code i [0,10,100,600,2500])=true:=Y4.2 (by omega)
    cases c0:YL code (i+1) 3==0
    all_goals exact⟨hJ,_,λG=>by simp only[go_sem,reduceIte,↓reduceIte,reduceCtorEq,nA,nS,nM,nB,nE,nL,nT,nN,iL,iT,iE,iA,iM,iS,iG,iB,iN,iZ,h,t1,t2,p0,p1,p2,w1,v1,hg,v3,c0,h1,Yg _ _ hk,XJ (show k<9223372036854775807 by omega),hb0]<;>with_reducible rfl,by simp only[go_sem,reduceIte,↓reduceIte,reduceCtorEq,nA,nS,nM,nB,nE,nL,nT,nN,iL,iT,iE,iA,iM,iS,iG,iB,iN,iZ,h,Xao,c0]⟩) (a+1,0,⟨0,0,0,[]⟩) (bd0 a) 200 (by simp; omega)
 rw[hb0] at hr0
 have hrun:(List.range K.toNat).foldl (λs _=>Xao code (Xf.mk y2 y3 y4 rCool y5) s) (a+1,0,⟨0,0,0,[]⟩)=Xc8 code (Xf.mk y2 y3 y4 rCool y5) a:=by unfold Xc8; rw[hK]
 rw[hrun,show K-((0:Nat):Int)=K from by simp] at hr0
 obtain⟨m,hm,hJ⟩:=Xfm code (Xf.mk y2 y3 y4 rCool y5) hg ha
 have hD:(Ud code (Xf.mk y2 y3 y4 rCool y5) a)=Xen code (Xc8 code (Xf.mk y2 y3 y4 rCool y5) a):=rfl
 obtain⟨S,hS⟩:∃S,Xc8 code (Xf.mk y2 y3 y4 rCool y5) a=S:=⟨_,rfl⟩
 rw[hS] at hr0 hJ hD
 rcases S with⟨i,now,⟨bS,bSi,bO,bM⟩⟩
 obtain⟨q1,q2,q3,q4,q5⟩:=hJ
 simp only at q1 q2 q3 q4 q5
 have hB:=Xn q5.1
 simp only at hB
 have p0:aOk i=true:=by simp only[aOk,decide_eq_true_eq]; omega
 have p1:aOk (i+1)=true:=by simp only[aOk,decide_eq_true_eq]; omega
 have z0:bM.map (Xb .ro)=(bM++List.replicate 0 (XQ.mk now true)).map (Xb .ro):=by simp
 cases c1:YL code i 25==0
 ·simp only[go_sem,reduceIte,↓reduceIte,reduceCtorEq,nA,nS,nM,nB,nE,nL,nT,nN,iL,iT,iE,iA,iM,iS,iG,iB,iN,iZ,h,pa,hKe,hr0,p0,p1,c1,hD,Xen]
 by_cases c2:bS=0
 ·subst c2
  have m1:=Zl code [59,60] p1 (by simp)
  simp only[List.mem_cons,List.not_mem_nil,or_false] at m1
  obtain⟨N,hN⟩:∃N,X5 code (i+1) [59,60]=N:=⟨_,rfl⟩
  rw[hN] at m1
  obtain⟨M,hM⟩:∃M,M=N.toNat-bM.length:=⟨_,rfl⟩
  have hend2:List.take (bM++List.replicate M (XQ.mk now true)).length ((bM++List.replicate M (XQ.mk now true)).map (Xb .ro))=(bM++List.replicate M (XQ.mk now true)).map (Xb .ro):=List.take_of_length_le (by simp)
  have hend1:¬(((bM++List.replicate M (XQ.mk now true)).length:Int)<N):=by simp; omega
  have hb1:=Yk Try.f47 1 _ _ rfl rfl
  obtain⟨hI,hr1⟩:=YU (cx:=cx) (blk:=2) (body:=Qz Try.f47 1) (List.range M) (λk (s:Unit)=>⟨E [(0,.p ⟨false,0,[],0⟩),(1,.p ⟨false,1,[],0⟩),(4,.p ⟨false,4,[],0⟩),(6,.p ⟨false,6,[],0⟩),(7,.i .i64 now),(9,.i .i64 N)],B [(0,[.sl .ro 1 (code.map XP),.i .i64 (i+1+1)]),(1,[.i .i64 y2,.i .i64 y3,.i .i64 y4,.i .i64 rCool,.i .i64 y5]),(4,[.i .i64 0,.i .i64 0,.i .i64 0,.sl .mut 2 []]),(6,[.i .i64 0,.i .i64 bSi,.i .i64 bO,.sl .app 2 ((bM++List.replicate k (XQ.mk now true)).map (Xb .ro))])]⟩) (λs=>⟨E [(0,.p ⟨false,0,[],0⟩),(1,.p ⟨false,1,[],0⟩),(4,.p ⟨false,4,[],0⟩),(6,.p ⟨false,6,[],0⟩),(7,.i .i64 now)],B [(0,[.sl .ro 1 (code.map XP),.i .i64 (i+1+1)]),(1,[.i .i64 y2,.i .i64 y3,.i .i64 y4,.i .i64 rCool,.i .i64 y5]),(4,[.i .i64 0,.i .i64 0,.i .i64 0,.sl .mut 2 []]),(6,[.i .i64 0,.i .i64 bSi,.i .i64 bO,.sl .app 2 ((bM++List.replicate ((List.range M).length) (XQ.mk now true)).map (Xb .ro))])]⟩) (λx s=>s) (λk s=>True)
    (λs hI G=>by simp only[go_sem,reduceIte,↓reduceIte,reduceCtorEq,nA,nS,nM,nB,nE,nL,nT,nN,iL,iT,iE,iA,iM,iS,iG,iB,iN,iZ,h,Int.lt_irrefl,hb1,List.length_range,List.length_map,hend1,hend2]) (λk hk s hI=>by
     have h1:((k:Int)<((List.range M).length:Int)):=Int.ofNat_lt.2 hk
     simp only[List.length_range] at hk h1
     have t0:((bM.length+k:Nat):Int)<N:=by omega
     have t3:(bM.length+k+1)*16<=140737488355328:=by omega
     have t4:(bM++List.replicate k (XQ.mk now true)).map (Xb .ro)++[[.i .i64 now,.b true]]=(bM++List.replicate (k+1) (XQ.mk now true)).map (Xb .ro):=by rw[List.replicate_succ']; simp[Xb]
     have t5:((bM++List.replicate k (XQ.mk now true)).length:Int)=(bM.length:Int)+(k:Int):=by simp
     have t6:(bM++List.replicate k (XQ.mk now true)).length=bM.length+k:=by simp
     have t7:List.take (bM.length+k) ((bM++List.replicate k (XQ.mk now true)).map (Xb .ro))=(bM++List.replicate k (XQ.mk now true)).map (Xb .ro):=List.take_of_length_le (by simp)
     exact⟨trivial,_,λG=>by simp only[go_sem,reduceIte,↓reduceIte,reduceCtorEq,nA,nS,nM,nB,nE,nL,nT,nN,iL,iT,iE,iA,iM,iS,iG,iB,iN,iZ,h,t0,t3,t4,t5,t6,t7,List.length_map,h1,Yg _ _ hk,XJ (show k<9223372036854775807 by omega),hb1]<;>with_reducible rfl,by simp only[go_sem,reduceIte,↓reduceIte,reduceCtorEq,nA,nS,nM,nB,nE,nL,nT,nN,iL,iT,iE,iA,iM,iS,iG,iB,iN,iZ,h]⟩) () trivial 200 (by simp; omega)
  rw[hb1] at hr1
  simp only[List.replicate_zero,List.append_nil,List.length_range] at hr1
  simp only[go_sem,reduceIte,↓reduceIte,reduceCtorEq,nA,nS,nM,nB,nE,nL,nT,nN,iL,iT,iE,iA,iM,iS,iG,iB,iN,iZ,h,pa,hKe,hr0,hr1,p0,p1,c1,hD,Xen,hN,Xmg,hM.symm]
 ·have c2':(bS==0)=false:=by simpa using c2
  simp only[go_sem,reduceIte,↓reduceIte,reduceCtorEq,nA,nS,nM,nB,nE,nL,nT,nN,iL,iT,iE,iA,iM,iS,iG,iB,iN,iZ,h,pa,hKe,hr0,p0,p1,c1,c2,c2',hD,Xen]) (rfl)
end
end Go.Vm.A
