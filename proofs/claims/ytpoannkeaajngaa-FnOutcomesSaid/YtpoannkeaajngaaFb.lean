/- Functions of the program, walked by the evaluator. -/
import Derived.Test.YtpoannkeaajngaaWb
import Derived.Test.YtpoannkeaajngaaWa
import Derived.Test.YtpoannkeaajngaaFa
set_option linter.unusedVariables false
set_option linter.unusedSimpArgs false
set_option autoImplicit false
set_option maxRecDepth 100000
set_option maxHeartbeats 4000000
set_option linter.defProp false
namespace Go.Vm.A
open Go.Proofs
open Nat renaming reduceAdd -> nA, reduceSub -> nS, reduceMul -> nM, reduceBEq -> nB, reduceEqDiff -> nE, reduceLeDiff -> nL, reduceLT -> nT, reduceBneDiff -> nN
open Int renaming reduceLE -> iL, reduceLT -> iT, reduceEq -> iE, reduceAdd -> iA, reduceMul -> iM, reduceSub -> iS, reduceNeg -> iG, reduceBEq -> iB, reduceBNe -> iN, reduceToNat -> iZ
noncomputable section
def Ue(b:Breaker)(r:Xf)(now:Int):List XQ:=b.Marks.filter λx=>!decide (Z2 x.At r.Window<=now)
def Yf(b:Breaker)(r:Xf)(now:Int)(good:Bool):List XQ :=
 if 60<(((Ue b r now++[XQ.mk now good]).length:Nat):Int) then(Ue b r now++[XQ.mk now good]).drop 1 else Ue b r now++[XQ.mk now good]
def X6(b:Breaker)(r:Xf)(now:Int)(good:Bool):Breaker :=
 if b.State=1 then b
 else if b.State=2 then(if good=true then⟨0,b.Since,0,[]⟩ else⟨1,now,0,[]⟩)
 else if r.Min<=((Yf b r now good).length:Int)/\r.Ratio*((Yf b r now good).length:Int)<=1000*QI (Yf b r now good) then⟨1,now,0,[]⟩ else⟨0,b.Since,b.Out,Yf b r now good⟩
def Qf(b:Breaker)(r:Xf)(now:Int):(Ue b r now).length<=b.Marks.length:=List.length_filter_le _ _
def ZN{α:Type}(p:α->Bool):∀(xs acc:List α),xs.foldl (λs x=>if p x=true then s else s++[x]) acc=acc++xs.filter λx=>!p x
 | [],acc=>by simp
 | x :: xs,acc=>by
  rw[List.foldl_cons,ZN p xs,List.filter_cons]
  cases p x<;>simp
def Z3(b:Breaker)(r:Xf)(now:Int)(good:Bool)(h:b.Marks.length<=60):(Yf b r now good).length<=61:=by
 have h1:=Qf b r now
 unfold Yf
 split<;>simp<;>omega
def Q2{a n:Int}(h1:0<=a)(h2:a<=1000)(h3:0<=n)(h4:n<=1000):(IntKind.i64).wrap (a*n)=a*n:=by
 have h5:=Int.mul_nonneg h1 h3
 have h6:=Int.mul_le_mul h2 h4 h3 (by omega)
 exact Xv (by omega) (by omega)
def s20:SP Try.prog:=mkS tyA 20 Try.f20 [s23,s42] {md:=[.rw 4,.ro 1,.ro 1,.ro 1],wk:=true,rg:=[(0,[0,1,2,3,8,14],[0]),(1,[0,1,2,3,8,14,15],[0]),(2,[0,1,2,3,8,17],[0]),(3,[0,2,3,8],[0]),(4,[0,2,8,23],[0]),(5,[0,2,8],[0]),(6,[0,8],[0]),(7,[0,8],[0]),(8,[0,1,2,3,8],[0]),(9,[0,1,2,3,8,9],[0]),(10,[0,1,2,3,8,9,41],[0]),(11,[0,1,2,3,8,9],[0]),(12,[0,1,2,3,8,9,58],[0]),(13,[0,1,2,3,8,9],[0]),(14,[0,1,2,8],[0]),(15,[0,1,2,8,77],[0]),(16,[0,1,2,8],[0]),(17,[0,1,2,8],[0]),(18,[0,1,2,8,10],[0]),(19,[0,2,8,103],[0]),(20,[0,2,8],[0]),(21,[0,8],[0]),(22,[0,8],[0])],lv:=[(1,[0,1,2,3,8,9],[0])],out:=[(1,[0,1,2,3,8],[0])],rets:=some ([0,8],[0]),plan:=[(12,(.take 0 (.take 1 (.take 2 (.take 3 (.take 4 (.take 5 (.take 6 (.take 7 (.take 8 (.take 9 (.take 10 (.take 11 (.take 13 (.one 12 (.take 14 .done)))))))))))))))),(19,(.take 0 (.take 1 (.take 2 (.take 3 (.take 4 (.take 5 (.take 6 (.take 7 (.take 10 (.take 11 (.take 12 (.take 13 (.take 14 (.take 15 (.one 8 (.take 9 (.take 16 (.take 17 .done)))))))))))))))))))],ws:=[(0,[(false,0,3)]),(8,[(true,8,0)]),(22,[(false,0,3)])]} Try.func20 (by kernel_rfl)
@[go_sem] def d20:s20.g=20/\s20.fs=⟨[.rw 4,.ro 1,.ro 1,.ro 1],s20.F,true⟩:=⟨nr rfl,nr rfl⟩
@[go_sem] def e20(q0 q1 q2:Int)(bMarks:List XQ)(q3 q4 q5 q6 q7 now:Int)(good:Bool)(hf:Xd (Breaker.mk q0 q1 q2 bMarks)=0)(hg:Xr (Xf.mk q3 q4 q5 q6 q7)=0):s20.F [.agg [.i .i64 q0,.i .i64 q1,.i .i64 q2,.sl .mut 2 (bMarks.map (Xb .mut))],.pr [.i .i64 q3,.i .i64 q4,.i .i64 q5,.i .i64 q6,.i .i64 q7],.i .i64 now,.b good]=some (.tup [],[.agg [.i .i64 (X6 (Breaker.mk q0 q1 q2 bMarks) (Xf.mk q3 q4 q5 q6 q7) now good).State,.i .i64 (X6 (Breaker.mk q0 q1 q2 bMarks) (Xf.mk q3 q4 q5 q6 q7) now good).Since,.i .i64 (X6 (Breaker.mk q0 q1 q2 bMarks) (Xf.mk q3 q4 q5 q6 q7) now good).Out,.sl .app 2 ((X6 (Breaker.mk q0 q1 q2 bMarks) (Xf.mk q3 q4 q5 q6 q7) now good).Marks.map (Xb .ro))],.u,.u,.u]):=Xy (bMarks.length+1) rfl rfl (λcx h=>by
 have hB:=Xn hf
 have hR:=X3 hg
 simp only at hB hR
 have hk1:=Qf (Breaker.mk q0 q1 q2 bMarks) (Xf.mk q3 q4 q5 q6 q7) now
 simp only at hk1
 obtain⟨K,hK⟩:∃K,Ue (Breaker.mk q0 q1 q2 bMarks) (Xf.mk q3 q4 q5 q6 q7) now++[XQ.mk now good]=K:=⟨_,rfl⟩
 have hKl:K.length=(Ue (Breaker.mk q0 q1 q2 bMarks) (Xf.mk q3 q4 q5 q6 q7) now).length+1:=by rw[<-hK]; simp
 have hA:(Ue (Breaker.mk q0 q1 q2 bMarks) (Xf.mk q3 q4 q5 q6 q7) now).map (Xb .ro)++[[.i .i64 now,.b good]]=K.map (Xb .ro):=by rw[<-hK]; simp[Xb]
 have hs:List.take (K.length-1) (List.drop 1 (K.map (Xb .ro)))=(K.drop 1).map (Xb .ro):=by rw[List.take_of_length_le (by simp),List.map_drop]
 have hP:((Ue (Breaker.mk q0 q1 q2 bMarks) (Xf.mk q3 q4 q5 q6 q7) now).length+1)*16<=140737488355328:=by omega
 obtain⟨M,hM⟩:∃M,Yf (Breaker.mk q0 q1 q2 bMarks) (Xf.mk q3 q4 q5 q6 q7) now good=M:=⟨_,rfl⟩
 have hM2:M=if 60<(K.length:Int) then K.drop 1 else K:=by rw[<-hM]; unfold Yf; rw[hK]
 have hMl:M.length<=61:=by rw[<-hM]; exact Z3 _ _ _ _ hB.2.2.2.1
 have hb1:=UL M
 have w2:(IntKind.i64).wrap (1000*QI M)=1000*QI M:=Xv (by omega) (by omega)
 have w3:(IntKind.i64).wrap (q5*(M.length:Int))=q5*(M.length:Int):=Q2 (by omega) (by omega) (by omega) (by omega)
 have hq1:K.length<=1000:=by omega
 have hq2:(K.drop 1).length<=1000:=by simp; omega
 have hq3:(1:Int)<=(K.length:Int):=by omega
 have hq4:1+(K.length-1)<=K.length:=by omega
 have hq5:1+(K.length-1)=K.length:=by omega
 by_cases s1:q0=1
 ·subst s1
  simp only[go_sem,reduceIte,↓reduceIte,reduceCtorEq,nA,nS,nM,nB,nE,nL,nT,nN,iL,iT,iE,iA,iM,iS,iG,iB,iN,iZ,h,X6]
 by_cases s2:q0=2
 ·subst s2
  have hm:bMarks=[]:=hB.2.2.2.2.2.2.1 (by decide)
  cases good
  ·simp only[go_sem,reduceIte,↓reduceIte,reduceCtorEq,nA,nS,nM,nB,nE,nL,nT,nN,iL,iT,iE,iA,iM,iS,iG,iB,iN,iZ,h,X6]
   simp[hm]
  ·simp only[go_sem,reduceIte,↓reduceIte,reduceCtorEq,nA,nS,nM,nB,nE,nL,nT,nN,iL,iT,iE,iA,iM,iS,iG,iB,iN,iZ,h,X6]
   simp[hm]
 have s0:q0=0:=by omega
 subst s0
 have ho:q2=0:=hB.2.2.2.2.2.2.2 (by decide)
 have hb0:=Yk Try.f20 0 _ _ rfl rfl
 obtain⟨hI,hr⟩:=YU (cx:=cx) (blk:=1) (body:=Qz Try.f20 0) bMarks (λk (s:List XQ)=>⟨E [(0,.p ⟨false,0,[],0⟩),(1,.pr [.i .i64 q3,.i .i64 q4,.i .i64 q5,.i .i64 q6,.i .i64 q7]),(2,.i .i64 now),(3,.b good),(8,.sl .app 2 (s.map (Xb .ro))),(9,.i .i64 k)],B [(0,[.i .i64 0,.i .i64 q1,.i .i64 q2,.sl .app 2 (bMarks.map (Xb .ro))])]⟩) (λs=>⟨E [(0,.p ⟨false,0,[],0⟩),(1,.pr [.i .i64 q3,.i .i64 q4,.i .i64 q5,.i .i64 q6,.i .i64 q7]),(2,.i .i64 now),(3,.b good),(8,.sl .app 2 (s.map (Xb .ro)))],B [(0,[.i .i64 0,.i .i64 q1,.i .i64 q2,.sl .app 2 (bMarks.map (Xb .ro))])]⟩) (λx s=>(if decide (Z2 x.At q3<=now)=true then s else s++[x])) (λk s=>s.length<=k)
   (λs hI G=>by simp only[go_sem,reduceIte,↓reduceIte,reduceCtorEq,nA,nS,nM,nB,nE,nL,nT,nN,iL,iT,iE,iA,iM,iS,iG,iB,iN,iZ,h,Int.lt_irrefl,hb0,show List.take bMarks.length (List.map (Xb .ro) bMarks)=List.map (Xb .ro) bMarks from List.take_of_length_le (by simp)]) (λk hk s hI=>by
    have h1:((k:Int)<(bMarks.length:Int)):=Int.ofNat_lt.2 hk
    have t1:=ZW hB.2.2.2.2.1 (List.getElem_mem hk)
    have t2:XF bMarks[k].At=true/\0<=q3/\q3<=1000000000000000:=⟨t1,by omega,by omega⟩
    have t3:(s.length+1)*16<=140737488355328:=by omega
    have t4:s.map (Xb .ro)++[[.i .i64 bMarks[k].At,.b bMarks[k].Good]]=(s++[bMarks[k]]).map (Xb .ro):=by simp[Xb]
    have t5:List.take bMarks.length (List.map (Xb .ro) bMarks)=List.map (Xb .ro) bMarks:=List.take_of_length_le (by simp)
    by_cases hd:Z2 bMarks[k].At q3<=now
    all_goals have hd2:(now<Z2 bMarks[k].At q3)=¬(Z2 bMarks[k].At q3<=now):=by simp
    all_goals exact⟨by split<;>(try simp only[List.length_append,List.length_cons,List.length_nil])<;>omega,_,λG=>by simp only[go_sem,reduceIte,↓reduceIte,reduceCtorEq,nA,nS,nM,nB,nE,nL,nT,nN,iL,iT,iE,iA,iM,iS,iG,iB,iN,iZ,h,t2,t3,t4,t5,YN (Xb .ro) bMarks k hk,XbG (Xb .ro) bMarks k hk,hd,hd2,h1,Yg _ _ hk,XJ (show k<9223372036854775807 by omega),hb0]<;>with_reducible rfl,by simp only[go_sem,reduceIte,↓reduceIte,reduceCtorEq,nA,nS,nM,nB,nE,nL,nT,nN,iL,iT,iE,iA,iM,iS,iG,iB,iN,iZ,h,hd]⟩) [] (by simp) (bMarks.length+1) (Nat.le_refl _)
 rw[hb0] at hr
 have hfold:=ZN (λ(x:XQ)=>decide (Z2 x.At q3<=now)) bMarks []
 simp only[List.nil_append] at hfold
 rw[hfold] at hr
 have hkd:(bMarks.filter λx=>!decide (Z2 x.At q3<=now))=Ue (Breaker.mk 0 q1 q2 bMarks) (Xf.mk q3 q4 q5 q6 q7) now:=rfl
 rw[hkd] at hr
 by_cases c:60<(K.length:Int)
 ·rw[if_pos c] at hM2
  by_cases d1:q4<=(M.length:Int)<;>by_cases d2:q5*(M.length:Int)<=1000*QI M
  all_goals have hz1:=d1
  all_goals have hz2:=d2
  all_goals rw[hM2] at d1 d2 w2 w3
  all_goals simp only[go_sem,reduceIte,↓reduceIte,reduceCtorEq,nA,nS,nM,nB,nE,nL,nT,nN,iL,iT,iE,iA,iM,iS,iG,iB,iN,iZ,h,X6,hr,hA,hP,c,hs,hM,hz1,hz2,d1,d2,w2,w3,hq1,hq2,hq3,hq4,hq5,hM2,s1,s2]<;>simp only[ho]
 ·rw[if_neg c] at hM2
  by_cases d1:q4<=(M.length:Int)<;>by_cases d2:q5*(M.length:Int)<=1000*QI M
  all_goals have hz1:=d1
  all_goals have hz2:=d2
  all_goals rw[hM2] at d1 d2 w2 w3
  all_goals simp only[go_sem,reduceIte,↓reduceIte,reduceCtorEq,nA,nS,nM,nB,nE,nL,nT,nN,iL,iT,iE,iA,iM,iS,iG,iB,iN,iZ,h,X6,hr,hA,hP,c,hs,hM,hz1,hz2,d1,d2,w2,w3,hq1,hq2,hq3,hq4,hq5,hM2,s1,s2]<;>simp only[ho]) (rfl)
@[go_sem] def XAd(q0 q1 q2:Int)(bMarks:List XQ)(q3 q4 q5 q6 q7 now:Int)(good:Bool)(hf:Xd (Breaker.mk q0 q1 q2 bMarks)=0)(hg:Xr (Xf.mk q3 q4 q5 q6 q7)=0):s20.F [.agg [.i .i64 q0,.i .i64 q1,.i .i64 q2,.sl .app 2 (bMarks.map (Xb .ro))],.pr [.i .i64 q3,.i .i64 q4,.i .i64 q5,.i .i64 q6,.i .i64 q7],.i .i64 now,.b good]=some (.tup [],[.agg [.i .i64 (X6 (Breaker.mk q0 q1 q2 bMarks) (Xf.mk q3 q4 q5 q6 q7) now good).State,.i .i64 (X6 (Breaker.mk q0 q1 q2 bMarks) (Xf.mk q3 q4 q5 q6 q7) now good).Since,.i .i64 (X6 (Breaker.mk q0 q1 q2 bMarks) (Xf.mk q3 q4 q5 q6 q7) now good).Out,.sl .app 2 ((X6 (Breaker.mk q0 q1 q2 bMarks) (Xf.mk q3 q4 q5 q6 q7) now good).Marks.map (Xb .ro))],.u,.u,.u]):=Xy (bMarks.length+1) rfl rfl (λcx h=>by
 have hB:=Xn hf
 have hR:=X3 hg
 simp only at hB hR
 have hk1:=Qf (Breaker.mk q0 q1 q2 bMarks) (Xf.mk q3 q4 q5 q6 q7) now
 simp only at hk1
 obtain⟨K,hK⟩:∃K,Ue (Breaker.mk q0 q1 q2 bMarks) (Xf.mk q3 q4 q5 q6 q7) now++[XQ.mk now good]=K:=⟨_,rfl⟩
 have hKl:K.length=(Ue (Breaker.mk q0 q1 q2 bMarks) (Xf.mk q3 q4 q5 q6 q7) now).length+1:=by rw[<-hK]; simp
 have hA:(Ue (Breaker.mk q0 q1 q2 bMarks) (Xf.mk q3 q4 q5 q6 q7) now).map (Xb .ro)++[[.i .i64 now,.b good]]=K.map (Xb .ro):=by rw[<-hK]; simp[Xb]
 have hs:List.take (K.length-1) (List.drop 1 (K.map (Xb .ro)))=(K.drop 1).map (Xb .ro):=by rw[List.take_of_length_le (by simp),List.map_drop]
 have hP:((Ue (Breaker.mk q0 q1 q2 bMarks) (Xf.mk q3 q4 q5 q6 q7) now).length+1)*16<=140737488355328:=by omega
 obtain⟨M,hM⟩:∃M,Yf (Breaker.mk q0 q1 q2 bMarks) (Xf.mk q3 q4 q5 q6 q7) now good=M:=⟨_,rfl⟩
 have hM2:M=if 60<(K.length:Int) then K.drop 1 else K:=by rw[<-hM]; unfold Yf; rw[hK]
 have hMl:M.length<=61:=by rw[<-hM]; exact Z3 _ _ _ _ hB.2.2.2.1
 have hb1:=UL M
 have w2:(IntKind.i64).wrap (1000*QI M)=1000*QI M:=Xv (by omega) (by omega)
 have w3:(IntKind.i64).wrap (q5*(M.length:Int))=q5*(M.length:Int):=Q2 (by omega) (by omega) (by omega) (by omega)
 have hq1:K.length<=1000:=by omega
 have hq2:(K.drop 1).length<=1000:=by simp; omega
 have hq3:(1:Int)<=(K.length:Int):=by omega
 have hq4:1+(K.length-1)<=K.length:=by omega
 have hq5:1+(K.length-1)=K.length:=by omega
 by_cases s1:q0=1
 ·subst s1
  simp only[go_sem,reduceIte,↓reduceIte,reduceCtorEq,nA,nS,nM,nB,nE,nL,nT,nN,iL,iT,iE,iA,iM,iS,iG,iB,iN,iZ,h,X6]
 by_cases s2:q0=2
 ·subst s2
  have hm:bMarks=[]:=hB.2.2.2.2.2.2.1 (by decide)
  cases good
  ·simp only[go_sem,reduceIte,↓reduceIte,reduceCtorEq,nA,nS,nM,nB,nE,nL,nT,nN,iL,iT,iE,iA,iM,iS,iG,iB,iN,iZ,h,X6]
   simp[hm]
  ·simp only[go_sem,reduceIte,↓reduceIte,reduceCtorEq,nA,nS,nM,nB,nE,nL,nT,nN,iL,iT,iE,iA,iM,iS,iG,iB,iN,iZ,h,X6]
   simp[hm]
 have s0:q0=0:=by omega
 subst s0
 have ho:q2=0:=hB.2.2.2.2.2.2.2 (by decide)
 have hb0:=Yk Try.f20 0 _ _ rfl rfl
 obtain⟨hI,hr⟩:=YU (cx:=cx) (blk:=1) (body:=Qz Try.f20 0) bMarks (λk (s:List XQ)=>⟨E [(0,.p ⟨false,0,[],0⟩),(1,.pr [.i .i64 q3,.i .i64 q4,.i .i64 q5,.i .i64 q6,.i .i64 q7]),(2,.i .i64 now),(3,.b good),(8,.sl .app 2 (s.map (Xb .ro))),(9,.i .i64 k)],B [(0,[.i .i64 0,.i .i64 q1,.i .i64 q2,.sl .app 2 (bMarks.map (Xb .ro))])]⟩) (λs=>⟨E [(0,.p ⟨false,0,[],0⟩),(1,.pr [.i .i64 q3,.i .i64 q4,.i .i64 q5,.i .i64 q6,.i .i64 q7]),(2,.i .i64 now),(3,.b good),(8,.sl .app 2 (s.map (Xb .ro)))],B [(0,[.i .i64 0,.i .i64 q1,.i .i64 q2,.sl .app 2 (bMarks.map (Xb .ro))])]⟩) (λx s=>(if decide (Z2 x.At q3<=now)=true then s else s++[x])) (λk s=>s.length<=k)
   (λs hI G=>by simp only[go_sem,reduceIte,↓reduceIte,reduceCtorEq,nA,nS,nM,nB,nE,nL,nT,nN,iL,iT,iE,iA,iM,iS,iG,iB,iN,iZ,h,Int.lt_irrefl,hb0,show List.take bMarks.length (List.map (Xb .ro) bMarks)=List.map (Xb .ro) bMarks from List.take_of_length_le (by simp)]) (λk hk s hI=>by
    have h1:((k:Int)<(bMarks.length:Int)):=Int.ofNat_lt.2 hk
    have t1:=ZW hB.2.2.2.2.1 (List.getElem_mem hk)
    have t2:XF bMarks[k].At=true/\0<=q3/\q3<=1000000000000000:=⟨t1,by omega,by omega⟩
    have t3:(s.length+1)*16<=140737488355328:=by omega
    have t4:s.map (Xb .ro)++[[.i .i64 bMarks[k].At,.b bMarks[k].Good]]=(s++[bMarks[k]]).map (Xb .ro):=by simp[Xb]
    have t5:List.take bMarks.length (List.map (Xb .ro) bMarks)=List.map (Xb .ro) bMarks:=List.take_of_length_le (by simp)
    by_cases hd:Z2 bMarks[k].At q3<=now
    all_goals have hd2:(now<Z2 bMarks[k].At q3)=¬(Z2 bMarks[k].At q3<=now):=by simp
    all_goals exact⟨by split<;>(try simp only[List.length_append,List.length_cons,List.length_nil])<;>omega,_,λG=>by simp only[go_sem,reduceIte,↓reduceIte,reduceCtorEq,nA,nS,nM,nB,nE,nL,nT,nN,iL,iT,iE,iA,iM,iS,iG,iB,iN,iZ,h,t2,t3,t4,t5,YN (Xb .ro) bMarks k hk,XbG (Xb .ro) bMarks k hk,hd,hd2,h1,Yg _ _ hk,XJ (show k<9223372036854775807 by omega),hb0]<;>with_reducible rfl,by simp only[go_sem,reduceIte,↓reduceIte,reduceCtorEq,nA,nS,nM,nB,nE,nL,nT,nN,iL,iT,iE,iA,iM,iS,iG,iB,iN,iZ,h,hd]⟩) [] (by simp) (bMarks.length+1) (Nat.le_refl _)
 rw[hb0] at hr
 have hfold:=ZN (λ(x:XQ)=>decide (Z2 x.At q3<=now)) bMarks []
 simp only[List.nil_append] at hfold
 rw[hfold] at hr
 have hkd:(bMarks.filter λx=>!decide (Z2 x.At q3<=now))=Ue (Breaker.mk 0 q1 q2 bMarks) (Xf.mk q3 q4 q5 q6 q7) now:=rfl
 rw[hkd] at hr
 by_cases c:60<(K.length:Int)
 ·rw[if_pos c] at hM2
  by_cases d1:q4<=(M.length:Int)<;>by_cases d2:q5*(M.length:Int)<=1000*QI M
  all_goals have hz1:=d1
  all_goals have hz2:=d2
  all_goals rw[hM2] at d1 d2 w2 w3
  all_goals simp only[go_sem,reduceIte,↓reduceIte,reduceCtorEq,nA,nS,nM,nB,nE,nL,nT,nN,iL,iT,iE,iA,iM,iS,iG,iB,iN,iZ,h,X6,hr,hA,hP,c,hs,hM,hz1,hz2,d1,d2,w2,w3,hq1,hq2,hq3,hq4,hq5,hM2,s1,s2]<;>simp only[ho]
 ·rw[if_neg c] at hM2
  by_cases d1:q4<=(M.length:Int)<;>by_cases d2:q5*(M.length:Int)<=1000*QI M
  all_goals have hz1:=d1
  all_goals have hz2:=d2
  all_goals rw[hM2] at d1 d2 w2 w3
  all_goals simp only[go_sem,reduceIte,↓reduceIte,reduceCtorEq,nA,nS,nM,nB,nE,nL,nT,nN,iL,iT,iE,iA,iM,iS,iG,iB,iN,iZ,h,X6,hr,hA,hP,c,hs,hM,hz1,hz2,d1,d2,w2,w3,hq1,hq2,hq3,hq4,hq5,hM2,s1,s2]<;>simp only[ho]) (rfl)
def Xem:SP Try.prog:=mkS tyA 20 Try.f20 [s23,s42] {md:=[.rw 4,.rw 5,.ro 1,.ro 1],wk:=true,rg:=[(0,[0,1,2,3,8,14],[0,1]),(1,[0,1,2,3,8,14,15],[0,1]),(2,[0,1,2,3,8,17],[0,1]),(3,[0,1,2,3,8],[0,1]),(4,[0,1,2,8,23],[0,1]),(5,[0,1,2,8],[0,1]),(6,[0,1,8],[0,1]),(7,[0,1,8],[0,1]),(8,[0,1,2,3,8],[0,1]),(9,[0,1,2,3,8,9],[0,1]),(10,[0,1,2,3,8,9,41],[0,1]),(11,[0,1,2,3,8,9],[0,1]),(12,[0,1,2,3,8,9,58],[0,1]),(13,[0,1,2,3,8,9],[0,1]),(14,[0,1,2,8],[0,1]),(15,[0,1,2,8,77],[0,1]),(16,[0,1,2,8],[0,1]),(17,[0,1,2,8],[0,1]),(18,[0,1,2,8,10],[0,1]),(19,[0,1,2,8,103],[0,1]),(20,[0,1,2,8],[0,1]),(21,[0,1,8],[0,1]),(22,[0,1,8],[0,1])],lv:=[(1,[0,1,2,3,8,9],[0,1])],out:=[(1,[0,1,2,3,8],[0,1])],rets:=some ([0,1,8],[0,1]),plan:=[(12,(.take 0 (.take 1 (.take 2 (.take 3 (.take 4 (.take 5 (.take 6 (.take 7 (.take 8 (.take 9 (.take 10 (.take 11 (.take 13 (.one 12 (.take 14 .done)))))))))))))))),(19,(.take 0 (.take 1 (.take 2 (.take 3 (.take 4 (.take 5 (.take 6 (.take 7 (.take 10 (.take 11 (.take 12 (.take 13 (.take 14 (.take 15 (.one 8 (.take 9 (.take 16 (.take 17 .done)))))))))))))))))))],ws:=[(0,[(false,0,3)]),(8,[(true,8,0)]),(22,[(false,0,3)])]} Try.func20 (by kernel_rfl)
@[go_sem] def XnZ:Xem.g=20/\Xem.fs=⟨[.rw 4,.rw 5,.ro 1,.ro 1],Xem.F,true⟩:=⟨nr rfl,nr rfl⟩
@[go_sem] def Xn0(q0 q1 q2:Int)(bMarks:List XQ)(q3 q4 q5 q6 q7 now:Int)(good:Bool)(hf:Xd (Breaker.mk q0 q1 q2 bMarks)=0)(hg:Xr (Xf.mk q3 q4 q5 q6 q7)=0):Xem.F [.agg [.i .i64 q0,.i .i64 q1,.i .i64 q2,.sl .mut 2 (bMarks.map (Xb .mut))],.agg [.i .i64 q3,.i .i64 q4,.i .i64 q5,.i .i64 q6,.i .i64 q7],.i .i64 now,.b good]=some (.tup [],[.agg [.i .i64 (X6 (Breaker.mk q0 q1 q2 bMarks) (Xf.mk q3 q4 q5 q6 q7) now good).State,.i .i64 (X6 (Breaker.mk q0 q1 q2 bMarks) (Xf.mk q3 q4 q5 q6 q7) now good).Since,.i .i64 (X6 (Breaker.mk q0 q1 q2 bMarks) (Xf.mk q3 q4 q5 q6 q7) now good).Out,.sl .app 2 ((X6 (Breaker.mk q0 q1 q2 bMarks) (Xf.mk q3 q4 q5 q6 q7) now good).Marks.map (Xb .ro))],.agg [.i .i64 q3,.i .i64 q4,.i .i64 q5,.i .i64 q6,.i .i64 q7],.u,.u]):=Xy (bMarks.length+1) rfl rfl (λcx h=>by
 have hB:=Xn hf
 have hR:=X3 hg
 simp only at hB hR
 have hk1:=Qf (Breaker.mk q0 q1 q2 bMarks) (Xf.mk q3 q4 q5 q6 q7) now
 simp only at hk1
 obtain⟨K,hK⟩:∃K,Ue (Breaker.mk q0 q1 q2 bMarks) (Xf.mk q3 q4 q5 q6 q7) now++[XQ.mk now good]=K:=⟨_,rfl⟩
 have hKl:K.length=(Ue (Breaker.mk q0 q1 q2 bMarks) (Xf.mk q3 q4 q5 q6 q7) now).length+1:=by rw[<-hK]; simp
 have hA:(Ue (Breaker.mk q0 q1 q2 bMarks) (Xf.mk q3 q4 q5 q6 q7) now).map (Xb .ro)++[[.i .i64 now,.b good]]=K.map (Xb .ro):=by rw[<-hK]; simp[Xb]
 have hs:List.take (K.length-1) (List.drop 1 (K.map (Xb .ro)))=(K.drop 1).map (Xb .ro):=by rw[List.take_of_length_le (by simp),List.map_drop]
 have hP:((Ue (Breaker.mk q0 q1 q2 bMarks) (Xf.mk q3 q4 q5 q6 q7) now).length+1)*16<=140737488355328:=by omega
 obtain⟨M,hM⟩:∃M,Yf (Breaker.mk q0 q1 q2 bMarks) (Xf.mk q3 q4 q5 q6 q7) now good=M:=⟨_,rfl⟩
 have hM2:M=if 60<(K.length:Int) then K.drop 1 else K:=by rw[<-hM]; unfold Yf; rw[hK]
 have hMl:M.length<=61:=by rw[<-hM]; exact Z3 _ _ _ _ hB.2.2.2.1
 have hb1:=UL M
 have w2:(IntKind.i64).wrap (1000*QI M)=1000*QI M:=Xv (by omega) (by omega)
 have w3:(IntKind.i64).wrap (q5*(M.length:Int))=q5*(M.length:Int):=Q2 (by omega) (by omega) (by omega) (by omega)
 have hq1:K.length<=1000:=by omega
 have hq2:(K.drop 1).length<=1000:=by simp; omega
 have hq3:(1:Int)<=(K.length:Int):=by omega
 have hq4:1+(K.length-1)<=K.length:=by omega
 have hq5:1+(K.length-1)=K.length:=by omega
 by_cases s1:q0=1
 ·subst s1
  simp only[go_sem,reduceIte,↓reduceIte,reduceCtorEq,nA,nS,nM,nB,nE,nL,nT,nN,iL,iT,iE,iA,iM,iS,iG,iB,iN,iZ,h,X6]
 by_cases s2:q0=2
 ·subst s2
  have hm:bMarks=[]:=hB.2.2.2.2.2.2.1 (by decide)
  cases good
  ·simp only[go_sem,reduceIte,↓reduceIte,reduceCtorEq,nA,nS,nM,nB,nE,nL,nT,nN,iL,iT,iE,iA,iM,iS,iG,iB,iN,iZ,h,X6]
   simp[hm]
  ·simp only[go_sem,reduceIte,↓reduceIte,reduceCtorEq,nA,nS,nM,nB,nE,nL,nT,nN,iL,iT,iE,iA,iM,iS,iG,iB,iN,iZ,h,X6]
   simp[hm]
 have s0:q0=0:=by omega
 subst s0
 have ho:q2=0:=hB.2.2.2.2.2.2.2 (by decide)
 have hb0:=Yk Try.f20 0 _ _ rfl rfl
 obtain⟨hI,hr⟩:=YU (cx:=cx) (blk:=1) (body:=Qz Try.f20 0) bMarks (λk (s:List XQ)=>⟨E [(0,.p ⟨false,0,[],0⟩),(1,.p ⟨false,1,[],0⟩),(2,.i .i64 now),(3,.b good),(8,.sl .app 2 (s.map (Xb .ro))),(9,.i .i64 k)],B [(0,[.i .i64 0,.i .i64 q1,.i .i64 q2,.sl .app 2 (bMarks.map (Xb .ro))]),(1,[.i .i64 q3,.i .i64 q4,.i .i64 q5,.i .i64 q6,.i .i64 q7])]⟩) (λs=>⟨E [(0,.p ⟨false,0,[],0⟩),(1,.p ⟨false,1,[],0⟩),(2,.i .i64 now),(3,.b good),(8,.sl .app 2 (s.map (Xb .ro)))],B [(0,[.i .i64 0,.i .i64 q1,.i .i64 q2,.sl .app 2 (bMarks.map (Xb .ro))]),(1,[.i .i64 q3,.i .i64 q4,.i .i64 q5,.i .i64 q6,.i .i64 q7])]⟩) (λx s=>(if decide (Z2 x.At q3<=now)=true then s else s++[x])) (λk s=>s.length<=k)
   (λs hI G=>by simp only[go_sem,reduceIte,↓reduceIte,reduceCtorEq,nA,nS,nM,nB,nE,nL,nT,nN,iL,iT,iE,iA,iM,iS,iG,iB,iN,iZ,h,Int.lt_irrefl,hb0,show List.take bMarks.length (List.map (Xb .ro) bMarks)=List.map (Xb .ro) bMarks from List.take_of_length_le (by simp)]) (λk hk s hI=>by
    have h1:((k:Int)<(bMarks.length:Int)):=Int.ofNat_lt.2 hk
    have t1:=ZW hB.2.2.2.2.1 (List.getElem_mem hk)
    have t2:XF bMarks[k].At=true/\0<=q3/\q3<=1000000000000000:=⟨t1,by omega,by omega⟩
    have t3:(s.length+1)*16<=140737488355328:=by omega
    have t4:s.map (Xb .ro)++[[.i .i64 bMarks[k].At,.b bMarks[k].Good]]=(s++[bMarks[k]]).map (Xb .ro):=by simp[Xb]
    have t5:List.take bMarks.length (List.map (Xb .ro) bMarks)=List.map (Xb .ro) bMarks:=List.take_of_length_le (by simp)
    by_cases hd:Z2 bMarks[k].At q3<=now
    all_goals have hd2:(now<Z2 bMarks[k].At q3)=¬(Z2 bMarks[k].At q3<=now):=by simp
    all_goals exact⟨by split<;>(try simp only[List.length_append,List.length_cons,List.length_nil])<;>omega,_,λG=>by simp only[go_sem,reduceIte,↓reduceIte,reduceCtorEq,nA,nS,nM,nB,nE,nL,nT,nN,iL,iT,iE,iA,iM,iS,iG,iB,iN,iZ,h,t2,t3,t4,t5,YN (Xb .ro) bMarks k hk,XbG (Xb .ro) bMarks k hk,hd,hd2,h1,Yg _ _ hk,XJ (show k<9223372036854775807 by omega),hb0]<;>with_reducible rfl,by simp only[go_sem,reduceIte,↓reduceIte,reduceCtorEq,nA,nS,nM,nB,nE,nL,nT,nN,iL,iT,iE,iA,iM,iS,iG,iB,iN,iZ,h,hd]⟩) [] (by simp) (bMarks.length+1) (Nat.le_refl _)
 rw[hb0] at hr
 have hfold:=ZN (λ(x:XQ)=>decide (Z2 x.At q3<=now)) bMarks []
 simp only[List.nil_append] at hfold
 rw[hfold] at hr
 have hkd:(bMarks.filter λx=>!decide (Z2 x.At q3<=now))=Ue (Breaker.mk 0 q1 q2 bMarks) (Xf.mk q3 q4 q5 q6 q7) now:=rfl
 rw[hkd] at hr
 by_cases c:60<(K.length:Int)
 ·rw[if_pos c] at hM2
  by_cases d1:q4<=(M.length:Int)<;>by_cases d2:q5*(M.length:Int)<=1000*QI M
  all_goals have hz1:=d1
  all_goals have hz2:=d2
  all_goals rw[hM2] at d1 d2 w2 w3
  all_goals simp only[go_sem,reduceIte,↓reduceIte,reduceCtorEq,nA,nS,nM,nB,nE,nL,nT,nN,iL,iT,iE,iA,iM,iS,iG,iB,iN,iZ,h,X6,hr,hA,hP,c,hs,hM,hz1,hz2,d1,d2,w2,w3,hq1,hq2,hq3,hq4,hq5,hM2,s1,s2]<;>simp only[ho]
 ·rw[if_neg c] at hM2
  by_cases d1:q4<=(M.length:Int)<;>by_cases d2:q5*(M.length:Int)<=1000*QI M
  all_goals have hz1:=d1
  all_goals have hz2:=d2
  all_goals rw[hM2] at d1 d2 w2 w3
  all_goals simp only[go_sem,reduceIte,↓reduceIte,reduceCtorEq,nA,nS,nM,nB,nE,nL,nT,nN,iL,iT,iE,iA,iM,iS,iG,iB,iN,iZ,h,X6,hr,hA,hP,c,hs,hM,hz1,hz2,d1,d2,w2,w3,hq1,hq2,hq3,hq4,hq5,hM2,s1,s2]<;>simp only[ho]) (rfl)
@[go_sem] def Xnu(q0 q1 q2:Int)(bMarks:List XQ)(q3 q4 q5 q6 q7 now:Int)(good:Bool)(hf:Xd (Breaker.mk q0 q1 q2 bMarks)=0)(hg:Xr (Xf.mk q3 q4 q5 q6 q7)=0):Xem.F [.agg [.i .i64 q0,.i .i64 q1,.i .i64 q2,.sl .app 2 (bMarks.map (Xb .ro))],.agg [.i .i64 q3,.i .i64 q4,.i .i64 q5,.i .i64 q6,.i .i64 q7],.i .i64 now,.b good]=some (.tup [],[.agg [.i .i64 (X6 (Breaker.mk q0 q1 q2 bMarks) (Xf.mk q3 q4 q5 q6 q7) now good).State,.i .i64 (X6 (Breaker.mk q0 q1 q2 bMarks) (Xf.mk q3 q4 q5 q6 q7) now good).Since,.i .i64 (X6 (Breaker.mk q0 q1 q2 bMarks) (Xf.mk q3 q4 q5 q6 q7) now good).Out,.sl .app 2 ((X6 (Breaker.mk q0 q1 q2 bMarks) (Xf.mk q3 q4 q5 q6 q7) now good).Marks.map (Xb .ro))],.agg [.i .i64 q3,.i .i64 q4,.i .i64 q5,.i .i64 q6,.i .i64 q7],.u,.u]):=Xy (bMarks.length+1) rfl rfl (λcx h=>by
 have hB:=Xn hf
 have hR:=X3 hg
 simp only at hB hR
 have hk1:=Qf (Breaker.mk q0 q1 q2 bMarks) (Xf.mk q3 q4 q5 q6 q7) now
 simp only at hk1
 obtain⟨K,hK⟩:∃K,Ue (Breaker.mk q0 q1 q2 bMarks) (Xf.mk q3 q4 q5 q6 q7) now++[XQ.mk now good]=K:=⟨_,rfl⟩
 have hKl:K.length=(Ue (Breaker.mk q0 q1 q2 bMarks) (Xf.mk q3 q4 q5 q6 q7) now).length+1:=by rw[<-hK]; simp
 have hA:(Ue (Breaker.mk q0 q1 q2 bMarks) (Xf.mk q3 q4 q5 q6 q7) now).map (Xb .ro)++[[.i .i64 now,.b good]]=K.map (Xb .ro):=by rw[<-hK]; simp[Xb]
 have hs:List.take (K.length-1) (List.drop 1 (K.map (Xb .ro)))=(K.drop 1).map (Xb .ro):=by rw[List.take_of_length_le (by simp),List.map_drop]
 have hP:((Ue (Breaker.mk q0 q1 q2 bMarks) (Xf.mk q3 q4 q5 q6 q7) now).length+1)*16<=140737488355328:=by omega
 obtain⟨M,hM⟩:∃M,Yf (Breaker.mk q0 q1 q2 bMarks) (Xf.mk q3 q4 q5 q6 q7) now good=M:=⟨_,rfl⟩
 have hM2:M=if 60<(K.length:Int) then K.drop 1 else K:=by rw[<-hM]; unfold Yf; rw[hK]
 have hMl:M.length<=61:=by rw[<-hM]; exact Z3 _ _ _ _ hB.2.2.2.1
 have hb1:=UL M
 have w2:(IntKind.i64).wrap (1000*QI M)=1000*QI M:=Xv (by omega) (by omega)
 have w3:(IntKind.i64).wrap (q5*(M.length:Int))=q5*(M.length:Int):=Q2 (by omega) (by omega) (by omega) (by omega)
 have hq1:K.length<=1000:=by omega
 have hq2:(K.drop 1).length<=1000:=by simp; omega
 have hq3:(1:Int)<=(K.length:Int):=by omega
 have hq4:1+(K.length-1)<=K.length:=by omega
 have hq5:1+(K.length-1)=K.length:=by omega
 by_cases s1:q0=1
 ·subst s1
  simp only[go_sem,reduceIte,↓reduceIte,reduceCtorEq,nA,nS,nM,nB,nE,nL,nT,nN,iL,iT,iE,iA,iM,iS,iG,iB,iN,iZ,h,X6]
 by_cases s2:q0=2
 ·subst s2
  have hm:bMarks=[]:=hB.2.2.2.2.2.2.1 (by decide)
  cases good
  ·simp only[go_sem,reduceIte,↓reduceIte,reduceCtorEq,nA,nS,nM,nB,nE,nL,nT,nN,iL,iT,iE,iA,iM,iS,iG,iB,iN,iZ,h,X6]
   simp[hm]
  ·simp only[go_sem,reduceIte,↓reduceIte,reduceCtorEq,nA,nS,nM,nB,nE,nL,nT,nN,iL,iT,iE,iA,iM,iS,iG,iB,iN,iZ,h,X6]
   simp[hm]
 have s0:q0=0:=by omega
 subst s0
 have ho:q2=0:=hB.2.2.2.2.2.2.2 (by decide)
 have hb0:=Yk Try.f20 0 _ _ rfl rfl
 obtain⟨hI,hr⟩:=YU (cx:=cx) (blk:=1) (body:=Qz Try.f20 0) bMarks (λk (s:List XQ)=>⟨E [(0,.p ⟨false,0,[],0⟩),(1,.p ⟨false,1,[],0⟩),(2,.i .i64 now),(3,.b good),(8,.sl .app 2 (s.map (Xb .ro))),(9,.i .i64 k)],B [(0,[.i .i64 0,.i .i64 q1,.i .i64 q2,.sl .app 2 (bMarks.map (Xb .ro))]),(1,[.i .i64 q3,.i .i64 q4,.i .i64 q5,.i .i64 q6,.i .i64 q7])]⟩) (λs=>⟨E [(0,.p ⟨false,0,[],0⟩),(1,.p ⟨false,1,[],0⟩),(2,.i .i64 now),(3,.b good),(8,.sl .app 2 (s.map (Xb .ro)))],B [(0,[.i .i64 0,.i .i64 q1,.i .i64 q2,.sl .app 2 (bMarks.map (Xb .ro))]),(1,[.i .i64 q3,.i .i64 q4,.i .i64 q5,.i .i64 q6,.i .i64 q7])]⟩) (λx s=>(if decide (Z2 x.At q3<=now)=true then s else s++[x])) (λk s=>s.length<=k)
   (λs hI G=>by simp only[go_sem,reduceIte,↓reduceIte,reduceCtorEq,nA,nS,nM,nB,nE,nL,nT,nN,iL,iT,iE,iA,iM,iS,iG,iB,iN,iZ,h,Int.lt_irrefl,hb0,show List.take bMarks.length (List.map (Xb .ro) bMarks)=List.map (Xb .ro) bMarks from List.take_of_length_le (by simp)]) (λk hk s hI=>by
    have h1:((k:Int)<(bMarks.length:Int)):=Int.ofNat_lt.2 hk
    have t1:=ZW hB.2.2.2.2.1 (List.getElem_mem hk)
    have t2:XF bMarks[k].At=true/\0<=q3/\q3<=1000000000000000:=⟨t1,by omega,by omega⟩
    have t3:(s.length+1)*16<=140737488355328:=by omega
    have t4:s.map (Xb .ro)++[[.i .i64 bMarks[k].At,.b bMarks[k].Good]]=(s++[bMarks[k]]).map (Xb .ro):=by simp[Xb]
    have t5:List.take bMarks.length (List.map (Xb .ro) bMarks)=List.map (Xb .ro) bMarks:=List.take_of_length_le (by simp)
    by_cases hd:Z2 bMarks[k].At q3<=now
    all_goals have hd2:(now<Z2 bMarks[k].At q3)=¬(Z2 bMarks[k].At q3<=now):=by simp
    all_goals exact⟨by split<;>(try simp only[List.length_append,List.length_cons,List.length_nil])<;>omega,_,λG=>by simp only[go_sem,reduceIte,↓reduceIte,reduceCtorEq,nA,nS,nM,nB,nE,nL,nT,nN,iL,iT,iE,iA,iM,iS,iG,iB,iN,iZ,h,t2,t3,t4,t5,YN (Xb .ro) bMarks k hk,XbG (Xb .ro) bMarks k hk,hd,hd2,h1,Yg _ _ hk,XJ (show k<9223372036854775807 by omega),hb0]<;>with_reducible rfl,by simp only[go_sem,reduceIte,↓reduceIte,reduceCtorEq,nA,nS,nM,nB,nE,nL,nT,nN,iL,iT,iE,iA,iM,iS,iG,iB,iN,iZ,h,hd]⟩) [] (by simp) (bMarks.length+1) (Nat.le_refl _)
 rw[hb0] at hr
 have hfold:=ZN (λ(x:XQ)=>decide (Z2 x.At q3<=now)) bMarks []
 simp only[List.nil_append] at hfold
 rw[hfold] at hr
 have hkd:(bMarks.filter λx=>!decide (Z2 x.At q3<=now))=Ue (Breaker.mk 0 q1 q2 bMarks) (Xf.mk q3 q4 q5 q6 q7) now:=rfl
 rw[hkd] at hr
 by_cases c:60<(K.length:Int)
 ·rw[if_pos c] at hM2
  by_cases d1:q4<=(M.length:Int)<;>by_cases d2:q5*(M.length:Int)<=1000*QI M
  all_goals have hz1:=d1
  all_goals have hz2:=d2
  all_goals rw[hM2] at d1 d2 w2 w3
  all_goals simp only[go_sem,reduceIte,↓reduceIte,reduceCtorEq,nA,nS,nM,nB,nE,nL,nT,nN,iL,iT,iE,iA,iM,iS,iG,iB,iN,iZ,h,X6,hr,hA,hP,c,hs,hM,hz1,hz2,d1,d2,w2,w3,hq1,hq2,hq3,hq4,hq5,hM2,s1,s2]<;>simp only[ho]
 ·rw[if_neg c] at hM2
  by_cases d1:q4<=(M.length:Int)<;>by_cases d2:q5*(M.length:Int)<=1000*QI M
  all_goals have hz1:=d1
  all_goals have hz2:=d2
  all_goals rw[hM2] at d1 d2 w2 w3
  all_goals simp only[go_sem,reduceIte,↓reduceIte,reduceCtorEq,nA,nS,nM,nB,nE,nL,nT,nN,iL,iT,iE,iA,iM,iS,iG,iB,iN,iZ,h,X6,hr,hA,hP,c,hs,hM,hz1,hz2,d1,d2,w2,w3,hq1,hq2,hq3,hq4,hq5,hM2,s1,s2]<;>simp only[ho]) (rfl)
end
end Go.Vm.A
