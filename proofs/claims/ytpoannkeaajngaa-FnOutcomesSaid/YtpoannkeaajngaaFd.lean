/- Functions of the program, walked by the evaluator. -/
import Derived.Test.YtpoannkeaajngaaWb
import Derived.Test.YtpoannkeaajngaaWa
import Derived.Test.YtpoannkeaajngaaFa
import Derived.Test.YtpoannkeaajngaaFc
set_option linter.unusedVariables false
set_option linter.unusedSimpArgs false
set_option autoImplicit false
set_option maxRecDepth 100000
set_option maxHeartbeats 4000000
set_option linter.defProp false
namespace Go.Vm.A
open Go.Proofs
open Nat renaming reduceAdd -> nA, reduceSub -> nS, reduceMul -> nM, reduceBEq -> nB, reduceEqDiff -> nE, reduceLeDiff -> nL, reduceLT -> nT, reduceBneDiff -> nN
open Int renaming reduceLE -> iL, reduceLT -> iT, reduceEq -> iE, reduceAdd -> iA, reduceMul -> iM, reduceSub -> iS, reduceNeg -> iG, reduceBEq -> iB, reduceBNe -> iN, reduceToNat -> iZ
noncomputable section
def Zn(code:List UInt8):Xf :=
 let r:=Uq code 0
 if YL code 5 12=0 then{r with Window:=X5 code 6 [0,1000001]} else if YL code 5 12=1 then{r with Min:=X5 code 6 [0,51]}
 else if YL code 5 12=2 then{r with Ratio:=X5 code 6 [0,1001]} else if YL code 5 12=3 then{r with Cool:=X5 code 6 [-1,1000001]}
 else if YL code 5 12=4 then{r with Quota:=X5 code 6 [0,6]} else r
def s48:SP Try.prog:=mkS tyA 48 Try.f48 [s32,s33,s45,s46] {md:=[.ro 1],rg:=[(0,[0,2],[2,4]),(1,[2,3],[2,4,6]),(2,[2,3,4],[2,4,6]),(3,[2,3,4,10],[2,4,6]),(4,[2,3,4,10,11],[2,4,6]),(5,[2,4],[2,4]),(6,[2,3,4,10,17],[2,4,6]),(7,[2,4],[2,4]),(8,[2,3,4,10,23],[2,4,6]),(9,[2,4],[2,4]),(10,[2,3,4,10,29],[2,4,6]),(11,[2,4],[2,4]),(12,[2,3,4,35],[2,4,6]),(13,[2,4],[2,4]),(14,[2],[2,4])],rets:=some ([2],[2,4])} Try.func48 (by kernel_rfl)
@[go_sem] def d48:s48.g=48/\s48.fs=⟨[.ro 1],s48.F,false⟩:=⟨nr rfl,nr rfl⟩
@[go_sem] def e48(code:List UInt8):s48.F [.sl .ro 1 (code.map XP)]=some (.agg (Q0 .ro (Zn code)),[.u]):=Xy (0) rfl rfl (λcx h=>by
 have f0:bOk 0=true:=rfl
 have f5:aOk 5=true:=rfl
 have f6:aOk 6=true:=rfl
 obtain⟨k,hk⟩:∃k,YL code 5 12=k:=⟨_,rfl⟩
 by_cases c0:k=0
 ·subst c0
  simp only[go_sem,reduceIte,↓reduceIte,reduceCtorEq,nA,nS,nM,nB,nE,nL,nT,nN,iL,iT,iE,iA,iM,iS,iG,iB,iN,iZ,h,Zn,f0,f5,f6,hk]
 have d0:(k==0)=false:=by simpa using c0
 by_cases c1:k=1
 ·subst c1
  simp only[go_sem,reduceIte,↓reduceIte,reduceCtorEq,nA,nS,nM,nB,nE,nL,nT,nN,iL,iT,iE,iA,iM,iS,iG,iB,iN,iZ,h,Zn,f0,f5,f6,hk]
 have d1:(k==1)=false:=by simpa using c1
 by_cases c2:k=2
 ·subst c2
  simp only[go_sem,reduceIte,↓reduceIte,reduceCtorEq,nA,nS,nM,nB,nE,nL,nT,nN,iL,iT,iE,iA,iM,iS,iG,iB,iN,iZ,h,Zn,f0,f5,f6,hk]
 have d2:(k==2)=false:=by simpa using c2
 by_cases c3:k=3
 ·subst c3
  simp only[go_sem,reduceIte,↓reduceIte,reduceCtorEq,nA,nS,nM,nB,nE,nL,nT,nN,iL,iT,iE,iA,iM,iS,iG,iB,iN,iZ,h,Zn,f0,f5,f6,hk]
 have d3:(k==3)=false:=by simpa using c3
 by_cases c4:k=4
 ·subst c4
  simp only[go_sem,reduceIte,↓reduceIte,reduceCtorEq,nA,nS,nM,nB,nE,nL,nT,nN,iL,iT,iE,iA,iM,iS,iG,iB,iN,iZ,h,Zn,f0,f5,f6,hk]
 have d4:(k==4)=false:=by simpa using c4
 simp only[go_sem,reduceIte,↓reduceIte,reduceCtorEq,nA,nS,nM,nB,nE,nL,nT,nN,iL,iT,iE,iA,iM,iS,iG,iB,iN,iZ,h,Zn,f0,f5,f6,hk,c0,c1,c2,c3,c4,d0,d1,d2,d3,d4]) (rfl)
def XbN(code:List UInt8){r:Xf}(hr:Xr r=0){a:Int}(ha:0<=a/\a<=1000):a<=(Ud code r a).1/\(Ud code r a).1<=a+50/\0<=(Ud code r a).2.1/\(Ud code r a).2.1<=35000/\(Ud code r a).2.2.Marks.length<=60:=by
 obtain⟨m,hm,q1,q2,q3,q4,q5⟩:=Xfm code r hr ha
 have hB:=(Xn q5.1).2.2.2.1
 unfold Ud Xen
 split
 ·split
  ·have p1:aOk ((Xc8 code r a).1+1)=true:=by simp only[aOk,decide_eq_true_eq]; omega
   have m1:=Zl code [59,60] p1 (by simp)
   simp only[List.mem_cons,List.not_mem_nil,or_false] at m1
   refine⟨by simp only; omega,by simp only; omega,q3,by simp only; omega,?_⟩
   simp only[Xmg,List.length_append,List.length_replicate]
   omega
  ·exact⟨by simp only; omega,by simp only; omega,q3,by simp only; omega,hB⟩
 ·exact⟨by simp only; omega,by simp only; omega,q3,by simp only; omega,hB⟩
def Qh(code:List UInt8)(k a now:Int)(b:Breaker):Int×Breaker :=
 if k=0 then(a+1+1,⟨X5 code (a+1) [3,-1,1,2,0],b.Since,b.Out,b.Marks⟩)
 else if k=1 then(a+1+1,⟨b.State,b.Since,X5 code (a+1) [6,-1,1],b.Marks⟩)
 else if k=2 then(a+1+1,⟨b.State,b.Since,b.Out,b.Marks++[XQ.mk (X5 code (a+1) [0,-1,now+50]) false]⟩)
 else if k=3 then(a+1+1,⟨b.State,X5 code (a+1) [-1,now+1],b.Out,b.Marks⟩)
 else if k=4 then(a+1,⟨b.State,b.Since,b.Out,b.Marks++List.replicate (61-b.Marks.length) (XQ.mk now false)⟩)
 else(a+1,b)
def QD(code:List UInt8):Int×Int×Breaker:=Ud code (Uq code 0) 5
def Y5(code:List UInt8):Int×Breaker:=Qh code (YL code (QD code).1 18) (QD code).1 (QD code).2.1 (QD code).2.2
def Xae(code:List UInt8):Xf:=if(YL code (Y5 code).1 12==0)=true then Zn (1 :: code) else Uq code 0
def Xcj(code:List UInt8):(Y5 code).2.Marks.length<=61/\5<=(Y5 code).1/\(Y5 code).1<=60:=by
 obtain⟨h1,h2,h3,h4,h5⟩:=XbN code (Xan code (a:=0) rfl) (a:=5) (by omega)
 unfold Y5 QD Qh
 repeat' split
 all_goals exact⟨by simp only[List.length_append,List.length_replicate,List.length_cons,List.length_nil]; omega,by simp only; omega,by simp only; omega⟩
def s31:SP Try.prog:=mkS tyA 31 Try.f31 [s13,s32,s33,s45,s46,s47,s48] {md:=[.ro 1],wk:=true,rg:=[(0,[0,2,3],[2,3,7,8]),(1,[0,2,3,6],[2,3,7,8,11]),(2,[0,2,3,6,7],[2,3,7,8,11]),(3,[0,2,3,6,7,8,9],[2,3,7,8,11]),(4,[0,2,3,6,7,8,9,20],[2,3,7,8,11]),(5,[0,2,3,6,7,8,9,20,21],[2,3,7,8,11]),(6,[0,2,3,6,7,8,9],[2,3,7,8,11]),(7,[0,2,3,6,7,8,9,20,27],[2,3,7,8,11]),(8,[0,2,3,6,7,8,9],[2,3,7,8,11]),(9,[0,2,3,6,7,8,9,20,33],[2,3,7,8,11]),(10,[0,2,3,6,7,8,9],[2,3,7,8,11]),(11,[0,2,3,6,7,8,9,20,46],[2,3,7,8,11]),(12,[0,2,3,6,7,8,9],[2,3,7,8,11]),(13,[0,2,3,6,7,8,9,54],[2,3,7,8,11]),(14,[0,2,3,6,7,8,9,59],[2,3,7,8,11]),(15,[0,2,3,6,7,8,9],[2,3,7,8,11]),(16,[0,2,3,6,7,8,9,68],[2,3,7,8,11]),(17,[2,3,6,7,8,9],[2,3,7,8,11]),(18,[2,3,4,5],[2,3,7,8,11])],lv:=[(1,[0,2,3,6,7,8,9],[2,3,7,8,11])],out:=[(1,[0,2,3,6,7,8,9],[2,3,7,8,11])],rets:=some ([2,3,4,5],[2,3,7,8,11]),al:=[14],plan:=[(10,(.take 0 (.take 2 (.take 3 (.take 4 (.alt 1 (.one 5 (.one 6 (.one 7 (.one 8 (.one 9 (.take 10 (.one 11 .done))))))) (.one 5 (.alt 1 (.one 6 (.one 7 (.one 8 (.one 9 (.take 10 (.one 11 .done)))))) (.one 6 (.alt 1 (.one 7 (.one 8 (.one 9 (.take 10 (.one 11 .done))))) (.one 7 (.alt 1 (.one 8 (.one 9 (.take 10 (.one 11 .done)))) (.one 8 (.one 1 (.one 9 (.take 10 (.one 11 .done))))))))))))))))),(18,(.take 0 (.take 2 (.take 3 (.alt 1 (.one 4 (.one 5 (.one 6 (.one 7 .done)))) (.one 4 (.one 1 (.one 5 (.one 6 (.one 7 .done))))))))))]} Try.func31 (by kernel_rfl)
@[go_sem] def d31:s31.g=31/\s31.fs=⟨[.ro 1],s31.F,true⟩:=⟨nr rfl,nr rfl⟩
@[go_sem] def e31(code:List UInt8)(h0:code.length<=1048576):s31.F [.sl .ro 1 (code.map XP)]=some (.tup [.tup [.agg [.sl .ro 1 (code.map XP),.i .i64 ((Y5 code).1+1)]],.tup [.agg [.i .i64 (Y5 code).2.State,.i .i64 (Y5 code).2.Since,.i .i64 (Y5 code).2.Out,.sl .app 2 ((Y5 code).2.Marks.map (Xb .ro))],.agg (Q0 .ro (Xae code)),.i .i64 (QD code).2.1]],[.u]):=Xy (200) rfl rfl (λcx h=>by
 have f0:bOk 0=true:=rfl
 have hR0:=Xan code (a:=0) rfl
 have hbin:=XbN code hR0 (a:=5) (by omega)
 have hl1:(0:Int)<=5/\(5:Int)<=1000:=by omega
 have hDD:QD code=Ud code (Uq code 0) 5:=rfl
 have hSS:Y5 code=Qh code (YL code (QD code).1 18) (QD code).1 (QD code).2.1 (QD code).2.2:=rfl
 have eD:=e48 (1 :: code)
 rw[show(1 :: code).map XP=[.i .u8 1] :: code.map XP from rfl] at eD
 obtain⟨R,hR⟩:∃R,Uq code 0=R:=⟨_,rfl⟩
 rw[hR] at hR0 hbin hDD
 rcases R with⟨rW,rM,rR,rC,rQ⟩
 have hg:=hR0
 obtain⟨D,hD⟩:∃D,Ud code (Xf.mk rW rM rR rC rQ) 5=D:=⟨_,rfl⟩
 rw[hD] at hbin hDD
 rw[hDD] at hSS
 rcases D with⟨i,now,⟨bS,bSi,bO,bM⟩⟩
 obtain⟨q1,q2,q3,q4,q5⟩:=hbin
 simp only at q1 q2 q3 q4 q5 hSS
 have p0:aOk i=true:=by simp only[aOk,decide_eq_true_eq]; omega
 have p1:aOk (i+1)=true:=by simp only[aOk,decide_eq_true_eq]; omega
 have hcl:(1+code.length)*1<=140737488355328:=by omega
 have hpl:(code.map XP).all (·.all plain)=true:=by simp[XP,plain]
 have w2:(IntKind.i64).wrap (now+50)=now+50:=Xv (by omega) (by omega)
 have w3:(IntKind.i64).wrap (now+1)=now+1:=Xv (by omega) (by omega)
 have t2:List.take bM.length (bM.map (Xb .ro))=bM.map (Xb .ro):=List.take_of_length_le (by simp)
 have t3:(bM.length+1)*16<=140737488355328:=by omega
 have t4:∀x y,bM.map (Xb .ro)++[[.i .i64 x,.b y]]=(bM++[XQ.mk x y]).map (Xb .ro):=λx y=>by simp[Xb]
 obtain⟨k,hk⟩:∃k,YL code i 18=k:=⟨_,rfl⟩
 rw[hk] at hSS
 have hsl:=hSS
 by_cases c0:k=0
 ·subst c0
  have hsel:=hsl
  unfold Qh at hsel
  simp only[Int.reduceEq,if_true,if_false,reduceIte] at hsel
  obtain⟨A,hA⟩:∃A,i+1+1=A:=⟨_,rfl⟩
  rw[hA] at hsel
  have pA:aOk A=true:=by simp only[aOk,decide_eq_true_eq]; omega
  cases c9:YL code A 12==0<;>simp only[go_sem,reduceIte,↓reduceIte,reduceCtorEq,nA,nS,nM,nB,nE,nL,nT,nN,iL,iT,iE,iA,iM,iS,iG,iB,iN,iZ,h,f0,hR,hg,eD,hl1,hD,hDD,p0,p1,hk,c9,pA,hcl,hpl,hsel,Xae,hA]
 have d0:(k==0)=false:=by simpa using c0
 by_cases c1:k=1
 ·subst c1
  have hsel:=hsl
  unfold Qh at hsel
  simp only[Int.reduceEq,if_true,if_false,reduceIte] at hsel
  obtain⟨A,hA⟩:∃A,i+1+1=A:=⟨_,rfl⟩
  rw[hA] at hsel
  have pA:aOk A=true:=by simp only[aOk,decide_eq_true_eq]; omega
  cases c9:YL code A 12==0<;>simp only[go_sem,reduceIte,↓reduceIte,reduceCtorEq,nA,nS,nM,nB,nE,nL,nT,nN,iL,iT,iE,iA,iM,iS,iG,iB,iN,iZ,h,f0,hR,hg,eD,hl1,hD,hDD,p0,p1,hk,c9,pA,hcl,hpl,hsel,Xae,hA]
 have d1:(k==1)=false:=by simpa using c1
 by_cases c2:k=2
 ·subst c2
  have hsel:=hsl
  unfold Qh at hsel
  simp only[Int.reduceEq,if_true,if_false,reduceIte] at hsel
  obtain⟨A,hA⟩:∃A,i+1+1=A:=⟨_,rfl⟩
  rw[hA] at hsel
  have pA:aOk A=true:=by simp only[aOk,decide_eq_true_eq]; omega
  cases c9:YL code A 12==0<;>simp only[go_sem,reduceIte,↓reduceIte,reduceCtorEq,nA,nS,nM,nB,nE,nL,nT,nN,iL,iT,iE,iA,iM,iS,iG,iB,iN,iZ,h,f0,hR,hg,eD,hl1,hD,hDD,p0,p1,hk,c9,pA,hcl,hpl,hsel,Xae,hA,t2,t3,t4,w2]
 have d2:(k==2)=false:=by simpa using c2
 by_cases c3:k=3
 ·subst c3
  have hsel:=hsl
  unfold Qh at hsel
  simp only[Int.reduceEq,if_true,if_false,reduceIte] at hsel
  obtain⟨A,hA⟩:∃A,i+1+1=A:=⟨_,rfl⟩
  rw[hA] at hsel
  have pA:aOk A=true:=by simp only[aOk,decide_eq_true_eq]; omega
  cases c9:YL code A 12==0<;>simp only[go_sem,reduceIte,↓reduceIte,reduceCtorEq,nA,nS,nM,nB,nE,nL,nT,nN,iL,iT,iE,iA,iM,iS,iG,iB,iN,iZ,h,f0,hR,hg,eD,hl1,hD,hDD,p0,p1,hk,c9,pA,hcl,hpl,hsel,Xae,hA,w3]
 have d3:(k==3)=false:=by simpa using c3
 by_cases c4:k=4
 ·subst c4
  have hsel:=hsl
  unfold Qh at hsel
  simp only[Int.reduceEq,if_true,if_false,reduceIte] at hsel
  obtain⟨A,hA⟩:∃A,i+1=A:=⟨_,rfl⟩
  have pA:aOk A=true:=by simp only[aOk,decide_eq_true_eq]; omega
  obtain⟨M,hM⟩:∃M,M=61-bM.length:=⟨_,rfl⟩
  have hend2:List.take (bM++List.replicate M (XQ.mk now false)).length ((bM++List.replicate M (XQ.mk now false)).map (Xb .ro))=(bM++List.replicate M (XQ.mk now false)).map (Xb .ro):=List.take_of_length_le (by simp)
  have hend1:¬(((bM++List.replicate M (XQ.mk now false)).length:Int)<61):=by simp; omega
  have hb0:=Yk Try.f31 0 _ _ rfl rfl
  obtain⟨hI,hr1⟩:=YU (cx:=cx) (blk:=1) (body:=Qz Try.f31 0) (List.range M) (λk (s:Unit)=>⟨E [(0,.sl .ro 1 (code.map XP)),(2,.p ⟨false,2,[],0⟩),(3,.p ⟨false,3,[],0⟩),(6,.p ⟨false,11,[],0⟩),(7,.p ⟨false,7,[],0⟩),(8,.p ⟨false,8,[],0⟩),(9,.i .i64 now)],B [(2,[.i .i64 0,.i .i64 0,.i .i64 0,.sl .mut 2 []]),(3,[.i .i64 0,.i .i64 0,.i .i64 0,.i .i64 0,.i .i64 0]),(7,[.i .i64 rW,.i .i64 rM,.i .i64 rR,.i .i64 rC,.i .i64 rQ]),(8,[.i .i64 bS,.i .i64 bSi,.i .i64 bO,.sl .app 2 ((bM++List.replicate k (XQ.mk now false)).map (Xb .ro))]),(11,[.sl .ro 1 (code.map XP),.i .i64 (i+1)])]⟩) (λs=>⟨E [(0,.sl .ro 1 (code.map XP)),(2,.p ⟨false,2,[],0⟩),(3,.p ⟨false,3,[],0⟩),(6,.p ⟨false,11,[],0⟩),(7,.p ⟨false,7,[],0⟩),(8,.p ⟨false,8,[],0⟩),(9,.i .i64 now)],B [(2,[.i .i64 0,.i .i64 0,.i .i64 0,.sl .mut 2 []]),(3,[.i .i64 0,.i .i64 0,.i .i64 0,.i .i64 0,.i .i64 0]),(7,[.i .i64 rW,.i .i64 rM,.i .i64 rR,.i .i64 rC,.i .i64 rQ]),(8,[.i .i64 bS,.i .i64 bSi,.i .i64 bO,.sl .app 2 ((bM++List.replicate ((List.range M).length) (XQ.mk now false)).map (Xb .ro))]),(11,[.sl .ro 1 (code.map XP),.i .i64 (i+1)])]⟩) (λx s=>s) (λk s=>True)
    (λs hI G=>by simp only[go_sem,reduceIte,↓reduceIte,reduceCtorEq,nA,nS,nM,nB,nE,nL,nT,nN,iL,iT,iE,iA,iM,iS,iG,iB,iN,iZ,h,Int.lt_irrefl,hb0,List.length_range,List.length_map,hend1,hend2]) (λk hk s hI=>by
     have h1:((k:Int)<((List.range M).length:Int)):=Int.ofNat_lt.2 hk
     simp only[List.length_range] at hk h1
     have t0:((bM.length+k:Nat):Int)<61:=by omega
     have t3:(bM.length+k+1)*16<=140737488355328:=by omega
     have t4:(bM++List.replicate k (XQ.mk now false)).map (Xb .ro)++[[.i .i64 now,.b false]]=(bM++List.replicate (k+1) (XQ.mk now false)).map (Xb .ro):=by rw[List.replicate_succ']; simp[Xb]
     have t6:(bM++List.replicate k (XQ.mk now false)).length=bM.length+k:=by simp
     have t7:List.take (bM.length+k) ((bM++List.replicate k (XQ.mk now false)).map (Xb .ro))=(bM++List.replicate k (XQ.mk now false)).map (Xb .ro):=List.take_of_length_le (by simp)
     exact⟨trivial,_,λG=>by simp only[go_sem,reduceIte,↓reduceIte,reduceCtorEq,nA,nS,nM,nB,nE,nL,nT,nN,iL,iT,iE,iA,iM,iS,iG,iB,iN,iZ,h,t0,t3,t4,t6,t7,List.length_map,h1,Yg _ _ hk,XJ (show k<9223372036854775807 by omega),hb0]<;>with_reducible rfl,by simp only[go_sem,reduceIte,↓reduceIte,reduceCtorEq,nA,nS,nM,nB,nE,nL,nT,nN,iL,iT,iE,iA,iM,iS,iG,iB,iN,iZ,h]⟩) () trivial 200 (by simp; omega)
  rw[hb0] at hr1
  simp only[List.replicate_zero,List.append_nil,List.length_range] at hr1
  rw[hA] at hsel hr1
  rw[<-hM] at hsel
  cases c9:YL code A 12==0<;>simp only[go_sem,reduceIte,↓reduceIte,reduceCtorEq,nA,nS,nM,nB,nE,nL,nT,nN,iL,iT,iE,iA,iM,iS,iG,iB,iN,iZ,h,f0,hR,hg,eD,hl1,hD,hDD,p0,p1,hk,c9,pA,hcl,hpl,hsel,Xae,hA,hr1]
 have d4:(k==4)=false:=by simpa using c4
 have hsel:Y5 code=(i+1,⟨bS,bSi,bO,bM⟩):=by rw[hsl]; unfold Qh; rw[if_neg c0,if_neg c1,if_neg c2,if_neg c3,if_neg c4]
 obtain⟨A,hA⟩:∃A,i+1=A:=⟨_,rfl⟩
 rw[hA] at hsel
 have pA:aOk A=true:=by simp only[aOk,decide_eq_true_eq]; omega
 cases c9:YL code A 12==0<;>simp only[go_sem,reduceIte,↓reduceIte,reduceCtorEq,nA,nS,nM,nB,nE,nL,nT,nN,iL,iT,iE,iA,iM,iS,iG,iB,iN,iZ,h,f0,hR,hg,eD,hl1,hD,hDD,p0,p1,hk,c9,pA,hcl,hpl,hsel,Xae,hA,d0,d1,d2,d3,d4,c0,c1,c2,c3,c4]) (rfl)
def Xfn(code:List UInt8):Int:=(QD code).2.1+X5 code ((Y5 code).1+1) [0,1,500,499,2000,1999,100,-1]
def Xmh(code:List UInt8):aOk ((Y5 code).1+1)=true/\0<=(QD code).2.1/\(QD code).2.1<=35000 /\ -1<=X5 code ((Y5 code).1+1) [0,1,500,499,2000,1999,100,-1]/\X5 code ((Y5 code).1+1) [0,1,500,499,2000,1999,100,-1]<=2000:=by
 have h1:=Xcj code
 have h2:0<=(QD code).2.1/\(QD code).2.1<=35000:=by
  have:=XbN code (Xan code (a:=0) rfl) (a:=5) (by omega)
  exact⟨this.2.2.1,this.2.2.2.1⟩
 have p:aOk ((Y5 code).1+1)=true:=by simp only[aOk,decide_eq_true_eq]; omega
 have m1:=Zl code [0,1,500,499,2000,1999,100,-1] p (by simp)
 simp only[List.mem_cons,List.not_mem_nil,or_false] at m1
 exact⟨p,h2.1,h2.2,by omega,by omega⟩
def s12:SP Try.prog:=mkS tyA 12 Try.f12 [s31,s32] {md:=[.ro 1],wk:=true,rg:=[(0,[0,2,3],[2,3,5,6,11]),(1,[2,3,5,6,7,8],[2,3,5,6,11]),(2,[2,3,4],[2,3,5,6,11])],rets:=some ([2,3,4],[2,3,5,6,11]),al:=[9],plan:=[(2,(.take 2 (.take 3 (.alt 0 (.alt 1 (.one 4 (.one 5 (.alt 6 (.one 7 (.one 8 (.one 9 .done))) (.one 7 (.alt 6 (.one 8 (.one 9 .done)) (.one 8 (.one 6 (.one 9 .done)))))))) (.one 4 (.alt 1 (.one 5 (.alt 6 (.one 7 (.one 8 (.one 9 .done))) (.one 7 (.alt 6 (.one 8 (.one 9 .done)) (.one 8 (.one 6 (.one 9 .done))))))) (.one 5 (.alt 1 (.alt 6 (.one 7 (.one 8 (.one 9 .done))) (.one 7 (.alt 6 (.one 8 (.one 9 .done)) (.one 8 (.one 6 (.one 9 .done)))))) (.alt 6 (.alt 1 (.one 7 (.one 8 (.one 9 .done))) (.one 7 (.one 1 (.one 8 (.one 9 .done))))) (.one 7 (.alt 1 (.alt 6 (.one 8 (.one 9 .done)) (.one 8 (.one 6 (.one 9 .done)))) (.one 6 (.one 1 (.one 8 (.one 9 .done)))))))))))) (.alt 1 (.alt 0 (.one 4 (.one 5 (.alt 6 (.one 7 (.one 8 (.one 9 .done))) (.one 7 (.alt 6 (.one 8 (.one 9 .done)) (.one 8 (.one 6 (.one 9 .done)))))))) (.one 4 (.alt 0 (.one 5 (.alt 6 (.one 7 (.one 8 (.one 9 .done))) (.one 7 (.alt 6 (.one 8 (.one 9 .done)) (.one 8 (.one 6 (.one 9 .done))))))) (.one 5 (.alt 0 (.alt 6 (.one 7 (.one 8 (.one 9 .done))) (.one 7 (.alt 6 (.one 8 (.one 9 .done)) (.one 8 (.one 6 (.one 9 .done)))))) (.one 6 (.one 0 (.one 7 (.one 8 (.one 9 .done)))))))))) (.one 4 (.alt 0 (.alt 1 (.one 5 (.alt 6 (.one 7 (.one 8 (.one 9 .done))) (.one 7 (.alt 6 (.one 8 (.one 9 .done)) (.one 8 (.one 6 (.one 9 .done))))))) (.one 5 (.alt 1 (.alt 6 (.one 7 (.one 8 (.one 9 .done))) (.one 7 (.alt 6 (.one 8 (.one 9 .done)) (.one 8 (.one 6 (.one 9 .done)))))) (.alt 6 (.alt 1 (.one 7 (.one 8 (.one 9 .done))) (.one 7 (.one 1 (.one 8 (.one 9 .done))))) (.one 7 (.alt 1 (.alt 6 (.one 8 (.one 9 .done)) (.one 8 (.one 6 (.one 9 .done)))) (.one 6 (.one 1 (.one 8 (.one 9 .done)))))))))) (.alt 1 (.alt 0 (.one 5 (.alt 6 (.one 7 (.one 8 (.one 9 .done))) (.one 7 (.alt 6 (.one 8 (.one 9 .done)) (.one 8 (.one 6 (.one 9 .done))))))) (.one 5 (.alt 0 (.alt 6 (.one 7 (.one 8 (.one 9 .done))) (.one 7 (.alt 6 (.one 8 (.one 9 .done)) (.one 8 (.one 6 (.one 9 .done)))))) (.one 6 (.one 0 (.one 7 (.one 8 (.one 9 .done)))))))) (.one 5 (.alt 0 (.alt 1 (.alt 6 (.one 7 (.one 8 (.one 9 .done))) (.one 7 (.alt 6 (.one 8 (.one 9 .done)) (.one 8 (.one 6 (.one 9 .done)))))) (.alt 6 (.alt 1 (.one 7 (.one 8 (.one 9 .done))) (.one 7 (.one 1 (.one 8 (.one 9 .done))))) (.one 7 (.alt 1 (.alt 6 (.one 8 (.one 9 .done)) (.one 8 (.one 6 (.one 9 .done)))) (.one 6 (.one 1 (.one 8 (.one 9 .done)))))))) (.alt 1 (.alt 0 (.alt 6 (.one 7 (.one 8 (.one 9 .done))) (.one 7 (.alt 6 (.one 8 (.one 9 .done)) (.one 8 (.one 6 (.one 9 .done)))))) (.one 6 (.one 0 (.one 7 (.one 8 (.one 9 .done)))))) (.one 6 (.alt 0 (.alt 1 (.one 7 (.one 8 (.one 9 .done))) (.one 7 (.one 1 (.one 8 (.one 9 .done))))) (.one 1 (.one 0 (.one 7 (.one 8 (.one 9 .done))))))))))))))))))]} Try.func12 (by kernel_rfl)
@[go_sem] def d12:s12.g=12/\s12.fs=⟨[.ro 1],s12.F,true⟩:=⟨nr rfl,nr rfl⟩
@[go_sem] def e12(code:List UInt8)(h0:code.length<=1048576):s12.F [.sl .ro 1 (code.map XP)]=some (.tup [.agg [.i .i64 (Y5 code).2.State,.i .i64 (Y5 code).2.Since,.i .i64 (Y5 code).2.Out,.sl .app 2 ((Y5 code).2.Marks.map (Xb .ro))],.agg (Q0 .ro (Xae code)),.i .i64 (Xfn code)],[.u]):=Xy (0) rfl rfl (λcx h=>by
 have hb:=Xmh code
 have hu:Xfn code=(QD code).2.1+X5 code ((Y5 code).1+1) [0,1,500,499,2000,1999,100,-1]:=rfl
 obtain⟨S,hS⟩:∃S,Y5 code=S:=⟨_,rfl⟩
 obtain⟨D,hD⟩:∃D,(QD code).2.1=D:=⟨_,rfl⟩
 rw[hS,hD] at hb hu
 rcases S with⟨A,⟨bS,bSi,bO,bM⟩⟩
 simp only at hb hu
 obtain⟨p0,q1,q2,q3,q4⟩:=hb
 obtain⟨Z,hZ⟩:∃Z,X5 code (A+1) [0,1,500,499,2000,1999,100,-1]=Z:=⟨_,rfl⟩
 rw[hZ] at q3 q4 hu
 obtain⟨R,hR⟩:∃R,Xae code=R:=⟨_,rfl⟩
 have w1:(IntKind.i64).wrap (D+Z)=D+Z:=Xv (by omega) (by omega)
 simp only[go_sem,reduceIte,↓reduceIte,reduceCtorEq,nA,nS,nM,nB,nE,nL,nT,nN,iL,iT,iE,iA,iM,iS,iG,iB,iN,iZ,h,h0,hS,hD,p0,hZ,hR,w1,hu]) (rfl)
def s14:SP Try.prog:=mkS tyA 14 Try.f14 [] {md:=[.ro 1,.ro 1],wk:=true,rets:=some ([0,4,5],[10])} Try.func14 (by kernel_rfl)
@[go_sem] def d14:s14.g=14/\s14.fs=⟨[.ro 1,.ro 1],s14.F,true⟩:=⟨nr rfl,nr rfl⟩
@[go_sem] def e14(code:List UInt8)(n:Int):s14.F [.sl .ro 1 (code.map XP),.i .i64 n]=some (.tup [.agg [.sl .ro 1 (code.map XP),.i .i64 ((IntKind.i64).wrap (5+(IntKind.i64).wrap (7*n)))]],[.u,.u]):=Xy (0) rfl rfl (λcx h=>by
 simp only[go_sem,reduceIte,↓reduceIte,reduceCtorEq,nA,nS,nM,nB,nE,nL,nT,nN,iL,iT,iE,iA,iM,iS,iG,iB,iN,iZ,h]) (rfl)
def s5:SP Try.prog:=mkS tyA 5 Try.f5 [s12,s13,s14] {md:=[.ro 1],wk:=true,rg:=[(0,[0,2,3],[2,3,6,7]),(1,[0,2,3,6,7,8],[2,3,6,7]),(2,[2,3,4,5],[2,3,6,7])],rets:=some ([2,3,4,5],[2,3,6,7]),al:=[9],plan:=[(2,(.take 2 (.take 3 (.alt 0 (.alt 1 (.one 4 (.one 5 (.one 6 (.one 7 (.one 8 (.one 9 .done)))))) (.one 4 (.alt 1 (.one 5 (.one 6 (.one 7 (.one 8 (.one 9 .done))))) (.one 5 (.alt 1 (.one 6 (.one 7 (.one 8 (.one 9 .done)))) (.one 6 (.one 1 (.one 7 (.one 8 (.one 9 .done)))))))))) (.alt 1 (.alt 0 (.one 4 (.one 5 (.one 6 (.one 7 (.one 8 (.one 9 .done)))))) (.one 4 (.alt 0 (.one 5 (.one 6 (.one 7 (.one 8 (.one 9 .done))))) (.one 5 (.one 0 (.one 6 (.one 7 (.one 8 (.one 9 .done))))))))) (.one 4 (.alt 0 (.alt 1 (.one 5 (.one 6 (.one 7 (.one 8 (.one 9 .done))))) (.one 5 (.alt 1 (.one 6 (.one 7 (.one 8 (.one 9 .done)))) (.one 6 (.one 1 (.one 7 (.one 8 (.one 9 .done)))))))) (.alt 1 (.alt 0 (.one 5 (.one 6 (.one 7 (.one 8 (.one 9 .done))))) (.one 5 (.one 0 (.one 6 (.one 7 (.one 8 (.one 9 .done))))))) (.one 5 (.alt 0 (.alt 1 (.one 6 (.one 7 (.one 8 (.one 9 .done)))) (.one 6 (.one 1 (.one 7 (.one 8 (.one 9 .done)))))) (.one 1 (.one 0 (.one 6 (.one 7 (.one 8 (.one 9 .done))))))))))))))))]} Try.func5 (by kernel_rfl)
@[go_sem] def d5:s5.g=5/\s5.fs=⟨[.ro 1],s5.F,true⟩:=⟨nr rfl,nr rfl⟩
@[go_sem] def e5(code:List UInt8)(h0:code.length<=1048576):s5.F [.sl .ro 1 (code.map XP)]=some (.tup [.agg [.i .i64 (Y5 code).2.State,.i .i64 (Y5 code).2.Since,.i .i64 (Y5 code).2.Out,.sl .app 2 ((Y5 code).2.Marks.map (Xb .ro))],.agg (Q0 .ro (Xae code)),.i .i64 (Xfn code),.b (YL code 19 2==0)],[.u]):=Xy (0) rfl rfl (λcx h=>by
 have f0:aOk 19=true:=rfl
 have w1:(IntKind.i64).wrap 14=14:=Xv (by omega) (by omega)
 have w2:(IntKind.i64).wrap 19=19:=Xv (by omega) (by omega)
 obtain⟨S,hS⟩:∃S,Y5 code=S:=⟨_,rfl⟩
 rcases S with⟨A,⟨bS,bSi,bO,bM⟩⟩
 obtain⟨D,hD⟩:∃D,Xfn code=D:=⟨_,rfl⟩
 obtain⟨R,hR⟩:∃R,Xae code=R:=⟨_,rfl⟩
 simp only[go_sem,reduceIte,↓reduceIte,reduceCtorEq,nA,nS,nM,nB,nE,nL,nT,nN,iL,iT,iE,iA,iM,iS,iG,iB,iN,iZ,h,h0,hS,hD,hR,f0,w1,w2]) (rfl)
def s24:SP Try.prog:=mkS tyA 24 Try.f24 [] {md:=[.ro 1,.ro 1,.ro 1],rets:=some ([6],[])} Try.func24 (by kernel_rfl)
@[go_sem] def d24:s24.g=24/\s24.fs=⟨[.ro 1,.ro 1,.ro 1],s24.F,false⟩:=⟨nr rfl,nr rfl⟩
@[go_sem] def e24(a b c:Int):s24.F [.i .i64 a,.i .i64 b,.i .i64 c]=some (.b (within a b c),[.u,.u,.u]):=Xy (0) rfl rfl (λcx h=>by
 simp only[go_sem,reduceIte,↓reduceIte,reduceCtorEq,nA,nS,nM,nB,nE,nL,nT,nN,iL,iT,iE,iA,iM,iS,iG,iB,iN,iZ,h,within]
 by_cases h:b<=a<;>simp[h]) (rfl)
def s25:SP Try.prog:=mkS tyA 25 Try.f25 [s24] {md:=[.ro 1],rets:=some ([2],[])} Try.func25 (by kernel_rfl)
@[go_sem] def d25:s25.g=25/\s25.fs=⟨[.ro 1],s25.F,false⟩:=⟨nr rfl,nr rfl⟩
@[go_sem] def e25(a:Int):s25.F [.i .i64 a]=some (.b (XF a),[.u]):=Xy (0) rfl rfl (λcx h=>by
 simp only[go_sem,reduceIte,↓reduceIte,reduceCtorEq,nA,nS,nM,nB,nE,nL,nT,nN,iL,iT,iE,iA,iM,iS,iG,iB,iN,iZ,h,XF]) (rfl)
end
end Go.Vm.A
