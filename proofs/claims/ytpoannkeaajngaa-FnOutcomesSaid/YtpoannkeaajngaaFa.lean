/- Functions of the program, walked by the evaluator. -/
import Derived.Test.YtpoannkeaajngaaWb
import Derived.Test.YtpoannkeaajngaaWa
set_option linter.unusedVariables false
set_option linter.unusedSimpArgs false
set_option autoImplicit false
set_option maxRecDepth 100000
set_option maxHeartbeats 4000000
set_option linter.defProp false
namespace Go.Vm.A
open Go.Proofs
open Nat renaming reduceAdd -> nA, reduceSub -> nS, reduceMul -> nM, reduceBEq -> nB, reduceEqDiff -> nE, reduceLeDiff -> nL, reduceLT -> nT, reduceBneDiff -> nN
open Int renaming reduceLE -> iL, reduceLT -> iT, reduceEq -> iE, reduceAdd -> iA, reduceMul -> iM, reduceSub -> iS, reduceNeg -> iG, reduceBEq -> iB, reduceBNe -> iN, reduceToNat -> iZ
noncomputable section
def s4:SP Try.prog:=mkS tyA 4 Try.f4 [] {md:=[.ro 1],rets:=some ([2],[])} Try.func4 (by kernel_rfl)
@[go_sem] def d4:s4.g=4/\s4.fs=⟨[.ro 1],s4.F,false⟩:=⟨nr rfl,nr rfl⟩
@[go_sem] def e4(code:List UInt8):s4.F [.sl .ro 1 (code.map XP)]=some (.b (decide (1048576<(code.length:Int))),[.u]):=Xy (0) rfl rfl (λcx h=>by
 simp only[go_sem,reduceIte,↓reduceIte,reduceCtorEq,nA,nS,nM,nB,nE,nL,nT,nN,iL,iT,iE,iA,iM,iS,iG,iB,iN,iZ,h]) (rfl)
def bat(code:List UInt8)(i:Int):Int:=((code.getD i.toNat 0).toNat:Int)
def YL(code:List UInt8)(a n:Int):Int :=
 if n<1 then 0 else if code.length=0 then(a*7).tmod n else
  let k:Int:=code.length
  let v:=bat code (a.tmod k)+a.tdiv k*37
  let v:=if 200<n then v*251+bat code ((a+1).tmod k)*13+a else v
  let v:=if 60000<n then v*257+bat code ((a+2).tmod k) else v
  v.tmod n
def aOk(a:Int):Bool:=decide (0<=a/\a<=1000000)
def XdY(code:List UInt8)(i:Int):0<=bat code i/\bat code i<=255:=by
 have:=(code.getD i.toNat 0).toNat_lt
 unfold bat; omega
def Xc7{a k:Int}(h0:0<=a)(hk:0<k):0<=a.tmod k/\a.tmod k<k:=⟨Int.tmod_nonneg _ h0,Int.tmod_lt_of_pos _ hk⟩
def XbL(code:List UInt8)(a:Int)(h0:0<=a)(h:¬code.length=0):∃i:Nat,a.tmod code.length=(i:Int)/\i<code.length:=by
 have h1:=Xc7 h0 (k:=code.length) (by omega)
 exact⟨(a.tmod code.length).toNat,by omega,by omega⟩
def Xfd(code:List UInt8)(i:Nat)(h:i<code.length):bat code (i:Int)=(code[i].toNat:Int):=by
 unfold bat; simp[List.getD,h]
def s33:SP Try.prog:=mkS tyA 33 Try.f33 [] {md:=[.rw 2,.ro 1],wk:=true,rg:=[(0,[0,1],[0]),(1,[0,1],[0]),(2,[0,1,17],[0]),(3,[0,4],[0]),(4,[0,1,5],[0]),(5,[0,1,5,6],[0]),(6,[0,1,5,6,29],[0]),(7,[0,4],[0]),(8,[0,1,5,6,7],[0]),(9,[0,1,5,6,7,50],[0]),(10,[0,1,5,6,7],[0]),(11,[0,1,5,6,7,69],[0]),(12,[0,1,7],[0]),(13,[0,4],[0])],rets:=some ([0,4],[0]),plan:=[(8,(.take 0 (.take 1 (.take 2 (.take 3 (.take 4 (.take 5 (.take 6 (.take 7 (.take 8 (.take 9 (.take 10 (.take 11 (.take 12 (.take 13 (.take 14 (.one 15 .done))))))))))))))))),(10,(.take 0 (.take 1 (.take 2 (.take 3 (.take 4 (.take 5 (.take 6 (.take 7 (.take 8 (.take 9 (.take 10 (.take 11 (.take 12 (.take 13 (.take 14 (.take 15 (.take 16 (.one 17 .done))))))))))))))))))),(12,(.take 0 (.take 1 (.take 2 (.take 3 (.take 4 (.take 5 (.take 6 (.take 7 (.take 8 (.take 9 (.take 10 (.take 11 (.take 12 (.take 13 (.one 14 .done))))))))))))))))]} Try.func33 (by kernel_rfl)
@[go_sem] def d33:s33.g=33/\s33.fs=⟨[.rw 2,.ro 1],s33.F,true⟩:=⟨nr rfl,nr rfl⟩
@[go_sem] def e33(code:List UInt8)(a n:Int)(h1:aOk a=true):s33.F [.agg [.sl .ro 1 (code.map XP),.i .i64 a],.i .i64 n]=some (.i .i64 (YL code a n),[.agg [.sl .ro 1 (code.map XP),.i .i64 (a+1)],.u]):=Xy (0) rfl rfl (λcx h=>by
 have ha:0<=a/\a<=1000000:=by simpa[aOk] using h1
 have w1:(IntKind.i64).wrap (a+1)=a+1:=Xv (by omega) (by omega)
 have w2:(IntKind.i64).wrap (a+1-1)=a:=by rw[Xv (by omega) (by omega)]; omega
 have w3:(IntKind.i64).wrap (a*7)=a*7:=Xv (by omega) (by omega)
 by_cases c1:n<1
 ·simp only[go_sem,reduceIte,↓reduceIte,reduceCtorEq,nA,nS,nM,nB,nE,nL,nT,nN,iL,iT,iE,iA,iM,iS,iG,iB,iN,iZ,h,YL,c1,w1]
 have c3:¬n=0:=by omega
 by_cases c2:(code.length:Int)=0
 ·have c2':code.length=0:=by omega
  simp only[go_sem,reduceIte,↓reduceIte,reduceCtorEq,nA,nS,nM,nB,nE,nL,nT,nN,iL,iT,iE,iA,iM,iS,iG,iB,iN,iZ,h,YL,c1,c2,c2',c3,w1,w2,w3]
 have c2':((code.length:Int)==0)=false:=by simpa using c2
 have c2n:¬code.length=0:=by omega
 obtain⟨i1,e1,l1⟩:=XbL code a (by omega) c2n
 obtain⟨i2,e2,l2⟩:=XbL code (a+1) (by omega) c2n
 obtain⟨i3,e3,l3⟩:=XbL code (a+2) (by omega) c2n
 have b1:=Xfd code i1 l1
 have b2:=Xfd code i2 l2
 have b3:=Xfd code i3 l3
 have g1:=XdY code i1
 have g2:=XdY code i2
 have g3:=XdY code i3
 rw[b1] at g1
 rw[b2] at g2
 rw[b3] at g3
 have q0:0<=a.tdiv code.length/\a.tdiv code.length<=1000000:=⟨Int.tdiv_nonneg ha.1 (by omega),Int.le_trans (Int.tdiv_le_self _ ha.1) ha.2⟩
 obtain⟨d,hd⟩:∃d,a.tdiv code.length=d:=⟨_,rfl⟩
 rw[hd] at q0
 have w4:(IntKind.i64).wrap d=d:=Xv (by omega) (by omega)
 have w5:(IntKind.i64).wrap (d*37)=d*37:=Xv (by omega) (by omega)
 have w6:(IntKind.i64).wrap ((code[i1].toNat:Int)+d*37)=(code[i1].toNat:Int)+d*37:=Xv (by omega) (by omega)
 have w7:(IntKind.i64).wrap (((code[i1].toNat:Int)+d*37)*251)=((code[i1].toNat:Int)+d*37)*251:=Xv (by omega) (by omega)
 have w8:(IntKind.i64).wrap ((code[i2].toNat:Int)*13)=(code[i2].toNat:Int)*13:=Xv (by omega) (by omega)
 have w9:(IntKind.i64).wrap (((code[i1].toNat:Int)+d*37)*251+(code[i2].toNat:Int)*13)=((code[i1].toNat:Int)+d*37)*251+(code[i2].toNat:Int)*13:=Xv (by omega) (by omega)
 have w10:(IntKind.i64).wrap (((code[i1].toNat:Int)+d*37)*251+(code[i2].toNat:Int)*13+a)=((code[i1].toNat:Int)+d*37)*251+(code[i2].toNat:Int)*13+a:=Xv (by omega) (by omega)
 have w11:(IntKind.i64).wrap ((((code[i1].toNat:Int)+d*37)*251+(code[i2].toNat:Int)*13+a)*257)=(((code[i1].toNat:Int)+d*37)*251+(code[i2].toNat:Int)*13+a)*257:=Xv (by omega) (by omega)
 have w12:(IntKind.i64).wrap ((((code[i1].toNat:Int)+d*37)*251+(code[i2].toNat:Int)*13+a)*257+(code[i3].toNat:Int))=(((code[i1].toNat:Int)+d*37)*251+(code[i2].toNat:Int)*13+a)*257+(code[i3].toNat:Int):=Xv (by omega) (by omega)
 have w13:(IntKind.i64).wrap (a+2)=a+2:=Xv (by omega) (by omega)
 have v1:(IntKind.i64).wrap (code[i1].toNat:Int)=(code[i1].toNat:Int):=Xv (by omega) (by omega)
 have v2:(IntKind.i64).wrap (code[i2].toNat:Int)=(code[i2].toNat:Int):=Xv (by omega) (by omega)
 have v3:(IntKind.i64).wrap (code[i3].toNat:Int)=(code[i3].toNat:Int):=Xv (by omega) (by omega)
 by_cases k1:200<n<;>by_cases k2:60000<n
 all_goals try omega
 all_goals simp only[go_sem,reduceIte,↓reduceIte,reduceCtorEq,nA,nS,nM,nB,nE,nL,nT,nN,iL,iT,iE,iA,iM,iS,iG,iB,iN,iZ,h,YL,c1,c2,c2',c2n,c3,w1,w2,v1,v2,v3,w4,w5,w6,w7,w8,w9,w10,w11,w12,w13,k1,k2,e1,e2,e3,hd,b1,b2,b3,Yg _ _ l1,Yg _ _ l2,Yg _ _ l3,YN XP code i1 l1,YN XP code i2 l2,YN XP code i3 l3]) (rfl)
def s13:SP Try.prog:=mkS tyA 13 Try.f13 [s33] {md:=[.rw 2,.ro 1],wk:=true,rets:=some ([0,4],[0])} Try.func13 (by kernel_rfl)
@[go_sem] def d13:s13.g=13/\s13.fs=⟨[.rw 2,.ro 1],s13.F,true⟩:=⟨nr rfl,nr rfl⟩
@[go_sem] def e13(code:List UInt8)(a n:Int)(h1:aOk a=true):s13.F [.agg [.sl .ro 1 (code.map XP),.i .i64 a],.i .i64 n]=some (.b (YL code a n==0),[.agg [.sl .ro 1 (code.map XP),.i .i64 (a+1)],.u]):=Xy (0) rfl rfl (λcx h=>by
 simp only[go_sem,reduceIte,↓reduceIte,reduceCtorEq,nA,nS,nM,nB,nE,nL,nT,nN,iL,iT,iE,iA,iM,iS,iG,iB,iN,iZ,h,h1]) (rfl)
def XgR(code:List UInt8){a n:Int}(h:aOk a=true)(hn:1<=n):0<=YL code a n/\YL code a n<n:=by
 have ha:0<=a/\a<=1000000:=by simpa[aOk] using h
 have g:=XdY code
 unfold YL
 rw[if_neg (by omega)]
 by_cases c:code.length=0
 ·rw[if_pos c]; exact Xc7 (by omega) (by omega)
 rw[if_neg c]
 have q0:0<=a.tdiv code.length:=Int.tdiv_nonneg ha.1 (Int.natCast_nonneg _)
 have g1:=g (a.tmod code.length)
 have g2:=g ((a+1).tmod code.length)
 have g3:=g ((a+2).tmod code.length)
 refine Xc7 ?_ (by omega)
 split<;>split<;>omega
def X5(code:List UInt8)(a:Int)(xs:List Int):Int:=xs.getD (YL code a xs.length).toNat 0
def XdZ(code:List UInt8){a:Int}(xs:List Int)(h:aOk a=true)(hx:0<xs.length):∃i:Nat,YL code a xs.length=(i:Int)/\i<xs.length:=by
 have:=XgR code (n:=xs.length) h (by omega)
 exact⟨(YL code a xs.length).toNat,by omega,by omega⟩
def s32:SP Try.prog:=mkS tyA 32 Try.f32 [s33] {md:=[.rw 2,.ro 1],wk:=true,rets:=some ([0,4],[0])} Try.func32 (by kernel_rfl)
@[go_sem] def d32:s32.g=32/\s32.fs=⟨[.rw 2,.ro 1],s32.F,true⟩:=⟨nr rfl,nr rfl⟩
def e32(code:List UInt8)(a:Int)(xs:List Int)(h1:aOk a=true)(h2:0<xs.length):s32.F [.agg [.sl .ro 1 (code.map XP),.i .i64 a],.sl .ro 1 (xs.map XiQ)]=some (.i .i64 (X5 code a xs),[.agg [.sl .ro 1 (code.map XP),.i .i64 (a+1)],.u]):=Xy (0) rfl rfl (λcx h=>by
 obtain⟨i,e,hi⟩:=XdZ code xs h1 h2
 have e2:X5 code a xs=xs[i]:=by unfold X5; rw[e]; simp[List.getD,hi]
 simp only[go_sem,reduceIte,↓reduceIte,reduceCtorEq,nA,nS,nM,nB,nE,nL,nT,nN,iL,iT,iE,iA,iM,iS,iG,iB,iN,iZ,h,h1,e,e2,Yg _ _ hi,YN XiQ xs i hi]) (rfl)
@[go_sem] def XnR(code:List UInt8)(a x0 x1:Int)(h1:aOk a=true):s32.F [.agg [.sl .ro 1 (code.map XP),.i .i64 a],.sl .ro 1 [[.i .i64 x0],[.i .i64 x1]]]=some (.i .i64 (X5 code a [x0,x1]),[.agg [.sl .ro 1 (code.map XP),.i .i64 (a+1)],.u]):=e32 code a [x0,x1] h1 (by simp)
@[go_sem] def XnS(code:List UInt8)(a x0 x1 x2:Int)(h1:aOk a=true):s32.F [.agg [.sl .ro 1 (code.map XP),.i .i64 a],.sl .ro 1 [[.i .i64 x0],[.i .i64 x1],[.i .i64 x2]]]=some (.i .i64 (X5 code a [x0,x1,x2]),[.agg [.sl .ro 1 (code.map XP),.i .i64 (a+1)],.u]):=e32 code a [x0,x1,x2] h1 (by simp)
@[go_sem] def XnT(code:List UInt8)(a x0 x1 x2 x3:Int)(h1:aOk a=true):s32.F [.agg [.sl .ro 1 (code.map XP),.i .i64 a],.sl .ro 1 [[.i .i64 x0],[.i .i64 x1],[.i .i64 x2],[.i .i64 x3]]]=some (.i .i64 (X5 code a [x0,x1,x2,x3]),[.agg [.sl .ro 1 (code.map XP),.i .i64 (a+1)],.u]):=e32 code a [x0,x1,x2,x3] h1 (by simp)
@[go_sem] def XnU(code:List UInt8)(a x0 x1 x2 x3 x4:Int)(h1:aOk a=true):s32.F [.agg [.sl .ro 1 (code.map XP),.i .i64 a],.sl .ro 1 [[.i .i64 x0],[.i .i64 x1],[.i .i64 x2],[.i .i64 x3],[.i .i64 x4]]]=some (.i .i64 (X5 code a [x0,x1,x2,x3,x4]),[.agg [.sl .ro 1 (code.map XP),.i .i64 (a+1)],.u]):=e32 code a [x0,x1,x2,x3,x4] h1 (by simp)
@[go_sem] def XnV(code:List UInt8)(a x0 x1 x2 x3 x4 x5:Int)(h1:aOk a=true):s32.F [.agg [.sl .ro 1 (code.map XP),.i .i64 a],.sl .ro 1 [[.i .i64 x0],[.i .i64 x1],[.i .i64 x2],[.i .i64 x3],[.i .i64 x4],[.i .i64 x5]]]=some (.i .i64 (X5 code a [x0,x1,x2,x3,x4,x5]),[.agg [.sl .ro 1 (code.map XP),.i .i64 (a+1)],.u]):=e32 code a [x0,x1,x2,x3,x4,x5] h1 (by simp)
@[go_sem] def XnW(code:List UInt8)(a x0 x1 x2 x3 x4 x5 x6:Int)(h1:aOk a=true):s32.F [.agg [.sl .ro 1 (code.map XP),.i .i64 a],.sl .ro 1 [[.i .i64 x0],[.i .i64 x1],[.i .i64 x2],[.i .i64 x3],[.i .i64 x4],[.i .i64 x5],[.i .i64 x6]]]=some (.i .i64 (X5 code a [x0,x1,x2,x3,x4,x5,x6]),[.agg [.sl .ro 1 (code.map XP),.i .i64 (a+1)],.u]):=e32 code a [x0,x1,x2,x3,x4,x5,x6] h1 (by simp)
@[go_sem] def XnX(code:List UInt8)(a x0 x1 x2 x3 x4 x5 x6 x7:Int)(h1:aOk a=true):s32.F [.agg [.sl .ro 1 (code.map XP),.i .i64 a],.sl .ro 1 [[.i .i64 x0],[.i .i64 x1],[.i .i64 x2],[.i .i64 x3],[.i .i64 x4],[.i .i64 x5],[.i .i64 x6],[.i .i64 x7]]]=some (.i .i64 (X5 code a [x0,x1,x2,x3,x4,x5,x6,x7]),[.agg [.sl .ro 1 (code.map XP),.i .i64 (a+1)],.u]):=e32 code a [x0,x1,x2,x3,x4,x5,x6,x7] h1 (by simp)
@[go_sem] def XnY(code:List UInt8)(a x0 x1 x2 x3 x4 x5 x6 x7 x8:Int)(h1:aOk a=true):s32.F [.agg [.sl .ro 1 (code.map XP),.i .i64 a],.sl .ro 1 [[.i .i64 x0],[.i .i64 x1],[.i .i64 x2],[.i .i64 x3],[.i .i64 x4],[.i .i64 x5],[.i .i64 x6],[.i .i64 x7],[.i .i64 x8]]]=some (.i .i64 (X5 code a [x0,x1,x2,x3,x4,x5,x6,x7,x8]),[.agg [.sl .ro 1 (code.map XP),.i .i64 (a+1)],.u]):=e32 code a [x0,x1,x2,x3,x4,x5,x6,x7,x8] h1 (by simp)
def s45:SP Try.prog:=mkS tyA 45 Try.f45 [] {md:=[.ro 1],wk:=true,rets:=some ([0,2,3],[5])} Try.func45 (by kernel_rfl)
@[go_sem] def d45:s45.g=45/\s45.fs=⟨[.ro 1],s45.F,true⟩:=⟨nr rfl,nr rfl⟩
@[go_sem] def e45(code:List UInt8):s45.F [.sl .ro 1 (code.map XP)]=some (.tup [.agg [.sl .ro 1 (code.map XP),.i .i64 0]],[.u]):=Xy (0) rfl rfl (λcx h=>by
 simp only[go_sem,reduceIte,↓reduceIte,reduceCtorEq,nA,nS,nM,nB,nE,nL,nT,nN,iL,iT,iE,iA,iM,iS,iG,iB,iN,iZ,h]) (rfl)
def bOk(a:Int):Bool:=decide (0<=a/\a<=900000)
def XaW{a:Int}(h:bOk a=true)(k:Int)(h0:0<=k)(h1:k<=1000):aOk (a+k)=true:=by simp only[aOk,bOk,decide_eq_true_eq] at h ⊢; omega
def Uq(code:List UInt8)(a:Int):Xf:=⟨X5 code a [1000,5000,300],X5 code (a+1) [1,2,3,5],X5 code (a+1+1) [500,500,1000,1,300],X5 code (a+1+1+1) [0,500,2000],X5 code (a+1+1+1+1) [1,1,2,5]⟩
def s46:SP Try.prog:=mkS tyA 46 Try.f46 [s32] {md:=[.rw 2],wk:=true,rets:=some ([0,2],[0,2])} Try.func46 (by kernel_rfl)
@[go_sem] def d46:s46.g=46/\s46.fs=⟨[.rw 2],s46.F,true⟩:=⟨nr rfl,nr rfl⟩
@[go_sem] def e46(code:List UInt8)(a:Int)(h1:bOk a=true):s46.F [.agg [.sl .ro 1 (code.map XP),.i .i64 a]]=some (.agg (Q0 .ro (Uq code a)),[.agg [.sl .ro 1 (code.map XP),.i .i64 (a+1+1+1+1+1)]]):=Xy (0) rfl rfl (λcx h=>by
 have p0:aOk (a)=true:=by have:=XaW h1 0 (by omega) (by omega); rwa [show a+(0:Int)=a by omega] at this
 have p1:aOk (a+1)=true:=by have:=XaW h1 1 (by omega) (by omega); rwa [show a+(1:Int)=a+1 by omega] at this
 have p2:aOk (a+1+1)=true:=by have:=XaW h1 2 (by omega) (by omega); rwa [show a+(2:Int)=a+1+1 by omega] at this
 have p3:aOk (a+1+1+1)=true:=by have:=XaW h1 3 (by omega) (by omega); rwa [show a+(3:Int)=a+1+1+1 by omega] at this
 have p4:aOk (a+1+1+1+1)=true:=by have:=XaW h1 4 (by omega) (by omega); rwa [show a+(4:Int)=a+1+1+1+1 by omega] at this
 simp only[go_sem,reduceIte,↓reduceIte,reduceCtorEq,nA,nS,nM,nB,nE,nL,nT,nN,iL,iT,iE,iA,iM,iS,iG,iB,iN,iZ,h,Uq,p0,p1,p2,p3,p4]) (rfl)
def QI(ms:List XQ):Int:=ms.foldl (λs x=>if x.Good=true then s else s+1) 0
def XbM:∀(ms:List XQ) (s:Int),s<=ms.foldl (λs x=>if x.Good=true then s else s+1) s/\ms.foldl (λs x=>if x.Good=true then s else s+1) s<=s+ms.length
 | [],s=>by simp
 | x :: r,s=>by
  simp only[List.foldl_cons,List.length_cons]
  cases hg:x.Good
  ·have h:=XbM r (s+1)
   simp only[Bool.false_eq_true,if_false]; omega
  ·have h:=XbM r s
   simp only[if_true]; omega
def UL(ms:List XQ):0<=QI ms/\QI ms<=ms.length:=by have:=XbM ms 0; unfold QI; omega
def s23:SP Try.prog:=mkS tyA 23 Try.f23 [] {md:=[.ro 1],rg:=[(0,[0],[]),(1,[0,3],[]),(2,[0,3,4],[]),(3,[0,3,4,8],[]),(4,[0,3,4],[]),(5,[0,3,4,16],[]),(6,[0,3,4],[]),(7,[2],[])],lv:=[(0,[0,3,4],[])],out:=[(0,[3],[])],rets:=some ([2],[])} Try.func23 (by kernel_rfl)
@[go_sem] def d23:s23.g=23/\s23.fs=⟨[.ro 1],s23.F,false⟩:=⟨nr rfl,nr rfl⟩
@[go_sem] def e23(xs:List XQ)(hb:xs.length<=1000):s23.F [.sl .ro 2 (xs.map (Xb .ro))]=some (.i .i64 (QI xs),[.u]):=Xy (xs.length+1) rfl rfl (λcx h=>by
 have hx:=hb
 have hb0:=Yk Try.f23 0 _ _ rfl rfl
 obtain⟨hI,hr⟩:=YU (cx:=cx) (blk:=0) (body:=Qz Try.f23 0) xs (λk (s:Int)=>⟨E [(0,.sl .ro 2 (xs.map (Xb .ro))),(3,.i .i64 s),(4,.i .i64 k)],B []⟩) (λs=>⟨E [(3,.i .i64 s)],B []⟩) (λx s=>(if x.Good=true then s else s+1)) (λk s=>0<=s/\s<=k)
   (λs hI G=>by simp only[go_sem,reduceIte,↓reduceIte,reduceCtorEq,nA,nS,nM,nB,nE,nL,nT,nN,iL,iT,iE,iA,iM,iS,iG,iB,iN,iZ,h,Int.lt_irrefl,hb0,hx]) (λk hk s hI=>by
    have h1:((k:Int)<(xs.length:Int)):=Int.ofNat_lt.2 hk
    have w1:(IntKind.i64).wrap (s+1)=s+1:=Xv (by omega) (by omega)
    cases hg:xs[k].Good
    all_goals exact⟨by simp<;>omega,_,λG=>by simp only[go_sem,reduceIte,↓reduceIte,reduceCtorEq,nA,nS,nM,nB,nE,nL,nT,nN,iL,iT,iE,iA,iM,iS,iG,iB,iN,iZ,h,YN (Xb .ro) xs k hk,w1,hg,h1,Yg _ _ hk,XJ (show k<9223372036854775807 by omega),hb0]<;>with_reducible rfl,by simp only[go_sem,reduceIte,↓reduceIte,reduceCtorEq,nA,nS,nM,nB,nE,nL,nT,nN,iL,iT,iE,iA,iM,iS,iG,iB,iN,iZ,h,hg]⟩) 0 (by simp) (xs.length+1) (Nat.le_refl _)
 rw[hb0] at hr
 simp only[go_sem,reduceIte,↓reduceIte,reduceCtorEq,nA,nS,nM,nB,nE,nL,nT,nN,iL,iT,iE,iA,iM,iS,iG,iB,iN,iZ,h,hr,QI]) (rfl)
def s49:SP Try.prog:=mkS tyA 49 Try.f49 [] {md:=[.ro 1,.ro 1],rg:=[(0,[0,1],[]),(1,[0,1,7],[]),(2,[4],[]),(3,[4],[])],rets:=some ([4],[])} Try.func49 (by kernel_rfl)
@[go_sem] def d49:s49.g=49/\s49.fs=⟨[.ro 1,.ro 1],s49.F,false⟩:=⟨nr rfl,nr rfl⟩
@[go_sem] def e49(a b:Int):s49.F [.i .i64 a,.i .i64 b]=some (.i .i64 (if a<b then a else b),[.u,.u]):=Xy (0) rfl rfl (λcx h=>by
 simp only[go_sem,reduceIte,↓reduceIte,reduceCtorEq,nA,nS,nM,nB,nE,nL,nT,nN,iL,iT,iE,iA,iM,iS,iG,iB,iN,iZ,h,Xz9]) (rfl)
def within(a b c:Int):Bool:=decide (b<=a)&&decide (a<=c)
def Q1{a b c:Int}:within a b c=true↔b<=a/\a<=c:=by simp[within]
def XF(a:Int):Bool:=within a 0 1000000000000000
def Y4{a:Int}:XF a=true↔0<=a/\a<=1000000000000000:=Q1
def Z2(a b:Int):Int:=if 1000000000000000<a+b then 1000000000000000 else a+b
def s42:SP Try.prog:=mkS tyA 42 Try.f42 [s49] {md:=[.ro 1,.ro 1],rets:=some ([4],[])} Try.func42 (by kernel_rfl)
@[go_sem] def d42:s42.g=42/\s42.fs=⟨[.ro 1,.ro 1],s42.F,false⟩:=⟨nr rfl,nr rfl⟩
@[go_sem] def e42(a b:Int)(h0:(XF a=true/\0<=b/\b<=1000000000000000)):s42.F [.i .i64 a,.i .i64 b]=some (.i .i64 (Z2 a b),[.u,.u]):=Xy (0) rfl rfl (λcx h=>by
 have h1:=Y4.1 h0.1
 have h2:(IntKind.i64).wrap (a+b)=a+b:=Xv (by omega) (by omega)
 simp only[go_sem,reduceIte,↓reduceIte,reduceCtorEq,nA,nS,nM,nB,nE,nL,nT,nN,iL,iT,iE,iA,iM,iS,iG,iB,iN,iZ,h,h2,Xdb,Z2]
 try (split<;>first | rfl | (simp only[Option.some.injEq,Prod.mk.injEq,AV.i.injEq,true_and,and_true]; omega))) (rfl)
def XiV(ms:List XQ):Bool:=ms.any λx=>!XF x.At
def Yc(ms:List XQ):Bool:=(ms.zip ms.tail).any λp=>decide (p.2.At<p.1.At)
def Xd(b:Breaker):Int :=
 if(within b.State 0 2&&XF b.Since&&within b.Out 0 5)=false then 3
 else if 60<(b.Marks.length:Int) then 2
 else if XiV b.Marks=true then 3
 else if Yc b.Marks=true then 1
 else if((b.State !=0&&decide (0<(b.Marks.length:Int)))||(b.State !=2&&b.Out !=0))=true then 8 else 0
def ZW{ms:List XQ}(h:XiV ms=false){m:XQ}(hm:m∈ms):XF m.At=true:=by
 have:=List.any_eq_false.1 h m hm
 simpa using this
def Xfe{α:Type}(ms:List α):(ms.zip ms.tail).length=ms.length-1:=by simp
def Xci{α:Type}(ms:List α)(k:Nat)(h:k<(ms.zip ms.tail).length):(ms.zip ms.tail)[k]=(ms[k]'(by simp at h; omega),ms[k+1]'(by simp at h; omega)):=by simp
def Xn{b:Breaker}(h:Xd b=0):(0<=b.State/\b.State<=2)/\(0<=b.Since/\b.Since<=1000000000000000)/\(0<=b.Out/\b.Out<=5)/\b.Marks.length<=60/\XiV b.Marks=false/\Yc b.Marks=false/\(b.State≠0->b.Marks=[])/\(b.State≠2->b.Out=0):=by
 unfold Xd at h
 split at h
 ·cases h
 split at h
 ·cases h
 split at h
 ·cases h
 split at h
 ·cases h
 split at h
 ·cases h
 rename_i h1 h2 h3 h4 h5
 simp only[Bool.and_eq_false_iff,not_or,Bool.not_eq_false,Q1,Y4] at h1
 simp only[Bool.or_eq_true,Bool.and_eq_true,bne_iff_ne,ne_eq,decide_eq_true_eq,not_or,not_and,Classical.not_not] at h5
 refine⟨by omega,by omega,by omega,by omega,by simpa using h3,by simpa using h4,λhs=>?_,h5.2⟩
 have:=h5.1 hs
 cases hm:b.Marks with
 | nil=>rfl
 | cons x r=>rw[hm] at this; simp at this
def Xr(r:Xf):Int:=if(within r.Window 1 1000000&&within r.Min 1 50&&within r.Ratio 1 1000&&within r.Cool 0 1000000&&within r.Quota 1 5)=true then 0 else 3
def X3{r:Xf}(h:Xr r=0):1<=r.Window/\r.Window<=1000000/\1<=r.Min/\r.Min<=50/\1<=r.Ratio/\r.Ratio<=1000/\0<=r.Cool/\r.Cool<=1000000/\1<=r.Quota/\r.Quota<=5:=by
 unfold Xr at h
 split at h
 ·rename_i hc
  simp only[Bool.and_eq_true,Q1] at hc
  omega
 ·cases h
def XD(b:Breaker)(r:Xf)(now:Int):Int :=
 if Xd b≠0 then Xd b else if Xr r≠0 then Xr r
 else if(!XF now||decide (now<b.Since)||b.Marks.any λx=>decide (now<x.At))=true then 3 else 0
def Xd0:∀{ms:List XQ} (now:Int),Yc ms=false->(ms.any λx=>decide (now<x.At))=(match ms.getLast? with
  | some m=>decide (now<m.At)
  | none=>false)
 | [],_,_=>rfl
 | [x],_,_=>by simp
 | x :: y :: r,now,h=>by
  simp only[Yc,List.tail_cons,List.zip_cons_cons,List.any_cons,Bool.or_eq_false_iff,decide_eq_false_iff_not] at h
  have ih:=Xd0 (ms:=y :: r) now h.2
  rw[List.any_cons,ih,List.getLast?_cons_cons]
  have key:decide (now<x.At)=true->(match (y :: r).getLast? with
   | some m=>decide (now<m.At)
   | none=>false)=true:=by
   intro hx
   rw[<-ih,List.any_cons]
   have h1:=of_decide_eq_true hx
   have h2:=h.1
   simp only[Bool.or_eq_true,decide_eq_true_eq]
   left; omega
  cases hx:decide (now<x.At) with
  | false=>simp
  | true=>rw[key hx]; rfl
def Xel{ms:List XQ}(h:0<ms.length):ms.getLast?=some (ms[ms.length-1]'(by omega)):=by
 rw[List.getLast?_eq_getElem?,List.getElem?_eq_getElem (by omega)]
def Z0{b:Breaker}{r:Xf}{now:Int}(h:XD b r now=0):Xd b=0/\Xr r=0/\XF now=true/\b.Since<=now:=by
 unfold XD at h
 by_cases h1:Xd b=0
 ·rw[if_neg (by simp[h1])] at h
  by_cases h2:Xr r=0
  ·rw[if_neg (by simp[h2])] at h
   split at h
   ·cases h
   ·rename_i hc
    simp only[Bool.or_eq_true,not_or,Bool.not_eq_true',Bool.not_eq_false,decide_eq_true_eq] at hc
    exact⟨h1,h2,hc.1.1,by omega⟩
  ·rw[if_pos h2] at h; exact absurd h h2
 ·rw[if_pos h1] at h; exact absurd h h1
def Xd1{α:Type}(p:α->Bool):∀(xs:List α) (k:Nat),XaU p xs k<0->XaU p xs k =-1
 | [],_,_=>rfl
 | x :: xs,k,h=>by
  rw[XaU] at h ⊢
  split at h
  ·omega
  ·rename_i hc; rw[if_neg hc]; exact Xd1 p xs (k+1) h
def Xff{α:Type}(p:α->Bool)(xs:List α)(h:XaU p xs 0 =-1):xs.filter (λx=>!(p x))=xs:=by
 have h2:=Xam (p:=p) xs 0
 rw[h] at h2
 rw[List.filter_eq_self]
 intro x hx
 have:=List.any_eq_false.1 h2.symm x hx
 simpa using this
def XgS{α:Type}(p:α->Bool)(xs:List α)(h:0<=XaU p xs 0):∃i:Nat,XaU p xs 0=(i:Int)/\i<xs.length/\(∀x,xs[i]?=some x->p x=true)/\∀j x,j<i->xs[j]?=some x->p x=false:=by
 have key:∀(xs:List α) (k:Nat),0<=XaU p xs k->∃i:Nat,XaU p xs k=((k+i:Nat):Int)/\i<xs.length/\(∀x,xs[i]?=some x->p x=true)/\∀j x,j<i->xs[j]?=some x->p x=false:=by
  intro xs
  induction xs with
  | nil=>intro k h; simp[XaU] at h
  | cons x xs ih =>
   intro k h
   rw[XaU] at h ⊢
   by_cases hc:p x=true
   ·rw[if_pos hc]
    exact⟨0,rfl,by simp,λy hy=>by simp at hy; rw[<-hy]; exact hc,λj y hj=>absurd hj (by omega)⟩
   ·rw[if_neg hc] at h ⊢
    obtain⟨i,h1,h2,h3,h4⟩:=ih (k+1) h
    refine⟨i+1,by rw[h1]; omega,by simp; omega,λy hy=>h3 y (by simpa using hy),λj y hj hy=>?_⟩
    cases j with
    | zero=>simp at hy; rw[<-hy]; simpa using hc
    | succ j=>exact h4 j y (by omega) (by simpa using hy)
 obtain⟨i,h1,h2⟩:=key xs 0 h
 exact⟨i,by rw[h1]; omega,h2⟩
def XiW{α:Type}(p:α->Bool)(xs:List α)(j:Nat)(s:List α×Nat):Prop:=s.1.length=xs.length/\s.1.take s.2=(xs.take j).filter (λx=>!(p x))/\s.1.drop j=xs.drop j/\s.2<j
def Xfg{α:Type}{p:α->Bool}{xs:List α}{i:Nat}(h1:i<xs.length)(h2:∀x,xs[i]?=some x->p x=true)(h3:∀j x,j<i->xs[j]?=some x->p x=false):XiW p xs (i+1+0) (xs,i):=by
 refine⟨rfl,?_,rfl,by simp⟩
 simp only[Nat.add_zero]
 rw[List.take_succ_eq_append_getElem h1,List.filter_append]
 have e1:(xs.take i).filter (λx=>!(p x))=xs.take i:=by
  rw[List.filter_eq_self]
  intro x hx
  obtain⟨j,hj⟩:=List.getElem?_of_mem hx
  rw[List.getElem?_take] at hj
  split at hj
  ·rename_i hji; simp[h3 j x hji hj]
  ·cases hj
 rw[e1,List.filter_cons,h2 _ (List.getElem?_eq_getElem h1)]
 simp
def XgT{α:Type}{p:α->Bool}{xs:List α}{j:Nat}{s:List α×Nat}(h:XiW p xs j s)(hj:j<xs.length):s.1[j]'(by rw[h.1]; exact hj)=xs[j]:=by
 have h1:=h.2.2.1
 rw[List.drop_eq_getElem_cons hj,List.drop_eq_getElem_cons (by rw[h.1]; exact hj)] at h1
 exact(List.cons.inj h1).1
def Xfh{α:Type}{p:α->Bool}{xs:List α}{j:Nat}{s:List α×Nat}(h:XiW p xs j s)(hj:j<xs.length):XiW p xs (j+1) (if p xs[j]=true then s else(s.1.set s.2 xs[j],s.2+1)):=by
 obtain⟨h1,h2,h3,h4⟩:=h
 have h5:s.1.drop (j+1)=xs.drop (j+1):=by
  have:=congrArg (List.drop 1) h3
  simpa[List.drop_drop,Nat.add_comm] using this
 by_cases hp:p xs[j]=true
 ·rw[if_pos hp]
  refine⟨h1,?_,h5,by omega⟩
  rw[h2,List.take_succ_eq_append_getElem hj,List.filter_append,List.filter_cons,hp]
  simp
 ·rw[if_neg hp]
  refine⟨by simp[h1],?_,?_,by simp; omega⟩
  ·simp only
   rw[List.take_succ_eq_append_getElem (by simp; omega),List.getElem_set_self,List.take_set_of_le (Nat.le_refl _),h2,List.take_succ_eq_append_getElem hj,List.filter_append,List.filter_cons]
   simp[hp]
  ·simp only
   rw[List.drop_set_of_lt (by omega)]
   exact h5
def XgU{α:Type}{p:α->Bool}{xs:List α}{j:Nat}{s:List α×Nat}(h:XiW p xs j s):s.1.length=xs.length:=h.1
def XgV{α:Type}{p:α->Bool}{xs:List α}{j:Nat}{s:List α×Nat}(h:XiW p xs j s)(hj:xs.length<=j):s.1.take s.2=xs.filter (λx=>!(p x)):=by
 rw[h.2.1,List.take_of_length_le hj]
def XaX(z lo n:Nat)(es:List (List AV))(h:lo<=es.length):(Yh z lo n es).take lo=es.take lo:=by
 unfold Yh
 rw[List.append_assoc,List.take_append_of_le_length (by simp; omega),List.take_take,Nat.min_self]
end
end Go.Vm.A
