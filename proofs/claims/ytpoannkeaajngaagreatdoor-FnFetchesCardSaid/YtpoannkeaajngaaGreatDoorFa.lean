/- Functions of the program, walked by the evaluator. -/
import Derived.Test.YtpoannkeaajngaaGreatDoorWb
import Derived.Test.YtpoannkeaajngaaGreatDoorWa
set_option linter.unusedVariables false
set_option linter.unusedSimpArgs false
set_option autoImplicit false
set_option maxRecDepth 100000
set_option maxHeartbeats 4000000
set_option linter.defProp false
namespace Go.Vm.A
open Go.Proofs
open Nat renaming reduceAdd -> nA, reduceSub -> nS, reduceMul -> nM, reduceBEq -> nB, reduceEqDiff -> nE, reduceLeDiff -> nL, reduceLT -> nT, reduceBneDiff -> nN
open Int renaming reduceLE -> iL, reduceLT -> iT, reduceEq -> iE, reduceAdd -> iA, reduceMul -> iM, reduceSub -> iS, reduceNeg -> iG, reduceBEq -> iB, reduceBNe -> iN, reduceToNat -> iZ
noncomputable section
def s5:SP Tryz.prog:=mkS tyA 5 Tryz.f5 [] {md:=[.ro 1],rets:=some ([2],[])} Tryz.func5 (by kernel_rfl)
@[go_sem] def d5:s5.g=5/\s5.fs=⟨[.ro 1],s5.F,false⟩:=⟨nr rfl,nr rfl⟩
@[go_sem] def e5(code:List UInt8):s5.F [.sl .ro 1 (code.map Xn)]=some (.b (decide (1048576<(code.length:Int))),[.u]):=Xm (0) rfl rfl (λcx h=>by
 simp only[go_sem,reduceIte,↓reduceIte,reduceCtorEq,nA,nS,nM,nB,nE,nL,nT,nN,iL,iT,iE,iA,iM,iS,iG,iB,iN,iZ,h]) (rfl)
def s25:SP Tryz.prog:=mkS tyA 25 Tryz.f25 [] {md:=[.ro 1],wk:=true,rets:=some ([0,2,3],[5])} Tryz.func25 (by kernel_rfl)
@[go_sem] def d25:s25.g=25/\s25.fs=⟨[.ro 1],s25.F,true⟩:=⟨nr rfl,nr rfl⟩
@[go_sem] def e25(code:List UInt8):s25.F [.sl .ro 1 (code.map Xn)]=some (.tup [.agg [.sl .ro 1 (code.map Xn),.i .i64 0]],[.u]):=Xm (0) rfl rfl (λcx h=>by
 simp only[go_sem,reduceIte,↓reduceIte,reduceCtorEq,nA,nS,nM,nB,nE,nL,nT,nN,iL,iT,iE,iA,iM,iS,iG,iB,iN,iZ,h]) (rfl)
def bat(code:List UInt8)(i:Int):Int:=((code.getD i.toNat 0).toNat:Int)
def XW(code:List UInt8)(a n:Int):Int :=
 if n<1 then 0 else if code.length=0 then(a*7).tmod n else
  let k:Int:=code.length
  let v:=bat code (a.tmod k)+a.tdiv k*37
  let v:=if 200<n then v*251+bat code ((a+1).tmod k)*13+a else v
  let v:=if 60000<n then v*257+bat code ((a+2).tmod k) else v
  v.tmod n
def aOk(a:Int):Bool:=decide (0<=a/\a<=1000000)
def Xf2(code:List UInt8)(i:Int):0<=bat code i/\bat code i<=255:=by
 have:=(code.getD i.toNat 0).toNat_lt
 unfold bat; omega
def Xe0{a k:Int}(h0:0<=a)(hk:0<k):0<=a.tmod k/\a.tmod k<k:=⟨Int.tmod_nonneg _ h0,Int.tmod_lt_of_pos _ hk⟩
def Xdh(code:List UInt8)(a:Int)(h0:0<=a)(h:¬code.length=0):∃i:Nat,a.tmod code.length=(i:Int)/\i<code.length:=by
 have h1:=Xe0 h0 (k:=code.length) (by omega)
 exact⟨(a.tmod code.length).toNat,by omega,by omega⟩
def Xhz(code:List UInt8)(i:Nat)(h:i<code.length):bat code (i:Int)=(code[i].toNat:Int):=by
 unfold bat; simp[List.getD,h]
def s64:SP Tryz.prog:=mkS tyA 64 Tryz.f64 [] {md:=[.rw 2,.ro 1],wk:=true,rg:=[(0,[0,1],[0]),(1,[0,1],[0]),(2,[0,1,17],[0]),(3,[0,4],[0]),(4,[0,1,5],[0]),(5,[0,1,5,6],[0]),(6,[0,1,5,6,29],[0]),(7,[0,4],[0]),(8,[0,1,5,6,7],[0]),(9,[0,1,5,6,7,50],[0]),(10,[0,1,5,6,7],[0]),(11,[0,1,5,6,7,69],[0]),(12,[0,1,7],[0]),(13,[0,4],[0])],rets:=some ([0,4],[0]),plan:=[(8,(.take 0 (.take 1 (.take 2 (.take 3 (.take 4 (.take 5 (.take 6 (.take 7 (.take 8 (.take 9 (.take 10 (.take 11 (.take 12 (.take 13 (.take 14 (.one 15 .done))))))))))))))))),(10,(.take 0 (.take 1 (.take 2 (.take 3 (.take 4 (.take 5 (.take 6 (.take 7 (.take 8 (.take 9 (.take 10 (.take 11 (.take 12 (.take 13 (.take 14 (.take 15 (.take 16 (.one 17 .done))))))))))))))))))),(12,(.take 0 (.take 1 (.take 2 (.take 3 (.take 4 (.take 5 (.take 6 (.take 7 (.take 8 (.take 9 (.take 10 (.take 11 (.take 12 (.take 13 (.one 14 .done))))))))))))))))]} Tryz.func64 (by kernel_rfl)
@[go_sem] def d64:s64.g=64/\s64.fs=⟨[.rw 2,.ro 1],s64.F,true⟩:=⟨nr rfl,nr rfl⟩
@[go_sem] def e64(code:List UInt8)(a n:Int)(h1:aOk a=true):s64.F [.agg [.sl .ro 1 (code.map Xn),.i .i64 a],.i .i64 n]=some (.i .i64 (XW code a n),[.agg [.sl .ro 1 (code.map Xn),.i .i64 (a+1)],.u]):=Xm (0) rfl rfl (λcx h=>by
 have ha:0<=a/\a<=1000000:=by simpa[aOk] using h1
 have w1:(IntKind.i64).wrap (a+1)=a+1:=YC (by omega) (by omega)
 have w2:(IntKind.i64).wrap (a+1-1)=a:=by rw[YC (by omega) (by omega)]; omega
 have w3:(IntKind.i64).wrap (a*7)=a*7:=YC (by omega) (by omega)
 by_cases c1:n<1
 ·simp only[go_sem,reduceIte,↓reduceIte,reduceCtorEq,nA,nS,nM,nB,nE,nL,nT,nN,iL,iT,iE,iA,iM,iS,iG,iB,iN,iZ,h,XW,c1,w1]
 have c3:¬n=0:=by omega
 by_cases c2:(code.length:Int)=0
 ·have c2':code.length=0:=by omega
  simp only[go_sem,reduceIte,↓reduceIte,reduceCtorEq,nA,nS,nM,nB,nE,nL,nT,nN,iL,iT,iE,iA,iM,iS,iG,iB,iN,iZ,h,XW,c1,c2,c2',c3,w1,w2,w3]
 have c2':((code.length:Int)==0)=false:=by simpa using c2
 have c2n:¬code.length=0:=by omega
 obtain⟨i1,e1,l1⟩:=Xdh code a (by omega) c2n
 obtain⟨i2,e2,l2⟩:=Xdh code (a+1) (by omega) c2n
 obtain⟨i3,e3,l3⟩:=Xdh code (a+2) (by omega) c2n
 have b1:=Xhz code i1 l1
 have b2:=Xhz code i2 l2
 have b3:=Xhz code i3 l3
 have g1:=Xf2 code i1
 have g2:=Xf2 code i2
 have g3:=Xf2 code i3
 rw[b1] at g1
 rw[b2] at g2
 rw[b3] at g3
 have q0:0<=a.tdiv code.length/\a.tdiv code.length<=1000000:=⟨Int.tdiv_nonneg ha.1 (by omega),Int.le_trans (Int.tdiv_le_self _ ha.1) ha.2⟩
 obtain⟨d,hd⟩:∃d,a.tdiv code.length=d:=⟨_,rfl⟩
 rw[hd] at q0
 have w4:(IntKind.i64).wrap d=d:=YC (by omega) (by omega)
 have w5:(IntKind.i64).wrap (d*37)=d*37:=YC (by omega) (by omega)
 have w6:(IntKind.i64).wrap ((code[i1].toNat:Int)+d*37)=(code[i1].toNat:Int)+d*37:=YC (by omega) (by omega)
 have w7:(IntKind.i64).wrap (((code[i1].toNat:Int)+d*37)*251)=((code[i1].toNat:Int)+d*37)*251:=YC (by omega) (by omega)
 have w8:(IntKind.i64).wrap ((code[i2].toNat:Int)*13)=(code[i2].toNat:Int)*13:=YC (by omega) (by omega)
 have w9:(IntKind.i64).wrap (((code[i1].toNat:Int)+d*37)*251+(code[i2].toNat:Int)*13)=((code[i1].toNat:Int)+d*37)*251+(code[i2].toNat:Int)*13:=YC (by omega) (by omega)
 have w10:(IntKind.i64).wrap (((code[i1].toNat:Int)+d*37)*251+(code[i2].toNat:Int)*13+a)=((code[i1].toNat:Int)+d*37)*251+(code[i2].toNat:Int)*13+a:=YC (by omega) (by omega)
 have w11:(IntKind.i64).wrap ((((code[i1].toNat:Int)+d*37)*251+(code[i2].toNat:Int)*13+a)*257)=(((code[i1].toNat:Int)+d*37)*251+(code[i2].toNat:Int)*13+a)*257:=YC (by omega) (by omega)
 have w12:(IntKind.i64).wrap ((((code[i1].toNat:Int)+d*37)*251+(code[i2].toNat:Int)*13+a)*257+(code[i3].toNat:Int))=(((code[i1].toNat:Int)+d*37)*251+(code[i2].toNat:Int)*13+a)*257+(code[i3].toNat:Int):=YC (by omega) (by omega)
 have w13:(IntKind.i64).wrap (a+2)=a+2:=YC (by omega) (by omega)
 have v1:(IntKind.i64).wrap (code[i1].toNat:Int)=(code[i1].toNat:Int):=YC (by omega) (by omega)
 have v2:(IntKind.i64).wrap (code[i2].toNat:Int)=(code[i2].toNat:Int):=YC (by omega) (by omega)
 have v3:(IntKind.i64).wrap (code[i3].toNat:Int)=(code[i3].toNat:Int):=YC (by omega) (by omega)
 by_cases k1:200<n<;>by_cases k2:60000<n
 all_goals try omega
 all_goals simp only[go_sem,reduceIte,↓reduceIte,reduceCtorEq,nA,nS,nM,nB,nE,nL,nT,nN,iL,iT,iE,iA,iM,iS,iG,iB,iN,iZ,h,XW,c1,c2,c2',c2n,c3,w1,w2,v1,v2,v3,w4,w5,w6,w7,w8,w9,w10,w11,w12,w13,k1,k2,e1,e2,e3,hd,b1,b2,b3,Yb _ _ l1,Yb _ _ l2,Yb _ _ l3,QJ Xn code i1 l1,QJ Xn code i2 l2,QJ Xn code i3 l3]) (rfl)
def Xbo(code:List UInt8){a n:Int}(h:aOk a=true)(hn:1<=n):0<=XW code a n/\XW code a n<n:=by
 have ha:0<=a/\a<=1000000:=by simpa[aOk] using h
 have g:=Xf2 code
 unfold XW
 rw[if_neg (by omega)]
 by_cases c:code.length=0
 ·rw[if_pos c]; exact Xe0 (by omega) (by omega)
 rw[if_neg c]
 have q0:0<=a.tdiv code.length:=Int.tdiv_nonneg ha.1 (Int.natCast_nonneg _)
 have g1:=g (a.tmod code.length)
 have g2:=g ((a+1).tmod code.length)
 have g3:=g ((a+2).tmod code.length)
 refine Xe0 ?_ (by omega)
 split<;>split<;>omega
def XZ(code:List UInt8)(a:Int)(xs:List Int):Int:=xs.getD (XW code a xs.length).toNat 0
def Xf3(code:List UInt8){a:Int}(xs:List Int)(h:aOk a=true)(hx:0<xs.length):∃i:Nat,XW code a xs.length=(i:Int)/\i<xs.length:=by
 have:=Xbo code (n:=xs.length) h (by omega)
 exact⟨(XW code a xs.length).toNat,by omega,by omega⟩
def Yw(code:List UInt8)(a:Int)(xs:List ByteArray):ByteArray:=xs.getD (XW code a xs.length).toNat ⟨#[]⟩
def s28:SP Tryz.prog:=mkS tyA 28 Tryz.f28 [s64] {md:=[.rw 2,.ro 1],wk:=true,rets:=some ([0,4],[0])} Tryz.func28 (by kernel_rfl)
@[go_sem] def d28:s28.g=28/\s28.fs=⟨[.rw 2,.ro 1],s28.F,true⟩:=⟨nr rfl,nr rfl⟩
def e28(code:List UInt8)(a:Int)(xs:List ByteArray)(h1:aOk a=true)(h2:0<xs.length):s28.F [.agg [.sl .ro 1 (code.map Xn),.i .i64 a],.sl .ro 1 (xs.map Xbi)]=some (.s (Yw code a xs),[.agg [.sl .ro 1 (code.map Xn),.i .i64 (a+1)],.u]):=Xm (0) rfl rfl (λcx h=>by
 obtain⟨i,e,hi⟩:∃i:Nat,XW code a xs.length=(i:Int)/\i<xs.length:=by
  have:=Xbo code (n:=xs.length) h1 (by omega)
  exact⟨(XW code a xs.length).toNat,by omega,by omega⟩
 have e2:Yw code a xs=xs[i]:=by unfold Yw; rw[e]; simp[List.getD,hi]
 simp only[go_sem,reduceIte,↓reduceIte,reduceCtorEq,nA,nS,nM,nB,nE,nL,nT,nN,iL,iT,iE,iA,iM,iS,iG,iB,iN,iZ,h,h1,e,e2,Yb _ _ hi,QJ Xbi xs i hi]) (rfl)
@[go_sem] def XrF(code:List UInt8)(a:Int)(x0 x1:ByteArray)(h1:aOk a=true):s28.F [.agg [.sl .ro 1 (code.map Xn),.i .i64 a],.sl .ro 1 [[.s x0],[.s x1]]]=some (.s (Yw code a [x0,x1]),[.agg [.sl .ro 1 (code.map Xn),.i .i64 (a+1)],.u]):=e28 code a [x0,x1] h1 (by simp)
@[go_sem] def XrG(code:List UInt8)(a:Int)(x0 x1 x2:ByteArray)(h1:aOk a=true):s28.F [.agg [.sl .ro 1 (code.map Xn),.i .i64 a],.sl .ro 1 [[.s x0],[.s x1],[.s x2]]]=some (.s (Yw code a [x0,x1,x2]),[.agg [.sl .ro 1 (code.map Xn),.i .i64 (a+1)],.u]):=e28 code a [x0,x1,x2] h1 (by simp)
@[go_sem] def XrH(code:List UInt8)(a:Int)(x0 x1 x2 x3:ByteArray)(h1:aOk a=true):s28.F [.agg [.sl .ro 1 (code.map Xn),.i .i64 a],.sl .ro 1 [[.s x0],[.s x1],[.s x2],[.s x3]]]=some (.s (Yw code a [x0,x1,x2,x3]),[.agg [.sl .ro 1 (code.map Xn),.i .i64 (a+1)],.u]):=e28 code a [x0,x1,x2,x3] h1 (by simp)
@[go_sem] def XrI(code:List UInt8)(a:Int)(x0 x1 x2 x3 x4:ByteArray)(h1:aOk a=true):s28.F [.agg [.sl .ro 1 (code.map Xn),.i .i64 a],.sl .ro 1 [[.s x0],[.s x1],[.s x2],[.s x3],[.s x4]]]=some (.s (Yw code a [x0,x1,x2,x3,x4]),[.agg [.sl .ro 1 (code.map Xn),.i .i64 (a+1)],.u]):=e28 code a [x0,x1,x2,x3,x4] h1 (by simp)
@[go_sem] def XrJ(code:List UInt8)(a:Int)(x0 x1 x2 x3 x4 x5:ByteArray)(h1:aOk a=true):s28.F [.agg [.sl .ro 1 (code.map Xn),.i .i64 a],.sl .ro 1 [[.s x0],[.s x1],[.s x2],[.s x3],[.s x4],[.s x5]]]=some (.s (Yw code a [x0,x1,x2,x3,x4,x5]),[.agg [.sl .ro 1 (code.map Xn),.i .i64 (a+1)],.u]):=e28 code a [x0,x1,x2,x3,x4,x5] h1 (by simp)
@[go_sem] def XrK(code:List UInt8)(a:Int)(x0 x1 x2 x3 x4 x5 x6:ByteArray)(h1:aOk a=true):s28.F [.agg [.sl .ro 1 (code.map Xn),.i .i64 a],.sl .ro 1 [[.s x0],[.s x1],[.s x2],[.s x3],[.s x4],[.s x5],[.s x6]]]=some (.s (Yw code a [x0,x1,x2,x3,x4,x5,x6]),[.agg [.sl .ro 1 (code.map Xn),.i .i64 (a+1)],.u]):=e28 code a [x0,x1,x2,x3,x4,x5,x6] h1 (by simp)
@[go_sem] def XrL(code:List UInt8)(a:Int)(x0 x1 x2 x3 x4 x5 x6 x7:ByteArray)(h1:aOk a=true):s28.F [.agg [.sl .ro 1 (code.map Xn),.i .i64 a],.sl .ro 1 [[.s x0],[.s x1],[.s x2],[.s x3],[.s x4],[.s x5],[.s x6],[.s x7]]]=some (.s (Yw code a [x0,x1,x2,x3,x4,x5,x6,x7]),[.agg [.sl .ro 1 (code.map Xn),.i .i64 (a+1)],.u]):=e28 code a [x0,x1,x2,x3,x4,x5,x6,x7] h1 (by simp)
@[go_sem] def XrM(code:List UInt8)(a:Int)(x0 x1 x2 x3 x4 x5 x6 x7 x8:ByteArray)(h1:aOk a=true):s28.F [.agg [.sl .ro 1 (code.map Xn),.i .i64 a],.sl .ro 1 [[.s x0],[.s x1],[.s x2],[.s x3],[.s x4],[.s x5],[.s x6],[.s x7],[.s x8]]]=some (.s (Yw code a [x0,x1,x2,x3,x4,x5,x6,x7,x8]),[.agg [.sl .ro 1 (code.map Xn),.i .i64 (a+1)],.u]):=e28 code a [x0,x1,x2,x3,x4,x5,x6,x7,x8] h1 (by simp)
@[go_sem] def Xrl(code:List UInt8)(a:Int)(x0 x1 x2 x3 x4 x5 x6 x7 x8 x9:ByteArray)(h1:aOk a=true):s28.F [.agg [.sl .ro 1 (code.map Xn),.i .i64 a],.sl .ro 1 [[.s x0],[.s x1],[.s x2],[.s x3],[.s x4],[.s x5],[.s x6],[.s x7],[.s x8],[.s x9]]]=some (.s (Yw code a [x0,x1,x2,x3,x4,x5,x6,x7,x8,x9]),[.agg [.sl .ro 1 (code.map Xn),.i .i64 (a+1)],.u]):=e28 code a [x0,x1,x2,x3,x4,x5,x6,x7,x8,x9] h1 (by simp)
def s37:SP Tryz.prog:=mkS tyA 37 Tryz.f37 [s64] {md:=[.rw 2,.ro 1],wk:=true,rets:=some ([0,4],[0])} Tryz.func37 (by kernel_rfl)
@[go_sem] def d37:s37.g=37/\s37.fs=⟨[.rw 2,.ro 1],s37.F,true⟩:=⟨nr rfl,nr rfl⟩
def e37(code:List UInt8)(a:Int)(xs:List Int)(h1:aOk a=true)(h2:0<xs.length):s37.F [.agg [.sl .ro 1 (code.map Xn),.i .i64 a],.sl .ro 1 (xs.map XlP)]=some (.i .i64 (XZ code a xs),[.agg [.sl .ro 1 (code.map Xn),.i .i64 (a+1)],.u]):=Xm (0) rfl rfl (λcx h=>by
 obtain⟨i,e,hi⟩:=Xf3 code xs h1 h2
 have e2:XZ code a xs=xs[i]:=by unfold XZ; rw[e]; simp[List.getD,hi]
 simp only[go_sem,reduceIte,↓reduceIte,reduceCtorEq,nA,nS,nM,nB,nE,nL,nT,nN,iL,iT,iE,iA,iM,iS,iG,iB,iN,iZ,h,h1,e,e2,Yb _ _ hi,QJ XlP xs i hi]) (rfl)
@[go_sem] def XrN(code:List UInt8)(a x0 x1:Int)(h1:aOk a=true):s37.F [.agg [.sl .ro 1 (code.map Xn),.i .i64 a],.sl .ro 1 [[.i .i64 x0],[.i .i64 x1]]]=some (.i .i64 (XZ code a [x0,x1]),[.agg [.sl .ro 1 (code.map Xn),.i .i64 (a+1)],.u]):=e37 code a [x0,x1] h1 (by simp)
@[go_sem] def XrO(code:List UInt8)(a x0 x1 x2:Int)(h1:aOk a=true):s37.F [.agg [.sl .ro 1 (code.map Xn),.i .i64 a],.sl .ro 1 [[.i .i64 x0],[.i .i64 x1],[.i .i64 x2]]]=some (.i .i64 (XZ code a [x0,x1,x2]),[.agg [.sl .ro 1 (code.map Xn),.i .i64 (a+1)],.u]):=e37 code a [x0,x1,x2] h1 (by simp)
@[go_sem] def XrP(code:List UInt8)(a x0 x1 x2 x3:Int)(h1:aOk a=true):s37.F [.agg [.sl .ro 1 (code.map Xn),.i .i64 a],.sl .ro 1 [[.i .i64 x0],[.i .i64 x1],[.i .i64 x2],[.i .i64 x3]]]=some (.i .i64 (XZ code a [x0,x1,x2,x3]),[.agg [.sl .ro 1 (code.map Xn),.i .i64 (a+1)],.u]):=e37 code a [x0,x1,x2,x3] h1 (by simp)
@[go_sem] def XrQ(code:List UInt8)(a x0 x1 x2 x3 x4:Int)(h1:aOk a=true):s37.F [.agg [.sl .ro 1 (code.map Xn),.i .i64 a],.sl .ro 1 [[.i .i64 x0],[.i .i64 x1],[.i .i64 x2],[.i .i64 x3],[.i .i64 x4]]]=some (.i .i64 (XZ code a [x0,x1,x2,x3,x4]),[.agg [.sl .ro 1 (code.map Xn),.i .i64 (a+1)],.u]):=e37 code a [x0,x1,x2,x3,x4] h1 (by simp)
@[go_sem] def XrR(code:List UInt8)(a x0 x1 x2 x3 x4 x5:Int)(h1:aOk a=true):s37.F [.agg [.sl .ro 1 (code.map Xn),.i .i64 a],.sl .ro 1 [[.i .i64 x0],[.i .i64 x1],[.i .i64 x2],[.i .i64 x3],[.i .i64 x4],[.i .i64 x5]]]=some (.i .i64 (XZ code a [x0,x1,x2,x3,x4,x5]),[.agg [.sl .ro 1 (code.map Xn),.i .i64 (a+1)],.u]):=e37 code a [x0,x1,x2,x3,x4,x5] h1 (by simp)
@[go_sem] def XrS(code:List UInt8)(a x0 x1 x2 x3 x4 x5 x6:Int)(h1:aOk a=true):s37.F [.agg [.sl .ro 1 (code.map Xn),.i .i64 a],.sl .ro 1 [[.i .i64 x0],[.i .i64 x1],[.i .i64 x2],[.i .i64 x3],[.i .i64 x4],[.i .i64 x5],[.i .i64 x6]]]=some (.i .i64 (XZ code a [x0,x1,x2,x3,x4,x5,x6]),[.agg [.sl .ro 1 (code.map Xn),.i .i64 (a+1)],.u]):=e37 code a [x0,x1,x2,x3,x4,x5,x6] h1 (by simp)
@[go_sem] def XrT(code:List UInt8)(a x0 x1 x2 x3 x4 x5 x6 x7:Int)(h1:aOk a=true):s37.F [.agg [.sl .ro 1 (code.map Xn),.i .i64 a],.sl .ro 1 [[.i .i64 x0],[.i .i64 x1],[.i .i64 x2],[.i .i64 x3],[.i .i64 x4],[.i .i64 x5],[.i .i64 x6],[.i .i64 x7]]]=some (.i .i64 (XZ code a [x0,x1,x2,x3,x4,x5,x6,x7]),[.agg [.sl .ro 1 (code.map Xn),.i .i64 (a+1)],.u]):=e37 code a [x0,x1,x2,x3,x4,x5,x6,x7] h1 (by simp)
@[go_sem] def XrU(code:List UInt8)(a x0 x1 x2 x3 x4 x5 x6 x7 x8:Int)(h1:aOk a=true):s37.F [.agg [.sl .ro 1 (code.map Xn),.i .i64 a],.sl .ro 1 [[.i .i64 x0],[.i .i64 x1],[.i .i64 x2],[.i .i64 x3],[.i .i64 x4],[.i .i64 x5],[.i .i64 x6],[.i .i64 x7],[.i .i64 x8]]]=some (.i .i64 (XZ code a [x0,x1,x2,x3,x4,x5,x6,x7,x8]),[.agg [.sl .ro 1 (code.map Xn),.i .i64 (a+1)],.u]):=e37 code a [x0,x1,x2,x3,x4,x5,x6,x7,x8] h1 (by simp)
def bOk(a:Int):Bool:=decide (0<=a/\a<=900000)
def ZI{a:Int}(h:bOk a=true)(k:Int)(h0:0<=k)(h1:k<=1000):aOk (a+k)=true:=by simp only[aOk,bOk,decide_eq_true_eq] at h ⊢; omega
def Xby(code:List UInt8)(a:Int):Xd:=⟨Yw code (a+1) [⟨#[67,97,99,104,101,45,67,111,110,116,114,111,108]⟩,⟨#[99,97,99,104,101,45,99,111,110,116,114,111,108]⟩],Yw code (a+1+1) [⟨#[109,97,120,45,97,103,101,61,53]⟩,⟨#[109,97,120,45,97,103,101,61,50,44,32,115,116,97,108,101,45,119,104,105,108,101,45,114,101,118,97,108,105,100,97,116,101,61,51]⟩,⟨#[115,45,109,97,120,97,103,101,61,49,44,32,115,116,97,108,101,45,105,102,45,101,114,114,111,114,61,57]⟩,⟨#[110,111,45,115,116,111,114,101]⟩,⟨#[110,111,45,99,97,99,104,101]⟩,⟨#[112,114,105,118,97,116,101]⟩,⟨#[109,97,120,45,97,103,101,61,48,44,32,109,117,115,116,45,114,101,118,97,108,105,100,97,116,101]⟩,⟨#[109,97,120,45,97,103,101,61,120]⟩,⟨#[112,117,98,108,105,99]⟩,⟨#[109,97,120,45,97,103,101,61,54,48,44,32,115,116,97,108,101,45,119,104,105,108,101,45,114,101,118,97,108,105,100,97,116,101,61,54,48,44,32,115,116,97,108,101,45,105,102,45,101,114,114,111,114,61,54,48]⟩]⟩
def Q6(code:List UInt8)(a:Int):Xd:=if XW code a 9=0 then Xby code a else if XW code a 9=1 then Xby code a else if XW code a 9=2 then⟨⟨#[69,84,97,103]⟩,Yw code (a+1) [⟨#[34,118,49,34]⟩,⟨#[34,118,50,34]⟩,⟨#[87,47,34,118,49,34]⟩]⟩ else if XW code a 9=3 then⟨⟨#[86,97,114,121]⟩,Yw code (a+1) [⟨#[65,99,99,101,112,116]⟩,⟨#[97,99,99,101,112,116,45,108,97,110,103,117,97,103,101]⟩,⟨#[42]⟩,⟨#[65,99,99,101,112,116,44,32,88,45,65]⟩]⟩ else if XW code a 9=4 then⟨⟨#[65,103,101]⟩,Yw code (a+1) [⟨#[48]⟩,⟨#[49]⟩,⟨#[51]⟩,⟨#[120]⟩]⟩ else if XW code a 9=5 then⟨Yw code (a+1) [⟨#[69,120,112,105,114,101,115]⟩,⟨#[68,97,116,101]⟩],Yw code (a+1+1) [⟨#[84,104,117,44,32,48,49,32,74,97,110,32,49,57,55,48,32,48,48,58,48,48,58,48,53,32,71,77,84]⟩,⟨#[84,104,117,44,32,48,49,32,74,97,110,32,49,57,55,48,32,48,48,58,48,48,58,48,57,32,71,77,84]⟩,⟨#[48]⟩]⟩ else if XW code a 9=6 then⟨⟨#[83,117,114,114,111,103,97,116,101,45,75,101,121]⟩,Yw code (a+1) [⟨#[97,32,98]⟩,⟨#[97]⟩,⟨#[98,32,99]⟩]⟩
 else⟨Yw code (a+1) [⟨#[65,99,99,101,112,116]⟩,⟨#[88,45,65]⟩,⟨#[65,99,99,101,112,116,45,76,97,110,103,117,97,103,101]⟩,⟨#[83,101,114,118,101,114]⟩],Yw code (a+1+1) [⟨#[120]⟩,⟨#[121]⟩,⟨#[]⟩,⟨#[116,101,120,116,47,104,116,109,108]⟩]⟩
def QM(code:List UInt8)(a:Int):Int:=if XW code a 9=0 then a+1+1+1 else if XW code a 9=1 then a+1+1+1 else if XW code a 9=2 then a+1+1 else if XW code a 9=3 then a+1+1 else if XW code a 9=4 then a+1+1 else if XW code a 9=5 then a+1+1+1 else if XW code a 9=6 then a+1+1 else a+1+1+1
def Xdi(code:List UInt8)(a:Int):a<=QM code a/\QM code a<=a+3:=by
 unfold QM
 repeat' split
 all_goals omega
def XnU:SP Tryz.prog:=mkS tyA 119 Tryz.f119 [s28,s64] {md:=[.rw 2],wk:=true,rg:=[(0,[0,2],[0,2]),(1,[0,2,4],[0,2]),(2,[0,2,4,5],[0,2]),(3,[0,2,4,5],[0,2]),(4,[0,2],[0,2]),(5,[0,2,4,15],[0,2]),(6,[0,2],[0,2]),(7,[0,2,4,21],[0,2]),(8,[0,2],[0,2]),(9,[0,2,4,27],[0,2]),(10,[0,2],[0,2]),(11,[0,2,4,33],[0,2]),(12,[0,2],[0,2]),(13,[0,2,42],[0,2]),(14,[0,2],[0,2]),(15,[0,2],[0,2])],rets:=some ([0,2],[0,2])} Tryz.func119 (by kernel_rfl)
@[go_sem] def XEu:XnU.g=119/\XnU.fs=⟨[.rw 2],XnU.F,true⟩:=⟨nr rfl,nr rfl⟩
@[go_sem] def XEv(code:List UInt8)(a:Int)(h1:bOk a=true):XnU.F [.agg [.sl .ro 1 (code.map Xn),.i .i64 a]]=some (.agg (Xb .ro (Q6 code a)),[.agg [.sl .ro 1 (code.map Xn),.i .i64 (QM code a)]]):=Xm (0) rfl rfl (λcx h=>by
 have p0:aOk (a)=true:=by have:=ZI h1 0 (by omega) (by omega); rwa [show a+(0:Int)=a by omega] at this
 have p1:aOk (a+1)=true:=by have:=ZI h1 1 (by omega) (by omega); rwa [show a+(1:Int)=a+1 by omega] at this
 have p2:aOk (a+1+1)=true:=by have:=ZI h1 2 (by omega) (by omega); rwa [show a+(2:Int)=a+1+1 by omega] at this
 obtain⟨k,hk⟩:∃k,XW code a 9=k:=⟨_,rfl⟩
 by_cases c0:k=0
 ·subst c0
  simp only[go_sem,reduceIte,↓reduceIte,reduceCtorEq,nA,nS,nM,nB,nE,nL,nT,nN,iL,iT,iE,iA,iM,iS,iG,iB,iN,iZ,h,Q6,Xby,QM,hk,p0,p1,p2]
 have d0:(k==0)=false:=by simpa using c0
 by_cases c1:k=1
 ·subst c1
  simp only[go_sem,reduceIte,↓reduceIte,reduceCtorEq,nA,nS,nM,nB,nE,nL,nT,nN,iL,iT,iE,iA,iM,iS,iG,iB,iN,iZ,h,Q6,Xby,QM,hk,p0,p1,p2]
 have d1:(k==1)=false:=by simpa using c1
 by_cases c2:k=2
 ·subst c2
  simp only[go_sem,reduceIte,↓reduceIte,reduceCtorEq,nA,nS,nM,nB,nE,nL,nT,nN,iL,iT,iE,iA,iM,iS,iG,iB,iN,iZ,h,Q6,Xby,QM,hk,p0,p1,p2]
 have d2:(k==2)=false:=by simpa using c2
 by_cases c3:k=3
 ·subst c3
  simp only[go_sem,reduceIte,↓reduceIte,reduceCtorEq,nA,nS,nM,nB,nE,nL,nT,nN,iL,iT,iE,iA,iM,iS,iG,iB,iN,iZ,h,Q6,Xby,QM,hk,p0,p1,p2]
 have d3:(k==3)=false:=by simpa using c3
 by_cases c4:k=4
 ·subst c4
  simp only[go_sem,reduceIte,↓reduceIte,reduceCtorEq,nA,nS,nM,nB,nE,nL,nT,nN,iL,iT,iE,iA,iM,iS,iG,iB,iN,iZ,h,Q6,Xby,QM,hk,p0,p1,p2]
 have d4:(k==4)=false:=by simpa using c4
 by_cases c5:k=5
 ·subst c5
  simp only[go_sem,reduceIte,↓reduceIte,reduceCtorEq,nA,nS,nM,nB,nE,nL,nT,nN,iL,iT,iE,iA,iM,iS,iG,iB,iN,iZ,h,Q6,Xby,QM,hk,p0,p1,p2]
 have d5:(k==5)=false:=by simpa using c5
 by_cases c6:k=6
 ·subst c6
  simp only[go_sem,reduceIte,↓reduceIte,reduceCtorEq,nA,nS,nM,nB,nE,nL,nT,nN,iL,iT,iE,iA,iM,iS,iG,iB,iN,iZ,h,Q6,Xby,QM,hk,p0,p1,p2]
 have d6:(k==6)=false:=by simpa using c6
 simp only[go_sem,reduceIte,↓reduceIte,reduceCtorEq,nA,nS,nM,nB,nE,nL,nT,nN,iL,iT,iE,iA,iM,iS,iG,iB,iN,iZ,h,Q6,Xby,QM,hk,p0,p1,p2,c0,d0,c1,d1,c2,d2,c3,d3,c4,d4,c5,d5,c6,d6]) (rfl)
def nOk(n:Int):Bool:=decide (n<=100)
def lOk(a:Int):Bool:=decide (0<=a/\a<=800000)
def Xbj(code:List UInt8)(a n:Int):Int×List Xd:=(List.range n.toNat).foldl (λs _=>(QM code s.1,s.2++[Q6 code s.1])) (a,[])
def LiI(a:Int)(k:Nat)(s:Int×List Xd):Prop:=a<=s.1/\s.1<=a+3*k/\s.2.length=k
def liI(code:List UInt8){a:Int}(k:Nat)(s:Int×List Xd)(h:LiI a k s):LiI a (k+1) (QM code s.1,s.2++[Q6 code s.1]):=by
 have:=Xdi code s.1
 unfold LiI at h ⊢
 simp only[List.length_append,List.length_cons,List.length_nil]
 omega
def Xdj(code:List UInt8)(a n:Int):LiI a n.toNat (Xbj code a n):=by
 unfold Xbj
 generalize n.toNat=m
 induction m with
 | zero=>unfold LiI; simp
 | succ m ih=>rw[List.range_succ,List.foldl_append]; exact liI code m _ ih
end
end Go.Vm.A
