/- Functions of the program, walked by the evaluator. -/
import Derived.Test.YtpoannkeaajngaaGreatDoorWb
import Derived.Test.YtpoannkeaajngaaGreatDoorWa
import Derived.Test.YtpoannkeaajngaaGreatDoorFa
import Derived.Test.YtpoannkeaajngaaGreatDoorFb
set_option linter.unusedVariables false
set_option linter.unusedSimpArgs false
set_option autoImplicit false
set_option maxRecDepth 100000
set_option maxHeartbeats 4000000
set_option linter.defProp false
namespace Go.Vm.A
open Go.Proofs
open Nat renaming reduceAdd -> nA, reduceSub -> nS, reduceMul -> nM, reduceBEq -> nB, reduceEqDiff -> nE, reduceLeDiff -> nL, reduceLT -> nT, reduceBneDiff -> nN
open Int renaming reduceLE -> iL, reduceLT -> iT, reduceEq -> iE, reduceAdd -> iA, reduceMul -> iM, reduceSub -> iS, reduceNeg -> iG, reduceBEq -> iB, reduceBNe -> iN, reduceToNat -> iZ
noncomputable section
def s27:SP Tryz.prog:=mkS tyA 27 Tryz.f27 [s64] {md:=[.rw 2,.ro 1],wk:=true,rets:=some ([0,4],[0])} Tryz.func27 (by kernel_rfl)
@[go_sem] def d27:s27.g=27/\s27.fs=⟨[.rw 2,.ro 1],s27.F,true⟩:=⟨nr rfl,nr rfl⟩
@[go_sem] def e27(code:List UInt8)(a n:Int)(h1:aOk a=true):s27.F [.agg [.sl .ro 1 (code.map Xn),.i .i64 a],.i .i64 n]=some (.b (XW code a n==0),[.agg [.sl .ro 1 (code.map Xn),.i .i64 (a+1)],.u]):=Xm (0) rfl rfl (λcx h=>by
 simp only[go_sem,reduceIte,↓reduceIte,reduceCtorEq,nA,nS,nM,nB,nE,nL,nT,nN,iL,iT,iE,iA,iM,iS,iG,iB,iN,iZ,h,h1]) (rfl)
def Xoo(code:List UInt8)(a:Int):ByteArray:=Yw code a [⟨#[97,46,99,111,109,47]⟩,⟨#[97,46,99,111,109,47,120]⟩,⟨#[98,46,111,114,103,47,120]⟩,⟨#[97,46,99,111,109,47,121,63,97,61,49,38,98,61,50]⟩,⟨#[107,49]⟩,⟨#[107,50]⟩,⟨#[107,51]⟩,⟨#[107,52]⟩,⟨#[107,53]⟩]
def Xop:SP Tryz.prog:=mkS tyA 120 Tryz.f120 [s28] {md:=[.rw 2],wk:=true,rets:=some ([0,2],[0])} Tryz.func120 (by kernel_rfl)
@[go_sem] def XEA:Xop.g=120/\Xop.fs=⟨[.rw 2],Xop.F,true⟩:=⟨nr rfl,nr rfl⟩
@[go_sem] def XEB(code:List UInt8)(a:Int)(h1:aOk a=true):Xop.F [.agg [.sl .ro 1 (code.map Xn),.i .i64 a]]=some (.s (Xoo code a),[.agg [.sl .ro 1 (code.map Xn),.i .i64 (a+1)]]):=Xm (0) rfl rfl (λcx h=>by
 simp only[go_sem,reduceIte,↓reduceIte,reduceCtorEq,nA,nS,nM,nB,nE,nL,nT,nN,iL,iT,iE,iA,iM,iS,iG,iB,iN,iZ,h,Xoo,h1]) (rfl)
def Xcj(code:List UInt8)(a:Int):List UInt8:=(Yw code a [⟨#[111,110,101]⟩,⟨#[116,119,111]⟩,⟨#[]⟩,⟨#[116,104,114,101,101,32,116,104,114,101,101]⟩,⟨#[13,10,13,10]⟩,⟨#[120]⟩]).data.toList
def Xe4(code:List UInt8)(a:Int):Int:=XZ code (a+1+1) [0,1,1000,XW code a 5000,XW code (a+1) 900000,1000000000000000,999999999999999,500000000000000,500000000000001]
def tOk(a:Int):Bool:=decide (0<=a/\a<=850000)
def Uz{a:Int}(h:tOk a=true)(k:Int)(h0:0<=k)(h1:k<=1000):bOk (a+k)=true:=by simp only[tOk,bOk,decide_eq_true_eq] at h ⊢; omega
def Xdl(code:List UInt8)(a:Int):Meta:=if XW code a 9==0 then⟨Xe4 code (a+1),Xe4 code (a+4),Xe4 code (a+7),Xe4 code (a+10),Xe4 code (a+13),XW code (a+16) 4==0,false⟩
 else⟨XW code (a+1) 900,XZ code (a+2) [0,0,500,1000],XZ code (a+3) [0,1000,2000,5000],XZ code (a+4) [0,1000,3000],XZ code (a+5) [0,2000,4000],XW code (a+6) 5==0,XW code (a+7) 6==0⟩
def Xak(code:List UInt8)(a:Int):Int:=if XW code a 9==0 then a+17 else a+8
def Xcy(code:List UInt8)(a:Int):Meta:=if XW code (Xak code a) 20=0 then{Xdl code a with At:=-1} else if XW code (Xak code a) 20=1 then{Xdl code a with Age:=1000000000000001} else if XW code (Xak code a) 20=2 then{Xdl code a with Sie:=-1} else Xdl code a
def Xbq(code:List UInt8)(a:Int):a+8<=Xak code a/\Xak code a<=a+17:=by unfold Xak; split<;>omega
def XnV:SP Tryz.prog:=mkS tyA 121 Tryz.f121 [s28] {md:=[.rw 2],wk:=true,rets:=some ([0,2],[0])} Tryz.func121 (by kernel_rfl)
@[go_sem] def XEC:XnV.g=121/\XnV.fs=⟨[.rw 2],XnV.F,true⟩:=⟨nr rfl,nr rfl⟩
@[go_sem] def XED(code:List UInt8)(a:Int)(h1:aOk a=true):XnV.F [.agg [.sl .ro 1 (code.map Xn),.i .i64 a]]=some (.sl .mut 1 ((Xcj code a).map Xn),[.agg [.sl .ro 1 (code.map Xn),.i .i64 (a+1)]]):=Xm (0) rfl rfl (λcx h=>by
 have z:(Yw code a [⟨#[111,110,101]⟩,⟨#[116,119,111]⟩,⟨#[]⟩,⟨#[116,104,114,101,101,32,116,104,114,101,101]⟩,⟨#[13,10,13,10]⟩,⟨#[120]⟩]).size<=20:=by
  refine Xdk code _ 20 h1 (by simp) λx hx=>?_
  simp only[List.mem_cons,List.not_mem_nil,or_false] at hx
  rcases hx with rfl | rfl | rfl | rfl | rfl | rfl<;>decide
 have z1:(Yw code a [⟨#[111,110,101]⟩,⟨#[116,119,111]⟩,⟨#[]⟩,⟨#[116,104,114,101,101,32,116,104,114,101,101]⟩,⟨#[13,10,13,10]⟩,⟨#[120]⟩]).size<=9223372036854775807:=by omega
 simp only[go_sem,reduceIte,↓reduceIte,reduceCtorEq,nA,nS,nM,nB,nE,nL,nT,nN,iL,iT,iE,iA,iM,iS,iG,iB,iN,iZ,h,Xcj,h1,z1]
 rfl) (rfl)
def Xoq:SP Tryz.prog:=mkS tyA 162 Tryz.f162 [s37,s64] {md:=[.rw 2],wk:=true,rets:=some ([0,2],[0])} Tryz.func162 (by kernel_rfl)
@[go_sem] def XEE:Xoq.g=162/\Xoq.fs=⟨[.rw 2],Xoq.F,true⟩:=⟨nr rfl,nr rfl⟩
@[go_sem] def XEF(code:List UInt8)(a:Int)(h1:bOk a=true):Xoq.F [.agg [.sl .ro 1 (code.map Xn),.i .i64 a]]=some (.i .i64 (Xe4 code a),[.agg [.sl .ro 1 (code.map Xn),.i .i64 (a+1+1+1)]]):=Xm (0) rfl rfl (λcx h=>by
 have p0:aOk (a)=true:=by have:=ZI h1 0 (by omega) (by omega); rwa [show a+(0:Int)=a by omega] at this
 have p1:aOk (a+1)=true:=by have:=ZI h1 1 (by omega) (by omega); rwa [show a+(1:Int)=a+1 by omega] at this
 have p2:aOk (a+1+1)=true:=by have:=ZI h1 2 (by omega) (by omega); rwa [show a+(2:Int)=a+1+1 by omega] at this
 simp only[go_sem,reduceIte,↓reduceIte,reduceCtorEq,nA,nS,nM,nB,nE,nL,nT,nN,iL,iT,iE,iA,iM,iS,iG,iB,iN,iZ,h,Xe4,p0,p1,p2]) (rfl)
def XnW:SP Tryz.prog:=mkS tyA 122 Tryz.f122 [s27,s37,s64,Xoq] {md:=[.rw 2],wk:=true,rg:=[(0,[0,2],[0,2]),(1,[0,2,4],[0,2]),(2,[0,2],[0,2]),(3,[0,2],[0,2])],rets:=some ([0,2],[0,2])} Tryz.func122 (by kernel_rfl)
@[go_sem] def XEG:XnW.g=122/\XnW.fs=⟨[.rw 2],XnW.F,true⟩:=⟨nr rfl,nr rfl⟩
@[go_sem] def XEH(code:List UInt8)(a:Int)(h1:tOk a=true):XnW.F [.agg [.sl .ro 1 (code.map Xn),.i .i64 a]]=some (.agg (XeV .ro (Xdl code a)),[.agg [.sl .ro 1 (code.map Xn),.i .i64 (Xak code a)]]):=Xm (0) rfl rfl (λcx h=>by
 have h1':bOk a=true:=by simp only[tOk,bOk,decide_eq_true_eq] at h1 ⊢; omega
 have b0:bOk (a+0)=true:=Uz h1 0 (by omega) (by omega)
 have b1:bOk (a+1)=true:=Uz h1 1 (by omega) (by omega)
 have b2:bOk (a+2)=true:=Uz h1 2 (by omega) (by omega)
 have b3:bOk (a+3)=true:=Uz h1 3 (by omega) (by omega)
 have b4:bOk (a+4)=true:=Uz h1 4 (by omega) (by omega)
 have b5:bOk (a+5)=true:=Uz h1 5 (by omega) (by omega)
 have b6:bOk (a+6)=true:=Uz h1 6 (by omega) (by omega)
 have b7:bOk (a+7)=true:=Uz h1 7 (by omega) (by omega)
 have b8:bOk (a+8)=true:=Uz h1 8 (by omega) (by omega)
 have b9:bOk (a+9)=true:=Uz h1 9 (by omega) (by omega)
 have b10:bOk (a+10)=true:=Uz h1 10 (by omega) (by omega)
 have b11:bOk (a+11)=true:=Uz h1 11 (by omega) (by omega)
 have b12:bOk (a+12)=true:=Uz h1 12 (by omega) (by omega)
 have b13:bOk (a+13)=true:=Uz h1 13 (by omega) (by omega)
 have b14:bOk (a+14)=true:=Uz h1 14 (by omega) (by omega)
 have b15:bOk (a+15)=true:=Uz h1 15 (by omega) (by omega)
 have b16:bOk (a+16)=true:=Uz h1 16 (by omega) (by omega)
 have p1:aOk (a+1)=true:=ZI h1' 1 (by omega) (by omega)
 have p2:aOk (a+2)=true:=ZI h1' 2 (by omega) (by omega)
 have p3:aOk (a+3)=true:=ZI h1' 3 (by omega) (by omega)
 have p4:aOk (a+4)=true:=ZI h1' 4 (by omega) (by omega)
 have p5:aOk (a+5)=true:=ZI h1' 5 (by omega) (by omega)
 have p6:aOk (a+6)=true:=ZI h1' 6 (by omega) (by omega)
 have p7:aOk (a+7)=true:=ZI h1' 7 (by omega) (by omega)
 have p8:aOk (a+8)=true:=ZI h1' 8 (by omega) (by omega)
 have p9:aOk (a+9)=true:=ZI h1' 9 (by omega) (by omega)
 have p10:aOk (a+10)=true:=ZI h1' 10 (by omega) (by omega)
 have p11:aOk (a+11)=true:=ZI h1' 11 (by omega) (by omega)
 have p12:aOk (a+12)=true:=ZI h1' 12 (by omega) (by omega)
 have p13:aOk (a+13)=true:=ZI h1' 13 (by omega) (by omega)
 have p14:aOk (a+14)=true:=ZI h1' 14 (by omega) (by omega)
 have p15:aOk (a+15)=true:=ZI h1' 15 (by omega) (by omega)
 have p16:aOk (a+16)=true:=ZI h1' 16 (by omega) (by omega)
 have p17:aOk (a+17)=true:=ZI h1' 17 (by omega) (by omega)
 have p0:aOk a=true:=by have:=ZI h1' 0 (by omega) (by omega); rwa [Int.add_zero] at this
 cases c0:XW code a 9==0<;>simp only[go_sem,reduceIte,↓reduceIte,reduceCtorEq,nA,nS,nM,nB,nE,nL,nT,nN,iL,iT,iE,iA,iM,iS,iG,iB,iN,iZ,h,Xdl,Xak,c0,h1',p0,p1,p2,p3,p4,p5,p6,p7,p8,p9,p10,p11,p12,p13,p14,p15,p16,p17,b1,b2,b3,b4,b5,b6,b7,b8,b9,b10,b11,b12,b13,b14,b15,b16,Int.add_assoc,Int.reduceAdd]) (rfl)
def Xbr{c v:UInt8}(h:c≠v):((c.toNat:Int)==(v.toNat:Int))=false:=by
 simp only[beq_eq_false_iff_ne,ne_eq,Int.ofNat_inj]
 exact λe=>h (UInt8.toNat_inj.1 e)
def ZM(c:UInt8):Bool:=(decide (97<=(c.toNat:Int))&&decide ((c.toNat:Int)<=122))||(decide (65<=(c.toNat:Int))&&decide ((c.toNat:Int)<=90))
def Z6(c:UInt8):Bool:=decide (48<=(c.toNat:Int))&&decide ((c.toNat:Int)<=57)
def Xjy(l:List UInt8)(c:UInt8):0<=Lib.indexByte l c↔c∈l:=by
 induction l with
 | nil=>simp[Lib.indexByte]
 | cons b l ih =>
  have:=Lib.indexByte_ge l c
  unfold Lib.indexByte
  by_cases hb:b=c
  ·simp[hb]
  ·by_cases hx:Lib.indexByte l c =-1
   ·have hn:¬c∈l:=λh=>by have:=ih.2 h; omega
    simp[hx,hn,hb,Ne.symm hb]
   ·have h2:0<=Lib.indexByte l c:=by omega
    simp[hb,hx,ih.1 h2]; omega
def ixB(s:ByteArray)(c:UInt8):Int:=Lib.indexByte s.data.toList c
def XhA(l:List UInt8)(c:UInt8):decide (0<=ixB ⟨l.toArray⟩ c)=l.contains c:=by
 rw[Bool.eq_iff_iff,decide_eq_true_eq,List.contains_iff_mem]
 exact Xjy l c
def Xor(c:UInt8):((c.toNat:Int)).toNat.toUInt8=c:=by simp
def Xch(p:UInt8->Bool)(lo hi:Int)(t:ByteArray):Bool:=decide (lo<=(t.size:Int))&&decide ((t.size:Int)<=hi)&&t.data.toList.all p
def Zu{p:UInt8->Bool}{lo hi:Int}{t:ByteArray}(h:(t.size:Int)<lo):Xch p lo hi t=false:=by
 have:¬lo<=(t.size:Int):=by omega
 simp[Xch,this]
def ZV{p:UInt8->Bool}{lo hi:Int}{t:ByteArray}(h:hi<(t.size:Int)):Xch p lo hi t=false:=by
 have:¬(t.size:Int)<=hi:=by omega
 simp[Xch,this]
def Qc{p:UInt8->Bool}{lo hi:Int}{t:ByteArray}(h:¬(t.size:Int)<lo)(h':¬hi<(t.size:Int)):Xch p lo hi t=t.data.toList.all p:=by
 have h1:lo<=(t.size:Int):=by omega
 have h2:(t.size:Int)<=hi:=by omega
 simp[Xch,h1,h2]
def ZT{α:Type}{p:α->Bool}:∀{xs:List α} {u u':Unit},Xci (λx _=>!p x) (λ_ _=>()) xs u=.inl u'->xs.all p=true
 | [],_,_,_=>rfl
 | x :: xs,u,u',h=>by
  rw[YJ] at h
  split at h
  ·cases h
  ·rename_i hc
   simp only[List.all_cons,ZT h,Bool.and_true]
   simpa using hc
def Zi{α:Type}{p:α->Bool}:∀{xs:List α} {u:Unit} {q:α×Unit},Xci (λx _=>!p x) (λ_ _=>()) xs u=.inr q->xs.all p=false
 | [],_,_,h=>by cases h
 | x :: xs,u,q,h=>by
  rw[YJ] at h
  split at h
  ·rename_i hc
   have:p x=false:=by simpa using hc
   simp[this]
  ·simp only[List.all_cons,Zi h,Bool.and_false]
def Xal(t:ByteArray)(k:Nat)(h:k<t.data.toList.length):t.data[k]?.getD 0=t.data.toList[k]:=by
 have h':k<t.data.size:=by simpa using h
 rw[Array.getElem?_eq_getElem h']
 simp
def Xi(t:ByteArray):t.size=t.data.toList.length:=by
 show t.data.size=_
 simp
def XdY(code:List UInt8)(a:Int):Int×List Xd:=Xbj code (a+3) (XW code (a+2) 3)
def Xlo(code:List UInt8)(a:Int):Int:=Xak code ((XdY code a).1+2)
def XbA(code:List UInt8)(a:Int):X2:=⟨Xoo code a,XZ code (a+1) [200,200,404,410],(XdY code a).2,Xcj code (XdY code a).1++List.replicate (XZ code ((XdY code a).1+1) [0,0,40,90]).toNat 0,Xdl code ((XdY code a).1+2),[Yw code (Xlo code a) [⟨#[97]⟩,⟨#[98]⟩,⟨#[99]⟩]],XZ code (Xlo code a+1) [0,0,0,1]⟩
def Xjk(code:List UInt8)(a:Int):Int:=Xlo code a+2
def Xe5(code:List UInt8){a:Int}(h:aOk (a+2)=true):a+3<=(XdY code a).1/\(XdY code a).1<=a+12/\(XdY code a).2.length<=2/\nOk (XW code (a+2) 3)=true:=by
 have h1:=Xbo code (n:=3) h (by omega)
 have h2:=Xdj code (a+3) (XW code (a+2) 3)
 unfold LiI at h2
 unfold XdY
 simp only[nOk,decide_eq_true_eq]
 omega
def Xe6(code:List UInt8){a:Int}(h:aOk (a+2)=true):a<=Xjk code a/\Xjk code a<=a+40:=by
 have h1:=Xe5 code h
 have h2:=Xbq code ((XdY code a).1+2)
 unfold Xjk Xlo
 omega
def XdZ(code:List UInt8){a:Int}(h:aOk a=true):(Xcj code a).length<=20:=by
 unfold Xcj
 rw[<-Xi]
 refine Xdk code _ 20 h (by simp) λx hx=>?_
 simp only[List.mem_cons,List.not_mem_nil,or_false] at hx
 rcases hx with rfl | rfl | rfl | rfl | rfl | rfl<;>decide
def s66:SP Tryz.prog:=mkS tyA 66 Tryz.f66 [s28,s37,s64,Xln,Xop,XnV,XnW] {md:=[.rw 2],wk:=true,rets:=some ([0,2,11,17,19,23],[0,2])} Tryz.func66 (by kernel_rfl)
@[go_sem] def d66:s66.g=66/\s66.fs=⟨[.rw 2],s66.F,true⟩:=⟨nr rfl,nr rfl⟩
@[go_sem] def e66(code:List UInt8)(a:Int)(h1:dOk a=true):s66.F [.agg [.sl .ro 1 (code.map Xn),.i .i64 a]]=some (.agg (XaJ .mut (XbA code a)),[.agg [.sl .ro 1 (code.map Xn),.i .i64 (Xjk code a)]]):=Xm (0) rfl rfl (λcx h=>by
 have h1':=h1
 simp only[dOk,decide_eq_true_eq] at h1'
 have p0:aOk a=true:=by simp only[aOk,decide_eq_true_eq]; omega
 have p1:aOk (a+1)=true:=by simp only[aOk,decide_eq_true_eq]; omega
 have p2:aOk (a+2)=true:=by simp only[aOk,decide_eq_true_eq]; omega
 have p3:lOk (a+3)=true:=by simp only[lOk,decide_eq_true_eq]; omega
 have hD:=Xe5 code p2
 have hn:=hD.2.2.2
 have hu:XbA code a=⟨Xoo code a,XZ code (a+1) [200,200,404,410],(XdY code a).2,Xcj code (XdY code a).1++List.replicate (XZ code ((XdY code a).1+1) [0,0,40,90]).toNat 0,Xdl code ((XdY code a).1+2),[Yw code (Xlo code a) [⟨#[97]⟩,⟨#[98]⟩,⟨#[99]⟩]],XZ code (Xlo code a+1) [0,0,0,1]⟩:=rfl
 have hM:Xlo code a=Xak code ((XdY code a).1+2):=rfl
 have hE:Xjk code a=Xlo code a+2:=rfl
 have hDD:Xbj code (a+3) (XW code (a+2) 3)=XdY code a:=rfl
 obtain⟨D,hD2⟩:∃D,XdY code a=D:=⟨_,rfl⟩
 rw[hD2] at hD hu hM hDD
 obtain⟨d,hs⟩:=D
 simp only at hD hu hM
 have q0:aOk d=true:=by simp only[aOk,decide_eq_true_eq]; omega
 have q1:aOk (d+1)=true:=by simp only[aOk,decide_eq_true_eq]; omega
 have q2:tOk (d+2)=true:=by simp only[tOk,decide_eq_true_eq]; omega
 have hle:=Xbq code (d+2)
 obtain⟨M,hMM⟩:∃M,Xak code (d+2)=M:=⟨_,rfl⟩
 rw[hMM] at hle hM
 rw[hM] at hu hE
 have q3:aOk M=true:=by simp only[aOk,decide_eq_true_eq]; omega
 have q4:aOk (M+1)=true:=by simp only[aOk,decide_eq_true_eq]; omega
 have m1:=YX code [0,0,40,90] q1 (by simp)
 simp only[List.mem_cons,List.not_mem_nil,or_false] at m1
 have hb:=XdZ code q0
 obtain⟨B,hB⟩:∃B,Xcj code d=B:=⟨_,rfl⟩
 obtain⟨Z,hZ⟩:∃Z,XZ code (d+1) [0,0,40,90]=Z:=⟨_,rfl⟩
 rw[hB] at hb hu
 rw[hZ] at m1 hu
 have t1:0<=Z:=by omega
 have t2:Z.toNat*1<=140737488355328:=by omega
 have t3:(B.length+Z.toNat)*1<=140737488355328:=by omega
 have t4:B.map Xn++List.replicate Z.toNat [.i .u8 0]=(B++List.replicate Z.toNat 0).map Xn:=by simp[Xn]
 simp only[go_sem,reduceIte,↓reduceIte,reduceCtorEq,nA,nS,nM,nB,nE,nL,nT,nN,iL,iT,iE,iA,iM,iS,iG,iB,iN,iZ,h,p0,p1,p2,p3,hn,hDD,q0,q1,q2,q3,q4,hMM,hM,hB,hZ,t1,t2,t3,t4,hu,hE,List.length_replicate,List.length_map,Int.add_assoc,Int.reduceAdd]) (rfl)
def s67:SP Tryz.prog:=mkS tyA 67 Tryz.f67 [s64,XnW] {md:=[.rw 2],wk:=true,rg:=[(0,[0,2],[0,2,3]),(1,[0,2,3],[0,2,3]),(2,[0,2,3,7],[0,2,3]),(3,[0,2,3,7,8],[0,2,3]),(4,[0,2,3],[0,2,3]),(5,[0,2,3,7,11],[0,2,3]),(6,[0,2,3],[0,2,3]),(7,[0,2,3,14],[0,2,3]),(8,[0,2,3],[0,2,3]),(9,[0,2],[0,2,3])],rets:=some ([0,2],[0,2,3])} Tryz.func67 (by kernel_rfl)
@[go_sem] def d67:s67.g=67/\s67.fs=⟨[.rw 2],s67.F,true⟩:=⟨nr rfl,nr rfl⟩
@[go_sem] def e67(code:List UInt8)(a:Int)(h1:tOk a=true):s67.F [.agg [.sl .ro 1 (code.map Xn),.i .i64 a]]=some (.agg (XeV .ro (Xcy code a)),[.agg [.sl .ro 1 (code.map Xn),.i .i64 (Xak code a+1)]]):=Xm (0) rfl rfl (λcx h=>by
 obtain⟨M,hM⟩:∃M,Xdl code a=M:=⟨_,rfl⟩
 have hle:=Xbq code a
 obtain⟨A,hA⟩:∃A,Xak code a=A:=⟨_,rfl⟩
 rw[hA] at hle
 have h1':=h1
 simp only[tOk,decide_eq_true_eq] at h1'
 have p0:aOk A=true:=by simp only[aOk,decide_eq_true_eq]; omega
 obtain⟨k,hk⟩:∃k,XW code A 20=k:=⟨_,rfl⟩
 by_cases c0:k=0
 ·subst c0
  simp only[go_sem,reduceIte,↓reduceIte,reduceCtorEq,nA,nS,nM,nB,nE,nL,nT,nN,iL,iT,iE,iA,iM,iS,iG,iB,iN,iZ,h,h1,hM,hA,p0,hk,Xcy]
 have d0:(k==0)=false:=by simpa using c0
 by_cases c1:k=1
 ·subst c1
  simp only[go_sem,reduceIte,↓reduceIte,reduceCtorEq,nA,nS,nM,nB,nE,nL,nT,nN,iL,iT,iE,iA,iM,iS,iG,iB,iN,iZ,h,h1,hM,hA,p0,hk,Xcy]
 have d1:(k==1)=false:=by simpa using c1
 by_cases c2:k=2
 ·subst c2
  simp only[go_sem,reduceIte,↓reduceIte,reduceCtorEq,nA,nS,nM,nB,nE,nL,nT,nN,iL,iT,iE,iA,iM,iS,iG,iB,iN,iZ,h,h1,hM,hA,p0,hk,Xcy]
 have d2:(k==2)=false:=by simpa using c2
 simp only[go_sem,reduceIte,↓reduceIte,reduceCtorEq,nA,nS,nM,nB,nE,nL,nT,nN,iL,iT,iE,iA,iM,iS,iG,iB,iN,iZ,h,h1,hM,hA,p0,hk,Xcy,c0,d0,c1,d1,c2,d2]) (rfl)
def Xam(code:List UInt8){a:Int}(h:dOk a=true):a<=(QN code a).1/\(QN code a).1<=a+1200/\(QN code a).2.length<=30:=by
 simp only[dOk,decide_eq_true_eq] at h
 obtain⟨i1,i2,i3,_⟩:=Xe3 code (show aOk a=true by simp only[aOk,decide_eq_true_eq]; omega)
 have i4:=Xbp code ((Uv code a).1+1)
 have m1:=YX code [20,21] (show aOk ((Uv code a).1+1)=true by simp only[aOk,decide_eq_true_eq]; omega) (by simp)
 simp only[List.mem_cons,List.not_mem_nil,or_false] at m1
 have i5:XgA code (Uv code a).1 (Uv code a).2.length<=21:=by unfold XgA; omega
 have i6:=Xe2 code ((Uv code a).1+1+1,(Uv code a).2) (XgA code (Uv code a).1 (Uv code a).2.length)
 simp only at i6
 unfold QN
 simp only
 repeat' split
 all_goals (try simp only[List.length_append,List.length_cons,List.length_nil])<;>omega
def Xf4(code:List UInt8){a:Int}(h:eOk a=true):a<=(Zh code a).1/\(Zh code a).1<=a+1300:=by
 simp only[eOk,decide_eq_true_eq] at h
 have i1:=Xbz code (show dOk a=true by simp only[dOk,decide_eq_true_eq]; omega)
 have i2:=Xam code (a:=(Xe1 code a).1+1) (by simp only[dOk,decide_eq_true_eq]; omega)
 unfold Zh
 simp only
 repeat' split
 all_goals simp only<;>omega
def XlV(code:List UInt8){a:Int}(h:aOk a=true):(Xoo code a).size<=20:=by
 refine Xdk code _ 20 h (by simp) λx hx=>?_
 simp only[List.mem_cons,List.not_mem_nil,or_false] at hx
 rcases hx with rfl | rfl | rfl | rfl | rfl | rfl | rfl | rfl | rfl<;>decide
def Xf5(code:List UInt8){a:Int}(h:eOk a=true):(Zh code a).2.Headers.length<=30:=by
 simp only[eOk,decide_eq_true_eq] at h
 have i1:=Xbz code (show dOk a=true by simp only[dOk,decide_eq_true_eq]; omega)
 have i2:=Xam code (a:=(Xe1 code a).1+1) (by simp only[dOk,decide_eq_true_eq]; omega)
 have i3:(Xjw code a).Headers.length<=2:=i1.2.2
 unfold Zh
 simp only
 repeat' split
 all_goals (try simp only[List.length_append,List.length_cons,List.length_nil])<;>omega
def XlW(code:List UInt8)(p:Int)(l:Nat):Nat:=(XZ code (p+1) [500,501]-l).toNat
def Xdm(code:List UInt8)(a:Int):Int×X2 :=
 let e:=XbA code a
 let p:=Xjk code a
 let k:=XW code p 18
 if k=0 then(p+1,{e with Key:=⟨#[]⟩})
 else if k=1 then(p+1+1,{e with Status:=XZ code (p+1) [304,500,0]})
 else if k=2 then(p+1+1,{e with Pins:=XZ code (p+1) [-1,20,21]})
 else if k=3 then((QN code (p+1)).1,{e with Headers:=(QN code (p+1)).2})
 else if k=4 then(p+1+1,{e with Body:=List.replicate (XZ code (p+1) [2000,2001]).toNat 0})
 else if k=5 then(Xak code (p+1)+1,{e with Meta:=Xcy code (p+1)})
 else if k=6 then(p+1+1,{e with Key:=Yn 107 e.Key (XlW code p e.Key.size)})
 else(p+1,e)
def XhB(code:List UInt8){a:Int}(h:aOk a=true):(XbA code a).Key.size<=20:=XlV code h
def Xe7(code:List UInt8){a:Int}(h:eOk a=true):a<=(Xdm code a).1/\(Xdm code a).1<=a+1300/\(Xdm code a).2.Headers.length<=30:=by
 simp only[eOk,decide_eq_true_eq] at h
 have p2:aOk (a+2)=true:=by simp only[aOk,decide_eq_true_eq]; omega
 have h1:=Xe6 code p2
 have h2:=Xe5 code p2
 have h3:=Xam code (a:=Xjk code a+1) (by simp only[dOk,decide_eq_true_eq]; omega)
 have h4:=Xbq code (Xjk code a+1)
 have h5:(XbA code a).Headers.length<=2:=h2.2.2.1
 unfold Xdm
 simp only
 repeat' split
 all_goals simp only<;>omega
def s29:SP Tryz.prog:=mkS tyA 29 Tryz.f29 [s37,s64,s65,s66,s67] {md:=[.rw 2],wk:=true,rg:=[(0,[0,2],[0,2,3]),(1,[0,2,3],[0,2,3]),(2,[0,2,3,8],[0,2,3]),(3,[0,2,3,8,9],[0,2,3]),(4,[0,2,3],[0,2,3]),(5,[0,2,3,8,12],[0,2,3]),(6,[0,2,3],[0,2,3]),(7,[0,2,3,8,18],[0,2,3]),(8,[0,2,3],[0,2,3]),(9,[0,2,3,8,24],[0,2,3]),(10,[0,2,3],[0,2,3]),(11,[0,2,3,8,29],[0,2,3]),(12,[0,2,3],[0,2,3]),(13,[0,2,3,8,36],[0,2,3]),(14,[0,2,3],[0,2,3]),(15,[0,2,3,41],[0,2,3]),(16,[0,2,3,4],[0,2,3]),(17,[0,2,3,4,50],[0,2,3]),(18,[0,2,3,4],[0,2,3]),(19,[0,2],[0,2,3])],lv:=[(1,[0,2,3,4],[0,2,3])],out:=[(1,[0,2,3],[0,2,3])],rets:=some ([0,2],[0,2,3])} Tryz.func29 (by kernel_rfl)
@[go_sem] def d29:s29.g=29/\s29.fs=⟨[.rw 2],s29.F,true⟩:=⟨nr rfl,nr rfl⟩
@[go_sem] def e29(code:List UInt8)(a:Int)(h1:eOk a=true):s29.F [.agg [.sl .ro 1 (code.map Xn),.i .i64 a]]=some (.agg (XaJ .mut (Xdm code a).2),[.agg [.sl .ro 1 (code.map Xn),.i .i64 (Xdm code a).1]]):=Xm (600) rfl rfl (λcx h=>by
 have ha:=h1
 simp only[eOk,decide_eq_true_eq] at ha
 have p0:dOk a=true:=by simp only[dOk,decide_eq_true_eq]; omega
 have pa:aOk a=true:=by simp only[aOk,decide_eq_true_eq]; omega
 have i1:=Xe6 code (a:=a) (by simp only[aOk,decide_eq_true_eq]; omega)
 have i2:=XhB code pa
 obtain⟨p,hp⟩:∃p,Xjk code a=p:=⟨_,rfl⟩
 obtain⟨e,hr⟩:∃e,XbA code a=e:=⟨_,rfl⟩
 rw[hp] at i1
 rw[hr] at i2
 have p2:aOk p=true:=by simp only[aOk,decide_eq_true_eq]; omega
 have p3:aOk (p+1)=true:=by simp only[aOk,decide_eq_true_eq]; omega
 have p4:dOk (p+1)=true:=by simp only[dOk,decide_eq_true_eq]; omega
 have p5:tOk (p+1)=true:=by simp only[tOk,decide_eq_true_eq]; omega
 obtain⟨k,hk⟩:∃k,XW code p 18=k:=⟨_,rfl⟩
 by_cases c0:k=0
 ·subst c0
  simp only[go_sem,reduceIte,↓reduceIte,reduceCtorEq,nA,nS,nM,nB,nE,nL,nT,nN,iL,iT,iE,iA,iM,iS,iG,iB,iN,iZ,h,Xdm,hr,hp,hk,p0,p2,p3,p4]
 have d0:(k==0)=false:=by simpa using c0
 by_cases c1:k=1
 ·subst c1
  simp only[go_sem,reduceIte,↓reduceIte,reduceCtorEq,nA,nS,nM,nB,nE,nL,nT,nN,iL,iT,iE,iA,iM,iS,iG,iB,iN,iZ,h,Xdm,hr,hp,hk,p0,p2,p3,p4]
 have d1:(k==1)=false:=by simpa using c1
 by_cases c2:k=2
 ·subst c2
  simp only[go_sem,reduceIte,↓reduceIte,reduceCtorEq,nA,nS,nM,nB,nE,nL,nT,nN,iL,iT,iE,iA,iM,iS,iG,iB,iN,iZ,h,Xdm,hr,hp,hk,p0,p2,p3,p4]
 have d2:(k==2)=false:=by simpa using c2
 by_cases c3:k=3
 ·subst c3
  simp only[go_sem,reduceIte,↓reduceIte,reduceCtorEq,nA,nS,nM,nB,nE,nL,nT,nN,iL,iT,iE,iA,iM,iS,iG,iB,iN,iZ,h,Xdm,hr,hp,hk,p0,p2,p3,p4]
 have d3:(k==3)=false:=by simpa using c3
 by_cases c4:k=4
 ·subst c4
  have m1:=YX code [2000,2001] p3 (by simp)
  simp only[List.mem_cons,List.not_mem_nil,or_false] at m1
  obtain⟨K,hK⟩:∃K,XZ code (p+1) [2000,2001]=K:=⟨_,rfl⟩
  rw[hK] at m1
  have t1:0<=K:=by omega
  have t2:K*1<=140737488355328:=by omega
  have t4:List.replicate K.toNat [AV.i .u8 0]=(List.replicate K.toNat (0:UInt8)).map Xn:=by simp[Xn]
  simp only[go_sem,reduceIte,↓reduceIte,reduceCtorEq,nA,nS,nM,nB,nE,nL,nT,nN,iL,iT,iE,iA,iM,iS,iG,iB,iN,iZ,h,Xdm,hr,hp,hk,p0,p2,p3,p4,hK,t1,t2,t4]
 have d4:(k==4)=false:=by simpa using c4
 by_cases c5:k=5
 ·subst c5
  simp only[go_sem,reduceIte,↓reduceIte,reduceCtorEq,nA,nS,nM,nB,nE,nL,nT,nN,iL,iT,iE,iA,iM,iS,iG,iB,iN,iZ,h,Xdm,hr,hp,hk,p0,p2,p3,p4,p5]
 have d5:(k==5)=false:=by simpa using c5
 by_cases c6:k=6
 ·subst c6
  have m1:=YX code [500,501] p3 (by simp)
  simp only[List.mem_cons,List.not_mem_nil,or_false] at m1
  obtain⟨K,hK⟩:∃K,XZ code (p+1) [500,501]=K:=⟨_,rfl⟩
  obtain⟨M,hM⟩:∃M,XlW code p e.Key.size=M:=⟨_,rfl⟩
  have hM1:=hM
  unfold XlW at hM1
  rw[hK] at m1 hM1
  have hz:=Ym 107 e.Key M
  have hKM:¬(((e.Key.size+M:Nat):Int)<K):=by omega
  have hb0:=XR Tryz.f29 0 _ _ rfl rfl
  obtain⟨hI,hr1⟩:=YK (cx:=cx) (blk:=1) (body:=Zt Tryz.f29 0) (List.range M) (λk (s:Unit)=>⟨E [(0,.p ⟨false,0,[],0⟩),(2,.p ⟨false,2,[],0⟩),(3,.p ⟨false,3,[],0⟩),(4,.i .i64 K)],B [(0,[.sl .ro 1 (code.map Xn),.i .i64 (p+1+1)]),(2,[.s ⟨#[]⟩,.i .i64 0,.sl .mut 2 [],.sl .mut 1 [],.i .i64 0,.i .i64 0,.i .i64 0,.i .i64 0,.i .i64 0,.b false,.b false,.sl .mut 1 [],.i .i64 0]),(3,[.s (Yn 107 e.Key k),.i .i64 e.Status,.sl .mut 2 (e.Headers.map (Xb .mut)),.sl .mut 1 (e.Body.map Xn),.i .i64 e.Meta.At,.i .i64 e.Meta.Age,.i .i64 e.Meta.Life,.i .i64 e.Meta.Swr,.i .i64 e.Meta.Sie,.b e.Meta.Soft,.b e.Meta.NoCache,.sl .mut 1 (e.Tags.map Xbi),.i .i64 e.Pins])]⟩) (λs=>⟨E [(0,.p ⟨false,0,[],0⟩),(2,.p ⟨false,2,[],0⟩),(3,.p ⟨false,3,[],0⟩)],B [(0,[.sl .ro 1 (code.map Xn),.i .i64 (p+1+1)]),(2,[.s ⟨#[]⟩,.i .i64 0,.sl .mut 2 [],.sl .mut 1 [],.i .i64 0,.i .i64 0,.i .i64 0,.i .i64 0,.i .i64 0,.b false,.b false,.sl .mut 1 [],.i .i64 0]),(3,[.s (Yn 107 e.Key M),.i .i64 e.Status,.sl .mut 2 (e.Headers.map (Xb .mut)),.sl .mut 1 (e.Body.map Xn),.i .i64 e.Meta.At,.i .i64 e.Meta.Age,.i .i64 e.Meta.Life,.i .i64 e.Meta.Swr,.i .i64 e.Meta.Sie,.b e.Meta.Soft,.b e.Meta.NoCache,.sl .mut 1 (e.Tags.map Xbi),.i .i64 e.Pins])]⟩) (λx s=>()) (λk s=>True)
    (λs hI G=>by simp only[go_sem,reduceIte,↓reduceIte,reduceCtorEq,nA,nS,nM,nB,nE,nL,nT,nN,iL,iT,iE,iA,iM,iS,iG,iB,iN,iZ,h,Int.lt_irrefl,hb0,List.length_range,hz,hKM]) (λk hk s hI=>by
     have h1:((k:Int)<((List.range M).length:Int)):=Int.ofNat_lt.2 hk
     simp only[List.length_range] at hk h1
     have z1:=Ym 107 e.Key k
     have t1:((e.Key.size+k:Nat):Int)<K:=by omega
     have t3:e.Key.size+k+(#[107]:Array UInt8).size<=9223372036854775807:=by simp; omega
     have t5:Yn 107 e.Key k++⟨#[107]⟩=Yn 107 e.Key (k+1):=rfl
     exact⟨trivial,_,λG=>by simp only[go_sem,reduceIte,↓reduceIte,reduceCtorEq,nA,nS,nM,nB,nE,nL,nT,nN,iL,iT,iE,iA,iM,iS,iG,iB,iN,iZ,h,z1,t1,t3,t5,h1,Yb _ _ hk,XD (show k<9223372036854775807 by omega),hb0]<;>with_reducible rfl,by simp only[go_sem,reduceIte,↓reduceIte,reduceCtorEq,nA,nS,nM,nB,nE,nL,nT,nN,iL,iT,iE,iA,iM,iS,iG,iB,iN,iZ,h]⟩) () trivial 600 (by simp; omega)
  rw[hb0] at hr1
  rw[show Yn 107 e.Key 0=e.Key from rfl] at hr1
  simp only[go_sem,reduceIte,↓reduceIte,reduceCtorEq,nA,nS,nM,nB,nE,nL,nT,nN,iL,iT,iE,iA,iM,iS,iG,iB,iN,iZ,h,Xdm,hr,hp,hk,p0,p2,p3,p4,hM,hK,hr1]
 have d6:(k==6)=false:=by simpa using c6
 simp only[go_sem,reduceIte,↓reduceIte,reduceCtorEq,nA,nS,nM,nB,nE,nL,nT,nN,iL,iT,iE,iA,iM,iS,iG,iB,iN,iZ,h,Xdm,hr,hp,hk,p0,p2,p3,p4,c0,d0,c1,d1,c2,d2,c3,d3,c4,d4,c5,d5,c6,d6]) (rfl)
end
end Go.Vm.A
