/- Functions of the program, walked by the evaluator. -/
import Derived.Test.YtebnbhjcfanddaaGreatDoorWb
import Derived.Test.YtebnbhjcfanddaaGreatDoorWa
import Derived.Test.YtebnbhjcfanddaaGreatDoorFa
import Derived.Test.YtebnbhjcfanddaaGreatDoorFb
import Derived.Test.YtebnbhjcfanddaaGreatDoorFc
set_option linter.unusedVariables false
set_option linter.unusedSimpArgs false
set_option autoImplicit false
set_option maxRecDepth 100000
set_option maxHeartbeats 4000000
set_option linter.defProp false
namespace Go.Vm.A
open Go.Proofs
open Nat renaming reduceAdd -> nA, reduceSub -> nS, reduceMul -> nM, reduceBEq -> nB, reduceEqDiff -> nE, reduceLeDiff -> nL, reduceLT -> nT, reduceBneDiff -> nN
open Int renaming reduceLE -> iL, reduceLT -> iT, reduceEq -> iE, reduceAdd -> iA, reduceMul -> iM, reduceSub -> iS, reduceNeg -> iG, reduceBEq -> iB, reduceBNe -> iN, reduceToNat -> iZ
noncomputable section
def Xm7:SP Tryz.prog:=mkS tyA 186 Tryz.f186 [XnV] {md:=[.ro 1,.ro 1],rets:=some ([4],[])} Tryz.func186 (by kernel_rfl)
@[go_sem] def XDX:Xm7.g=186/\Xm7.fs=⟨[.ro 1,.ro 1],Xm7.F,false⟩:=⟨nr rfl,nr rfl⟩
@[go_sem] def XDY(s:ByteArray)(c:UInt8):Xm7.F [.s s,.i .u8 c.toNat]=some (.i .i64 (ixB s c),[.u,.u]):=Xm (0) rfl rfl (λcx h=>by
 simp only[go_sem,reduceIte,↓reduceIte,nA,nB,h]) (rfl)
def Xln:SP Tryz.prog:=mkS tyA 133 Tryz.f133 [Xm6,Xlm,Xm7] {md:=[.ro 1],rets:=some ([2],[])} Tryz.func133 (by kernel_rfl)
@[go_sem] def XDZ:Xln.g=133/\Xln.fs=⟨[.ro 1],Xln.F,false⟩:=⟨nr rfl,nr rfl⟩
@[go_sem] def XD0(c:UInt8):Xln.F [.i .u8 c.toNat]=some (.b (Uk c),[.u]):=Xm (0) rfl rfl (λcx h=>by
 have hix:=Xlg c
 have hu:Uk c=(Qg c||Qs c||Xgk.contains c):=rfl
 cases h1:Qg c<;>cases h2:Qs c<;>cases h3:Xgk.contains c<;>simp only[go_sem,reduceIte,↓reduceIte,nA,nB,nE,h,h1,h2,h3,hu,hix]) (rfl)
def Xm8:SP Tryz.prog:=mkS tyA 207 Tryz.f207 [] {md:=[.ro 1],rets:=some ([2],[])} Tryz.func207 (by kernel_rfl)
@[go_sem] def XD1:Xm8.g=207/\Xm8.fs=⟨[.ro 1],Xm8.F,false⟩:=⟨nr rfl,nr rfl⟩
@[go_sem] def XD2(c:UInt8):Xm8.F [.i .u8 c.toNat]=some (.b (UM c),[.u]):=Xm (0) rfl rfl (λcx h=>by
 cases h1:((c.toNat:Int)==9)<;>by_cases h2:32<=(c.toNat:Int)<;>by_cases h3:(c.toNat:Int)<=126<;>simp only[go_sem,reduceIte,↓reduceIte,nB,h,h1,h2,h3,UM]) (rfl)
def XnW:SP Tryz.prog:=mkS tyA 122 Tryz.f122 [Xm6,Xlm] {md:=[.ro 1],rets:=some ([2],[])} Tryz.func122 (by kernel_rfl)
@[go_sem] def XD3:XnW.g=122/\XnW.fs=⟨[.ro 1],XnW.F,false⟩:=⟨nr rfl,nr rfl⟩
@[go_sem] def XD4(c:UInt8):XnW.F [.i .u8 c.toNat]=some (.b (Xhk c),[.u]):=Xm (0) rfl rfl (λcx h=>by
 cases h1:Qg c<;>cases h2:Qs c<;>cases h3:((c.toNat:Int)==46)<;>cases h4:((c.toNat:Int)==45)<;>simp only[go_sem,reduceIte,↓reduceIte,nB,nE,h,h1,h2,h3,h4,Xhk]) (rfl)
def XnX:SP Tryz.prog:=mkS tyA 123 Tryz.f123 [Xln,Xm7] {md:=[.ro 1],rets:=some ([2],[])} Tryz.func123 (by kernel_rfl)
@[go_sem] def XD5:XnX.g=123/\XnX.fs=⟨[.ro 1],XnX.F,false⟩:=⟨nr rfl,nr rfl⟩
@[go_sem] def XD6(c:UInt8):XnX.F [.i .u8 c.toNat]=some (.b (Xhm c),[.u]):=Xm (0) rfl rfl (λcx h=>by
 have hix:=Xi9 c
 have hu:Xhm c=(Uk c||Xhl.contains c):=rfl
 cases h1:Uk c<;>cases h3:Xhl.contains c<;>simp only[go_sem,reduceIte,↓reduceIte,nA,nB,nE,h,h1,h3,hu,hix]) (rfl)
def XiU:SP Tryz.prog:=mkS tyA 121 Tryz.f121 [XnW,XnX,Xln,Xlm,Xm8] {md:=[.ro 1,.ro 1,.ro 1,.ro 1],rg:=[(0,[0,1,2,3],[]),(1,[0,3,19],[]),(2,[8],[]),(3,[0,3,21,22],[]),(4,[0,3,21,22,23],[]),(5,[0,3,9,21,22],[]),(6,[0,3,21,22,30],[]),(7,[8],[]),(8,[0,3,21,22],[]),(9,[8],[])],lv:=[(0,[0,3,21,22],[])],out:=[(0,[],[])],rets:=some ([8],[])} Tryz.func121 (by kernel_rfl)
@[go_sem] def XD7:XiU.g=121/\XiU.fs=⟨[.ro 1,.ro 1,.ro 1,.ro 1],XiU.F,false⟩:=⟨nr rfl,nr rfl⟩
@[go_sem] def Xo6(t:ByteArray)(lo hi:Int)(hb:hi<=1000000):XiU.F [.s t,.i .i64 lo,.i .i64 hi,.fn 133 []]=some (.b (XfN Uk lo hi t),[.u,.u,.u,.u]):=Xm (t.data.toList.length+1) rfl rfl (λcx h=>by
 by_cases h1:(t.size:Int)<lo
 ·simp only[go_sem,reduceIte,↓reduceIte,nA,nB,nE,h,h1,Z9 h1]
 by_cases h2:hi<(t.size:Int)
 ·simp only[go_sem,reduceIte,↓reduceIte,nA,nB,nE,h,h1,h2,QD h2]
 have hx:t.data.toList.length<=9223372036854775806:=by rw[<-Xo]; omega
 have ha:=QR (p:=Uk) h1 h2
 rw[Xo t] at h1 h2
 ·have hb0:=XG Tryz.f121 0 _ _ rfl rfl
  obtain⟨r,hr,hq⟩:=Y3 (cx:=cx) (blk:=0) (body:=Za Tryz.f121 0) t.data.toList (λk (s:Unit)=>⟨E [(0,.s t),(3,.fn 133 []),(21,.i .i64 t.size),(22,.i .i64 k)],B []⟩) (λs=>⟨E [],B []⟩) (λx s=>!Uk x) (λx s=>()) (λx s=>(.ret,⟨E [(8,.b false)],B []⟩)) (λk s=>True)
    (λs hI G=>by simp only[go_sem,reduceIte,↓reduceIte,nB,nE,h,Int.lt_irrefl,hb0,Xo t]) (λk hk s hI=>by
     have h1:((k:Int)<(t.data.toList.length:Int)):=Int.ofNat_lt.2 hk
     have hz:=Xbq t k hk
     exact⟨_,_,_,λG=>by simp only[go_sem,reduceIte,↓reduceIte,nB,nE,h,hz,Xo t,h1,X0 _ _ hk,Xz (show k<9223372036854775807 by omega),hb0]<;>with_reducible rfl,Iff.rfl,λhc=>⟨trivial,by simp only[go_sem,reduceIte,↓reduceIte,nB,h,Xo t]⟩⟩) () trivial (t.data.toList.length+1) (Nat.le_refl _)
  rw[hb0] at hr
  rcases hq with⟨s',e1,_,e3⟩ | ⟨x,s',e1,e3⟩
  ·simp only[go_sem,reduceIte,↓reduceIte,nA,nB,nE,h,h1,h2,Xo t,hr,e3,ha,Qt e1]
  ·simp only[go_sem,reduceIte,↓reduceIte,nA,nB,nE,h,h1,h2,Xo t,hr,e3,ha,ZI e1]) (rfl)
@[go_sem] def Xo7(t:ByteArray)(lo hi:Int)(hb:hi<=1000000):XiU.F [.s t,.i .i64 lo,.i .i64 hi,.fn 207 []]=some (.b (XfN UM lo hi t),[.u,.u,.u,.u]):=Xm (t.data.toList.length+1) rfl rfl (λcx h=>by
 by_cases h1:(t.size:Int)<lo
 ·simp only[go_sem,reduceIte,↓reduceIte,nA,nB,nE,h,h1,Z9 h1]
 by_cases h2:hi<(t.size:Int)
 ·simp only[go_sem,reduceIte,↓reduceIte,nA,nB,nE,h,h1,h2,QD h2]
 have hx:t.data.toList.length<=9223372036854775806:=by rw[<-Xo]; omega
 have ha:=QR (p:=UM) h1 h2
 rw[Xo t] at h1 h2
 ·have hb0:=XG Tryz.f121 0 _ _ rfl rfl
  obtain⟨r,hr,hq⟩:=Y3 (cx:=cx) (blk:=0) (body:=Za Tryz.f121 0) t.data.toList (λk (s:Unit)=>⟨E [(0,.s t),(3,.fn 207 []),(21,.i .i64 t.size),(22,.i .i64 k)],B []⟩) (λs=>⟨E [],B []⟩) (λx s=>!UM x) (λx s=>()) (λx s=>(.ret,⟨E [(8,.b false)],B []⟩)) (λk s=>True)
    (λs hI G=>by simp only[go_sem,reduceIte,↓reduceIte,nB,nE,h,Int.lt_irrefl,hb0,Xo t]) (λk hk s hI=>by
     have h1:((k:Int)<(t.data.toList.length:Int)):=Int.ofNat_lt.2 hk
     have hz:=Xbq t k hk
     exact⟨_,_,_,λG=>by simp only[go_sem,reduceIte,↓reduceIte,nB,nE,h,hz,Xo t,h1,X0 _ _ hk,Xz (show k<9223372036854775807 by omega),hb0]<;>with_reducible rfl,Iff.rfl,λhc=>⟨trivial,by simp only[go_sem,reduceIte,↓reduceIte,nB,h,Xo t]⟩⟩) () trivial (t.data.toList.length+1) (Nat.le_refl _)
  rw[hb0] at hr
  rcases hq with⟨s',e1,_,e3⟩ | ⟨x,s',e1,e3⟩
  ·simp only[go_sem,reduceIte,↓reduceIte,nA,nB,nE,h,h1,h2,Xo t,hr,e3,ha,Qt e1]
  ·simp only[go_sem,reduceIte,↓reduceIte,nA,nB,nE,h,h1,h2,Xo t,hr,e3,ha,ZI e1]) (rfl)
@[go_sem] def Xo8(t:ByteArray)(lo hi:Int)(hb:hi<=1000000):XiU.F [.s t,.i .i64 lo,.i .i64 hi,.fn 122 []]=some (.b (XfN Xhk lo hi t),[.u,.u,.u,.u]):=Xm (t.data.toList.length+1) rfl rfl (λcx h=>by
 by_cases h1:(t.size:Int)<lo
 ·simp only[go_sem,reduceIte,↓reduceIte,nA,nB,nE,h,h1,Z9 h1]
 by_cases h2:hi<(t.size:Int)
 ·simp only[go_sem,reduceIte,↓reduceIte,nA,nB,nE,h,h1,h2,QD h2]
 have hx:t.data.toList.length<=9223372036854775806:=by rw[<-Xo]; omega
 have ha:=QR (p:=Xhk) h1 h2
 rw[Xo t] at h1 h2
 ·have hb0:=XG Tryz.f121 0 _ _ rfl rfl
  obtain⟨r,hr,hq⟩:=Y3 (cx:=cx) (blk:=0) (body:=Za Tryz.f121 0) t.data.toList (λk (s:Unit)=>⟨E [(0,.s t),(3,.fn 122 []),(21,.i .i64 t.size),(22,.i .i64 k)],B []⟩) (λs=>⟨E [],B []⟩) (λx s=>!Xhk x) (λx s=>()) (λx s=>(.ret,⟨E [(8,.b false)],B []⟩)) (λk s=>True)
    (λs hI G=>by simp only[go_sem,reduceIte,↓reduceIte,nB,nE,h,Int.lt_irrefl,hb0,Xo t]) (λk hk s hI=>by
     have h1:((k:Int)<(t.data.toList.length:Int)):=Int.ofNat_lt.2 hk
     have hz:=Xbq t k hk
     exact⟨_,_,_,λG=>by simp only[go_sem,reduceIte,↓reduceIte,nB,nE,h,hz,Xo t,h1,X0 _ _ hk,Xz (show k<9223372036854775807 by omega),hb0]<;>with_reducible rfl,Iff.rfl,λhc=>⟨trivial,by simp only[go_sem,reduceIte,↓reduceIte,nB,h,Xo t]⟩⟩) () trivial (t.data.toList.length+1) (Nat.le_refl _)
  rw[hb0] at hr
  rcases hq with⟨s',e1,_,e3⟩ | ⟨x,s',e1,e3⟩
  ·simp only[go_sem,reduceIte,↓reduceIte,nA,nB,nE,h,h1,h2,Xo t,hr,e3,ha,Qt e1]
  ·simp only[go_sem,reduceIte,↓reduceIte,nA,nB,nE,h,h1,h2,Xo t,hr,e3,ha,ZI e1]) (rfl)
@[go_sem] def Xo9(t:ByteArray)(lo hi:Int)(hb:hi<=1000000):XiU.F [.s t,.i .i64 lo,.i .i64 hi,.fn 123 []]=some (.b (XfN Xhm lo hi t),[.u,.u,.u,.u]):=Xm (t.data.toList.length+1) rfl rfl (λcx h=>by
 by_cases h1:(t.size:Int)<lo
 ·simp only[go_sem,reduceIte,↓reduceIte,nA,nB,nE,h,h1,Z9 h1]
 by_cases h2:hi<(t.size:Int)
 ·simp only[go_sem,reduceIte,↓reduceIte,nA,nB,nE,h,h1,h2,QD h2]
 have hx:t.data.toList.length<=9223372036854775806:=by rw[<-Xo]; omega
 have ha:=QR (p:=Xhm) h1 h2
 rw[Xo t] at h1 h2
 ·have hb0:=XG Tryz.f121 0 _ _ rfl rfl
  obtain⟨r,hr,hq⟩:=Y3 (cx:=cx) (blk:=0) (body:=Za Tryz.f121 0) t.data.toList (λk (s:Unit)=>⟨E [(0,.s t),(3,.fn 123 []),(21,.i .i64 t.size),(22,.i .i64 k)],B []⟩) (λs=>⟨E [],B []⟩) (λx s=>!Xhm x) (λx s=>()) (λx s=>(.ret,⟨E [(8,.b false)],B []⟩)) (λk s=>True)
    (λs hI G=>by simp only[go_sem,reduceIte,↓reduceIte,nB,nE,h,Int.lt_irrefl,hb0,Xo t]) (λk hk s hI=>by
     have h1:((k:Int)<(t.data.toList.length:Int)):=Int.ofNat_lt.2 hk
     have hz:=Xbq t k hk
     exact⟨_,_,_,λG=>by simp only[go_sem,reduceIte,↓reduceIte,nB,nE,h,hz,Xo t,h1,X0 _ _ hk,Xz (show k<9223372036854775807 by omega),hb0]<;>with_reducible rfl,Iff.rfl,λhc=>⟨trivial,by simp only[go_sem,reduceIte,↓reduceIte,nB,h,Xo t]⟩⟩) () trivial (t.data.toList.length+1) (Nat.le_refl _)
  rw[hb0] at hr
  rcases hq with⟨s',e1,_,e3⟩ | ⟨x,s',e1,e3⟩
  ·simp only[go_sem,reduceIte,↓reduceIte,nA,nB,nE,h,h1,h2,Xo t,hr,e3,ha,Qt e1]
  ·simp only[go_sem,reduceIte,↓reduceIte,nA,nB,nE,h,h1,h2,Xo t,hr,e3,ha,ZI e1]) (rfl)
@[go_sem] def Xpa(t:ByteArray)(lo hi:Int)(hb:hi<=1000000):XiU.F [.s t,.i .i64 lo,.i .i64 hi,.fn 185 []]=some (.b (XfN Qs lo hi t),[.u,.u,.u,.u]):=Xm (t.data.toList.length+1) rfl rfl (λcx h=>by
 by_cases h1:(t.size:Int)<lo
 ·simp only[go_sem,reduceIte,↓reduceIte,nA,nB,nE,h,h1,Z9 h1]
 by_cases h2:hi<(t.size:Int)
 ·simp only[go_sem,reduceIte,↓reduceIte,nA,nB,nE,h,h1,h2,QD h2]
 have hx:t.data.toList.length<=9223372036854775806:=by rw[<-Xo]; omega
 have ha:=QR (p:=Qs) h1 h2
 rw[Xo t] at h1 h2
 ·have hb0:=XG Tryz.f121 0 _ _ rfl rfl
  obtain⟨r,hr,hq⟩:=Y3 (cx:=cx) (blk:=0) (body:=Za Tryz.f121 0) t.data.toList (λk (s:Unit)=>⟨E [(0,.s t),(3,.fn 185 []),(21,.i .i64 t.size),(22,.i .i64 k)],B []⟩) (λs=>⟨E [],B []⟩) (λx s=>!Qs x) (λx s=>()) (λx s=>(.ret,⟨E [(8,.b false)],B []⟩)) (λk s=>True)
    (λs hI G=>by simp only[go_sem,reduceIte,↓reduceIte,nB,nE,h,Int.lt_irrefl,hb0,Xo t]) (λk hk s hI=>by
     have h1:((k:Int)<(t.data.toList.length:Int)):=Int.ofNat_lt.2 hk
     have hz:=Xbq t k hk
     exact⟨_,_,_,λG=>by simp only[go_sem,reduceIte,↓reduceIte,nB,nE,h,hz,Xo t,h1,X0 _ _ hk,Xz (show k<9223372036854775807 by omega),hb0]<;>with_reducible rfl,Iff.rfl,λhc=>⟨trivial,by simp only[go_sem,reduceIte,↓reduceIte,nB,h,Xo t]⟩⟩) () trivial (t.data.toList.length+1) (Nat.le_refl _)
  rw[hb0] at hr
  rcases hq with⟨s',e1,_,e3⟩ | ⟨x,s',e1,e3⟩
  ·simp only[go_sem,reduceIte,↓reduceIte,nA,nB,nE,h,h1,h2,Xo t,hr,e3,ha,Qt e1]
  ·simp only[go_sem,reduceIte,↓reduceIte,nA,nB,nE,h,h1,h2,Xo t,hr,e3,ha,ZI e1]) (rfl)
def s75:SP Tryz.prog:=mkS tyA 75 Tryz.f75 [XiU,Xln] {md:=[.ro 1],rets:=some ([2],[])} Tryz.func75 (by kernel_rfl)
@[go_sem] def d75:s75.g=75/\s75.fs=⟨[.ro 1],s75.F,false⟩:=⟨nr rfl,nr rfl⟩
@[go_sem] def e75(t:ByteArray):s75.F [.s t]=some (.b (Ud t),[.u]):=Xm (0) rfl rfl (λcx h=>by
 simp only[go_sem,reduceIte,↓reduceIte,nA,nB,iL,h,Ud]) (rfl)
def XnY:SP Tryz.prog:=mkS tyA 179 Tryz.f179 [XiU,Xm8] {md:=[.ro 1],rets:=some ([2],[])} Tryz.func179 (by kernel_rfl)
@[go_sem] def XD8:XnY.g=179/\XnY.fs=⟨[.ro 1],XnY.F,false⟩:=⟨nr rfl,nr rfl⟩
@[go_sem] def XD9(t:ByteArray)(h0:(t.size:Int)<=1000000):XnY.F [.s t]=some (.b (XkN t),[.u]):=Xm (0) rfl rfl (λcx h=>by
 simp only[go_sem,reduceIte,↓reduceIte,nA,nB,h,h0,Xlh]) (rfl)
def XnZ:SP Tryz.prog:=⟨180,⟨[.ro 1,.ro 1],XkI,false⟩,XmQ Tryz.func180 (by kernel_rfl) rfl Go.Proofs.Tryz.trimSpTab⟩
@[go_sem] def XEa:XnZ.g=180/\XnZ.fs=⟨[.ro 1,.ro 1],XnZ.F,false⟩:=⟨nr rfl,nr rfl⟩
@[go_sem] def XEb(x:ByteArray)(h0:x.size<=9223372036854775807):XnZ.F [.s x,.s ⟨#[32,9]⟩]=some (.s (XeI x),[.u,.u]):=by
 show XkI [.s x,.s ⟨#[32,9]⟩]=_
 have hc:(⟨#[32,9]⟩:ByteArray).data.toList=[32,9]/\x.size<=9223372036854775807:=⟨rfl,h0⟩
 exact if_pos hc
def Xn0:SP Tryz.prog:=mkS tyA 119 Tryz.f119 [s75,XnY,XnZ] {md:=[.ro 1],rg:=[(0,[1],[1]),(1,[1,3],[1]),(2,[2],[]),(3,[1,8],[1]),(4,[2],[]),(5,[13],[]),(6,[2],[]),(7,[2],[])],rets:=some ([2],[]),plan:=[(5,(.take 0 (.take 1 (.one 2 (.take 3 (.take 4 (.take 5 (.take 6 (.take 8 (.take 9 (.one 7 (.take 10 (.take 11 (.one 12 .done))))))))))))))]} Tryz.func119 (by kernel_rfl)
@[go_sem] def XEc:Xn0.g=119/\Xn0.fs=⟨[.ro 1],Xn0.F,false⟩:=⟨nr rfl,nr rfl⟩
@[go_sem] def XEd(q0 q1:ByteArray):Xn0.F [.agg [.s q0,.s q1]]=some (.i .i64 (X8 (Xg.mk q0 q1)),[.u]):=Xm (0) rfl rfl (λcx h=>by
 cases h1:Ud q0
 ·simp only[go_sem,reduceIte,↓reduceIte,nA,nB,nE,nL,h,h1,X8]
 by_cases h2:200<(q1.size:Int)
 ·simp only[go_sem,reduceIte,↓reduceIte,nA,nB,nE,nL,h,h1,h2,X8]
 have h3:(q1.size:Int)<=1000000:=by omega
 have h4:q1.size<=9223372036854775806:=by omega
 have h5:q1.size<=9223372036854775807:=by omega
 cases h6:XkN q1
 ·simp only[go_sem,reduceIte,↓reduceIte,nA,nB,nE,nL,h,h1,h2,h3,h6,X8]
 cases h7:eqv (XeI q1) q1<;>simp only[go_sem,reduceIte,↓reduceIte,nA,nB,nE,nL,h,h1,h2,h3,h5,h6,h7,ZP,X8]) (rfl)
def s56:SP Tryz.prog:=mkS tyA 56 Tryz.f56 [Xn0] {md:=[.ro 1],rg:=[(0,[0],[]),(1,[0,8],[]),(2,[2],[]),(3,[0,9,10,11],[]),(4,[0,9,10,11,12],[]),(5,[0,4,9,10,11],[4]),(6,[0,5,9,10,11],[]),(7,[0,5,9,10,11,18],[]),(8,[2],[]),(9,[0,9,10,11],[]),(10,[2],[])],lv:=[(0,[0,9,10,11],[])],out:=[(0,[],[])],rets:=some ([2],[])} Tryz.func56 (by kernel_rfl)
@[go_sem] def d56:s56.g=56/\s56.fs=⟨[.ro 1],s56.F,false⟩:=⟨nr rfl,nr rfl⟩
@[go_sem] def e56(hs:List Xg):s56.F [.sl .ro 2 (hs.map (Xa .ro))]=some (.i .i64 (Xj hs),[.u]):=Xm (hs.length+1) rfl rfl (λcx h=>by
 by_cases h1:20<(hs.length:Int)
 ·simp only[go_sem,reduceIte,↓reduceIte,nB,nE,h,h1,Xj]
 have hx:hs.length<=9223372036854775806:=by omega
 have hb0:=XG Tryz.f56 0 _ _ rfl rfl
 obtain⟨r,hr,hq⟩:=Y3 (cx:=cx) (blk:=0) (body:=Za Tryz.f56 0) hs (λk (s:Unit)=>⟨E [(0,.sl .ro 2 (hs.map (Xa .ro))),(9,.sl .ro 2 (hs.map (Xa .ro))),(10,.i .i64 hs.length),(11,.i .i64 k)],B []⟩) (λs=>⟨E [],B []⟩) (λx s=>X8 x !=0) (λx s=>()) (λx s=>(.ret,⟨E [(2,.i .i64 (X8 x))],B []⟩)) (λk s=>True)
   (λs hI G=>by simp only[go_sem,reduceIte,↓reduceIte,nB,nE,h,Int.lt_irrefl,hb0]) (λk hk s hI=>by
    have h1:((k:Int)<(hs.length:Int)):=Int.ofNat_lt.2 hk
    exact⟨_,_,_,λG=>by simp only[go_sem,reduceIte,↓reduceIte,nA,nB,nE,h,YJ (Xa .ro) hs _ hk,Xa,h1,X0 _ _ hk,Xz (show k<9223372036854775807 by omega),hb0]<;>with_reducible rfl,Iff.rfl,λhc=>⟨trivial,by simp only[go_sem,reduceIte,↓reduceIte,nB,h]⟩⟩) () trivial (hs.length+1) (Nat.le_refl _)
 rw[hb0] at hr
 rcases hq with⟨s',e1,_,e3⟩ | ⟨x,s',e1,e3⟩
 ·simp only[go_sem,reduceIte,↓reduceIte,nB,nE,h,h1,hr,e3,Xj,Xax e1]
 ·simp only[go_sem,reduceIte,↓reduceIte,nB,nE,h,h1,hr,e3,Xj,Xay e1]) (rfl)
def Xn1:SP Tryz.prog:=mkS tyA 102 Tryz.f102 [] {md:=[.ro 1],rets:=some ([2],[])} Tryz.func102 (by kernel_rfl)
@[go_sem] def XEe:Xn1.g=102/\Xn1.fs=⟨[.ro 1],Xn1.F,false⟩:=⟨nr rfl,nr rfl⟩
@[go_sem] def XEf(t:ByteArray):Xn1.F [.s t]=some (.b (XdF t),[.u]):=Xm (0) rfl rfl (λcx h=>by
 by_cases h1:1<=(t.size:Int)<;>by_cases h2:(t.size:Int)<=500<;>simp only[go_sem,reduceIte,↓reduceIte,nB,h,h1,h2,XdF]) (rfl)
def Xm9:SP Tryz.prog:=mkS tyA 157 Tryz.f157 [s53] {md:=[.ro 1],rets:=some ([2],[])} Tryz.func157 (by kernel_rfl)
@[go_sem] def XEg:Xm9.g=157/\Xm9.fs=⟨[.ro 1],Xm9.F,false⟩:=⟨nr rfl,nr rfl⟩
@[go_sem] def XEh(a:Int):Xm9.F [.i .i64 a]=some (.b (Ym a),[.u]):=Xm (0) rfl rfl (λcx h=>by
 simp only[go_sem,reduceIte,↓reduceIte,nA,nB,h,Ym]) (rfl)
def Xna:SP Tryz.prog:=mkS tyA 103 Tryz.f103 [Xm9] {md:=[.ro 1],rg:=[(0,[1],[1]),(1,[15,16],[]),(2,[15,16,17],[]),(3,[4,15,16],[]),(4,[15,16,21],[]),(5,[2],[]),(6,[15,16],[]),(7,[2],[])],lv:=[(0,[15,16],[])],out:=[(0,[],[])],rets:=some ([2],[])} Tryz.func103 (by kernel_rfl)
@[go_sem] def XEi:Xna.g=103/\Xna.fs=⟨[.ro 1],Xna.F,false⟩:=⟨nr rfl,nr rfl⟩
@[go_sem] def XEj(mAt q2 q3 q4 q5:Int)(q6 q7:Bool):Xna.F [.agg [.i .i64 mAt,.i .i64 q2,.i .i64 q3,.i .i64 q4,.i .i64 q5,.b q6,.b q7]]=some (.i .i64 (XN (Meta.mk mAt q2 q3 q4 q5 q6 q7)),[.u]):=Xm (6) rfl rfl (λcx h=>by
 obtain⟨xs,hxs⟩:∃xs:List Int,xs=[mAt,q2,q3,q4,q5]:=⟨_,rfl⟩
 have hxl:xs.length=5:=by rw[hxs]; rfl
 have hm:Ul (Meta.mk mAt q2 q3 q4 q5 q6 q7)=xs:=by rw[hxs]; rfl
 have hz:[AV.i .i64 mAt,.i .i64 q2,.i .i64 q3,.i .i64 q4,.i .i64 q5]=xs.map λa=>AV.i .i64 a:=by rw[hxs]; rfl
 have hb0:=XG Tryz.f103 0 _ _ rfl rfl
 obtain⟨r,hr,hq⟩:=Y3 (cx:=cx) (blk:=0) (body:=Za Tryz.f103 0) xs (λk (s:Unit)=>⟨E [(15,.agg (xs.map λa=>.i .i64 a)),(16,.i .i64 k)],B []⟩) (λs=>⟨E [],B []⟩) (λx s=>!Ym x) (λx s=>()) (λx s=>(.ret,⟨E [(2,.i .i64 3)],B []⟩)) (λk s=>True)
   (λs hI G=>by simp only[go_sem,reduceIte,↓reduceIte,nB,nE,h,Int.lt_irrefl,hb0,hxl,QE]) (λk hk s hI=>by
    have h1:((k:Int)<(xs.length:Int)):=Int.ofNat_lt.2 hk
    have h1':(k:Int)<5:=by rw[hxl] at h1; exact h1
    have hA:=Xhj (f:=λa=>AV.i .i64 a) hxl.symm hk
    exact⟨_,_,_,λG=>by simp only[go_sem,reduceIte,↓reduceIte,nB,nE,h,h1',hA,U7,QE,Xz (show k<9223372036854775807 by omega),hb0]<;>with_reducible rfl,Iff.rfl,λhc=>⟨trivial,by simp only[go_sem,reduceIte,↓reduceIte,nB,h,QE]⟩⟩) () trivial 6 (by rw[hxl]; exact Nat.le_refl _)
 rw[hb0] at hr
 rcases hq with⟨s',e1,_,e3⟩ | ⟨x,s',e1,e3⟩
 ·simp only[go_sem,reduceIte,↓reduceIte,nA,nB,nE,nL,h,hz,hr,e3,QE,XN,hm,runS_any e1]
 ·simp only[go_sem,reduceIte,↓reduceIte,nA,nB,nL,h,hz,hr,e3,QE,XN,hm,XdI e1]) (rfl)
def s40:SP Tryz.prog:=mkS tyA 40 Tryz.f40 [s53,s56,Xn1,Xna] {md:=[.ro 1],rg:=[(0,[1],[1]),(1,[1,4],[1]),(2,[2],[]),(3,[1,9],[1]),(4,[2],[]),(5,[1,3],[1]),(6,[1,3,33],[1]),(7,[2],[]),(8,[1,44],[1]),(9,[2],[]),(10,[2],[])],rets:=some ([2],[])} Tryz.func40 (by kernel_rfl)
@[go_sem] def d40:s40.g=40/\s40.fs=⟨[.ro 1],s40.F,false⟩:=⟨nr rfl,nr rfl⟩
@[go_sem] def e40(q8:ByteArray)(q9:Int)(q10:List Xg)(q11:List UInt8)(q12 q13 q14 q15 q16:Int)(q17 q18:Bool)(q19:List ByteArray)(q20:Int)(h0:smL XO (Xt.mk q8 q9 q10 q11 (Meta.mk q12 q13 q14 q15 q16 q17 q18) q19 q20).Headers):s40.F [.agg [.s q8,.i .i64 q9,.sl .ro 2 (q10.map (Xa .ro)),.sl .ro 1 (q11.map Xx),.i .i64 q12,.i .i64 q13,.i .i64 q14,.i .i64 q15,.i .i64 q16,.b q17,.b q18,.sl .ro 1 (q19.map Zw),.i .i64 q20]]=some (.i .i64 (Xc (Xt.mk q8 q9 q10 q11 (Meta.mk q12 q13 q14 q15 q16 q17 q18) q19 q20)),[.u]):=Xm (0) rfl rfl (λcx h=>by
 cases hk:XdF q8
 ·simp only[go_sem,reduceIte,↓reduceIte,nA,nB,nE,nL,h,hk,Xc]
 cases hp:Xbr q9
 rotate_left
 ·have hp':=hp
  unfold Xbr at hp'
  simp only[Bool.and_eq_true] at hp'
  obtain⟨⟨s1,s2⟩,s3⟩:=hp'
  simp only[go_sem,reduceIte,↓reduceIte,nA,nB,nE,nL,h,hk,Xc,hp,s1,s2,s3]
 rcases XfP hp with rfl | ⟨s1,rfl⟩ | ⟨s1,s2,rfl⟩
 ·cases w1:within q20 0 20
  ·simp only[go_sem,reduceIte,↓reduceIte,nA,nB,nE,nL,h,hk,Xc,hp,w1]
  by_cases z:Xj q10=0
  rotate_left
  ·have z':(Xj q10 !=0)=true:=by simpa using z
   simp only[go_sem,reduceIte,↓reduceIte,nA,nB,nE,nL,h,hk,Xc,hp,w1,z']
  have z':(Xj q10 !=0)=false:=by simpa using z
  by_cases b1:2000<(q11.length:Int)
  ·simp only[go_sem,reduceIte,↓reduceIte,nA,nB,nE,nL,h,hk,Xc,hp,w1,z,b1]
  by_cases b2:10<(q19.length:Int)
  ·simp only[go_sem,reduceIte,↓reduceIte,nA,nB,nE,nL,h,hk,Xc,hp,w1,z,b1,b2]
  simp only[go_sem,reduceIte,↓reduceIte,nA,nB,nE,nL,h,hk,Xc,hp,w1,z,b1,b2]
 ·cases w1:within q20 0 20
  ·simp only[go_sem,reduceIte,↓reduceIte,nA,nB,nE,nL,iN,h,hk,Xc,hp,w1]
  by_cases z:Xj q10=0
  rotate_left
  ·have z':(Xj q10 !=0)=true:=by simpa using z
   simp only[go_sem,reduceIte,↓reduceIte,nA,nB,nE,nL,iN,h,hk,Xc,hp,w1,z']
  have z':(Xj q10 !=0)=false:=by simpa using z
  by_cases b1:2000<(q11.length:Int)
  ·simp only[go_sem,reduceIte,↓reduceIte,nA,nB,nE,nL,iN,h,hk,Xc,hp,w1,z,b1]
  by_cases b2:10<(q19.length:Int)
  ·simp only[go_sem,reduceIte,↓reduceIte,nA,nB,nE,nL,iN,h,hk,Xc,hp,w1,z,b1,b2]
  simp only[go_sem,reduceIte,↓reduceIte,nA,nB,nE,nL,iN,h,hk,Xc,hp,w1,z,b1,b2]
 ·cases w1:within q20 0 20
  ·simp only[go_sem,reduceIte,↓reduceIte,nA,nB,nE,nL,iN,h,hk,Xc,hp,w1]
  by_cases z:Xj q10=0
  rotate_left
  ·have z':(Xj q10 !=0)=true:=by simpa using z
   simp only[go_sem,reduceIte,↓reduceIte,nA,nB,nE,nL,iN,h,hk,Xc,hp,w1,z']
  have z':(Xj q10 !=0)=false:=by simpa using z
  by_cases b1:2000<(q11.length:Int)
  ·simp only[go_sem,reduceIte,↓reduceIte,nA,nB,nE,nL,iN,h,hk,Xc,hp,w1,z,b1]
  by_cases b2:10<(q19.length:Int)
  ·simp only[go_sem,reduceIte,↓reduceIte,nA,nB,nE,nL,iN,h,hk,Xc,hp,w1,z,b1,b2]
  simp only[go_sem,reduceIte,↓reduceIte,nA,nB,nE,nL,iN,h,hk,Xc,hp,w1,z,b1,b2]) (rfl)
def Xn2:SP Tryz.prog:=mkS tyA 168 Tryz.f168 [] {md:=[.ro 1],rg:=[(0,[0],[]),(1,[3],[]),(2,[3,8,9,10],[]),(3,[3,8,9,10,11],[]),(4,[3,4,5,8,9,10],[]),(5,[3,4,5,8,9,10,20],[]),(6,[3,8,9,10],[]),(7,[3,8,9,10],[]),(8,[2],[])],lv:=[(0,[3,8,9,10],[])],out:=[(0,[3],[])],rets:=some ([2],[])} Tryz.func168 (by kernel_rfl)
@[go_sem] def XEk:Xn2.g=168/\Xn2.fs=⟨[.ro 1],Xn2.F,false⟩:=⟨nr rfl,nr rfl⟩
@[go_sem] def XEl(t:ByteArray)(h0:t.size<=9223372036854775806):Xn2.F [.s t]=some (.s (ZR t),[.u]):=Xm (t.data.toList.length+1) rfl rfl (λcx h=>by
 have hz:t.data.toList.length<=9223372036854775807:=by rw[<-Xo]; omega
 have hx:t.data.toList.length<=9223372036854775806:=by rw[<-Xo]; exact h0
 have hb0:=XG Tryz.f168 0 _ _ rfl rfl
 obtain⟨hI,hr⟩:=YB (cx:=cx) (blk:=0) (body:=Za Tryz.f168 0) t.data.toList (λk (s:Unit)=>⟨E [(3,.sl .mut 1 ((Zy t.data.toList k).map Xx)),(8,.rf ⟨true,3,[],0⟩ 1 0 t.data.toList.length),(9,.i .i64 t.data.toList.length),(10,.i .i64 k)],B []⟩) (λs=>⟨E [(3,.sl .mut 1 ((t.data.toList.map XeJ).map Xx))],B []⟩) (λx s=>s) (λk s=>True)
   (λs hI G=>by simp only[go_sem,reduceIte,↓reduceIte,nB,nE,h,Int.lt_irrefl,hb0,XdG t.data.toList]) (λk hk s hI=>by
    have h1:((k:Int)<(t.data.toList.length:Int)):=Int.ofNat_lt.2 hk
    have g1:=XfO t.data.toList k hk
    have g2:=Xhn t.data.toList k hk
    have g3:=XdH t.data.toList k (Nat.le_of_lt hk)
    have g4:(List.take t.data.toList.length ((Zy t.data.toList k).map Xx))=(Zy t.data.toList k).map Xx:=List.take_of_length_le (by rw[List.length_map,g3]; exact Nat.le_refl _)
    rcases Xhp t.data.toList k hk with⟨a1,a2,w1,w2,hs,hv⟩ | ⟨a1,a2,w1,w2,hs,hv⟩ | ⟨a1,a2,w1,w2,hs,hv⟩
    all_goals exact⟨trivial,_,λG=>by simp only[go_sem,reduceIte,↓reduceIte,nB,nE,h,g1,g2,g3,a1,a2,w1,hs,List.length_map,h1,X0 _ _ hk,Xz (show k<9223372036854775807 by omega),hb0]<;>with_reducible rfl,by simp only[go_sem,reduceIte,↓reduceIte,nB,h,hv]⟩) () trivial (t.data.toList.length+1) (Nat.le_refl _)
 rw[hb0] at hr
 rw[Xco] at hr
 simp only[go_sem,reduceIte,↓reduceIte,nB,nE,h,hz,hr,Xo t,ZR]) (rfl)
def Xnb:SP Tryz.prog:=mkS tyA 108 Tryz.f108 [Xn2] {md:=[.ro 1,.ro 1],rets:=some ([4],[])} Tryz.func108 (by kernel_rfl)
@[go_sem] def XEm:Xnb.g=108/\Xnb.fs=⟨[.ro 1,.ro 1],Xnb.F,false⟩:=⟨nr rfl,nr rfl⟩
@[go_sem] def XEn(a b:ByteArray)(h0:(a.size<=9223372036854775806/\b.size<=9223372036854775806)):Xnb.F [.s a,.s b]=some (.b (eqv (ZR a) (ZR b)),[.u,.u]):=Xm (0) rfl rfl (λcx h=>by
 simp only[go_sem,reduceIte,↓reduceIte,nB,h,h0.1,h0.2,ZP]) (rfl)
def Xnc:SP Tryz.prog:=mkS tyA 104 Tryz.f104 [Xnb] {md:=[.ro 1,.ro 1],rg:=[(0,[0,1],[]),(1,[0,1,5],[]),(2,[0,1,5,9,10,11],[]),(3,[0,1,5,9,10,11,12],[]),(4,[0,1,5,7,9,10,11],[7]),(5,[0,1,5,7,9,10,11,19],[7]),(6,[0,1,5,9,10,11],[]),(7,[0,1,5,9,10,11],[]),(8,[4],[])],lv:=[(0,[0,1,5,9,10,11],[])],out:=[(0,[5],[])],rets:=some ([4],[])} Tryz.func104 (by kernel_rfl)
@[go_sem] def XEo:Xnc.g=104/\Xnc.fs=⟨[.ro 1,.ro 1],Xnc.F,false⟩:=⟨nr rfl,nr rfl⟩
@[go_sem] def XEp(hs:List Xg)(name:ByteArray)(h0:(hs.length<=20/\smL XO hs/\okN name=true)):Xnc.F [.sl .ro 2 (hs.map (Xa .ro)),.s name]=some (.sl .mut 2 ((ZJ hs name).map (Xa .mut)),[.u,.u]):=Xm (hs.length+1) rfl rfl (λcx h=>by
 have hl:=h0.1
 have hx:hs.length<=9223372036854775806:=by omega
 have hb0:=XG Tryz.f104 0 _ _ rfl rfl
 obtain⟨hI,hr⟩:=YB (cx:=cx) (blk:=0) (body:=Za Tryz.f104 0) hs (λk (s:List Xg)=>⟨E [(0,.sl .ro 2 (hs.map (Xa .ro))),(1,.s name),(5,.sl .mut 2 (s.map (Xa .mut))),(9,.sl .ro 2 (hs.map (Xa .ro))),(10,.i .i64 hs.length),(11,.i .i64 k)],B []⟩) (λs=>⟨E [(5,.sl .mut 2 (s.map (Xa .mut)))],B []⟩) (λx s=>(if eqv (ZR x.Name) (ZR name)=true then s else s++[x])) (λk s=>s.length<=k)
   (λs hI G=>by simp only[go_sem,reduceIte,↓reduceIte,nB,nE,h,Int.lt_irrefl,hb0]) (λk hk s hI=>by
    have h1:((k:Int)<(hs.length:Int)):=Int.ofNat_lt.2 hk
    have t3:(s.length+1)*32<=140737488355328:=by omega
    have t4:s.map (Xa .mut)++[[.s hs[k].Name,.s hs[k].Value]]=(s++[hs[k]]).map (Xa .mut):=by simp[Xa]
    obtain⟨u1,u2⟩:=h0.2.1.2 _ (List.getElem_mem hk)
    have n1:hs[k].Name.size<=9223372036854775806/\name.size<=9223372036854775806:=⟨by have:hs[k].Name.size<=1048576:=u1; omega,of_decide_eq_true h0.2.2⟩
    cases d1:eqv (ZR hs[k].Name) (ZR name)
    all_goals exact⟨by split<;>(try simp only[List.length_append,List.length_cons,List.length_nil])<;>omega,_,λG=>by simp only[go_sem,reduceIte,↓reduceIte,nA,nM,nB,nE,nL,nT,h,t3,t4,YJ (Xa .ro) hs k hk,n1,d1,Xa,h1,X0 _ _ hk,Xz (show k<9223372036854775807 by omega),hb0]<;>with_reducible rfl,by simp only[go_sem,reduceIte,↓reduceIte,nB,h]⟩) [] (by simp) (hs.length+1) (Nat.le_refl _)
 rw[hb0] at hr
 have hff:=Xbu (λx:Xg=>eqv (ZR x.Name) (ZR name)) hs []
 simp only[List.nil_append] at hff
 rw[hff] at hr
 simp only[go_sem,reduceIte,↓reduceIte,nA,nM,nB,nE,nT,h,hr,ZJ]) (by simp only[go_sem,Zl,XB])
def Xn3:SP Tryz.prog:=mkS tyA 107 Tryz.f107 [Xnb] {md:=[.ro 1,.ro 1],rets:=some ([3],[])} Tryz.func107 (by kernel_rfl)
@[go_sem] def XEq:Xn3.g=107/\Xn3.fs=⟨[.ro 1,.ro 1],Xn3.F,false⟩:=⟨nr rfl,nr rfl⟩
@[go_sem] def XEr(q0 q1 name:ByteArray)(h0:((Xg.mk q0 q1).Name.size<=9223372036854775806/\name.size<=9223372036854775806)):Xn3.F [.agg [.s q0,.s q1],.pr [.s name]]=some (.b (eqv (ZR (Xg.mk q0 q1).Name) (ZR name)),[.u,.u]):=Xm (0) rfl rfl (λcx h=>by
 simp only[go_sem,reduceIte,↓reduceIte,nA,nB,nL,h,h0]) (rfl)
def Xn4:SP Tryz.prog:=mkS tyA 106 Tryz.f106 [Xn3] {md:=[.ro 1,.ro 1],rg:=[(0,[0,1],[]),(1,[0,1,7,8],[]),(2,[0,1,7,8,9],[]),(3,[0,1,5,7,8],[]),(4,[0,1,5,7,8,16],[]),(5,[4],[]),(6,[0,1,7,8],[]),(7,[4],[])],lv:=[(0,[0,1,7,8],[])],out:=[(0,[],[])],rets:=some ([4],[])} Tryz.func106 (by kernel_rfl)
@[go_sem] def XEs:Xn4.g=106/\Xn4.fs=⟨[.ro 1,.ro 1],Xn4.F,false⟩:=⟨nr rfl,nr rfl⟩
@[go_sem] def Xpb(xs:List Xg)(name:ByteArray)(hb:xs.length<=9223372036854775806)(h0:XkD (λx=>x.Name.size<=9223372036854775806/\name.size<=9223372036854775806) xs):Xn4.F [.sl .ro 2 (xs.map (Xa .ro)),.fn 107 [.pr [.s name]]]=some (.i .i64 (XdC (λx=>eqv (ZR x.Name) (ZR name)) xs 0),[.u,.u]):=Xm (xs.length+1) rfl rfl (λcx h=>by
 have hx:=hb
 have hb0:=XG Tryz.f106 0 _ _ rfl rfl
 obtain⟨r,hr,hq⟩:=Y3 (cx:=cx) (blk:=0) (body:=Za Tryz.f106 0) xs (λk (s:Nat)=>⟨E [(0,.sl .ro 2 (xs.map (Xa .ro))),(1,.fn 107 [.pr [.s name]]),(7,.i .i64 xs.length),(8,.i .i64 k)],B []⟩) (λs=>⟨E [],B []⟩) (λx s=>eqv (ZR x.Name) (ZR name)) (λx s=>s+1) (λx s=>(.ret,⟨E [(4,.i .i64 s)],B []⟩)) (λk s=>k=s)
   (λs hI G=>by simp only[go_sem,reduceIte,↓reduceIte,nB,nE,h,Int.lt_irrefl,hb0,hI]) (λk hk s hI=>by
    have h1:((k:Int)<(xs.length:Int)):=Int.ofNat_lt.2 hk
    obtain rfl:=hI
    have h2:=h0 _ (List.getElem_mem hk)
    simp only at h2
    exact⟨_,_,_,λG=>by simp only[go_sem,reduceIte,↓reduceIte,nA,nB,nE,h,YJ (Xa .ro) xs _ hk,h2,h1,X0 _ _ hk,Xz (show k<9223372036854775807 by omega),hb0]<;>with_reducible rfl,by first | exact Iff.rfl | simp,λhc=>⟨rfl,by simp only[go_sem,reduceIte,↓reduceIte,nB,h]⟩⟩) 0 rfl (xs.length+1) (Nat.le_refl _)
 rw[hb0] at hr
 rcases hq with⟨s',e1,_,e3⟩ | ⟨x,s',e1,e3⟩
 ·simp only[go_sem,reduceIte,↓reduceIte,nB,nE,iG,h,hr,e3,Xga e1]
 ·simp only[go_sem,reduceIte,↓reduceIte,nB,h,hr,e3,Xes e1]) (rfl)
end
end Go.Vm.A
