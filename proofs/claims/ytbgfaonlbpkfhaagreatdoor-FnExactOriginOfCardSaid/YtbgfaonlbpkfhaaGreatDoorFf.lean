/- Functions of the program, walked by the evaluator. -/
import Derived.Test.YtbgfaonlbpkfhaaGreatDoorWb
import Derived.Test.YtbgfaonlbpkfhaaGreatDoorWa
import Derived.Test.YtbgfaonlbpkfhaaGreatDoorFa
import Derived.Test.YtbgfaonlbpkfhaaGreatDoorFb
import Derived.Test.YtbgfaonlbpkfhaaGreatDoorFd
import Derived.Test.YtbgfaonlbpkfhaaGreatDoorFe
set_option linter.unusedVariables false
set_option linter.unusedSimpArgs false
set_option autoImplicit false
set_option maxRecDepth 100000
set_option maxHeartbeats 4000000
set_option linter.defProp false
namespace Go.Vm.A
open Go.Proofs
open Nat renaming reduceAdd -> nA, reduceSub -> nS, reduceMul -> nM, reduceBEq -> nB, reduceEqDiff -> nE, reduceLeDiff -> nL, reduceLT -> nT, reduceBneDiff -> nN
open Int renaming reduceLE -> iL, reduceLT -> iT, reduceEq -> iE, reduceAdd -> iA, reduceMul -> iM, reduceSub -> iS, reduceNeg -> iG, reduceBEq -> iB, reduceBNe -> iN, reduceToNat -> iZ
noncomputable section
def XqX:SP Tryz.prog:=mkS tyA 193 Tryz.f193 [Xsv] {md:=[.ro 1],wk:=true,rg:=[(0,[0],[]),(1,[0,3],[]),(2,[0,3,9,10,11],[]),(3,[0,3,9,10,11,12],[]),(4,[0,3,5,9,10,11],[]),(5,[0,3,9,10,11],[]),(6,[0,3,9,10,11,20],[]),(7,[0,3,9,10,11],[]),(8,[0,3,9,10,11],[]),(9,[0,6],[]),(10,[0,6,25,26,27],[]),(11,[0,6,25,26,27,28],[]),(12,[0,6,8,25,26,27],[]),(13,[0,6,25,26,27],[]),(14,[0,6,25,26,27],[]),(15,[2],[])],lv:=[(0,[0,3,9,10,11],[]),(2,[0,6,25,26,27],[])],out:=[(0,[0,3],[]),(2,[6],[])],rets:=some ([2],[])} Tryz.func193 (by kernel_rfl)
@[go_sem] def XKA:XqX.g=193/\XqX.fs=⟨[.ro 1],XqX.F,true⟩:=⟨nr rfl,nr rfl⟩
@[go_sem] def XwP(a b:List XK)(h0:a.length<=1048576/\b.length<=1048576):XqX.F [.sl .ro 1 [[.sl .ro 13 (a.map (Xa .ro))],[.sl .ro 13 (b.map (Xa .ro))]]]=some (.sl .mut 13 ((a++b).map (Xa .ro)),[.u]):=Xb (3) rfl rfl (λcx h=>by
 obtain⟨g1,g2⟩:=h0
 have p1:=XqM a
 have p2:=XqM b
 have w0:(IntKind.i64).wrap (0+(a.length:Int))=(a.length:Int):=by rw[Int.zero_add]; exact Xo (by omega) (by omega)
 have w0':(IntKind.i64).wrap (a.length:Int)=(a.length:Int):=Xo (by omega) (by omega)
 have w1:(IntKind.i64).wrap ((a.length:Int)+(b.length:Int))=(a.length:Int)+(b.length:Int):=Xo (by omega) (by omega)
 have c1:¬((a.length:Int)<0):=by omega
 have c2:¬((a.length:Int)+(b.length:Int)<0):=by omega
 have c3:0<=(a.length:Int)+(b.length:Int):=by omega
 have c4:(a.length:Int)+(b.length:Int)<=2097152:=by omega
 have t1:a.length*152<=140737488355328:=by omega
 have t2:(a.length+b.length)*152<=140737488355328:=by omega
 have t3:a.map (Xa .ro)++b.map (Xa .ro)=(a++b).map (Xa .ro):=List.map_append.symm
 simp only[go_sem,reduceIte,↓reduceIte,nA,nB,nE,nT,iT,iA,h,Xgp,Xci,Xav,Q0,U9,p1,p2,w0,w1,c1,c2,c3,c4,t1,t2,t3]) (rfl)
@[go_sem] def Xwo:XqX.F [.sl .ro 1 [[.sl .ro 13 []],[.sl .ro 13 []]]]=some (.sl .mut 13 [],[.u]):=XwP [] [] ⟨Nat.zero_le _,Nat.zero_le _⟩
def XoR:SP Tryz.prog:=mkS tyA 125 Tryz.f125 [XqX] {md:=[.ro 1],wk:=true,rets:=some ([2],[])} Tryz.func125 (by kernel_rfl)
@[go_sem] def XKB:XoR.g=125/\XoR.fs=⟨[.ro 1],XoR.F,true⟩:=⟨nr rfl,nr rfl⟩
@[go_sem] def XwQ(y0 y1:Int)(xTrial xKept:List XK)(h0:((Store.mk y0 y1 xTrial xKept).Trial.length<=1048576/\(Store.mk y0 y1 xTrial xKept).Kept.length<=1048576)):XoR.F [.agg [.i .i64 y0,.i .i64 y1,.sl .ro 13 (xTrial.map (Xa .ro)),.sl .ro 13 (xKept.map (Xa .ro))]]=some (.sl .mut 13 (((Store.mk y0 y1 xTrial xKept).Trial++(Store.mk y0 y1 xTrial xKept).Kept).map (Xa .ro)),[.u]):=Xb (0) rfl rfl (λcx h=>by
 simp only[go_sem,reduceIte,↓reduceIte,nA,nM,nB,nL,h,h0.1,h0.2]) (rfl)
@[go_sem] def Xwp(b g:Int):XoR.F [.agg [.i .i64 b,.i .i64 g,.sl .ro 13 [],.sl .ro 13 []]]=some (.sl .mut 13 [],[.u]):=XwQ b g [] [] ⟨Nat.zero_le _,Nat.zero_le _⟩
def XqY:SP Tryz.prog:=mkS tyA 194 Tryz.f194 [] {md:=[.ro 1],rets:=some ([2],[])} Tryz.func194 (by kernel_rfl)
@[go_sem] def XKC:XqY.g=194/\XqY.fs=⟨[.ro 1],XqY.F,false⟩:=⟨nr rfl,nr rfl⟩
@[go_sem] def XKD(t:ByteArray):XqY.F [.s t]=some (.b (Xcq t),[.u]):=Xb (0) rfl rfl (λcx h=>by
 by_cases h1:1<=(t.size:Int)<;>by_cases h2:(t.size:Int)<=500<;>simp only[go_sem,reduceIte,↓reduceIte,nB,h,h1,h2,Xcq]) (rfl)
def XqZ:SP Tryz.prog:=mkS tyA 247 Tryz.f247 [] {md:=[.ro 1],rets:=some ([2],[])} Tryz.func247 (by kernel_rfl)
@[go_sem] def XKE:XqZ.g=247/\XqZ.fs=⟨[.ro 1],XqZ.F,false⟩:=⟨nr rfl,nr rfl⟩
@[go_sem] def XKF(c:UInt8):XqZ.F [.i .u8 c.toNat]=some (.b (Q1 c),[.u]):=Xb (0) rfl rfl (λcx h=>by
 by_cases h1:97<=(c.toNat:Int)<;>by_cases h2:(c.toNat:Int)<=122<;>by_cases h3:65<=(c.toNat:Int)<;>by_cases h4:(c.toNat:Int)<=90<;>simp only[go_sem,reduceIte,↓reduceIte,nB,h,h1,h2,h3,h4,Q1]) (rfl)
def XoS:SP Tryz.prog:=mkS tyA 248 Tryz.f248 [] {md:=[.ro 1],rets:=some ([2],[])} Tryz.func248 (by kernel_rfl)
@[go_sem] def XKG:XoS.g=248/\XoS.fs=⟨[.ro 1],XoS.F,false⟩:=⟨nr rfl,nr rfl⟩
@[go_sem] def XKH(c:UInt8):XoS.F [.i .u8 c.toNat]=some (.b (UB c),[.u]):=Xb (0) rfl rfl (λcx h=>by
 by_cases h1:48<=(c.toNat:Int)<;>by_cases h2:(c.toNat:Int)<=57<;>simp only[go_sem,reduceIte,↓reduceIte,nB,h,h1,h2,UB]) (rfl)
def Xsw:SP Tryz.prog:=⟨290,⟨[.ro 1,.ro 1],Xu5,false⟩,Xt8 Tryz.func290 (by kernel_rfl) (by kernel_rfl) (by kernel_rfl) (by kernel_rfl)⟩
@[go_sem] def XKI:Xsw.g=290/\Xsw.fs=⟨[.ro 1,.ro 1],Xsw.F,false⟩:=⟨nr rfl,nr rfl⟩
@[go_sem] def XKJ(s:ByteArray)(c:UInt8):Xsw.F [.s s,.i .u8 c.toNat]=some (.i .i64 (ixB s c),[.u,.u]):=by
 show Xu5 [.s s,.i .u8 c.toNat]=_
 rw[Xqp,XrX]
 rfl
def Xsx:SP Tryz.prog:=mkS tyA 278 Tryz.f278 [Xsw] {md:=[.ro 1,.ro 1],rets:=some ([4],[])} Tryz.func278 (by kernel_rfl)
@[go_sem] def XKK:Xsx.g=278/\Xsx.fs=⟨[.ro 1,.ro 1],Xsx.F,false⟩:=⟨nr rfl,nr rfl⟩
@[go_sem] def XKL(s:ByteArray)(c:UInt8):Xsx.F [.s s,.i .u8 c.toNat]=some (.i .i64 (ixB s c),[.u,.u]):=Xb (0) rfl rfl (λcx h=>by
 simp only[go_sem,reduceIte,↓reduceIte,nA,nB,h]) (rfl)
def Xq0:SP Tryz.prog:=mkS tyA 260 Tryz.f260 [Xsx] {md:=[.ro 1,.ro 1],rets:=some ([4],[])} Tryz.func260 (by kernel_rfl)
@[go_sem] def XKM:Xq0.g=260/\Xq0.fs=⟨[.ro 1,.ro 1],Xq0.F,false⟩:=⟨nr rfl,nr rfl⟩
@[go_sem] def XKN(s:ByteArray)(c:UInt8):Xq0.F [.s s,.i .u8 c.toNat]=some (.i .i64 (ixB s c),[.u,.u]):=Xb (0) rfl rfl (λcx h=>by
 simp only[go_sem,reduceIte,↓reduceIte,nA,nB,h]) (rfl)
def XoT:SP Tryz.prog:=mkS tyA 226 Tryz.f226 [XqZ,XoS,Xq0] {md:=[.ro 1],rets:=some ([2],[])} Tryz.func226 (by kernel_rfl)
@[go_sem] def XKO:XoT.g=226/\XoT.fs=⟨[.ro 1],XoT.F,false⟩:=⟨nr rfl,nr rfl⟩
@[go_sem] def XKP(c:UInt8):XoT.F [.i .u8 c.toNat]=some (.b (XaL c),[.u]):=Xb (0) rfl rfl (λcx h=>by
 have hix:=XoK c
 have hu:XaL c=(Q1 c||UB c||Xjs.contains c):=rfl
 cases h1:Q1 c<;>cases h2:UB c<;>cases h3:Xjs.contains c<;>simp only[go_sem,reduceIte,↓reduceIte,nA,nB,nE,h,h1,h2,h3,hu,hix]) (rfl)
def Xq1:SP Tryz.prog:=mkS tyA 281 Tryz.f281 [] {md:=[.ro 1],rets:=some ([2],[])} Tryz.func281 (by kernel_rfl)
@[go_sem] def XKQ:Xq1.g=281/\Xq1.fs=⟨[.ro 1],Xq1.F,false⟩:=⟨nr rfl,nr rfl⟩
@[go_sem] def XKR(c:UInt8):Xq1.F [.i .u8 c.toNat]=some (.b (Xb4 c),[.u]):=Xb (0) rfl rfl (λcx h=>by
 cases h1:((c.toNat:Int)==9)<;>by_cases h2:32<=(c.toNat:Int)<;>by_cases h3:(c.toNat:Int)<=126<;>simp only[go_sem,reduceIte,↓reduceIte,nB,h,h1,h2,h3,Xb4]) (rfl)
def Xq2:SP Tryz.prog:=mkS tyA 201 Tryz.f201 [XqZ,XoS] {md:=[.ro 1],rets:=some ([2],[])} Tryz.func201 (by kernel_rfl)
@[go_sem] def XKS:Xq2.g=201/\Xq2.fs=⟨[.ro 1],Xq2.F,false⟩:=⟨nr rfl,nr rfl⟩
@[go_sem] def XKT(c:UInt8):Xq2.F [.i .u8 c.toNat]=some (.b (XcW c),[.u]):=Xb (0) rfl rfl (λcx h=>by
 cases h1:Q1 c<;>cases h2:UB c<;>cases h3:((c.toNat:Int)==46)<;>cases h4:((c.toNat:Int)==45)<;>simp only[go_sem,reduceIte,↓reduceIte,nB,nE,h,h1,h2,h3,h4,XcW]) (rfl)
def Xq3:SP Tryz.prog:=mkS tyA 275 Tryz.f275 [XoT,Xq0] {md:=[.ro 1],rets:=some ([2],[])} Tryz.func275 (by kernel_rfl)
@[go_sem] def XKU:Xq3.g=275/\Xq3.fs=⟨[.ro 1],Xq3.F,false⟩:=⟨nr rfl,nr rfl⟩
@[go_sem] def XKV(c:UInt8):Xq3.F [.i .u8 c.toNat]=some (.b (Xb1 c),[.u]):=Xb (0) rfl rfl (λcx h=>by
 have hix:=Xmt c
 have hu:Xb1 c=(XaL c||Xd7.contains c):=rfl
 cases h1:XaL c<;>cases h3:Xd7.contains c<;>simp only[go_sem,reduceIte,↓reduceIte,nA,nB,nE,h,h1,h3,hu,hix]) (rfl)
def Xkm:SP Tryz.prog:=mkS tyA 200 Tryz.f200 [Xq2,XoT,XoS,Xq3,Xq1] {md:=[.ro 1,.ro 1,.ro 1,.ro 1],rg:=[(0,[0,1,2,3],[]),(1,[0,3,19],[]),(2,[8],[]),(3,[0,3,21,22],[]),(4,[0,3,21,22,23],[]),(5,[0,3,9,21,22],[]),(6,[0,3,21,22,30],[]),(7,[8],[]),(8,[0,3,21,22],[]),(9,[8],[])],lv:=[(0,[0,3,21,22],[])],out:=[(0,[],[])],rets:=some ([8],[])} Tryz.func200 (by kernel_rfl)
@[go_sem] def XKW:Xkm.g=200/\Xkm.fs=⟨[.ro 1,.ro 1,.ro 1,.ro 1],Xkm.F,false⟩:=⟨nr rfl,nr rfl⟩
@[go_sem] def Xun(t:ByteArray)(lo hi:Int)(hb:hi<=1000000):Xkm.F [.s t,.i .i64 lo,.i .i64 hi,.fn 226 []]=some (.b (XdR XaL lo hi t),[.u,.u,.u,.u]):=Xb (t.data.toList.length+1) rfl rfl (λcx h=>by
 by_cases h1:(t.size:Int)<lo
 ·simp only[go_sem,reduceIte,↓reduceIte,nA,nB,nE,h,h1,Qy h1]
 by_cases h2:hi<(t.size:Int)
 ·simp only[go_sem,reduceIte,↓reduceIte,nA,nB,nE,h,h1,h2,Ue h2]
 have hx:t.data.toList.length<=9223372036854775806:=by rw[<-Xr]; omega
 have ha:=UF (p:=XaL) h1 h2
 rw[Xr t] at h1 h2
 ·have hb0:=Xg Tryz.f200 0 _ _ rfl rfl
  obtain⟨r,hr,hq⟩:=Xq (cx:=cx) (blk:=0) (body:=XN Tryz.f200 0) t.data.toList (λk (s:Unit)=>⟨E [(0,.s t),(3,.fn 226 []),(21,.i .i64 t.size),(22,.i .i64 k)],B []⟩) (λs=>⟨E [],B []⟩) (λx s=>!XaL x) (λx s=>()) (λx s=>(.ret,⟨E [(8,.b false)],B []⟩)) (λk s=>True)
    (λs hI G=>by simp only[go_sem,reduceIte,↓reduceIte,nB,nE,h,Int.lt_irrefl,hb0,Xr t]) (λk hk s hI=>by
     have h1:((k:Int)<(t.data.toList.length:Int)):=Int.ofNat_lt.2 hk
     have hz:=Xcn t k hk
     exact⟨_,_,_,λG=>by simp only[go_sem,reduceIte,↓reduceIte,nB,nE,h,hz,Xr t,h1,Xh _ _ hk,Xd (show k<9223372036854775807 by omega),hb0]<;>with_reducible rfl,Iff.rfl,λhc=>⟨trivial,by simp only[go_sem,reduceIte,↓reduceIte,nB,h,Xr t]⟩⟩) () trivial (t.data.toList.length+1) (Nat.le_refl _)
  rw[hb0] at hr
  rcases hq with⟨s',e1,_,e3⟩ | ⟨x,s',e1,e3⟩
  ·simp only[go_sem,reduceIte,↓reduceIte,nA,nB,nE,h,h1,h2,Xr t,hr,e3,ha,ZV e1]
  ·simp only[go_sem,reduceIte,↓reduceIte,nA,nB,nE,h,h1,h2,Xr t,hr,e3,ha,Zk e1]) (rfl)
@[go_sem] def Xuo(t:ByteArray)(lo hi:Int)(hb:hi<=1000000):Xkm.F [.s t,.i .i64 lo,.i .i64 hi,.fn 281 []]=some (.b (XdR Xb4 lo hi t),[.u,.u,.u,.u]):=Xb (t.data.toList.length+1) rfl rfl (λcx h=>by
 by_cases h1:(t.size:Int)<lo
 ·simp only[go_sem,reduceIte,↓reduceIte,nA,nB,nE,h,h1,Qy h1]
 by_cases h2:hi<(t.size:Int)
 ·simp only[go_sem,reduceIte,↓reduceIte,nA,nB,nE,h,h1,h2,Ue h2]
 have hx:t.data.toList.length<=9223372036854775806:=by rw[<-Xr]; omega
 have ha:=UF (p:=Xb4) h1 h2
 rw[Xr t] at h1 h2
 ·have hb0:=Xg Tryz.f200 0 _ _ rfl rfl
  obtain⟨r,hr,hq⟩:=Xq (cx:=cx) (blk:=0) (body:=XN Tryz.f200 0) t.data.toList (λk (s:Unit)=>⟨E [(0,.s t),(3,.fn 281 []),(21,.i .i64 t.size),(22,.i .i64 k)],B []⟩) (λs=>⟨E [],B []⟩) (λx s=>!Xb4 x) (λx s=>()) (λx s=>(.ret,⟨E [(8,.b false)],B []⟩)) (λk s=>True)
    (λs hI G=>by simp only[go_sem,reduceIte,↓reduceIte,nB,nE,h,Int.lt_irrefl,hb0,Xr t]) (λk hk s hI=>by
     have h1:((k:Int)<(t.data.toList.length:Int)):=Int.ofNat_lt.2 hk
     have hz:=Xcn t k hk
     exact⟨_,_,_,λG=>by simp only[go_sem,reduceIte,↓reduceIte,nB,nE,h,hz,Xr t,h1,Xh _ _ hk,Xd (show k<9223372036854775807 by omega),hb0]<;>with_reducible rfl,Iff.rfl,λhc=>⟨trivial,by simp only[go_sem,reduceIte,↓reduceIte,nB,h,Xr t]⟩⟩) () trivial (t.data.toList.length+1) (Nat.le_refl _)
  rw[hb0] at hr
  rcases hq with⟨s',e1,_,e3⟩ | ⟨x,s',e1,e3⟩
  ·simp only[go_sem,reduceIte,↓reduceIte,nA,nB,nE,h,h1,h2,Xr t,hr,e3,ha,ZV e1]
  ·simp only[go_sem,reduceIte,↓reduceIte,nA,nB,nE,h,h1,h2,Xr t,hr,e3,ha,Zk e1]) (rfl)
@[go_sem] def Xup(t:ByteArray)(lo hi:Int)(hb:hi<=1000000):Xkm.F [.s t,.i .i64 lo,.i .i64 hi,.fn 201 []]=some (.b (XdR XcW lo hi t),[.u,.u,.u,.u]):=Xb (t.data.toList.length+1) rfl rfl (λcx h=>by
 by_cases h1:(t.size:Int)<lo
 ·simp only[go_sem,reduceIte,↓reduceIte,nA,nB,nE,h,h1,Qy h1]
 by_cases h2:hi<(t.size:Int)
 ·simp only[go_sem,reduceIte,↓reduceIte,nA,nB,nE,h,h1,h2,Ue h2]
 have hx:t.data.toList.length<=9223372036854775806:=by rw[<-Xr]; omega
 have ha:=UF (p:=XcW) h1 h2
 rw[Xr t] at h1 h2
 ·have hb0:=Xg Tryz.f200 0 _ _ rfl rfl
  obtain⟨r,hr,hq⟩:=Xq (cx:=cx) (blk:=0) (body:=XN Tryz.f200 0) t.data.toList (λk (s:Unit)=>⟨E [(0,.s t),(3,.fn 201 []),(21,.i .i64 t.size),(22,.i .i64 k)],B []⟩) (λs=>⟨E [],B []⟩) (λx s=>!XcW x) (λx s=>()) (λx s=>(.ret,⟨E [(8,.b false)],B []⟩)) (λk s=>True)
    (λs hI G=>by simp only[go_sem,reduceIte,↓reduceIte,nB,nE,h,Int.lt_irrefl,hb0,Xr t]) (λk hk s hI=>by
     have h1:((k:Int)<(t.data.toList.length:Int)):=Int.ofNat_lt.2 hk
     have hz:=Xcn t k hk
     exact⟨_,_,_,λG=>by simp only[go_sem,reduceIte,↓reduceIte,nB,nE,h,hz,Xr t,h1,Xh _ _ hk,Xd (show k<9223372036854775807 by omega),hb0]<;>with_reducible rfl,Iff.rfl,λhc=>⟨trivial,by simp only[go_sem,reduceIte,↓reduceIte,nB,h,Xr t]⟩⟩) () trivial (t.data.toList.length+1) (Nat.le_refl _)
  rw[hb0] at hr
  rcases hq with⟨s',e1,_,e3⟩ | ⟨x,s',e1,e3⟩
  ·simp only[go_sem,reduceIte,↓reduceIte,nA,nB,nE,h,h1,h2,Xr t,hr,e3,ha,ZV e1]
  ·simp only[go_sem,reduceIte,↓reduceIte,nA,nB,nE,h,h1,h2,Xr t,hr,e3,ha,Zk e1]) (rfl)
@[go_sem] def Xuq(t:ByteArray)(lo hi:Int)(hb:hi<=1000000):Xkm.F [.s t,.i .i64 lo,.i .i64 hi,.fn 275 []]=some (.b (XdR Xb1 lo hi t),[.u,.u,.u,.u]):=Xb (t.data.toList.length+1) rfl rfl (λcx h=>by
 by_cases h1:(t.size:Int)<lo
 ·simp only[go_sem,reduceIte,↓reduceIte,nA,nB,nE,h,h1,Qy h1]
 by_cases h2:hi<(t.size:Int)
 ·simp only[go_sem,reduceIte,↓reduceIte,nA,nB,nE,h,h1,h2,Ue h2]
 have hx:t.data.toList.length<=9223372036854775806:=by rw[<-Xr]; omega
 have ha:=UF (p:=Xb1) h1 h2
 rw[Xr t] at h1 h2
 ·have hb0:=Xg Tryz.f200 0 _ _ rfl rfl
  obtain⟨r,hr,hq⟩:=Xq (cx:=cx) (blk:=0) (body:=XN Tryz.f200 0) t.data.toList (λk (s:Unit)=>⟨E [(0,.s t),(3,.fn 275 []),(21,.i .i64 t.size),(22,.i .i64 k)],B []⟩) (λs=>⟨E [],B []⟩) (λx s=>!Xb1 x) (λx s=>()) (λx s=>(.ret,⟨E [(8,.b false)],B []⟩)) (λk s=>True)
    (λs hI G=>by simp only[go_sem,reduceIte,↓reduceIte,nB,nE,h,Int.lt_irrefl,hb0,Xr t]) (λk hk s hI=>by
     have h1:((k:Int)<(t.data.toList.length:Int)):=Int.ofNat_lt.2 hk
     have hz:=Xcn t k hk
     exact⟨_,_,_,λG=>by simp only[go_sem,reduceIte,↓reduceIte,nB,nE,h,hz,Xr t,h1,Xh _ _ hk,Xd (show k<9223372036854775807 by omega),hb0]<;>with_reducible rfl,Iff.rfl,λhc=>⟨trivial,by simp only[go_sem,reduceIte,↓reduceIte,nB,h,Xr t]⟩⟩) () trivial (t.data.toList.length+1) (Nat.le_refl _)
  rw[hb0] at hr
  rcases hq with⟨s',e1,_,e3⟩ | ⟨x,s',e1,e3⟩
  ·simp only[go_sem,reduceIte,↓reduceIte,nA,nB,nE,h,h1,h2,Xr t,hr,e3,ha,ZV e1]
  ·simp only[go_sem,reduceIte,↓reduceIte,nA,nB,nE,h,h1,h2,Xr t,hr,e3,ha,Zk e1]) (rfl)
@[go_sem] def Xur(t:ByteArray)(lo hi:Int)(hb:hi<=1000000):Xkm.F [.s t,.i .i64 lo,.i .i64 hi,.fn 248 []]=some (.b (XdR UB lo hi t),[.u,.u,.u,.u]):=Xb (t.data.toList.length+1) rfl rfl (λcx h=>by
 by_cases h1:(t.size:Int)<lo
 ·simp only[go_sem,reduceIte,↓reduceIte,nA,nB,nE,h,h1,Qy h1]
 by_cases h2:hi<(t.size:Int)
 ·simp only[go_sem,reduceIte,↓reduceIte,nA,nB,nE,h,h1,h2,Ue h2]
 have hx:t.data.toList.length<=9223372036854775806:=by rw[<-Xr]; omega
 have ha:=UF (p:=UB) h1 h2
 rw[Xr t] at h1 h2
 ·have hb0:=Xg Tryz.f200 0 _ _ rfl rfl
  obtain⟨r,hr,hq⟩:=Xq (cx:=cx) (blk:=0) (body:=XN Tryz.f200 0) t.data.toList (λk (s:Unit)=>⟨E [(0,.s t),(3,.fn 248 []),(21,.i .i64 t.size),(22,.i .i64 k)],B []⟩) (λs=>⟨E [],B []⟩) (λx s=>!UB x) (λx s=>()) (λx s=>(.ret,⟨E [(8,.b false)],B []⟩)) (λk s=>True)
    (λs hI G=>by simp only[go_sem,reduceIte,↓reduceIte,nB,nE,h,Int.lt_irrefl,hb0,Xr t]) (λk hk s hI=>by
     have h1:((k:Int)<(t.data.toList.length:Int)):=Int.ofNat_lt.2 hk
     have hz:=Xcn t k hk
     exact⟨_,_,_,λG=>by simp only[go_sem,reduceIte,↓reduceIte,nB,nE,h,hz,Xr t,h1,Xh _ _ hk,Xd (show k<9223372036854775807 by omega),hb0]<;>with_reducible rfl,Iff.rfl,λhc=>⟨trivial,by simp only[go_sem,reduceIte,↓reduceIte,nB,h,Xr t]⟩⟩) () trivial (t.data.toList.length+1) (Nat.le_refl _)
  rw[hb0] at hr
  rcases hq with⟨s',e1,_,e3⟩ | ⟨x,s',e1,e3⟩
  ·simp only[go_sem,reduceIte,↓reduceIte,nA,nB,nE,h,h1,h2,Xr t,hr,e3,ha,ZV e1]
  ·simp only[go_sem,reduceIte,↓reduceIte,nA,nB,nE,h,h1,h2,Xr t,hr,e3,ha,Zk e1]) (rfl)
def Xq4:SP Tryz.prog:=mkS tyA 167 Tryz.f167 [Xkm,XoT] {md:=[.ro 1],rets:=some ([2],[])} Tryz.func167 (by kernel_rfl)
@[go_sem] def XKX:Xq4.g=167/\Xq4.fs=⟨[.ro 1],Xq4.F,false⟩:=⟨nr rfl,nr rfl⟩
@[go_sem] def XKY(t:ByteArray):Xq4.F [.s t]=some (.b (Xad t),[.u]):=Xb (0) rfl rfl (λcx h=>by
 simp only[go_sem,reduceIte,↓reduceIte,nA,nB,iL,h,Xad]) (rfl)
def Xsy:SP Tryz.prog:=mkS tyA 270 Tryz.f270 [Xkm,Xq1] {md:=[.ro 1],rets:=some ([2],[])} Tryz.func270 (by kernel_rfl)
@[go_sem] def XKZ:Xsy.g=270/\Xsy.fs=⟨[.ro 1],Xsy.F,false⟩:=⟨nr rfl,nr rfl⟩
@[go_sem] def XK0(t:ByteArray)(h0:(t.size:Int)<=1000000):Xsy.F [.s t]=some (.b (Xoe t),[.u]):=Xb (0) rfl rfl (λcx h=>by
 simp only[go_sem,reduceIte,↓reduceIte,nA,nB,h,h0,XoL]) (rfl)
def Xsz:SP Tryz.prog:=⟨271,⟨[.ro 1,.ro 1],Xn3,false⟩,Xqq Tryz.func271 (by kernel_rfl) rfl Go.Proofs.Tryz.trimSpTab⟩
@[go_sem] def XK1:Xsz.g=271/\Xsz.fs=⟨[.ro 1,.ro 1],Xsz.F,false⟩:=⟨nr rfl,nr rfl⟩
@[go_sem] def XK2(x:ByteArray)(h0:x.size<=9223372036854775807):Xsz.F [.s x,.s ⟨#[32,9]⟩]=some (.s (XhU x),[.u,.u]):=by
 show Xn3 [.s x,.s ⟨#[32,9]⟩]=_
 have hc:(⟨#[32,9]⟩:ByteArray).data.toList=[32,9]/\x.size<=9223372036854775807:=⟨rfl,h0⟩
 exact if_pos hc
def XsA:SP Tryz.prog:=mkS tyA 245 Tryz.f245 [Xq4,Xsy,Xsz] {md:=[.ro 1],rg:=[(0,[1],[1]),(1,[1,3],[1]),(2,[2],[]),(3,[1,8],[1]),(4,[2],[]),(5,[13],[]),(6,[2],[]),(7,[2],[])],rets:=some ([2],[]),plan:=[(5,(.take 0 (.take 1 (.one 2 (.take 3 (.take 4 (.take 5 (.take 6 (.take 8 (.take 9 (.one 7 (.take 10 (.take 11 (.one 12 .done))))))))))))))]} Tryz.func245 (by kernel_rfl)
@[go_sem] def XK3:XsA.g=245/\XsA.fs=⟨[.ro 1],XsA.F,false⟩:=⟨nr rfl,nr rfl⟩
@[go_sem] def XK4(y2 y3:ByteArray):XsA.F [.agg [.s y2,.s y3]]=some (.i .i64 (YN (Xx.mk y2 y3)),[.u]):=Xb (0) rfl rfl (λcx h=>by
 cases h1:Xad y2
 ·simp only[go_sem,reduceIte,↓reduceIte,nA,nB,nE,nL,h,h1,YN]
 by_cases h2:200<(y3.size:Int)
 ·simp only[go_sem,reduceIte,↓reduceIte,nA,nB,nE,nL,h,h1,h2,YN]
 have h3:(y3.size:Int)<=1000000:=by omega
 have h4:y3.size<=9223372036854775806:=by omega
 have h5:y3.size<=9223372036854775807:=by omega
 cases h6:Xoe y3
 ·simp only[go_sem,reduceIte,↓reduceIte,nA,nB,nE,nL,h,h1,h2,h3,h6,YN]
 cases h7:eqv (XhU y3) y3<;>simp only[go_sem,reduceIte,↓reduceIte,nA,nB,nE,nL,h,h1,h2,h3,h5,h6,h7,XH,YN]) (rfl)
def Xq5:SP Tryz.prog:=mkS tyA 195 Tryz.f195 [XsA] {md:=[.ro 1],rg:=[(0,[0],[]),(1,[0,8],[]),(2,[2],[]),(3,[0,9,10,11],[]),(4,[0,9,10,11,12],[]),(5,[0,4,9,10,11],[4]),(6,[0,5,9,10,11],[]),(7,[0,5,9,10,11,18],[]),(8,[2],[]),(9,[0,9,10,11],[]),(10,[2],[])],lv:=[(0,[0,9,10,11],[])],out:=[(0,[],[])],rets:=some ([2],[])} Tryz.func195 (by kernel_rfl)
@[go_sem] def XK5:Xq5.g=195/\Xq5.fs=⟨[.ro 1],Xq5.F,false⟩:=⟨nr rfl,nr rfl⟩
@[go_sem] def XK6(hs:List Xx):Xq5.F [.sl .ro 2 (hs.map (Xj .ro))]=some (.i .i64 (Xn hs),[.u]):=Xb (hs.length+1) rfl rfl (λcx h=>by
 by_cases h1:20<(hs.length:Int)
 ·simp only[go_sem,reduceIte,↓reduceIte,nB,nE,h,h1,Xn]
 have hx:hs.length<=9223372036854775806:=by omega
 have hb0:=Xg Tryz.f195 0 _ _ rfl rfl
 obtain⟨r,hr,hq⟩:=Xq (cx:=cx) (blk:=0) (body:=XN Tryz.f195 0) hs (λk (s:Unit)=>⟨E [(0,.sl .ro 2 (hs.map (Xj .ro))),(9,.sl .ro 2 (hs.map (Xj .ro))),(10,.i .i64 hs.length),(11,.i .i64 k)],B []⟩) (λs=>⟨E [],B []⟩) (λx s=>YN x !=0) (λx s=>()) (λx s=>(.ret,⟨E [(2,.i .i64 (YN x))],B []⟩)) (λk s=>True)
   (λs hI G=>by simp only[go_sem,reduceIte,↓reduceIte,nB,nE,h,Int.lt_irrefl,hb0]) (λk hk s hI=>by
    have h1:((k:Int)<(hs.length:Int)):=Int.ofNat_lt.2 hk
    exact⟨_,_,_,λG=>by simp only[go_sem,reduceIte,↓reduceIte,nA,nB,nE,h,Xi (Xj .ro) hs _ hk,Xj,h1,Xh _ _ hk,Xd (show k<9223372036854775807 by omega),hb0]<;>with_reducible rfl,Iff.rfl,λhc=>⟨trivial,by simp only[go_sem,reduceIte,↓reduceIte,nB,h]⟩⟩) () trivial (hs.length+1) (Nat.le_refl _)
 rw[hb0] at hr
 rcases hq with⟨s',e1,_,e3⟩ | ⟨x,s',e1,e3⟩
 ·simp only[go_sem,reduceIte,↓reduceIte,nB,nE,h,h1,hr,e3,Xn,Z8 e1]
 ·simp only[go_sem,reduceIte,↓reduceIte,nB,nE,h,h1,hr,e3,Xn,Z9 e1]) (rfl)
def s60:SP Tryz.prog:=mkS tyA 60 Tryz.f60 [s93] {md:=[.ro 1],rets:=some ([2],[])} Tryz.func60 (by kernel_rfl)
@[go_sem] def d60:s60.g=60/\s60.fs=⟨[.ro 1],s60.F,false⟩:=⟨nr rfl,nr rfl⟩
@[go_sem] def e60(a:Int):s60.F [.i .i64 a]=some (.b (XC a),[.u]):=Xb (0) rfl rfl (λcx h=>by
 simp only[go_sem,reduceIte,↓reduceIte,nA,nB,h,XC]) (rfl)
def XsB:SP Tryz.prog:=mkS tyA 196 Tryz.f196 [s60] {md:=[.ro 1],rg:=[(0,[1],[1]),(1,[15,16],[]),(2,[15,16,17],[]),(3,[4,15,16],[]),(4,[15,16,21],[]),(5,[2],[]),(6,[15,16],[]),(7,[2],[])],lv:=[(0,[15,16],[])],out:=[(0,[],[])],rets:=some ([2],[])} Tryz.func196 (by kernel_rfl)
@[go_sem] def XK7:XsB.g=196/\XsB.fs=⟨[.ro 1],XsB.F,false⟩:=⟨nr rfl,nr rfl⟩
@[go_sem] def XK8(mAt y4 y5 y6 y7:Int)(y8 y9:Bool):XsB.F [.agg [.i .i64 mAt,.i .i64 y4,.i .i64 y5,.i .i64 y6,.i .i64 y7,.b y8,.b y9]]=some (.i .i64 (XaB (Meta.mk mAt y4 y5 y6 y7 y8 y9)),[.u]):=Xb (6) rfl rfl (λcx h=>by
 obtain⟨xs,hxs⟩:∃xs:List Int,xs=[mAt,y4,y5,y6,y7]:=⟨_,rfl⟩
 have hxl:xs.length=5:=by rw[hxs]; rfl
 have hm:XgG (Meta.mk mAt y4 y5 y6 y7 y8 y9)=xs:=by rw[hxs]; rfl
 have hz:[AV.i .i64 mAt,.i .i64 y4,.i .i64 y5,.i .i64 y6,.i .i64 y7]=xs.map λa=>AV.i .i64 a:=by rw[hxs]; rfl
 have hb0:=Xg Tryz.f196 0 _ _ rfl rfl
 obtain⟨r,hr,hq⟩:=Xq (cx:=cx) (blk:=0) (body:=XN Tryz.f196 0) xs (λk (s:Unit)=>⟨E [(15,.agg (xs.map λa=>.i .i64 a)),(16,.i .i64 k)],B []⟩) (λs=>⟨E [],B []⟩) (λx s=>!XC x) (λx s=>()) (λx s=>(.ret,⟨E [(2,.i .i64 3)],B []⟩)) (λk s=>True)
   (λs hI G=>by simp only[go_sem,reduceIte,↓reduceIte,nB,nE,h,Int.lt_irrefl,hb0,hxl,XaA]) (λk hk s hI=>by
    have h1:((k:Int)<(xs.length:Int)):=Int.ofNat_lt.2 hk
    have h1':(k:Int)<5:=by rw[hxl] at h1; exact h1
    have hA:=Xks (f:=λa=>AV.i .i64 a) hxl.symm hk
    exact⟨_,_,_,λG=>by simp only[go_sem,reduceIte,↓reduceIte,nB,nE,h,h1',hA,Xcp,XaA,Xd (show k<9223372036854775807 by omega),hb0]<;>with_reducible rfl,Iff.rfl,λhc=>⟨trivial,by simp only[go_sem,reduceIte,↓reduceIte,nB,h,XaA]⟩⟩) () trivial 6 (by rw[hxl]; exact Nat.le_refl _)
 rw[hb0] at hr
 rcases hq with⟨s',e1,_,e3⟩ | ⟨x,s',e1,e3⟩
 ·simp only[go_sem,reduceIte,↓reduceIte,nA,nB,nE,nL,h,hz,hr,e3,XaA,XaB,hm,runS_any e1]
 ·simp only[go_sem,reduceIte,↓reduceIte,nA,nB,nL,h,hz,hr,e3,XaA,XaB,hm,QJ e1]) (rfl)
def XsC:SP Tryz.prog:=mkS tyA 126 Tryz.f126 [s93,XqY,Xq5,XsB] {md:=[.ro 1],rg:=[(0,[1],[1]),(1,[1,4],[1]),(2,[2],[]),(3,[1,9],[1]),(4,[2],[]),(5,[1,3],[1]),(6,[1,3,33],[1]),(7,[2],[]),(8,[1,44],[1]),(9,[2],[]),(10,[2],[])],rets:=some ([2],[])} Tryz.func126 (by kernel_rfl)
@[go_sem] def XK9:XsC.g=126/\XsC.fs=⟨[.ro 1],XsC.F,false⟩:=⟨nr rfl,nr rfl⟩
@[go_sem] def XLa(y10:ByteArray)(y11:Int)(y12:List Xx)(y13:List UInt8)(y14 y15 y16 y17 y18:Int)(y19 y20:Bool)(y21:List ByteArray)(y22:Int)(h0:smL X6 (XK.mk y10 y11 y12 y13 (Meta.mk y14 y15 y16 y17 y18 y19 y20) y21 y22).Headers):XsC.F [.agg [.s y10,.i .i64 y11,.sl .ro 2 (y12.map (Xj .ro)),.sl .ro 1 (y13.map Yq),.i .i64 y14,.i .i64 y15,.i .i64 y16,.i .i64 y17,.i .i64 y18,.b y19,.b y20,.sl .ro 1 (y21.map Ye),.i .i64 y22]]=some (.i .i64 (Xu (XK.mk y10 y11 y12 y13 (Meta.mk y14 y15 y16 y17 y18 y19 y20) y21 y22)),[.u]):=Xb (0) rfl rfl (λcx h=>by
 cases hk:Xcq y10
 ·simp only[go_sem,reduceIte,↓reduceIte,nA,nB,nE,nL,h,hk,Xu]
 cases hp:Xd9 y11
 rotate_left
 ·have hp':=hp
  unfold Xd9 at hp'
  simp only[Bool.and_eq_true] at hp'
  obtain⟨⟨s1,s2⟩,s3⟩:=hp'
  simp only[go_sem,reduceIte,↓reduceIte,nA,nB,nE,nL,h,hk,Xu,hp,s1,s2,s3]
 rcases XiU hp with rfl | ⟨s1,rfl⟩ | ⟨s1,s2,rfl⟩
 ·cases w1:within y22 0 20
  ·simp only[go_sem,reduceIte,↓reduceIte,nA,nB,nE,nL,h,hk,Xu,hp,w1]
  by_cases z:Xn y12=0
  rotate_left
  ·have z':(Xn y12 !=0)=true:=by simpa using z
   simp only[go_sem,reduceIte,↓reduceIte,nA,nB,nE,nL,h,hk,Xu,hp,w1,z']
  have z':(Xn y12 !=0)=false:=by simpa using z
  by_cases b1:2000<(y13.length:Int)
  ·simp only[go_sem,reduceIte,↓reduceIte,nA,nB,nE,nL,h,hk,Xu,hp,w1,z,b1]
  by_cases b2:10<(y21.length:Int)
  ·simp only[go_sem,reduceIte,↓reduceIte,nA,nB,nE,nL,h,hk,Xu,hp,w1,z,b1,b2]
  simp only[go_sem,reduceIte,↓reduceIte,nA,nB,nE,nL,h,hk,Xu,hp,w1,z,b1,b2]
 ·cases w1:within y22 0 20
  ·simp only[go_sem,reduceIte,↓reduceIte,nA,nB,nE,nL,iN,h,hk,Xu,hp,w1]
  by_cases z:Xn y12=0
  rotate_left
  ·have z':(Xn y12 !=0)=true:=by simpa using z
   simp only[go_sem,reduceIte,↓reduceIte,nA,nB,nE,nL,iN,h,hk,Xu,hp,w1,z']
  have z':(Xn y12 !=0)=false:=by simpa using z
  by_cases b1:2000<(y13.length:Int)
  ·simp only[go_sem,reduceIte,↓reduceIte,nA,nB,nE,nL,iN,h,hk,Xu,hp,w1,z,b1]
  by_cases b2:10<(y21.length:Int)
  ·simp only[go_sem,reduceIte,↓reduceIte,nA,nB,nE,nL,iN,h,hk,Xu,hp,w1,z,b1,b2]
  simp only[go_sem,reduceIte,↓reduceIte,nA,nB,nE,nL,iN,h,hk,Xu,hp,w1,z,b1,b2]
 ·cases w1:within y22 0 20
  ·simp only[go_sem,reduceIte,↓reduceIte,nA,nB,nE,nL,iN,h,hk,Xu,hp,w1]
  by_cases z:Xn y12=0
  rotate_left
  ·have z':(Xn y12 !=0)=true:=by simpa using z
   simp only[go_sem,reduceIte,↓reduceIte,nA,nB,nE,nL,iN,h,hk,Xu,hp,w1,z']
  have z':(Xn y12 !=0)=false:=by simpa using z
  by_cases b1:2000<(y13.length:Int)
  ·simp only[go_sem,reduceIte,↓reduceIte,nA,nB,nE,nL,iN,h,hk,Xu,hp,w1,z,b1]
  by_cases b2:10<(y21.length:Int)
  ·simp only[go_sem,reduceIte,↓reduceIte,nA,nB,nE,nL,iN,h,hk,Xu,hp,w1,z,b1,b2]
  simp only[go_sem,reduceIte,↓reduceIte,nA,nB,nE,nL,iN,h,hk,Xu,hp,w1,z,b1,b2]) (rfl)
def XsD:SP Tryz.prog:=mkS tyA 128 Tryz.f128 [] {md:=[.ro 1,.ro 1],rets:=some ([3],[])} Tryz.func128 (by kernel_rfl)
@[go_sem] def XLb:XsD.g=128/\XsD.fs=⟨[.ro 1,.ro 1],XsD.F,false⟩:=⟨nr rfl,nr rfl⟩
@[go_sem] def XLc(y23:ByteArray)(y24:Int)(y25:List Xx)(y26:List UInt8)(y27 y28 y29 y30 y31:Int)(y32 y33:Bool)(y34:List ByteArray)(y35:Int)(y36:ByteArray)(y37:Int)(y38:List Xx)(y39:List UInt8)(y40 y41 y42 y43 y44:Int)(y45 y46:Bool)(y47:List ByteArray)(y48:Int):XsD.F [.agg [.s y23,.i .i64 y24,.sl .ro 2 (y25.map (Xj .ro)),.sl .ro 1 (y26.map Yq),.i .i64 y27,.i .i64 y28,.i .i64 y29,.i .i64 y30,.i .i64 y31,.b y32,.b y33,.sl .ro 1 (y34.map Ye),.i .i64 y35],.pr [.s y36,.i .i64 y37,.sl .ro 2 (y38.map (Xj .ro)),.sl .ro 1 (y39.map Yq),.i .i64 y40,.i .i64 y41,.i .i64 y42,.i .i64 y43,.i .i64 y44,.b y45,.b y46,.sl .ro 1 (y47.map Ye),.i .i64 y48]]=some (.b (eqv y23 y36),[.u,.u]):=Xb (0) rfl rfl (λcx h=>by
 simp only[go_sem,reduceIte,↓reduceIte,nA,nB,nL,h,XH]) (rfl)
def XsE:SP Tryz.prog:=mkS tyA 146 Tryz.f146 [] {md:=[.ro 1,.ro 1],rets:=some ([3],[])} Tryz.func146 (by kernel_rfl)
@[go_sem] def XLd:XsE.g=146/\XsE.fs=⟨[.ro 1,.ro 1],XsE.F,false⟩:=⟨nr rfl,nr rfl⟩
@[go_sem] def XLe(y23:ByteArray)(y24:Int)(y25:List Xx)(y26:List UInt8)(y27 y28 y29 y30 y31:Int)(y32 y33:Bool)(y34:List ByteArray)(y35 y49 y50 y51 y52 y53 y54 y55 y56:Int)(y57:List ByteArray)(y58 y59 y60 y61 y62 y63 y64 y65 vNow y66 y67 y68:Int)(y69 y70:List XK)(y71:List Origin)(y72:List Xl):XsE.F [.agg [.s y23,.i .i64 y24,.sl .ro 2 (y25.map (Xj .ro)),.sl .ro 1 (y26.map Yq),.i .i64 y27,.i .i64 y28,.i .i64 y29,.i .i64 y30,.i .i64 y31,.b y32,.b y33,.sl .ro 1 (y34.map Ye),.i .i64 y35],.pr [.i .i64 y49,.i .i64 y50,.i .i64 y51,.i .i64 y52,.i .i64 y53,.i .i64 y54,.i .i64 y55,.i .i64 y56,.sl .ro 1 (y57.map Ye),.i .i64 y58,.i .i64 y59,.i .i64 y60,.i .i64 y61,.i .i64 y62,.i .i64 y63,.i .i64 y64,.i .i64 y65,.i .i64 vNow,.i .i64 y66,.i .i64 y67,.i .i64 y68,.sl .ro 13 (y69.map (Xa .ro)),.sl .ro 13 (y70.map (Xa .ro)),.sl .ro 7 (y71.map (Xe .ro)),.sl .ro 11 (y72.map (Xc .ro))]]=some (.b (!ZO vNow (XK.mk y23 y24 y25 y26 (Meta.mk y27 y28 y29 y30 y31 y32 y33) y34 y35)),[.u,.u]):=Xb (0) rfl rfl (λcx h=>by
 have hu:ZO vNow (XK.mk y23 y24 y25 y26 (Meta.mk y27 y28 y29 y30 y31 y32 y33) y34 y35)=(decide (y27<=vNow)&&decide ((y25.length:Int)<=17)):=rfl
 by_cases c1:vNow<y27
 ·have c1':¬(y27<=vNow):=by omega
  simp only[go_sem,reduceIte,↓reduceIte,nA,nB,nL,h,c1,c1',hu]
 have c1':y27<=vNow:=by omega
 by_cases c2:17<(y25.length:Int)
 ·have c2':¬((y25.length:Int)<=17):=by omega
  simp only[go_sem,reduceIte,↓reduceIte,nA,nB,nL,h,c1,c1',c2,c2',hu]
 ·have c2':(y25.length:Int)<=17:=by omega
  simp only[go_sem,reduceIte,↓reduceIte,nA,nB,nL,h,c1,c1',c2,c2',hu]) (rfl)
def Xq6:SP Tryz.prog:=mkS tyA 197 Tryz.f197 [XsD,XsE] {md:=[.ro 1,.ro 1],rg:=[(0,[0,1],[]),(1,[0,1,7,8],[]),(2,[0,1,7,8,9],[]),(3,[0,1,5,7,8],[]),(4,[0,1,5,7,8,16],[]),(5,[4],[]),(6,[0,1,7,8],[]),(7,[4],[])],lv:=[(0,[0,1,7,8],[])],out:=[(0,[],[])],rets:=some ([4],[])} Tryz.func197 (by kernel_rfl)
@[go_sem] def XLf:Xq6.g=197/\Xq6.fs=⟨[.ro 1,.ro 1],Xq6.F,false⟩:=⟨nr rfl,nr rfl⟩
@[go_sem] def Xus(xs:List XK)(y36:ByteArray)(y37:Int)(y38:List Xx)(y39:List UInt8)(y40 y41 y42 y43 y44:Int)(y45 y46:Bool)(y47:List ByteArray)(y48:Int)(hb:xs.length<=9223372036854775806):Xq6.F [.sl .ro 13 (xs.map (Xa .ro)),.fn 128 [.pr [.s y36,.i .i64 y37,.sl .ro 2 (y38.map (Xj .ro)),.sl .ro 1 (y39.map Yq),.i .i64 y40,.i .i64 y41,.i .i64 y42,.i .i64 y43,.i .i64 y44,.b y45,.b y46,.sl .ro 1 (y47.map Ye),.i .i64 y48]]]=some (.i .i64 (U6 (λx=>eqv x.Key y36) xs 0),[.u,.u]):=Xb (xs.length+1) rfl rfl (λcx h=>by
 have hx:=hb
 have hb0:=Xg Tryz.f197 0 _ _ rfl rfl
 obtain⟨r,hr,hq⟩:=Xq (cx:=cx) (blk:=0) (body:=XN Tryz.f197 0) xs (λk (s:Nat)=>⟨E [(0,.sl .ro 13 (xs.map (Xa .ro))),(1,.fn 128 [.pr [.s y36,.i .i64 y37,.sl .ro 2 (y38.map (Xj .ro)),.sl .ro 1 (y39.map Yq),.i .i64 y40,.i .i64 y41,.i .i64 y42,.i .i64 y43,.i .i64 y44,.b y45,.b y46,.sl .ro 1 (y47.map Ye),.i .i64 y48]]),(7,.i .i64 xs.length),(8,.i .i64 k)],B []⟩) (λs=>⟨E [],B []⟩) (λx s=>eqv x.Key y36) (λx s=>s+1) (λx s=>(.ret,⟨E [(4,.i .i64 s)],B []⟩)) (λk s=>k=s)
   (λs hI G=>by simp only[go_sem,reduceIte,↓reduceIte,nB,nE,h,Int.lt_irrefl,hb0,hI]) (λk hk s hI=>by
    have h1:((k:Int)<(xs.length:Int)):=Int.ofNat_lt.2 hk
    obtain rfl:=hI
    exact⟨_,_,_,λG=>by simp only[go_sem,reduceIte,↓reduceIte,nA,nB,nE,h,Xi (Xa .ro) xs _ hk,h1,Xh _ _ hk,Xd (show k<9223372036854775807 by omega),hb0]<;>with_reducible rfl,by first | exact Iff.rfl | simp,λhc=>⟨rfl,by simp only[go_sem,reduceIte,↓reduceIte,nB,h]⟩⟩) 0 rfl (xs.length+1) (Nat.le_refl _)
 rw[hb0] at hr
 rcases hq with⟨s',e1,_,e3⟩ | ⟨x,s',e1,e3⟩
 ·simp only[go_sem,reduceIte,↓reduceIte,nB,nE,iG,h,hr,e3,ZJ e1]
 ·simp only[go_sem,reduceIte,↓reduceIte,nB,h,hr,e3,Zc e1]) (rfl)
@[go_sem] def Xut(xs:List XK)(y49 y50 y51 y52 y53 y54 y55 y56:Int)(y57:List ByteArray)(y58 y59 y60 y61 y62 y63 y64 y65 vNow y66 y67 y68:Int)(y69 y70:List XK)(y71:List Origin)(y72:List Xl)(hb:xs.length<=9223372036854775806):Xq6.F [.sl .ro 13 (xs.map (Xa .ro)),.fn 146 [.pr [.i .i64 y49,.i .i64 y50,.i .i64 y51,.i .i64 y52,.i .i64 y53,.i .i64 y54,.i .i64 y55,.i .i64 y56,.sl .ro 1 (y57.map Ye),.i .i64 y58,.i .i64 y59,.i .i64 y60,.i .i64 y61,.i .i64 y62,.i .i64 y63,.i .i64 y64,.i .i64 y65,.i .i64 vNow,.i .i64 y66,.i .i64 y67,.i .i64 y68,.sl .ro 13 (y69.map (Xa .ro)),.sl .ro 13 (y70.map (Xa .ro)),.sl .ro 7 (y71.map (Xe .ro)),.sl .ro 11 (y72.map (Xc .ro))]]]=some (.i .i64 (U6 (λx=>!ZO vNow x) xs 0),[.u,.u]):=Xb (xs.length+1) rfl rfl (λcx h=>by
 have hx:=hb
 have hb0:=Xg Tryz.f197 0 _ _ rfl rfl
 obtain⟨r,hr,hq⟩:=Xq (cx:=cx) (blk:=0) (body:=XN Tryz.f197 0) xs (λk (s:Nat)=>⟨E [(0,.sl .ro 13 (xs.map (Xa .ro))),(1,.fn 146 [.pr [.i .i64 y49,.i .i64 y50,.i .i64 y51,.i .i64 y52,.i .i64 y53,.i .i64 y54,.i .i64 y55,.i .i64 y56,.sl .ro 1 (y57.map Ye),.i .i64 y58,.i .i64 y59,.i .i64 y60,.i .i64 y61,.i .i64 y62,.i .i64 y63,.i .i64 y64,.i .i64 y65,.i .i64 vNow,.i .i64 y66,.i .i64 y67,.i .i64 y68,.sl .ro 13 (y69.map (Xa .ro)),.sl .ro 13 (y70.map (Xa .ro)),.sl .ro 7 (y71.map (Xe .ro)),.sl .ro 11 (y72.map (Xc .ro))]]),(7,.i .i64 xs.length),(8,.i .i64 k)],B []⟩) (λs=>⟨E [],B []⟩) (λx s=>!ZO vNow x) (λx s=>s+1) (λx s=>(.ret,⟨E [(4,.i .i64 s)],B []⟩)) (λk s=>k=s)
   (λs hI G=>by simp only[go_sem,reduceIte,↓reduceIte,nB,nE,h,Int.lt_irrefl,hb0,hI]) (λk hk s hI=>by
    have h1:((k:Int)<(xs.length:Int)):=Int.ofNat_lt.2 hk
    obtain rfl:=hI
    exact⟨_,_,_,λG=>by simp only[go_sem,reduceIte,↓reduceIte,nA,nB,nE,h,Xi (Xa .ro) xs _ hk,h1,Xh _ _ hk,Xd (show k<9223372036854775807 by omega),hb0]<;>with_reducible rfl,by first | exact Iff.rfl | simp,λhc=>⟨rfl,by simp only[go_sem,reduceIte,↓reduceIte,nB,h]⟩⟩) 0 rfl (xs.length+1) (Nat.le_refl _)
 rw[hb0] at hr
 rcases hq with⟨s',e1,_,e3⟩ | ⟨x,s',e1,e3⟩
 ·simp only[go_sem,reduceIte,↓reduceIte,nB,nE,iG,h,hr,e3,ZJ e1]
 ·simp only[go_sem,reduceIte,↓reduceIte,nB,h,hr,e3,Zc e1]) (rfl)
def XoU:SP Tryz.prog:=mkS tyA 127 Tryz.f127 [Xq6] {md:=[.ro 1,.ro 1],rets:=some ([4],[])} Tryz.func127 (by kernel_rfl)
@[go_sem] def XLg:XoU.g=127/\XoU.fs=⟨[.ro 1,.ro 1],XoU.F,false⟩:=⟨nr rfl,nr rfl⟩
@[go_sem] def Xuu(xs:List XK)(y36:ByteArray)(y37:Int)(y38:List Xx)(y39:List UInt8)(y40 y41 y42 y43 y44:Int)(y45 y46:Bool)(y47:List ByteArray)(y48:Int)(hb:xs.length<=9223372036854775806):XoU.F [.sl .ro 13 (xs.map (Xa .ro)),.fn 128 [.pr [.s y36,.i .i64 y37,.sl .ro 2 (y38.map (Xj .ro)),.sl .ro 1 (y39.map Yq),.i .i64 y40,.i .i64 y41,.i .i64 y42,.i .i64 y43,.i .i64 y44,.b y45,.b y46,.sl .ro 1 (y47.map Ye),.i .i64 y48]]]=some (.b (xs.any (λx=>eqv x.Key y36)),[.u,.u]):=Xb (0) rfl rfl (λcx h=>by
 simp only[go_sem,reduceIte,↓reduceIte,nA,nB,h,hb,QR]) (rfl)
@[go_sem] def Xuv(xs:List XK)(y49 y50 y51 y52 y53 y54 y55 y56:Int)(y57:List ByteArray)(y58 y59 y60 y61 y62 y63 y64 y65 vNow y66 y67 y68:Int)(y69 y70:List XK)(y71:List Origin)(y72:List Xl)(hb:xs.length<=9223372036854775806):XoU.F [.sl .ro 13 (xs.map (Xa .ro)),.fn 146 [.pr [.i .i64 y49,.i .i64 y50,.i .i64 y51,.i .i64 y52,.i .i64 y53,.i .i64 y54,.i .i64 y55,.i .i64 y56,.sl .ro 1 (y57.map Ye),.i .i64 y58,.i .i64 y59,.i .i64 y60,.i .i64 y61,.i .i64 y62,.i .i64 y63,.i .i64 y64,.i .i64 y65,.i .i64 vNow,.i .i64 y66,.i .i64 y67,.i .i64 y68,.sl .ro 13 (y69.map (Xa .ro)),.sl .ro 13 (y70.map (Xa .ro)),.sl .ro 7 (y71.map (Xe .ro)),.sl .ro 11 (y72.map (Xc .ro))]]]=some (.b (xs.any (λx=>!ZO vNow x)),[.u,.u]):=Xb (0) rfl rfl (λcx h=>by
 simp only[go_sem,reduceIte,↓reduceIte,nA,nB,h,hb,QR]) (rfl)
def XsF:SP Tryz.prog:=⟨246,⟨[.ro 1],Xqu,false⟩,Xqw Tryz.func246 (by kernel_rfl) rfl Go.Proofs.Tryz.ht_k⟩
@[go_sem] def XLh:XsF.g=246/\XsF.fs=⟨[.ro 1],XsF.F,false⟩:=⟨nr rfl,nr rfl⟩
@[go_sem] def XLi(hs:List Xx)(h0:smL X6 hs):XsF.F [.sl .ro 2 (hs.map (Xj .ro))]=some (.s (XaN hs),[.u]):=Xn5 (λx:Xx=>x.Name) (λx=>x.Value) hs (XkB h0)
def XsG:SP Tryz.prog:=mkS tyA 198 Tryz.f198 [XsF] {md:=[.ro 1],rets:=some ([2],[]),plan:=[(1,(.take 0 (.take 1 (.take 2 (.take 3 (.take 4 (.take 8 (.take 9 (.take 10 (.one 5 (.take 6 (.take 7 (.take 11 (.take 12 (.one 13 .done)))))))))))))))]} Tryz.func198 (by kernel_rfl)
@[go_sem] def XLj:XsG.g=198/\XsG.fs=⟨[.ro 1],XsG.F,false⟩:=⟨nr rfl,nr rfl⟩
@[go_sem] def XLk(y10:ByteArray)(y11:Int)(y12:List Xx)(y13:List UInt8)(y14 y15 y16 y17 y18:Int)(y19 y20:Bool)(y21:List ByteArray)(y22:Int)(h0:(smL X6 (XK.mk y10 y11 y12 y13 (Meta.mk y14 y15 y16 y17 y18 y19 y20) y21 y22).Headers/\(XK.mk y10 y11 y12 y13 (Meta.mk y14 y15 y16 y17 y18 y19 y20) y21 y22).Key.size<=1048576/\(XK.mk y10 y11 y12 y13 (Meta.mk y14 y15 y16 y17 y18 y19 y20) y21 y22).Body.length<=1048576)):XsG.F [.agg [.s y10,.i .i64 y11,.sl .ro 2 (y12.map (Xj .ro)),.sl .ro 1 (y13.map Yq),.i .i64 y14,.i .i64 y15,.i .i64 y16,.i .i64 y17,.i .i64 y18,.b y19,.b y20,.sl .ro 1 (y21.map Ye),.i .i64 y22]]=some (.i .i64 (Up (XK.mk y10 y11 y12 y13 (Meta.mk y14 y15 y16 y17 y18 y19 y20) y21 y22)),[.u]):=Xb (0) rfl rfl (λcx h=>by
 obtain⟨g1,g2,g3⟩:=h0
 simp only at g1 g2 g3
 have hp:=XcZ g1
 unfold XcY at hp
 have w1:(IntKind.i64).wrap ((y10.size:Int)+((XaN y12).size:Int))=(y10.size:Int)+((XaN y12).size:Int):=Xo (by omega) (by omega)
 have w2:(IntKind.i64).wrap ((y10.size:Int)+((XaN y12).size:Int)+(y13.length:Int))=(y10.size:Int)+((XaN y12).size:Int)+(y13.length:Int):=Xo (by omega) (by omega)
 have w3:(IntKind.i64).wrap (50+((y10.size:Int)+((XaN y12).size:Int)+(y13.length:Int)))=50+((y10.size:Int)+((XaN y12).size:Int)+(y13.length:Int)):=Xo (by omega) (by omega)
 simp only[go_sem,reduceIte,↓reduceIte,nA,nB,nL,h,g1,w1,w2,w3,Up]) (rfl)
def XoV:SP Tryz.prog:=mkS tyA 130 Tryz.f130 [XsG] {md:=[.ro 1],rg:=[(0,[0],[]),(1,[0,3],[]),(2,[0,3,6,7,8],[]),(3,[0,3,6,7,8,9],[]),(4,[0,3,5,6,7,8],[5]),(5,[0,3,6,7,8],[]),(6,[0,3,6,7,8],[]),(7,[2],[])],lv:=[(0,[0,3,6,7,8],[])],out:=[(0,[3],[])],rets:=some ([2],[])} Tryz.func130 (by kernel_rfl)
@[go_sem] def XLl:XoV.g=130/\XoV.fs=⟨[.ro 1],XoV.F,false⟩:=⟨nr rfl,nr rfl⟩
@[go_sem] def XwR(xs:List XK)(h0:(xs.length<=2097152/\XhA Zo xs)):XoV.F [.sl .ro 13 (xs.map (Xa .ro))]=some (.i .i64 (Z3 xs),[.u]):=Xb (xs.length+1) rfl rfl (λcx h=>by
 have hx:xs.length<=9223372036854775806:=by have:=h0.1; omega
 have hb0:=Xg Tryz.f130 0 _ _ rfl rfl
 obtain⟨hI,hr⟩:=X0 (cx:=cx) (blk:=0) (body:=XN Tryz.f130 0) xs (λk (s:Int)=>⟨E [(0,.sl .ro 13 (xs.map (Xa .ro))),(3,.i .i64 s),(6,.sl .ro 13 (xs.map (Xa .ro))),(7,.i .i64 xs.length),(8,.i .i64 k)],B []⟩) (λs=>⟨E [(3,.i .i64 s)],B []⟩) (λx s=>s+Up x) (λk s=>0<=s/\s<=(k:Int)*2199030595634)
   (λs hI G=>by simp only[go_sem,reduceIte,↓reduceIte,nB,nE,h,Int.lt_irrefl,hb0]) (λk hk s hI=>by
    have h1:((k:Int)<(xs.length:Int)):=Int.ofNat_lt.2 hk
    obtain⟨i1,i2⟩:=hI
    have hm:=h0.2 _ (List.getElem_mem hk)
    have hc:=XfX hm
    have hJ:0<=s+Up xs[k]/\s+Up xs[k]<=((k+1:Nat):Int)*2199030595634:=by
     rw[Int.natCast_add,Int.add_mul]; constructor<;>omega
    have hb1:(k:Int)*2199030595634<=2097152*2199030595634:=Int.mul_le_mul_of_nonneg_right (by omega) (by decide)
    have hw:(IntKind.i64).wrap (s+Up xs[k])=s+Up xs[k]:=Xo (by omega) (by omega)
    have hm1:=hm.2.2.1
    have hm2:xs[k].Key.size<=1048576:=hm.1
    have hm3:=hm.2.2.2.1.1
    exact⟨hJ,_,λG=>by simp only[go_sem,reduceIte,↓reduceIte,nA,nB,nE,h,hw,hm1,hm2,hm3,Xi (Xa .ro) xs k hk,h1,Xh _ _ hk,Xd (show k<9223372036854775807 by omega),hb0]<;>with_reducible rfl,by simp only[go_sem,reduceIte,↓reduceIte,nB,h]⟩) 0 (by simp) (xs.length+1) (Nat.le_refl _)
 rw[hb0] at hr
 have hcs:Z3 xs=xs.foldl (λs x=>s+Up x) 0:=rfl
 rw[<-hcs] at hr
 simp only[go_sem,reduceIte,↓reduceIte,nB,nE,h,hr]) (rfl)
@[go_sem] def Xwq:XoV.F [.sl .ro 13 []]=some (.i .i64 0,[.u]):=XwR [] ⟨Nat.zero_le _,λx hx=>by cases hx⟩
def Xq7:SP Tryz.prog:=mkS tyA 129 Tryz.f129 [XoV] {md:=[.ro 1],rets:=some ([2],[]),plan:=[(1,(.take 0 (.take 1 (.take 3 (.take 4 (.one 2 (.one 5 (.take 6 (.one 7 .done)))))))))]} Tryz.func129 (by kernel_rfl)
@[go_sem] def XLm:Xq7.g=129/\Xq7.fs=⟨[.ro 1],Xq7.F,false⟩:=⟨nr rfl,nr rfl⟩
@[go_sem] def XwS(y0 y1:Int)(xTrial xKept:List XK)(h0:(smL Zo (Store.mk y0 y1 xTrial xKept).Trial/\smL Zo (Store.mk y0 y1 xTrial xKept).Kept)):Xq7.F [.agg [.i .i64 y0,.i .i64 y1,.sl .ro 13 (xTrial.map (Xa .ro)),.sl .ro 13 (xKept.map (Xa .ro))]]=some (.i .i64 (Z3 (Store.mk y0 y1 xTrial xKept).Trial+Z3 (Store.mk y0 y1 xTrial xKept).Kept),[.u]):=Xb (0) rfl rfl (λcx h=>by
 obtain⟨⟨g1,g2⟩,g3,g4⟩:=h0
 simp only at g1 g2 g3 g4
 have c1:=XfY g2
 have c2:=XfY g4
 have m1:(xTrial.length:Int)*2199030595634<=1048576*2199030595634:=Int.mul_le_mul_of_nonneg_right (by omega) (by decide)
 have m2:(xKept.length:Int)*2199030595634<=1048576*2199030595634:=Int.mul_le_mul_of_nonneg_right (by omega) (by decide)
 have w1:(IntKind.i64).wrap (Z3 xTrial+Z3 xKept)=Z3 xTrial+Z3 xKept:=Xo (by omega) (by omega)
 have l1:xTrial.length<=2097152:=by omega
 have l2:xKept.length<=2097152:=by omega
 have v1:XhA Zo xTrial:=g2
 have v2:XhA Zo xKept:=g4
 simp only[go_sem,reduceIte,↓reduceIte,nA,nB,nL,h,l1,l2,v1,v2,w1]) (rfl)
@[go_sem] def Xwr(b g:Int):Xq7.F [.agg [.i .i64 b,.i .i64 g,.sl .ro 13 [],.sl .ro 13 []]]=some (.i .i64 0,[.u]):=XwS b g [] [] ⟨⟨Nat.zero_le _,λx hx=>by cases hx⟩,⟨Nat.zero_le _,λx hx=>by cases hx⟩⟩
def s62:SP Tryz.prog:=mkS tyA 62 Tryz.f62 [s93,XoR,XsC,XoU,Xq7,XoV] {md:=[.ro 1],rg:=[(0,[1],[1]),(1,[1,3],[1]),(2,[1,3,11],[1]),(3,[2],[]),(4,[1,3,24],[1]),(5,[2],[]),(6,[1,3,28,29,30],[1]),(7,[1,3,28,29,30,31],[1]),(8,[1,3,5,28,29,30],[1,5]),(9,[1,3,6,28,29,30],[1]),(10,[1,3,6,28,29,30,37],[1]),(11,[2],[]),(12,[1,3,28,29,30],[1]),(13,[1,3,40,41,42],[1]),(14,[1,3,40,41,42,43],[1]),(15,[1,3,7,8,40,41,42],[1,8]),(16,[1,3,40,41,42,51],[1]),(17,[2],[]),(18,[1,3,40,41,42],[1]),(19,[65],[]),(20,[2],[]),(21,[2],[])],lv:=[(1,[1,3,28,29,30],[1]),(3,[1,3,40,41,42],[1])],out:=[(1,[1,3],[1]),(3,[1],[1])],rets:=some ([2],[]),plan:=[(19,(.take 0 (.take 2 (.take 3 (.one 1 (.take 4 (.take 5 (.take 6 (.take 7 (.take 9 (.take 10 (.one 8 (.take 11 (.take 12 .done))))))))))))))]} Tryz.func62 (by kernel_rfl)
@[go_sem] def d62:s62.g=62/\s62.fs=⟨[.ro 1],s62.F,false⟩:=⟨nr rfl,nr rfl⟩
@[go_sem] def e62(y73 y74:Int)(y75 vKept:List XK)(h0:Xck (Store.mk y73 y74 y75 vKept)):s62.F [.agg [.i .i64 y73,.i .i64 y74,.sl .ro 13 (y75.map (Xa .ro)),.sl .ro 13 (vKept.map (Xa .ro))]]=some (.i .i64 (XW (Store.mk y73 y74 y75 vKept)),[.u]):=Xb (41) rfl rfl (λcx h=>by
 obtain⟨q0,q1,q2,q3⟩:=h0
 simp only at q2 q3
 have hle:y75.length<=1048576/\vKept.length<=1048576:=⟨q2.1,q3.1⟩
 obtain⟨all,hall⟩:∃all,y75++vKept=all:=⟨_,rfl⟩
 have hsm:∀x∈all,Zo x:=by rw[<-hall]; exact XkF q2 q3
 have hlk:vKept.length<=2097152:=by omega
 have hek:XhA Zo vKept:=q3.2
 cases b1:within y73 0 1000000
 ·simp only[go_sem,reduceIte,↓reduceIte,nA,nB,nE,nL,h,hle,hall,b1,XW]
 cases b2:within y74 0 y73
 ·simp only[go_sem,reduceIte,↓reduceIte,nA,nB,nE,nL,h,hle,hall,b1,b2,XW]
 by_cases b3:40<(all.length:Int)
 ·simp only[go_sem,reduceIte,↓reduceIte,nA,nB,nE,nL,h,hle,hall,b1,b2,b3,List.length_map,XW]
 have hx:all.length<=9223372036854775806:=by omega
 have hb0:=Xg Tryz.f62 0 _ _ rfl rfl
 obtain⟨z0,hz0,hqz0⟩:=Xq (cx:=cx) (blk:=1) (body:=XN Tryz.f62 0) all (λk (s:Unit)=>⟨E [(1,.p ⟨false,1,[],0⟩),(3,.sl .mut 13 (all.map (Xa .ro))),(28,.rf ⟨true,3,[],0⟩ 13 0 all.length),(29,.i .i64 all.length),(30,.i .i64 k)],B [(1,[.i .i64 y73,.i .i64 y74,.sl .ro 13 (y75.map (Xa .ro)),.sl .ro 13 (vKept.map (Xa .ro))])]⟩) (λs=>⟨E [(1,.p ⟨false,1,[],0⟩),(3,.sl .mut 13 (all.map (Xa .ro)))],B [(1,[.i .i64 y73,.i .i64 y74,.sl .ro 13 (y75.map (Xa .ro)),.sl .ro 13 (vKept.map (Xa .ro))])]⟩) (λx s=>Xu x !=0) (λx s=>()) (λx s=>(.ret,⟨E [(2,.i .i64 (Xu x))],B []⟩)) (λk s=>True)
   (λs hI G=>by simp only[go_sem,reduceIte,↓reduceIte,nB,nE,h,Int.lt_irrefl,hb0]) (λk hk s hI=>by
    have h1:((k:Int)<(all.length:Int)):=Int.ofNat_lt.2 hk
    have tk:List.take all.length (List.map (Xa .ro) all)=List.map (Xa .ro) all:=List.take_of_length_le (by simp)
    have hH:smL X6 all[k].Headers:=(hsm _ (List.getElem_mem hk)).2.2.1
    exact⟨_,_,_,λG=>by simp only[go_sem,reduceIte,↓reduceIte,nA,nB,nE,nT,h,XdC (Xa .ro) all k hk,List.length_map,hH,h1,Xh _ _ hk,Xd (show k<9223372036854775807 by omega),hb0]<;>with_reducible rfl,Iff.rfl,λhc=>⟨trivial,by simp only[go_sem,reduceIte,↓reduceIte,nB,h]⟩⟩) () trivial 41 (by omega)
 rw[hb0] at hz0
 rcases hqz0 with⟨s0,e1,_,e3⟩ | ⟨x,s0,e1,e3⟩
 rotate_left
 ·have e2:=Z9 e1
  have e4:(Xu x !=0)=true:=XaQ e1
  simp only[go_sem,reduceIte,↓reduceIte,nA,nB,nE,nL,h,hle,hall,b1,b2,b3,List.length_map,hz0,e3,e2,e4,XW]
 have e2:=Z8 e1
 have hb1:=Xg Tryz.f62 1 _ _ rfl rfl
 obtain⟨z1,hz1,hqz1⟩:=Xq (cx:=cx) (blk:=3) (body:=XN Tryz.f62 1) all (λk (s:List XK)=>⟨E [(1,.p ⟨false,1,[],0⟩),(3,.sl .mut 13 (all.map (Xa .ro))),(40,.rf ⟨true,3,[],0⟩ 13 0 all.length),(41,.i .i64 all.length),(42,.i .i64 k)],B [(1,[.i .i64 y73,.i .i64 y74,.sl .ro 13 (y75.map (Xa .ro)),.sl .ro 13 (vKept.map (Xa .ro))])]⟩) (λs=>⟨E [(1,.p ⟨false,1,[],0⟩)],B [(1,[.i .i64 y73,.i .i64 y74,.sl .ro 13 (y75.map (Xa .ro)),.sl .ro 13 (vKept.map (Xa .ro))])]⟩) (λx s=>s.any λy=>Xec y x) (λx s=>s++[x]) (λx s=>(.ret,⟨E [(2,.i .i64 6)],B []⟩)) (λk s=>s=all.take k)
   (λs hI G=>by simp only[go_sem,reduceIte,↓reduceIte,nB,nE,h,Int.lt_irrefl,hb1]) (λk hk s hI=>by
    have h1:((k:Int)<(all.length:Int)):=Int.ofNat_lt.2 hk
    have tk:List.take all.length (List.map (Xa .ro) all)=List.map (Xa .ro) all:=List.take_of_length_le (by simp)
    have t4:(all.map (Xa .ro)).take k=(all.take k).map (Xa .ro):=by rw[List.map_take]
    have t5:(all.take k).length<=9223372036854775806:=by rw[List.length_take]; omega
    have c1:(0:Int)<=(k:Int):=by omega
    have c2:(k:Int)<=(all.length:Int):=by omega
    have c4:k<=all.length:=by omega
    have c3:((all.take k).any λy=>Xec y all[k])=(all.take k).any λx=>eqv x.Key all[k].Key:=rfl
    subst hI
    exact⟨_,_,_,λG=>by simp only[go_sem,reduceIte,↓reduceIte,nA,nB,nE,nT,h,t4,t5,c1,c2,c4,XdC (Xa .ro) all k hk,List.length_map,Int.toNat_natCast,List.drop_zero,Nat.sub_zero,h1,Xh _ _ hk,Xd (show k<9223372036854775807 by omega),hb1]<;>with_reducible rfl,by rw[c3],λhc=>⟨(ZN all k hk).symm,by simp only[go_sem,reduceIte,↓reduceIte,nB,nE,h]⟩⟩) [] rfl 41 (by omega)
 rw[hb1] at hz1
 rcases hqz1 with⟨s1,k1,_,k3⟩ | ⟨x,s1,k1,k3⟩
 rotate_left
 ·have k2:=XaP k1
  simp only[go_sem,reduceIte,↓reduceIte,nA,nB,nE,nL,h,hle,hall,b1,b2,b3,List.length_map,hz0,e3,e2,hz1,k3,k2,XW]
 have k2:=XaO k1
 by_cases d1:y73<Z3 y75+Z3 vKept
 ·simp only[go_sem,reduceIte,↓reduceIte,nA,nB,nE,nL,h,hle,hall,b1,b2,b3,List.length_map,hz0,e3,e2,hz1,k3,k2,q2,q3,d1,XW]
 by_cases d2:y74<Z3 vKept<;>simp only[go_sem,reduceIte,↓reduceIte,nA,nB,nE,nL,h,hle,hall,b1,b2,b3,List.length_map,hz0,e3,e2,hz1,k3,k2,q2,q3,d1,d2,hlk,hek,XW]) (rfl)
@[go_sem] def XwT(b g:Int):s62.F [.agg [.i .i64 b,.i .i64 g,.sl .ro 13 [],.sl .ro 13 []]]=some (.i .i64 (Yr b g),[.u]):=(e62 b g [] [] ⟨trivial,trivial,⟨Nat.zero_le _,λx hx=>by cases hx⟩,⟨Nat.zero_le _,λx hx=>by cases hx⟩⟩).trans (by rw[Xb5])
end
end Go.Vm.A
