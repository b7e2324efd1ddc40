/- Functions of the program, walked by the evaluator. -/
import Derived.Test.YtbgfaonlbpkfhaaGreatDoorWb
import Derived.Test.YtbgfaonlbpkfhaaGreatDoorWa
import Derived.Test.YtbgfaonlbpkfhaaGreatDoorFa
import Derived.Test.YtbgfaonlbpkfhaaGreatDoorFb
set_option linter.unusedVariables false
set_option linter.unusedSimpArgs false
set_option autoImplicit false
set_option maxRecDepth 100000
set_option maxHeartbeats 4000000
set_option linter.defProp false
namespace Go.Vm.A
open Go.Proofs
open Nat renaming reduceAdd -> nA, reduceSub -> nS, reduceMul -> nM, reduceBEq -> nB, reduceEqDiff -> nE, reduceLeDiff -> nL, reduceLT -> nT, reduceBneDiff -> nN
open Int renaming reduceLE -> iL, reduceLT -> iT, reduceEq -> iE, reduceAdd -> iA, reduceMul -> iM, reduceSub -> iS, reduceNeg -> iG, reduceBEq -> iB, reduceBNe -> iN, reduceToNat -> iZ
noncomputable section
def s85:SP Tryz.prog:=mkS tyA 85 Tryz.f85 [s50] {md:=[.ro 1,.ro 1],rg:=[(0,[0,1,4,16],[4,5]),(1,[4,5,16],[4,5]),(2,[4,5,6,16],[4,5]),(3,[4,5,6,13,16],[4,5]),(4,[4,16],[4,5]),(5,[4,16],[4,5])],rets:=some ([4,16],[4,5])} Tryz.func85 (by kernel_rfl)
@[go_sem] def d85:s85.g=85/\s85.fs=⟨[.ro 1,.ro 1],s85.F,false⟩:=⟨nr rfl,nr rfl⟩
@[go_sem] def e85(b g:Int):s85.F [.i .i64 b,.i .i64 g]=some (.agg [.i .i64 (X6 b g),.i .i64 (if X6 b g=0 then b else 0),.i .i64 (if X6 b g=0 then g else 0),.sl .mut 13 [],.sl .mut 13 []],[.u,.u]):=Xd (0) rfl rfl (λcx h=>by
 by_cases h1:X6 b g=0
 ·simp only[go_sem,reduceIte,↓reduceIte,reduceCtorEq,nA,nS,nM,nB,nE,nL,nT,nN,iL,iT,iE,iA,iM,iS,iG,iB,iN,iZ,h,h1]
 ·have h2:(X6 b g !=0)=true:=by simpa using h1
  simp only[go_sem,reduceIte,↓reduceIte,reduceCtorEq,nA,nS,nM,nB,nE,nL,nT,nN,iL,iT,iE,iA,iM,iS,iG,iB,iN,iZ,h,h1,h2]) (by simp only[go_sem,reduceIte,↓reduceIte,reduceCtorEq,nA,nS,nM,nB,nE,nL,nT,nN,iL,iT,iE,iA,iM,iS,iG,iB,iN,iZ,Y6,XD,XN,XF])
def s87:SP Tryz.prog:=mkS tyA 87 Tryz.f87 [Xn0] {md:=[.ro 1],rg:=[(0,[0],[]),(1,[0,6],[]),(2,[2],[]),(3,[0,3],[]),(4,[0,3,10],[]),(5,[0,3],[]),(6,[0,3,18],[]),(7,[2],[]),(8,[2],[])],lv:=[(0,[0,3],[])],out:=[(0,[],[])],rets:=some ([2],[])} Tryz.func87 (by kernel_rfl)
@[go_sem] def d87:s87.g=87/\s87.fs=⟨[.ro 1],s87.F,false⟩:=⟨nr rfl,nr rfl⟩
@[go_sem] def e87(xs:List ByteArray):s87.F [.sl .ro 1 (xs.map Yf)]=some (.i .i64 (YN xs),[.u]):=Xd (xs.length+1) rfl rfl (λcx h=>by
 by_cases h1:4<(xs.length:Int)
 ·simp only[go_sem,reduceIte,↓reduceIte,reduceCtorEq,nA,nS,nM,nB,nE,nL,nT,nN,iL,iT,iE,iA,iM,iS,iG,iB,iN,iZ,h,h1,YN]
 have hx:xs.length<=9223372036854775806:=by omega
 have hb0:=Xn Tryz.f87 0 _ _ rfl rfl
 obtain⟨r,hr,hq⟩:=Yj (cx:=cx) (blk:=0) (body:=Yl Tryz.f87 0) xs (λk (s:Unit)=>⟨E [(0,.sl .ro 1 (xs.map Yf)),(3,.i .i64 k)],B []⟩) (λs=>⟨E [],B []⟩) (λx s=>!Ua x) (λx s=>()) (λx s=>(.ret,⟨E [(2,.i .i64 5)],B []⟩)) (λk s=>True)
   (λs hI G=>by simp only[go_sem,reduceIte,↓reduceIte,reduceCtorEq,nA,nS,nM,nB,nE,nL,nT,nN,iL,iT,iE,iA,iM,iS,iG,iB,iN,iZ,h,Int.lt_irrefl,hb0,hx]) (λk hk s hI=>by
    have h1:((k:Int)<(xs.length:Int)):=Int.ofNat_lt.2 hk
    exact⟨_,_,_,λG=>by simp only[go_sem,reduceIte,↓reduceIte,reduceCtorEq,nA,nS,nM,nB,nE,nL,nT,nN,iL,iT,iE,iA,iM,iS,iG,iB,iN,iZ,h,XP Yf xs _ hk,h1,Xp _ _ hk,Xe (show k<9223372036854775807 by omega),hb0]<;>with_reducible rfl,Iff.rfl,λhc=>⟨trivial,by simp only[go_sem,reduceIte,↓reduceIte,reduceCtorEq,nA,nS,nM,nB,nE,nL,nT,nN,iL,iT,iE,iA,iM,iS,iG,iB,iN,iZ,h]⟩⟩) () trivial (xs.length+1) (Nat.le_refl _)
 rw[hb0] at hr
 rcases hq with⟨s',e1,_,e3⟩ | ⟨x,s',e1,e3⟩
 ·simp only[go_sem,reduceIte,↓reduceIte,reduceCtorEq,nA,nS,nM,nB,nE,nL,nT,nN,iL,iT,iE,iA,iM,iS,iG,iB,iN,iZ,h,h1,hr,e3,YN,XfJ,QJ e1]
 ·simp only[go_sem,reduceIte,↓reduceIte,reduceCtorEq,nA,nS,nM,nB,nE,nL,nT,nN,iL,iT,iE,iA,iM,iS,iG,iB,iN,iZ,h,h1,hr,e3,YN,XfJ,Z9 e1]) (rfl)
def YT(l:Lanes):Int:=if(within l.Slots 1 8&&within l.Cap 0 8&&within l.Time 0 1000000)=true then 0 else 3
def s88:SP Tryz.prog:=mkS tyA 88 Tryz.f88 [s86] {md:=[.ro 1],rg:=[(0,[1],[1]),(1,[18],[]),(2,[2],[]),(3,[2],[])],rets:=some ([2],[])} Tryz.func88 (by kernel_rfl)
@[go_sem] def d88:s88.g=88/\s88.fs=⟨[.ro 1],s88.F,false⟩:=⟨nr rfl,nr rfl⟩
@[go_sem] def e88(j0 j1 j2:Int):s88.F [.agg [.i .i64 j0,.i .i64 j1,.i .i64 j2]]=some (.i .i64 (YT (Lanes.mk j0 j1 j2)),[.u]):=Xd (0) rfl rfl (λcx h=>by
 simp only[go_sem,reduceIte,↓reduceIte,reduceCtorEq,nA,nS,nM,nB,nE,nL,nT,nN,iL,iT,iE,iA,iM,iS,iG,iB,iN,iZ,h]
 simp only[YT]
 cases within j0 1 8<;>cases within j1 0 8<;>cases within j2 0 1000000<;>rfl) (rfl)
def Y7(r:Rules):Int:=if(within r.Window 1 1000000&&within r.Min 1 50&&within r.Ratio 1 1000&&within r.Cool 0 1000000&&within r.Quota 1 5)=true then 0 else 3
def s89:SP Tryz.prog:=mkS tyA 89 Tryz.f89 [s86] {md:=[.ro 1],rg:=[(0,[1],[1]),(1,[30],[]),(2,[2],[]),(3,[2],[])],rets:=some ([2],[])} Tryz.func89 (by kernel_rfl)
@[go_sem] def d89:s89.g=89/\s89.fs=⟨[.ro 1],s89.F,false⟩:=⟨nr rfl,nr rfl⟩
@[go_sem] def e89(j3 j4 j5 j6 j7:Int):s89.F [.agg [.i .i64 j3,.i .i64 j4,.i .i64 j5,.i .i64 j6,.i .i64 j7]]=some (.i .i64 (Y7 (Rules.mk j3 j4 j5 j6 j7)),[.u]):=Xd (0) rfl rfl (λcx h=>by
 simp only[go_sem,reduceIte,↓reduceIte,reduceCtorEq,nA,nS,nM,nB,nE,nL,nT,nN,iL,iT,iE,iA,iM,iS,iG,iB,iN,iZ,h]
 simp only[Y7]
 cases within j3 1 1000000<;>cases within j4 1 50<;>cases within j5 1 1000<;>cases within j6 0 1000000<;>cases within j7 1 5<;>rfl) (rfl)
def Zs(c:Config):Bool:=within c.ObjCost 0 c.Budget&&Z8 c.Neg&&within c.Early 0 1000000&&within c.FetchTime 1 1000000&&within c.WaitTime 0 1000000&&within c.WaitCap 1 10
def XC(c:Config):Int:=Xas [X6 c.Budget c.Guard,if Zs c=true then 0 else 3,YN c.Names,YT c.Lanes,Y7 c.Rules]
def s34:SP Tryz.prog:=mkS tyA 34 Tryz.f34 [s49,s85,s86,s87,s88,s89] {md:=[.ro 1],rg:=[(0,[1],[1]),(1,[1,3],[1]),(2,[1,3,13],[1]),(3,[2],[]),(4,[1,50],[1]),(5,[2],[]),(6,[1,4],[1]),(7,[1,4,55],[1]),(8,[2],[]),(9,[1,5],[1]),(10,[1,5,61],[1]),(11,[2],[]),(12,[2],[])],rets:=some ([2],[])} Tryz.func34 (by kernel_rfl)
@[go_sem] def d34:s34.g=34/\s34.fs=⟨[.ro 1],s34.F,false⟩:=⟨nr rfl,nr rfl⟩
@[go_sem] def e34(j8 j9 j10 j11 j12 j13 j14 j15:Int)(j16:List ByteArray)(j17 j18 j19 j20 j21 j22 j23 j24:Int):s34.F [.agg [.i .i64 j8,.i .i64 j9,.i .i64 j10,.i .i64 j11,.i .i64 j12,.i .i64 j13,.i .i64 j14,.i .i64 j15,.sl .ro 1 (j16.map Yf),.i .i64 j17,.i .i64 j18,.i .i64 j19,.i .i64 j20,.i .i64 j21,.i .i64 j22,.i .i64 j23,.i .i64 j24]]=some (.i .i64 (XC (Config.mk j8 j9 j10 j11 j12 j13 j14 j15 j16 (Lanes.mk j17 j18 j19) (Rules.mk j20 j21 j22 j23 j24))),[.u]):=Xd (0) rfl rfl (λcx h=>by
 by_cases z0:X6 j8 j9=0
 rotate_left
 ·have y0:(X6 j8 j9 !=0)=true:=by simpa using z0
  simp only[go_sem,reduceIte,↓reduceIte,reduceCtorEq,nA,nS,nM,nB,nE,nL,nT,nN,iL,iT,iE,iA,iM,iS,iG,iB,iN,iZ,h,y0,XC,Zs,XR,Y8]
 have y0:(X6 j8 j9 !=0)=false:=by simpa using z0
 cases h0:within j10 0 j8
 ·simp only[go_sem,reduceIte,↓reduceIte,reduceCtorEq,nA,nS,nM,nB,nE,nL,nT,nN,iL,iT,iE,iA,iM,iS,iG,iB,iN,iZ,h,y0,h0,XC,Zs,XR,Y8]
 cases h1:Z8 j11
 ·simp only[go_sem,reduceIte,↓reduceIte,reduceCtorEq,nA,nS,nM,nB,nE,nL,nT,nN,iL,iT,iE,iA,iM,iS,iG,iB,iN,iZ,h,y0,h0,h1,XC,Zs,XR,Y8]
 cases h2:within j12 0 1000000
 ·simp only[go_sem,reduceIte,↓reduceIte,reduceCtorEq,nA,nS,nM,nB,nE,nL,nT,nN,iL,iT,iE,iA,iM,iS,iG,iB,iN,iZ,h,y0,h0,h1,h2,XC,Zs,XR,Y8]
 cases h3:within j13 1 1000000
 ·simp only[go_sem,reduceIte,↓reduceIte,reduceCtorEq,nA,nS,nM,nB,nE,nL,nT,nN,iL,iT,iE,iA,iM,iS,iG,iB,iN,iZ,h,y0,h0,h1,h2,h3,XC,Zs,XR,Y8]
 cases h4:within j14 0 1000000
 ·simp only[go_sem,reduceIte,↓reduceIte,reduceCtorEq,nA,nS,nM,nB,nE,nL,nT,nN,iL,iT,iE,iA,iM,iS,iG,iB,iN,iZ,h,y0,h0,h1,h2,h3,h4,XC,Zs,XR,Y8]
 cases h5:within j15 1 10
 ·simp only[go_sem,reduceIte,↓reduceIte,reduceCtorEq,nA,nS,nM,nB,nE,nL,nT,nN,iL,iT,iE,iA,iM,iS,iG,iB,iN,iZ,h,y0,h0,h1,h2,h3,h4,h5,XC,Zs,XR,Y8]
 by_cases x0:YN j16=0
 rotate_left
 ·have w0:(YN j16 !=0)=true:=by simpa using x0
  simp only[go_sem,reduceIte,↓reduceIte,reduceCtorEq,nA,nS,nM,nB,nE,nL,nT,nN,iL,iT,iE,iA,iM,iS,iG,iB,iN,iZ,h,y0,h0,h1,h2,h3,h4,h5,w0,XC,Zs,XR,Y8]
 have w0:(YN j16 !=0)=false:=by simpa using x0
 by_cases x1:YT ⟨j17,j18,j19⟩=0
 rotate_left
 ·have w1:(YT ⟨j17,j18,j19⟩ !=0)=true:=by simpa using x1
  simp only[go_sem,reduceIte,↓reduceIte,reduceCtorEq,nA,nS,nM,nB,nE,nL,nT,nN,iL,iT,iE,iA,iM,iS,iG,iB,iN,iZ,h,y0,h0,h1,h2,h3,h4,h5,w0,w1,XC,Zs,XR,Y8]
 have w1:(YT ⟨j17,j18,j19⟩ !=0)=false:=by simpa using x1
 by_cases v:Y7 ⟨j20,j21,j22,j23,j24⟩=0
 ·simp only[go_sem,reduceIte,↓reduceIte,reduceCtorEq,nA,nS,nM,nB,nE,nL,nT,nN,iL,iT,iE,iA,iM,iS,iG,iB,iN,iZ,h,y0,h0,h1,h2,h3,h4,h5,w0,w1,v,XC,Zs,XR,Y8]
 ·have v':(Y7 ⟨j20,j21,j22,j23,j24⟩ !=0)=true:=by simpa using v
  simp only[go_sem,reduceIte,↓reduceIte,reduceCtorEq,nA,nS,nM,nB,nE,nL,nT,nN,iL,iT,iE,iA,iM,iS,iG,iB,iN,iZ,h,y0,h0,h1,h2,h3,h4,h5,w0,w1,v',XC,Zs,XR,Y8]) (rfl)
def s90:SP Tryz.prog:=mkS tyA 90 Tryz.f90 [] {md:=[.ro 1],rets:=some ([2],[])} Tryz.func90 (by kernel_rfl)
@[go_sem] def d90:s90.g=90/\s90.fs=⟨[.ro 1],s90.F,false⟩:=⟨nr rfl,nr rfl⟩
@[go_sem] def e90(xs:List ByteArray)(h0:smL U0 xs):s90.F [.sl .ro 1 (xs.map Yf)]=some (.sl .mut 1 (xs.map Yf),[.u]):=Xd (0) rfl rfl (λcx h=>by
 have h1:(xs.map Yf).all (·.all plain)=true:=by simp[Yf,plain]
 have h2:xs.length*16<=140737488355328:=by have:=h0.1; omega
 simp only[go_sem,reduceIte,↓reduceIte,reduceCtorEq,nA,nS,nM,nB,nE,nL,nT,nN,iL,iT,iE,iA,iM,iS,iG,iB,iN,iZ,h,h1,h2]) (by simp only[go_sem,reduceIte,↓reduceIte,reduceCtorEq,nA,nS,nM,nB,nE,nL,nT,nN,iL,iT,iE,iA,iM,iS,iG,iB,iN,iZ,Y6,XD])
def s35:SP Tryz.prog:=mkS tyA 35 Tryz.f35 [s90] {md:=[.ro 1],rg:=[(0,[0,2],[2,3]),(1,[0,2,3],[2,3]),(2,[2,3],[2,3]),(3,[2],[2,3])],rets:=some ([2],[2,3])} Tryz.func35 (by kernel_rfl)
@[go_sem] def d35:s35.g=35/\s35.fs=⟨[.ro 1],s35.F,false⟩:=⟨nr rfl,nr rfl⟩
@[go_sem] def e35(j8 j9 j10 j11 j12 j13 j14 j15:Int)(j16:List ByteArray)(j17 j18 j19 j20 j21 j22 j23 j24:Int)(h0:smL U0 (Config.mk j8 j9 j10 j11 j12 j13 j14 j15 j16 (Lanes.mk j17 j18 j19) (Rules.mk j20 j21 j22 j23 j24)).Names):s35.F [.pr [.i .i64 j8,.i .i64 j9,.i .i64 j10,.i .i64 j11,.i .i64 j12,.i .i64 j13,.i .i64 j14,.i .i64 j15,.sl .ro 1 (j16.map Yf),.i .i64 j17,.i .i64 j18,.i .i64 j19,.i .i64 j20,.i .i64 j21,.i .i64 j22,.i .i64 j23,.i .i64 j24]]=some (.agg (Q8 .mut (Config.mk j8 j9 j10 j11 j12 j13 j14 j15 j16 (Lanes.mk j17 j18 j19) (Rules.mk j20 j21 j22 j23 j24))),[.u]):=Xd (0) rfl rfl (λcx h=>by
 simp only[go_sem,reduceIte,↓reduceIte,reduceCtorEq,nA,nS,nM,nB,nE,nL,nT,nN,iL,iT,iE,iA,iM,iS,iG,iB,iN,iZ,h,h0]) (by simp only[go_sem,reduceIte,↓reduceIte,reduceCtorEq,nA,nS,nM,nB,nE,nL,nT,nN,iL,iT,iE,iA,iM,iS,iG,iB,iN,iZ,Y6,XD,XN,XF])
def XfM:Config:=⟨0,0,0,0,0,0,0,0,[],⟨0,0,0⟩,⟨0,0,0,0,0⟩⟩
def Xd8:Shield:=⟨XfM,0,0,⟨0,0,[],[]⟩,[],[]⟩
def UF(c:Config):Shield:=⟨c,0,0,⟨c.Budget,c.Guard,[],[]⟩,[],[]⟩
def Qa(c:Config):Xr:=if(XC c !=0)=true then⟨XC c,Xd8⟩ else⟨0,UF c⟩
def UG{α:Type}(p:α->Prop):smL p []:=⟨Nat.zero_le _,λx hx=>by cases hx⟩
def Xg7:XaH Xd8:=⟨⟨trivial,trivial,trivial,trivial,trivial,trivial,trivial,trivial,UG _,⟨trivial,trivial,trivial⟩,⟨trivial,trivial,trivial,trivial,trivial⟩⟩,trivial,trivial,⟨trivial,trivial,UG _,UG _⟩,UG _,UG _⟩
def XaL{c:Config}(h:Qq c):XaH (UF c):=⟨h,trivial,trivial,⟨trivial,trivial,UG _,UG _⟩,UG _,UG _⟩
def XeI{c:Config}(h:Qq c):Uo (Qa c):=by
 unfold Qa
 split
 ·exact⟨trivial,Xg7⟩
 ·exact⟨trivial,XaL h⟩
def s9:SP Tryz.prog:=mkS tyA 9 Tryz.f9 [s34,s35] {md:=[.ro 1],rg:=[(0,[1,2,10,15,16],[1,2]),(1,[1,2,3,10,15,16],[1,2]),(2,[1,2,3,7,10,15,16],[1,2]),(3,[2,10,15,16],[2]),(4,[2,10,15,16],[2])],rets:=some ([2,10,15,16],[2]),plan:=[(4,(.take 1 (.take 2 (.take 3 (.take 4 (.take 5 (.one 0 (.take 6 (.take 7 (.one 8 .done))))))))))]} Tryz.func9 (by kernel_rfl)
@[go_sem] def d9:s9.g=9/\s9.fs=⟨[.ro 1],s9.F,false⟩:=⟨nr rfl,nr rfl⟩
@[go_sem] def e9(j8 j9 j10 j11 j12 j13 j14 j15:Int)(j16:List ByteArray)(j17 j18 j19 j20 j21 j22 j23 j24:Int)(h0:Qq (Config.mk j8 j9 j10 j11 j12 j13 j14 j15 j16 (Lanes.mk j17 j18 j19) (Rules.mk j20 j21 j22 j23 j24))):s9.F [.agg [.i .i64 j8,.i .i64 j9,.i .i64 j10,.i .i64 j11,.i .i64 j12,.i .i64 j13,.i .i64 j14,.i .i64 j15,.sl .ro 1 (j16.map Yf),.i .i64 j17,.i .i64 j18,.i .i64 j19,.i .i64 j20,.i .i64 j21,.i .i64 j22,.i .i64 j23,.i .i64 j24]]=some (.agg (YQ .mut (Qa (Config.mk j8 j9 j10 j11 j12 j13 j14 j15 j16 (Lanes.mk j17 j18 j19) (Rules.mk j20 j21 j22 j23 j24)))),[.u]):=Xd (0) rfl rfl (λcx h=>by
 have hN:=h0.2.2.2.2.2.2.2.2.1
 simp only at hN
 by_cases z:XC (Config.mk j8 j9 j10 j11 j12 j13 j14 j15 j16 (Lanes.mk j17 j18 j19) (Rules.mk j20 j21 j22 j23 j24))=0
 rotate_left
 ·have z':(XC (Config.mk j8 j9 j10 j11 j12 j13 j14 j15 j16 (Lanes.mk j17 j18 j19) (Rules.mk j20 j21 j22 j23 j24)) !=0)=true:=by simpa using z
  simp only[go_sem,reduceIte,↓reduceIte,reduceCtorEq,nA,nS,nM,nB,nE,nL,nT,nN,iL,iT,iE,iA,iM,iS,iG,iB,iN,iZ,h,z',Qa,Xd8,XfM]
 simp only[go_sem,reduceIte,↓reduceIte,reduceCtorEq,nA,nS,nM,nB,nE,nL,nT,nN,iL,iT,iE,iA,iM,iS,iG,iB,iN,iZ,h,z,hN,h0,Qa,UF]) (by simp only[go_sem,reduceIte,↓reduceIte,reduceCtorEq,nA,nS,nM,nB,nE,nL,nT,nN,iL,iT,iE,iA,iM,iS,iG,iB,iN,iZ,Y6,XD,XN,XF])
def s36:SP Tryz.prog:=mkS tyA 36 Tryz.f36 [] {md:=[.ro 1],rg:=[(0,[0],[]),(1,[0,3],[]),(2,[0,3,4],[]),(3,[0,3,4,11],[]),(4,[0,3,4],[]),(5,[0,3,4],[]),(6,[2],[])],lv:=[(0,[0,3,4],[])],out:=[(0,[3],[])],rets:=some ([2],[])} Tryz.func36 (by kernel_rfl)
@[go_sem] def d36:s36.g=36/\s36.fs=⟨[.ro 1],s36.F,false⟩:=⟨nr rfl,nr rfl⟩
@[go_sem] def e36(xs:List ByteArray)(h0:smL U0 xs):s36.F [.sl .ro 1 (xs.map Yf)]=some (.sl .mut 1 (xs.map Yf),[.u]):=Xd (xs.length+1) rfl rfl (λcx h=>by
 have hb:=Xn Tryz.f36 0 _ _ rfl rfl
 have hx:=h0.1
 have c1:((xs.length:Int)*(16:Nat)<=140737488355328):=by omega
 have c2:0<=(xs.length:Int):=by omega
 have hr:=(XY (cx:=cx) (blk:=0) (body:=Yl Tryz.f36 0) xs (λk (_:Unit)=>⟨E [(0,.sl .ro 1 (xs.map Yf)),(3,.sl .mut 1 (Q7 Yf [.s ⟨#[]⟩] xs k)),(4,.i .i64 k)],B []⟩) (λ_=>⟨E [(3,.sl .mut 1 (xs.map Yf))],B []⟩) (λ_ _=>()) (λ_ _=>True)
  (λl _ G=>by simp only[go_sem,reduceIte,↓reduceIte,reduceCtorEq,nA,nS,nM,nB,nE,nL,nT,nN,iL,iT,iE,iA,iM,iS,iG,iB,iN,iZ,h,Int.lt_irrefl,hb,XhV]) (λk hk l _=>by
   have h1:((k:Int)<(xs.length:Int)):=Int.ofNat_lt.2 hk
   have h2:=h0.2 _ (List.getElem_mem hk)
   have h3:(Q7 Yf [.s ⟨#[]⟩] xs k).set k [.s xs[k]]=Q7 Yf [.s ⟨#[]⟩] xs (k+1):=XhX Yf [.s ⟨#[]⟩] xs k hk
   exact⟨trivial,_,λG=>by simp only[go_sem,reduceIte,↓reduceIte,reduceCtorEq,nA,nS,nM,nB,nE,nL,nT,nN,iL,iT,iE,iA,iM,iS,iG,iB,iN,iZ,h,h2,h3,XP Yf xs k hk,Xd3 Yf [.s ⟨#[]⟩] xs k hk,Xgx Yf [.s ⟨#[]⟩] xs k hk,XhW Yf [.s ⟨#[]⟩] xs k (Nat.le_of_lt hk),h1,Xp _ _ hk,Xe (show k<9223372036854775807 by omega),hb]<;>with_reducible rfl,by simp only[go_sem,reduceIte,↓reduceIte,reduceCtorEq,nA,nS,nM,nB,nE,nL,nT,nN,iL,iT,iE,iA,iM,iS,iG,iB,iN,iZ,h]⟩) () trivial (xs.length+1) (Nat.le_refl _)).2
 rw[hb] at hr
 simp only[go_sem,reduceIte,↓reduceIte,reduceCtorEq,nA,nS,nM,nB,nE,nL,nT,nN,iL,iT,iE,iA,iM,iS,iG,iB,iN,iZ,h,c1,c2,Int.toNat_natCast,Xgw Yf [.s ⟨#[]⟩],hr]) (by simp only[go_sem,reduceIte,↓reduceIte,reduceCtorEq,nA,nS,nM,nB,nE,nL,nT,nN,iL,iT,iE,iA,iM,iS,iG,iB,iN,iZ,Y6,XD])
def s37:SP Tryz.prog:=mkS tyA 37 Tryz.f37 [] {md:=[.ro 1],rg:=[(0,[1,2],[1,2,3]),(1,[1,2,3],[1,2,3]),(2,[1,2,3],[1,2,3]),(3,[1,2,3],[1,2,3]),(4,[2,3],[2,3]),(5,[2],[2,3])],rets:=some ([2],[2,3])} Tryz.func37 (by kernel_rfl)
@[go_sem] def d37:s37.g=37/\s37.fs=⟨[.ro 1],s37.F,false⟩:=⟨nr rfl,nr rfl⟩
@[go_sem] def e37(j25 j26 j27:Int)(h0:Xex (Lanes.mk j25 j26 j27)):s37.F [.agg [.i .i64 j25,.i .i64 j26,.i .i64 j27]]=some (.agg (Xdd .mut (Lanes.mk j25 j26 j27)),[.u]):=Xd (0) rfl rfl (λcx h=>by
 obtain⟨q0,q1,q2⟩:=h0
 simp only[go_sem,reduceIte,↓reduceIte,reduceCtorEq,nA,nS,nM,nB,nE,nL,nT,nN,iL,iT,iE,iA,iM,iS,iG,iB,iN,iZ,h,q0,q1,q2]) (by simp only[go_sem,reduceIte,↓reduceIte,reduceCtorEq,nA,nS,nM,nB,nE,nL,nT,nN,iL,iT,iE,iA,iM,iS,iG,iB,iN,iZ,Y6,XD,XN,XF])
def s38:SP Tryz.prog:=mkS tyA 38 Tryz.f38 [] {md:=[.ro 1],rg:=[(0,[1,2],[1,2,3]),(1,[1,2,3],[1,2,3]),(2,[1,2,3],[1,2,3]),(3,[1,2,3],[1,2,3]),(4,[1,2,3],[1,2,3]),(5,[1,2,3],[1,2,3]),(6,[2,3],[2,3]),(7,[2],[2,3])],rets:=some ([2],[2,3])} Tryz.func38 (by kernel_rfl)
@[go_sem] def d38:s38.g=38/\s38.fs=⟨[.ro 1],s38.F,false⟩:=⟨nr rfl,nr rfl⟩
@[go_sem] def e38(j28 j29 j30 j31 j32:Int)(h0:Xey (Rules.mk j28 j29 j30 j31 j32)):s38.F [.agg [.i .i64 j28,.i .i64 j29,.i .i64 j30,.i .i64 j31,.i .i64 j32]]=some (.agg (Xde .mut (Rules.mk j28 j29 j30 j31 j32)),[.u]):=Xd (0) rfl rfl (λcx h=>by
 obtain⟨q0,q1,q2,q3,q4⟩:=h0
 simp only[go_sem,reduceIte,↓reduceIte,reduceCtorEq,nA,nS,nM,nB,nE,nL,nT,nN,iL,iT,iE,iA,iM,iS,iG,iB,iN,iZ,h,q0,q1,q2,q3,q4]) (by simp only[go_sem,reduceIte,↓reduceIte,reduceCtorEq,nA,nS,nM,nB,nE,nL,nT,nN,iL,iT,iE,iA,iM,iS,iG,iB,iN,iZ,Y6,XD,XN,XF])
def s10:SP Tryz.prog:=mkS tyA 10 Tryz.f10 [s36,s37,s38] {md:=[.ro 1],rg:=[(0,[1,2],[1,2,3]),(1,[1,2,3],[1,2,3]),(2,[1,2,3],[1,2,3]),(3,[1,2,3],[1,2,3]),(4,[1,2,3],[1,2,3]),(5,[1,2,3],[1,2,3]),(6,[1,2,3],[1,2,3]),(7,[1,2,3],[1,2,3]),(8,[1,2,3],[1,2,3]),(9,[1,2,3],[1,2,3]),(10,[1,2,3],[1,2,3]),(11,[1,2,3],[1,2,3]),(12,[2,3],[2,3]),(13,[2],[2,3])],rets:=some ([2],[2,3])} Tryz.func10 (by kernel_rfl)
@[go_sem] def d10:s10.g=10/\s10.fs=⟨[.ro 1],s10.F,false⟩:=⟨nr rfl,nr rfl⟩
@[go_sem] def e10(j33 j34 j35 j36 j37 j38 j39 j40:Int)(j41:List ByteArray)(j42 j43 j44 j45 j46 j47 j48 j49:Int)(h0:Qq (Config.mk j33 j34 j35 j36 j37 j38 j39 j40 j41 (Lanes.mk j42 j43 j44) (Rules.mk j45 j46 j47 j48 j49))):s10.F [.agg [.i .i64 j33,.i .i64 j34,.i .i64 j35,.i .i64 j36,.i .i64 j37,.i .i64 j38,.i .i64 j39,.i .i64 j40,.sl .ro 1 (j41.map Yf),.i .i64 j42,.i .i64 j43,.i .i64 j44,.i .i64 j45,.i .i64 j46,.i .i64 j47,.i .i64 j48,.i .i64 j49]]=some (.agg (Q8 .mut (Config.mk j33 j34 j35 j36 j37 j38 j39 j40 j41 (Lanes.mk j42 j43 j44) (Rules.mk j45 j46 j47 j48 j49))),[.u]):=Xd (0) rfl rfl (λcx h=>by
 obtain⟨q0,q1,q2,q3,q4,q5,q6,q7,q8,q9,q10⟩:=h0
 simp only[go_sem,reduceIte,↓reduceIte,reduceCtorEq,nA,nS,nM,nB,nE,nL,nT,nN,iL,iT,iE,iA,iM,iS,iG,iB,iN,iZ,h,q0,q1,q2,q3,q4,q5,q6,q7,q8,q9,q10]) (by simp only[go_sem,reduceIte,↓reduceIte,reduceCtorEq,nA,nS,nM,nB,nE,nL,nT,nN,iL,iT,iE,iA,iM,iS,iG,iB,iN,iZ,Y6,XD,XN,XF])
def XoV:SP Tryz.prog:=mkS tyA 124 Tryz.f124 [] {md:=[.ro 1,.ro 1],rg:=[(0,[0,1],[]),(1,[1,3],[]),(2,[2],[]),(3,[2],[])],rets:=some ([2],[])} Tryz.func124 (by kernel_rfl)
@[go_sem] def XFw:XoV.g=124/\XoV.fs=⟨[.ro 1,.ro 1],XoV.F,false⟩:=⟨nr rfl,nr rfl⟩
@[go_sem] def XFx(x:Bool)(c:Int):XoV.F [.pr [.b x],.pr [.i .i64 c]]=some (.i .i64 (if x=true then c else 0),[.u,.u]):=Xd (0) rfl rfl (λcx h=>by
 simp only[go_sem,reduceIte,↓reduceIte,reduceCtorEq,nA,nS,nM,nB,nE,nL,nT,nN,iL,iT,iE,iA,iM,iS,iG,iB,iN,iZ,h,XlV]) (rfl)
def s93:SP Tryz.prog:=mkS tyA 93 Tryz.f93 [] {md:=[.ro 1,.ro 1,.ro 1],rets:=some ([6],[])} Tryz.func93 (by kernel_rfl)
@[go_sem] def d93:s93.g=93/\s93.fs=⟨[.ro 1,.ro 1,.ro 1],s93.F,false⟩:=⟨nr rfl,nr rfl⟩
@[go_sem] def e93(a b c:Int):s93.F [.i .i64 a,.i .i64 b,.i .i64 c]=some (.b (within a b c),[.u,.u,.u]):=Xd (0) rfl rfl (λcx h=>by
 simp only[go_sem,reduceIte,↓reduceIte,reduceCtorEq,nA,nS,nM,nB,nE,nL,nT,nN,iL,iT,iE,iA,iM,iS,iG,iB,iN,iZ,h,within]
 by_cases h:b<=a<;>simp[h]) (rfl)
def Xij:QF Tryz.prog 244 ⟨[.ro 1,.ro 1],Xd1 13 152,false⟩:=by
 obtain⟨i0,zv,h1,h2,h3,h4,h5⟩:=Go.Proofs.Tryz.growInfo
 exact Xlq Tryz.func244 (by kernel_rfl) rfl h2 h5 h3 Go.Proofs.Tryz.grow0 (λk w hk hb h6=>Go.Proofs.Tryz.growN i0 zv h1 h2 (by omega) k w hk (by rw[h3]; exact hb) h6)
def XoW:SP Tryz.prog:=⟨244,⟨[.ro 1,.ro 1],Xd1 13 152,false⟩,Xij⟩
@[go_sem] def XFy:XoW.g=244/\XoW.fs=⟨[.ro 1,.ro 1],XoW.F,false⟩:=⟨nr rfl,nr rfl⟩
@[go_sem] def XFz(k:Int)(h0:0<=k)(h1:k<=2097152):XoW.F [.nil,.i .i64 k]=some (.sl .mut 13 [],[.u,.u]):=by
 show Xd1 13 152 [.nil,.i .i64 k]=_
 rw[Xjy]
 exact if_pos ⟨h0,by omega,by omega⟩
def Xn2:SP Tryz.prog:=mkS tyA 193 Tryz.f193 [XoW] {md:=[.ro 1],wk:=true,rg:=[(0,[0],[]),(1,[0,3],[]),(2,[0,3,9,10,11],[]),(3,[0,3,9,10,11,12],[]),(4,[0,3,5,9,10,11],[]),(5,[0,3,9,10,11],[]),(6,[0,3,9,10,11,20],[]),(7,[0,3,9,10,11],[]),(8,[0,3,9,10,11],[]),(9,[0,6],[]),(10,[0,6,25,26,27],[]),(11,[0,6,25,26,27,28],[]),(12,[0,6,8,25,26,27],[]),(13,[0,6,25,26,27],[]),(14,[0,6,25,26,27],[]),(15,[2],[])],lv:=[(0,[0,3,9,10,11],[]),(2,[0,6,25,26,27],[])],out:=[(0,[0,3],[]),(2,[6],[])],rets:=some ([2],[])} Tryz.func193 (by kernel_rfl)
@[go_sem] def XFA:Xn2.g=193/\Xn2.fs=⟨[.ro 1],Xn2.F,true⟩:=⟨nr rfl,nr rfl⟩
@[go_sem] def XsP(a b:List XM)(h0:a.length<=1048576/\b.length<=1048576):Xn2.F [.sl .ro 1 [[.sl .ro 13 (a.map (Xa .ro))],[.sl .ro 13 (b.map (Xa .ro))]]]=some (.sl .mut 13 ((a++b).map (Xa .ro)),[.u]):=Xd (3) rfl rfl (λcx h=>by
 obtain⟨g1,g2⟩:=h0
 have p1:=XqD a
 have p2:=XqD b
 have w0:(IntKind.i64).wrap (0+(a.length:Int))=(a.length:Int):=by rw[Int.zero_add]; exact Xc (by omega) (by omega)
 have w0':(IntKind.i64).wrap (a.length:Int)=(a.length:Int):=Xc (by omega) (by omega)
 have w1:(IntKind.i64).wrap ((a.length:Int)+(b.length:Int))=(a.length:Int)+(b.length:Int):=Xc (by omega) (by omega)
 have c1:¬((a.length:Int)<0):=by omega
 have c2:¬((a.length:Int)+(b.length:Int)<0):=by omega
 have c3:0<=(a.length:Int)+(b.length:Int):=by omega
 have c4:(a.length:Int)+(b.length:Int)<=2097152:=by omega
 have t1:a.length*152<=140737488355328:=by omega
 have t2:(a.length+b.length)*152<=140737488355328:=by omega
 have t3:a.map (Xa .ro)++b.map (Xa .ro)=(a++b).map (Xa .ro):=List.map_append.symm
 simp only[go_sem,reduceIte,↓reduceIte,reduceCtorEq,nA,nS,nM,nB,nE,nL,nT,nN,iL,iT,iE,iA,iM,iS,iG,iB,iN,iZ,h,XaY,XaZ,Xa0,Xc9,Xc7,Xc8,XnC,XnD,p1,p2,w0,w0',w1,c1,c2,c3,c4,t1,t2,t3]) (rfl)
@[go_sem] def Xsp:Xn2.F [.sl .ro 1 [[.sl .ro 13 []],[.sl .ro 13 []]]]=some (.sl .mut 13 [],[.u]):=XsP [] [] ⟨Nat.zero_le _,Nat.zero_le _⟩
def Xn3:SP Tryz.prog:=mkS tyA 125 Tryz.f125 [Xn2] {md:=[.ro 1],wk:=true,rets:=some ([2],[])} Tryz.func125 (by kernel_rfl)
@[go_sem] def XFB:Xn3.g=125/\Xn3.fs=⟨[.ro 1],Xn3.F,true⟩:=⟨nr rfl,nr rfl⟩
@[go_sem] def XsQ(j33 j34:Int)(j50 j51:List XM)(h0:((Store.mk j33 j34 j50 j51).Trial.length<=1048576/\(Store.mk j33 j34 j50 j51).Kept.length<=1048576)):Xn3.F [.agg [.i .i64 j33,.i .i64 j34,.sl .ro 13 (j50.map (Xa .ro)),.sl .ro 13 (j51.map (Xa .ro))]]=some (.sl .mut 13 (((Store.mk j33 j34 j50 j51).Trial++(Store.mk j33 j34 j50 j51).Kept).map (Xa .ro)),[.u]):=Xd (0) rfl rfl (λcx h=>by
 simp only[go_sem,reduceIte,↓reduceIte,reduceCtorEq,nA,nS,nM,nB,nE,nL,nT,nN,iL,iT,iE,iA,iM,iS,iG,iB,iN,iZ,h,h0.1,h0.2]) (rfl)
@[go_sem] def Xsq(b g:Int):Xn3.F [.agg [.i .i64 b,.i .i64 g,.sl .ro 13 [],.sl .ro 13 []]]=some (.sl .mut 13 [],[.u]):=XsQ b g [] [] ⟨Nat.zero_le _,Nat.zero_le _⟩
def XoX:SP Tryz.prog:=mkS tyA 194 Tryz.f194 [] {md:=[.ro 1],rets:=some ([2],[])} Tryz.func194 (by kernel_rfl)
@[go_sem] def XFC:XoX.g=194/\XoX.fs=⟨[.ro 1],XoX.F,false⟩:=⟨nr rfl,nr rfl⟩
@[go_sem] def XFD(t:ByteArray):XoX.F [.s t]=some (.b (XeG t),[.u]):=Xd (0) rfl rfl (λcx h=>by
 by_cases h1:1<=(t.size:Int)<;>by_cases h2:(t.size:Int)<=500<;>simp only[go_sem,reduceIte,↓reduceIte,reduceCtorEq,nA,nS,nM,nB,nE,nL,nT,nN,iL,iT,iE,iA,iM,iS,iG,iB,iN,iZ,h,h1,h2,XeG]) (rfl)
def Xn4:SP Tryz.prog:=mkS tyA 247 Tryz.f247 [] {md:=[.ro 1],rets:=some ([2],[])} Tryz.func247 (by kernel_rfl)
@[go_sem] def XFE:Xn4.g=247/\Xn4.fs=⟨[.ro 1],Xn4.F,false⟩:=⟨nr rfl,nr rfl⟩
@[go_sem] def XFF(c:UInt8):Xn4.F [.i .u8 c.toNat]=some (.b (Q0 c),[.u]):=Xd (0) rfl rfl (λcx h=>by
 by_cases h1:97<=(c.toNat:Int)<;>by_cases h2:(c.toNat:Int)<=122<;>by_cases h3:65<=(c.toNat:Int)<;>by_cases h4:(c.toNat:Int)<=90<;>simp only[go_sem,reduceIte,↓reduceIte,reduceCtorEq,nA,nS,nM,nB,nE,nL,nT,nN,iL,iT,iE,iA,iM,iS,iG,iB,iN,iZ,h,h1,h2,h3,h4,Q0]) (rfl)
def Xl8:SP Tryz.prog:=mkS tyA 248 Tryz.f248 [] {md:=[.ro 1],rets:=some ([2],[])} Tryz.func248 (by kernel_rfl)
@[go_sem] def XFG:Xl8.g=248/\Xl8.fs=⟨[.ro 1],Xl8.F,false⟩:=⟨nr rfl,nr rfl⟩
@[go_sem] def XFH(c:UInt8):Xl8.F [.i .u8 c.toNat]=some (.b (Q9 c),[.u]):=Xd (0) rfl rfl (λcx h=>by
 by_cases h1:48<=(c.toNat:Int)<;>by_cases h2:(c.toNat:Int)<=57<;>simp only[go_sem,reduceIte,↓reduceIte,reduceCtorEq,nA,nS,nM,nB,nE,nL,nT,nN,iL,iT,iE,iA,iM,iS,iG,iB,iN,iZ,h,h1,h2,Q9]) (rfl)
def XoY:SP Tryz.prog:=⟨290,⟨[.ro 1,.ro 1],Xq9,false⟩,Xqu Tryz.func290 (by kernel_rfl) (by kernel_rfl) (by kernel_rfl) (by kernel_rfl)⟩
@[go_sem] def XFI:XoY.g=290/\XoY.fs=⟨[.ro 1,.ro 1],XoY.F,false⟩:=⟨nr rfl,nr rfl⟩
@[go_sem] def XFJ(s:ByteArray)(c:UInt8):XoY.F [.s s,.i .u8 c.toNat]=some (.i .i64 (ixB s c),[.u,.u]):=by
 show Xq9 [.s s,.i .u8 c.toNat]=_
 rw[XnB,XoH]
 rfl
def XoZ:SP Tryz.prog:=mkS tyA 278 Tryz.f278 [XoY] {md:=[.ro 1,.ro 1],rets:=some ([4],[])} Tryz.func278 (by kernel_rfl)
@[go_sem] def XFK:XoZ.g=278/\XoZ.fs=⟨[.ro 1,.ro 1],XoZ.F,false⟩:=⟨nr rfl,nr rfl⟩
@[go_sem] def XFL(s:ByteArray)(c:UInt8):XoZ.F [.s s,.i .u8 c.toNat]=some (.i .i64 (ixB s c),[.u,.u]):=Xd (0) rfl rfl (λcx h=>by
 simp only[go_sem,reduceIte,↓reduceIte,reduceCtorEq,nA,nS,nM,nB,nE,nL,nT,nN,iL,iT,iE,iA,iM,iS,iG,iB,iN,iZ,h]) (rfl)
def Xn5:SP Tryz.prog:=mkS tyA 260 Tryz.f260 [XoZ] {md:=[.ro 1,.ro 1],rets:=some ([4],[])} Tryz.func260 (by kernel_rfl)
@[go_sem] def XFM:Xn5.g=260/\Xn5.fs=⟨[.ro 1,.ro 1],Xn5.F,false⟩:=⟨nr rfl,nr rfl⟩
@[go_sem] def XFN(s:ByteArray)(c:UInt8):Xn5.F [.s s,.i .u8 c.toNat]=some (.i .i64 (ixB s c),[.u,.u]):=Xd (0) rfl rfl (λcx h=>by
 simp only[go_sem,reduceIte,↓reduceIte,reduceCtorEq,nA,nS,nM,nB,nE,nL,nT,nN,iL,iT,iE,iA,iM,iS,iG,iB,iN,iZ,h]) (rfl)
def Xl9:SP Tryz.prog:=mkS tyA 226 Tryz.f226 [Xn4,Xl8,Xn5] {md:=[.ro 1],rets:=some ([2],[])} Tryz.func226 (by kernel_rfl)
@[go_sem] def XFO:Xl9.g=226/\Xl9.fs=⟨[.ro 1],Xl9.F,false⟩:=⟨nr rfl,nr rfl⟩
@[go_sem] def XFP(c:UInt8):Xl9.F [.i .u8 c.toNat]=some (.b (Xae c),[.u]):=Xd (0) rfl rfl (λcx h=>by
 have hix:=Xl5 c
 have hu:Xae c=(Q0 c||Q9 c||Xg5.contains c):=rfl
 cases h1:Q0 c<;>cases h2:Q9 c<;>cases h3:Xg5.contains c<;>simp only[go_sem,reduceIte,↓reduceIte,reduceCtorEq,nA,nS,nM,nB,nE,nL,nT,nN,iL,iT,iE,iA,iM,iS,iG,iB,iN,iZ,h,h1,h2,h3,hu,hix]) (rfl)
def Xn6:SP Tryz.prog:=mkS tyA 281 Tryz.f281 [] {md:=[.ro 1],rets:=some ([2],[])} Tryz.func281 (by kernel_rfl)
@[go_sem] def XFQ:Xn6.g=281/\Xn6.fs=⟨[.ro 1],Xn6.F,false⟩:=⟨nr rfl,nr rfl⟩
@[go_sem] def XFR(c:UInt8):Xn6.F [.i .u8 c.toNat]=some (.b (XaJ c),[.u]):=Xd (0) rfl rfl (λcx h=>by
 cases h1:((c.toNat:Int)==9)<;>by_cases h2:32<=(c.toNat:Int)<;>by_cases h3:(c.toNat:Int)<=126<;>simp only[go_sem,reduceIte,↓reduceIte,reduceCtorEq,nA,nS,nM,nB,nE,nL,nT,nN,iL,iT,iE,iA,iM,iS,iG,iB,iN,iZ,h,h1,h2,h3,XaJ]) (rfl)
def Xo0:SP Tryz.prog:=mkS tyA 201 Tryz.f201 [Xn4,Xl8] {md:=[.ro 1],rets:=some ([2],[])} Tryz.func201 (by kernel_rfl)
@[go_sem] def XFS:Xo0.g=201/\Xo0.fs=⟨[.ro 1],Xo0.F,false⟩:=⟨nr rfl,nr rfl⟩
@[go_sem] def XFT(c:UInt8):Xo0.F [.i .u8 c.toNat]=some (.b (Xib c),[.u]):=Xd (0) rfl rfl (λcx h=>by
 cases h1:Q0 c<;>cases h2:Q9 c<;>cases h3:((c.toNat:Int)==46)<;>cases h4:((c.toNat:Int)==45)<;>simp only[go_sem,reduceIte,↓reduceIte,reduceCtorEq,nA,nS,nM,nB,nE,nL,nT,nN,iL,iT,iE,iA,iM,iS,iG,iB,iN,iZ,h,h1,h2,h3,h4,Xib]) (rfl)
def Xo1:SP Tryz.prog:=mkS tyA 275 Tryz.f275 [Xl9,Xn5] {md:=[.ro 1],rets:=some ([2],[])} Tryz.func275 (by kernel_rfl)
@[go_sem] def XFU:Xo1.g=275/\Xo1.fs=⟨[.ro 1],Xo1.F,false⟩:=⟨nr rfl,nr rfl⟩
@[go_sem] def XFV(c:UInt8):Xo1.F [.i .u8 c.toNat]=some (.b (Xid c),[.u]):=Xd (0) rfl rfl (λcx h=>by
 have hix:=XjS c
 have hu:Xid c=(Xae c||Xic.contains c):=rfl
 cases h1:Xae c<;>cases h3:Xic.contains c<;>simp only[go_sem,reduceIte,↓reduceIte,reduceCtorEq,nA,nS,nM,nB,nE,nL,nT,nN,iL,iT,iE,iA,iM,iS,iG,iB,iN,iZ,h,h1,h3,hu,hix]) (rfl)
def XjD:SP Tryz.prog:=mkS tyA 200 Tryz.f200 [Xo0,Xl9,Xl8,Xo1,Xn6] {md:=[.ro 1,.ro 1,.ro 1,.ro 1],rg:=[(0,[0,1,2,3],[]),(1,[0,3,19],[]),(2,[8],[]),(3,[0,3,21,22],[]),(4,[0,3,21,22,23],[]),(5,[0,3,9,21,22],[]),(6,[0,3,21,22,30],[]),(7,[8],[]),(8,[0,3,21,22],[]),(9,[8],[])],lv:=[(0,[0,3,21,22],[])],out:=[(0,[],[])],rets:=some ([8],[])} Tryz.func200 (by kernel_rfl)
@[go_sem] def XFW:XjD.g=200/\XjD.fs=⟨[.ro 1,.ro 1,.ro 1,.ro 1],XjD.F,false⟩:=⟨nr rfl,nr rfl⟩
@[go_sem] def XqF(t:ByteArray)(lo hi:Int)(hb:hi<=1000000):XjD.F [.s t,.i .i64 lo,.i .i64 hi,.fn 226 []]=some (.b (XgD Xae lo hi t),[.u,.u,.u,.u]):=Xd (t.data.toList.length+1) rfl rfl (λcx h=>by
 by_cases h1:(t.size:Int)<lo
 ·simp only[go_sem,reduceIte,↓reduceIte,reduceCtorEq,nA,nS,nM,nB,nE,nL,nT,nN,iL,iT,iE,iA,iM,iS,iG,iB,iN,iZ,h,h1,QU h1]
 by_cases h2:hi<(t.size:Int)
 ·simp only[go_sem,reduceIte,↓reduceIte,reduceCtorEq,nA,nS,nM,nB,nE,nL,nT,nN,iL,iT,iE,iA,iM,iS,iG,iB,iN,iZ,h,h1,h2,Up h2]
 have hx:t.data.toList.length<=9223372036854775806:=by rw[<-Xy]; omega
 have ha:=UC (p:=Xae) h1 h2
 rw[Xy t] at h1 h2
 ·have hb0:=Xn Tryz.f200 0 _ _ rfl rfl
  obtain⟨r,hr,hq⟩:=Yj (cx:=cx) (blk:=0) (body:=Yl Tryz.f200 0) t.data.toList (λk (s:Unit)=>⟨E [(0,.s t),(3,.fn 226 []),(21,.i .i64 t.size),(22,.i .i64 k)],B []⟩) (λs=>⟨E [],B []⟩) (λx s=>!Xae x) (λx s=>()) (λx s=>(.ret,⟨E [(8,.b false)],B []⟩)) (λk s=>True)
    (λs hI G=>by simp only[go_sem,reduceIte,↓reduceIte,reduceCtorEq,nA,nS,nM,nB,nE,nL,nT,nN,iL,iT,iE,iA,iM,iS,iG,iB,iN,iZ,h,Int.lt_irrefl,hb0,Xy t]) (λk hk s hI=>by
     have h1:((k:Int)<(t.data.toList.length:Int)):=Int.ofNat_lt.2 hk
     have hz:=Xcw t k hk
     exact⟨_,_,_,λG=>by simp only[go_sem,reduceIte,↓reduceIte,reduceCtorEq,nA,nS,nM,nB,nE,nL,nT,nN,iL,iT,iE,iA,iM,iS,iG,iB,iN,iZ,h,hz,Xy t,h1,Xp _ _ hk,Xe (show k<9223372036854775807 by omega),hb0]<;>with_reducible rfl,Iff.rfl,λhc=>⟨trivial,by simp only[go_sem,reduceIte,↓reduceIte,reduceCtorEq,nA,nS,nM,nB,nE,nL,nT,nN,iL,iT,iE,iA,iM,iS,iG,iB,iN,iZ,h,Xy t]⟩⟩) () trivial (t.data.toList.length+1) (Nat.le_refl _)
  rw[hb0] at hr
  rcases hq with⟨s',e1,_,e3⟩ | ⟨x,s',e1,e3⟩
  ·simp only[go_sem,reduceIte,↓reduceIte,reduceCtorEq,nA,nS,nM,nB,nE,nL,nT,nN,iL,iT,iE,iA,iM,iS,iG,iB,iN,iZ,h,h1,h2,Xy t,hr,e3,ha,QJ e1]
  ·simp only[go_sem,reduceIte,↓reduceIte,reduceCtorEq,nA,nS,nM,nB,nE,nL,nT,nN,iL,iT,iE,iA,iM,iS,iG,iB,iN,iZ,h,h1,h2,Xy t,hr,e3,ha,Z9 e1]) (rfl)
@[go_sem] def XqG(t:ByteArray)(lo hi:Int)(hb:hi<=1000000):XjD.F [.s t,.i .i64 lo,.i .i64 hi,.fn 281 []]=some (.b (XgD XaJ lo hi t),[.u,.u,.u,.u]):=Xd (t.data.toList.length+1) rfl rfl (λcx h=>by
 by_cases h1:(t.size:Int)<lo
 ·simp only[go_sem,reduceIte,↓reduceIte,reduceCtorEq,nA,nS,nM,nB,nE,nL,nT,nN,iL,iT,iE,iA,iM,iS,iG,iB,iN,iZ,h,h1,QU h1]
 by_cases h2:hi<(t.size:Int)
 ·simp only[go_sem,reduceIte,↓reduceIte,reduceCtorEq,nA,nS,nM,nB,nE,nL,nT,nN,iL,iT,iE,iA,iM,iS,iG,iB,iN,iZ,h,h1,h2,Up h2]
 have hx:t.data.toList.length<=9223372036854775806:=by rw[<-Xy]; omega
 have ha:=UC (p:=XaJ) h1 h2
 rw[Xy t] at h1 h2
 ·have hb0:=Xn Tryz.f200 0 _ _ rfl rfl
  obtain⟨r,hr,hq⟩:=Yj (cx:=cx) (blk:=0) (body:=Yl Tryz.f200 0) t.data.toList (λk (s:Unit)=>⟨E [(0,.s t),(3,.fn 281 []),(21,.i .i64 t.size),(22,.i .i64 k)],B []⟩) (λs=>⟨E [],B []⟩) (λx s=>!XaJ x) (λx s=>()) (λx s=>(.ret,⟨E [(8,.b false)],B []⟩)) (λk s=>True)
    (λs hI G=>by simp only[go_sem,reduceIte,↓reduceIte,reduceCtorEq,nA,nS,nM,nB,nE,nL,nT,nN,iL,iT,iE,iA,iM,iS,iG,iB,iN,iZ,h,Int.lt_irrefl,hb0,Xy t]) (λk hk s hI=>by
     have h1:((k:Int)<(t.data.toList.length:Int)):=Int.ofNat_lt.2 hk
     have hz:=Xcw t k hk
     exact⟨_,_,_,λG=>by simp only[go_sem,reduceIte,↓reduceIte,reduceCtorEq,nA,nS,nM,nB,nE,nL,nT,nN,iL,iT,iE,iA,iM,iS,iG,iB,iN,iZ,h,hz,Xy t,h1,Xp _ _ hk,Xe (show k<9223372036854775807 by omega),hb0]<;>with_reducible rfl,Iff.rfl,λhc=>⟨trivial,by simp only[go_sem,reduceIte,↓reduceIte,reduceCtorEq,nA,nS,nM,nB,nE,nL,nT,nN,iL,iT,iE,iA,iM,iS,iG,iB,iN,iZ,h,Xy t]⟩⟩) () trivial (t.data.toList.length+1) (Nat.le_refl _)
  rw[hb0] at hr
  rcases hq with⟨s',e1,_,e3⟩ | ⟨x,s',e1,e3⟩
  ·simp only[go_sem,reduceIte,↓reduceIte,reduceCtorEq,nA,nS,nM,nB,nE,nL,nT,nN,iL,iT,iE,iA,iM,iS,iG,iB,iN,iZ,h,h1,h2,Xy t,hr,e3,ha,QJ e1]
  ·simp only[go_sem,reduceIte,↓reduceIte,reduceCtorEq,nA,nS,nM,nB,nE,nL,nT,nN,iL,iT,iE,iA,iM,iS,iG,iB,iN,iZ,h,h1,h2,Xy t,hr,e3,ha,Z9 e1]) (rfl)
@[go_sem] def XqH(t:ByteArray)(lo hi:Int)(hb:hi<=1000000):XjD.F [.s t,.i .i64 lo,.i .i64 hi,.fn 201 []]=some (.b (XgD Xib lo hi t),[.u,.u,.u,.u]):=Xd (t.data.toList.length+1) rfl rfl (λcx h=>by
 by_cases h1:(t.size:Int)<lo
 ·simp only[go_sem,reduceIte,↓reduceIte,reduceCtorEq,nA,nS,nM,nB,nE,nL,nT,nN,iL,iT,iE,iA,iM,iS,iG,iB,iN,iZ,h,h1,QU h1]
 by_cases h2:hi<(t.size:Int)
 ·simp only[go_sem,reduceIte,↓reduceIte,reduceCtorEq,nA,nS,nM,nB,nE,nL,nT,nN,iL,iT,iE,iA,iM,iS,iG,iB,iN,iZ,h,h1,h2,Up h2]
 have hx:t.data.toList.length<=9223372036854775806:=by rw[<-Xy]; omega
 have ha:=UC (p:=Xib) h1 h2
 rw[Xy t] at h1 h2
 ·have hb0:=Xn Tryz.f200 0 _ _ rfl rfl
  obtain⟨r,hr,hq⟩:=Yj (cx:=cx) (blk:=0) (body:=Yl Tryz.f200 0) t.data.toList (λk (s:Unit)=>⟨E [(0,.s t),(3,.fn 201 []),(21,.i .i64 t.size),(22,.i .i64 k)],B []⟩) (λs=>⟨E [],B []⟩) (λx s=>!Xib x) (λx s=>()) (λx s=>(.ret,⟨E [(8,.b false)],B []⟩)) (λk s=>True)
    (λs hI G=>by simp only[go_sem,reduceIte,↓reduceIte,reduceCtorEq,nA,nS,nM,nB,nE,nL,nT,nN,iL,iT,iE,iA,iM,iS,iG,iB,iN,iZ,h,Int.lt_irrefl,hb0,Xy t]) (λk hk s hI=>by
     have h1:((k:Int)<(t.data.toList.length:Int)):=Int.ofNat_lt.2 hk
     have hz:=Xcw t k hk
     exact⟨_,_,_,λG=>by simp only[go_sem,reduceIte,↓reduceIte,reduceCtorEq,nA,nS,nM,nB,nE,nL,nT,nN,iL,iT,iE,iA,iM,iS,iG,iB,iN,iZ,h,hz,Xy t,h1,Xp _ _ hk,Xe (show k<9223372036854775807 by omega),hb0]<;>with_reducible rfl,Iff.rfl,λhc=>⟨trivial,by simp only[go_sem,reduceIte,↓reduceIte,reduceCtorEq,nA,nS,nM,nB,nE,nL,nT,nN,iL,iT,iE,iA,iM,iS,iG,iB,iN,iZ,h,Xy t]⟩⟩) () trivial (t.data.toList.length+1) (Nat.le_refl _)
  rw[hb0] at hr
  rcases hq with⟨s',e1,_,e3⟩ | ⟨x,s',e1,e3⟩
  ·simp only[go_sem,reduceIte,↓reduceIte,reduceCtorEq,nA,nS,nM,nB,nE,nL,nT,nN,iL,iT,iE,iA,iM,iS,iG,iB,iN,iZ,h,h1,h2,Xy t,hr,e3,ha,QJ e1]
  ·simp only[go_sem,reduceIte,↓reduceIte,reduceCtorEq,nA,nS,nM,nB,nE,nL,nT,nN,iL,iT,iE,iA,iM,iS,iG,iB,iN,iZ,h,h1,h2,Xy t,hr,e3,ha,Z9 e1]) (rfl)
@[go_sem] def XqI(t:ByteArray)(lo hi:Int)(hb:hi<=1000000):XjD.F [.s t,.i .i64 lo,.i .i64 hi,.fn 275 []]=some (.b (XgD Xid lo hi t),[.u,.u,.u,.u]):=Xd (t.data.toList.length+1) rfl rfl (λcx h=>by
 by_cases h1:(t.size:Int)<lo
 ·simp only[go_sem,reduceIte,↓reduceIte,reduceCtorEq,nA,nS,nM,nB,nE,nL,nT,nN,iL,iT,iE,iA,iM,iS,iG,iB,iN,iZ,h,h1,QU h1]
 by_cases h2:hi<(t.size:Int)
 ·simp only[go_sem,reduceIte,↓reduceIte,reduceCtorEq,nA,nS,nM,nB,nE,nL,nT,nN,iL,iT,iE,iA,iM,iS,iG,iB,iN,iZ,h,h1,h2,Up h2]
 have hx:t.data.toList.length<=9223372036854775806:=by rw[<-Xy]; omega
 have ha:=UC (p:=Xid) h1 h2
 rw[Xy t] at h1 h2
 ·have hb0:=Xn Tryz.f200 0 _ _ rfl rfl
  obtain⟨r,hr,hq⟩:=Yj (cx:=cx) (blk:=0) (body:=Yl Tryz.f200 0) t.data.toList (λk (s:Unit)=>⟨E [(0,.s t),(3,.fn 275 []),(21,.i .i64 t.size),(22,.i .i64 k)],B []⟩) (λs=>⟨E [],B []⟩) (λx s=>!Xid x) (λx s=>()) (λx s=>(.ret,⟨E [(8,.b false)],B []⟩)) (λk s=>True)
    (λs hI G=>by simp only[go_sem,reduceIte,↓reduceIte,reduceCtorEq,nA,nS,nM,nB,nE,nL,nT,nN,iL,iT,iE,iA,iM,iS,iG,iB,iN,iZ,h,Int.lt_irrefl,hb0,Xy t]) (λk hk s hI=>by
     have h1:((k:Int)<(t.data.toList.length:Int)):=Int.ofNat_lt.2 hk
     have hz:=Xcw t k hk
     exact⟨_,_,_,λG=>by simp only[go_sem,reduceIte,↓reduceIte,reduceCtorEq,nA,nS,nM,nB,nE,nL,nT,nN,iL,iT,iE,iA,iM,iS,iG,iB,iN,iZ,h,hz,Xy t,h1,Xp _ _ hk,Xe (show k<9223372036854775807 by omega),hb0]<;>with_reducible rfl,Iff.rfl,λhc=>⟨trivial,by simp only[go_sem,reduceIte,↓reduceIte,reduceCtorEq,nA,nS,nM,nB,nE,nL,nT,nN,iL,iT,iE,iA,iM,iS,iG,iB,iN,iZ,h,Xy t]⟩⟩) () trivial (t.data.toList.length+1) (Nat.le_refl _)
  rw[hb0] at hr
  rcases hq with⟨s',e1,_,e3⟩ | ⟨x,s',e1,e3⟩
  ·simp only[go_sem,reduceIte,↓reduceIte,reduceCtorEq,nA,nS,nM,nB,nE,nL,nT,nN,iL,iT,iE,iA,iM,iS,iG,iB,iN,iZ,h,h1,h2,Xy t,hr,e3,ha,QJ e1]
  ·simp only[go_sem,reduceIte,↓reduceIte,reduceCtorEq,nA,nS,nM,nB,nE,nL,nT,nN,iL,iT,iE,iA,iM,iS,iG,iB,iN,iZ,h,h1,h2,Xy t,hr,e3,ha,Z9 e1]) (rfl)
@[go_sem] def XqJ(t:ByteArray)(lo hi:Int)(hb:hi<=1000000):XjD.F [.s t,.i .i64 lo,.i .i64 hi,.fn 248 []]=some (.b (XgD Q9 lo hi t),[.u,.u,.u,.u]):=Xd (t.data.toList.length+1) rfl rfl (λcx h=>by
 by_cases h1:(t.size:Int)<lo
 ·simp only[go_sem,reduceIte,↓reduceIte,reduceCtorEq,nA,nS,nM,nB,nE,nL,nT,nN,iL,iT,iE,iA,iM,iS,iG,iB,iN,iZ,h,h1,QU h1]
 by_cases h2:hi<(t.size:Int)
 ·simp only[go_sem,reduceIte,↓reduceIte,reduceCtorEq,nA,nS,nM,nB,nE,nL,nT,nN,iL,iT,iE,iA,iM,iS,iG,iB,iN,iZ,h,h1,h2,Up h2]
 have hx:t.data.toList.length<=9223372036854775806:=by rw[<-Xy]; omega
 have ha:=UC (p:=Q9) h1 h2
 rw[Xy t] at h1 h2
 ·have hb0:=Xn Tryz.f200 0 _ _ rfl rfl
  obtain⟨r,hr,hq⟩:=Yj (cx:=cx) (blk:=0) (body:=Yl Tryz.f200 0) t.data.toList (λk (s:Unit)=>⟨E [(0,.s t),(3,.fn 248 []),(21,.i .i64 t.size),(22,.i .i64 k)],B []⟩) (λs=>⟨E [],B []⟩) (λx s=>!Q9 x) (λx s=>()) (λx s=>(.ret,⟨E [(8,.b false)],B []⟩)) (λk s=>True)
    (λs hI G=>by simp only[go_sem,reduceIte,↓reduceIte,reduceCtorEq,nA,nS,nM,nB,nE,nL,nT,nN,iL,iT,iE,iA,iM,iS,iG,iB,iN,iZ,h,Int.lt_irrefl,hb0,Xy t]) (λk hk s hI=>by
     have h1:((k:Int)<(t.data.toList.length:Int)):=Int.ofNat_lt.2 hk
     have hz:=Xcw t k hk
     exact⟨_,_,_,λG=>by simp only[go_sem,reduceIte,↓reduceIte,reduceCtorEq,nA,nS,nM,nB,nE,nL,nT,nN,iL,iT,iE,iA,iM,iS,iG,iB,iN,iZ,h,hz,Xy t,h1,Xp _ _ hk,Xe (show k<9223372036854775807 by omega),hb0]<;>with_reducible rfl,Iff.rfl,λhc=>⟨trivial,by simp only[go_sem,reduceIte,↓reduceIte,reduceCtorEq,nA,nS,nM,nB,nE,nL,nT,nN,iL,iT,iE,iA,iM,iS,iG,iB,iN,iZ,h,Xy t]⟩⟩) () trivial (t.data.toList.length+1) (Nat.le_refl _)
  rw[hb0] at hr
  rcases hq with⟨s',e1,_,e3⟩ | ⟨x,s',e1,e3⟩
  ·simp only[go_sem,reduceIte,↓reduceIte,reduceCtorEq,nA,nS,nM,nB,nE,nL,nT,nN,iL,iT,iE,iA,iM,iS,iG,iB,iN,iZ,h,h1,h2,Xy t,hr,e3,ha,QJ e1]
  ·simp only[go_sem,reduceIte,↓reduceIte,reduceCtorEq,nA,nS,nM,nB,nE,nL,nT,nN,iL,iT,iE,iA,iM,iS,iG,iB,iN,iZ,h,h1,h2,Xy t,hr,e3,ha,Z9 e1]) (rfl)
end
end Go.Vm.A
