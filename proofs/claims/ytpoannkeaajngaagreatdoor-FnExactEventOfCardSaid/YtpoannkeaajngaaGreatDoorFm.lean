/- Functions of the program, walked by the evaluator. -/
import Derived.Test.YtpoannkeaajngaaGreatDoorWb
import Derived.Test.YtpoannkeaajngaaGreatDoorWa
import Derived.Test.YtpoannkeaajngaaGreatDoorFa
import Derived.Test.YtpoannkeaajngaaGreatDoorFb
import Derived.Test.YtpoannkeaajngaaGreatDoorFk
import Derived.Test.YtpoannkeaajngaaGreatDoorFl
import Derived.Test.YtpoannkeaajngaaGreatDoorFc
import Derived.Test.YtpoannkeaajngaaGreatDoorFd
import Derived.Test.YtpoannkeaajngaaGreatDoorFe
import Derived.Test.YtpoannkeaajngaaGreatDoorFf
import Derived.Test.YtpoannkeaajngaaGreatDoorFg
import Derived.Test.YtpoannkeaajngaaGreatDoorFh
import Derived.Test.YtpoannkeaajngaaGreatDoorFi
import Derived.Test.YtpoannkeaajngaaGreatDoorFj
set_option linter.unusedVariables false
set_option linter.unusedSimpArgs false
set_option autoImplicit false
set_option maxRecDepth 100000
set_option maxHeartbeats 4000000
set_option linter.defProp false
namespace Go.Vm.A
open Go.Proofs
open Nat renaming reduceAdd -> nA, reduceSub -> nS, reduceMul -> nM, reduceBEq -> nB, reduceEqDiff -> nE, reduceLeDiff -> nL, reduceLT -> nT, reduceBneDiff -> nN
open Int renaming reduceLE -> iL, reduceLT -> iT, reduceEq -> iE, reduceAdd -> iA, reduceMul -> iM, reduceSub -> iS, reduceNeg -> iG, reduceBEq -> iB, reduceBNe -> iN, reduceToNat -> iZ
noncomputable section
def s4:SP Tryz.prog:=mkS tyA 4 Tryz.f4 [s20,s21,s22,s23,s24] {md:=[.ro 1],rg:=[(0,[0],[]),(1,[0,10],[]),(2,[2],[]),(3,[0,3],[3]),(4,[0,3,4],[3,4]),(5,[0,3,4,18],[3,4]),(6,[2],[]),(7,[0,3,4,5],[3,4]),(8,[0,3,4,5],[3,4]),(9,[0,3,4,5,6],[3,4]),(10,[0,3,4,5,6],[3,4]),(11,[0,3,4,5,6,26],[3,4]),(12,[2],[]),(13,[0,3,4,5,29],[3,4]),(14,[2],[]),(15,[3,4,5,7],[3,4,7]),(16,[4,5,35],[4]),(17,[2],[]),(18,[4,5,6],[4]),(19,[5,6],[]),(20,[5,6,40],[]),(21,[2],[]),(22,[43],[]),(23,[2],[]),(24,[2],[])],rets:=some ([2],[])} Tryz.func4 (by kernel_rfl)
@[go_sem] def d4:s4.g=4/\s4.fs=⟨[.ro 1],s4.F,false⟩:=⟨nr rfl,nr rfl⟩
def e4(t:ByteArray)(h0:Xs0 t):s4.F [.s t]=some (.b true,[.u]):=Xj (0) rfl rfl (λcx h=>by
 by_cases hc0:(1048576:Int)<t.size
 ·simp only[go_sem,reduceIte,↓reduceIte,reduceCtorEq,nA,nS,nM,nB,nE,nL,nT,nN,iL,iT,iE,iA,iM,iS,iG,iB,iN,iZ,h,hc0]
 have hs0:t.size<=1048576:=by omega
 obtain⟨R,hR⟩:∃R,XaL t=R:=⟨_,rfl⟩
 have hsm:=Xix t
 rw[hR] at hsm
 have f0:=Xbq R 1 hsm
 have g0:=Xbp R 1
 have f0':(XY R 1).2<=9223372036854775807:=by omega
 have g0':¬((XY R 1).2<0):=by omega
 simp only[Yo,YM,XW,XN] at f0' g0'
 simp only[go_sem,reduceIte,↓reduceIte,reduceCtorEq,nA,nS,nM,nB,nE,nL,nT,nN,iL,iT,iE,iA,iM,iS,iG,iB,iN,iZ,h,hc0,hs0,hR,hsm,f0',g0',Xak,Yo,YM,XW,XN]) (rfl)
end
end Go.Vm.A
