/- Functions of the program, walked by the evaluator. -/
import Derived.Test.YtbgfaonlbpkfhaaGreatDoorWb
import Derived.Test.YtbgfaonlbpkfhaaGreatDoorWa
import Derived.Test.YtbgfaonlbpkfhaaGreatDoorFa
import Derived.Test.YtbgfaonlbpkfhaaGreatDoorFb
import Derived.Test.YtbgfaonlbpkfhaaGreatDoorFc
import Derived.Test.YtbgfaonlbpkfhaaGreatDoorFd
import Derived.Test.YtbgfaonlbpkfhaaGreatDoorFe
import Derived.Test.YtbgfaonlbpkfhaaGreatDoorFf
import Derived.Test.YtbgfaonlbpkfhaaGreatDoorFg
import Derived.Test.YtbgfaonlbpkfhaaGreatDoorFh
import Derived.Test.YtbgfaonlbpkfhaaGreatDoorFi
import Derived.Test.YtbgfaonlbpkfhaaGreatDoorFj
set_option linter.unusedVariables false
set_option linter.unusedSimpArgs false
set_option autoImplicit false
set_option maxRecDepth 100000
set_option maxHeartbeats 4000000
set_option linter.defProp false
namespace Go.Vm.A
open Go.Proofs
open Nat renaming reduceAdd -> nA, reduceSub -> nS, reduceMul -> nM, reduceBEq -> nB, reduceEqDiff -> nE, reduceLeDiff -> nL, reduceLT -> nT, reduceBneDiff -> nN
open Int renaming reduceLE -> iL, reduceLT -> iT, reduceEq -> iE, reduceAdd -> iA, reduceMul -> iM, reduceSub -> iS, reduceNeg -> iG, reduceBEq -> iB, reduceBNe -> iN, reduceToNat -> iZ
noncomputable section
def s4:SP Tryz.prog:=mkS tyA 4 Tryz.f4 [s17,s18,s19,s20,s21] {md:=[.ro 1],rg:=[(0,[1],[1]),(1,[1,3],[1]),(2,[1,3],[1]),(3,[1,11],[1]),(4,[2],[]),(5,[1,4],[1]),(6,[1,4,5],[1,5]),(7,[1,4,5,6],[1,5]),(8,[1,5,21],[1,5]),(9,[2],[]),(10,[26],[]),(11,[2],[]),(12,[2],[])],rets:=some ([2],[]),plan:=[(10,(.take 0 (.take 1 (.one 2 (.one 3 (.take 4 .done))))))]} Tryz.func4 (by kernel_rfl)
@[go_sem] def d4:s4.g=4/\s4.fs=⟨[.ro 1],s4.F,false⟩:=⟨nr rfl,nr rfl⟩
def e4(q0 q1 q2 q3 q4 q5 q6 q7:Int)(q8:List ByteArray)(q9 q10 q11 q12 q13 q14 q15 q16 q17 q18 q19 q20:Int)(q21 q22:List XK)(q23:List Origin)(q24:List Xl)(h0:Xbj (Shield.mk (Config.mk q0 q1 q2 q3 q4 q5 q6 q7 q8 (Lanes.mk q9 q10 q11) (Rules.mk q12 q13 q14 q15 q16)) q17 q18 (Store.mk q19 q20 q21 q22) q23 q24)):s4.F [.agg [.i .i64 q0,.i .i64 q1,.i .i64 q2,.i .i64 q3,.i .i64 q4,.i .i64 q5,.i .i64 q6,.i .i64 q7,.sl .ro 1 (q8.map Ye),.i .i64 q9,.i .i64 q10,.i .i64 q11,.i .i64 q12,.i .i64 q13,.i .i64 q14,.i .i64 q15,.i .i64 q16,.i .i64 q17,.i .i64 q18,.i .i64 q19,.i .i64 q20,.sl .ro 13 (q21.map (Xa .ro)),.sl .ro 13 (q22.map (Xa .ro)),.sl .ro 7 (q23.map (Xe .ro)),.sl .ro 11 (q24.map (Xc .ro))]]=some (.b true,[.u]):=Xb (0) rfl rfl (λcx h=>by
 have h0_0:=h0
 by_cases hc0:Qu (Shield.mk (Config.mk q0 q1 q2 q3 q4 q5 q6 q7 q8 (Lanes.mk q9 q10 q11) (Rules.mk q12 q13 q14 q15 q16)) q17 q18 (Store.mk q19 q20 q21 q22) q23 q24) 1048576<0
 ·simp only[go_sem,reduceIte,↓reduceIte,nA,nB,nE,h,hc0,h0_0]
 obtain⟨hs0,hl0⟩:=US _ _ h0_0 (by decide) (by decide) (show 0<=Qu (Shield.mk (Config.mk q0 q1 q2 q3 q4 q5 q6 q7 q8 (Lanes.mk q9 q10 q11) (Rules.mk q12 q13 q14 q15 q16)) q17 q18 (Store.mk q19 q20 q21 q22) q23 q24) 1048576 by omega)
 simp only[go_sem,reduceIte,↓reduceIte,nA,nB,nE,h,hc0,hs0,h0_0,QS]) (rfl)
end
end Go.Vm.A
