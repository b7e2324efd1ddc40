/- Functions of the program, walked by the evaluator. -/
import Derived.Test.YtnbhkifknleipaaGreatDoorWb
import Derived.Test.YtnbhkifknleipaaGreatDoorWa
import Derived.Test.YtnbhkifknleipaaGreatDoorFa
import Derived.Test.YtnbhkifknleipaaGreatDoorFb
import Derived.Test.YtnbhkifknleipaaGreatDoorFc
import Derived.Test.YtnbhkifknleipaaGreatDoorFd
import Derived.Test.YtnbhkifknleipaaGreatDoorFe
set_option linter.unusedVariables false
set_option linter.unusedSimpArgs false
set_option autoImplicit false
set_option maxRecDepth 100000
set_option maxHeartbeats 4000000
namespace Go.Vm.A
open Go.Proofs
open Nat renaming reduceAdd → nA, reduceSub → nS, reduceMul → nM, reduceBEq → nB, reduceEqDiff → nE, reduceLeDiff → nL, reduceLT → nT, reduceBneDiff → nN
open Int renaming reduceLE → iL, reduceLT → iT, reduceEq → iE, reduceAdd → iA, reduceMul → iM, reduceSub → iS, reduceNeg → iG, reduceBEq → iB, reduceBNe → iN, reduceToNat → iZ
noncomputable section
def s47 : SP Tryz.prog:=mkS tyA 47 Tryz.f47 [s128] { md:=[.ro 1,.ro 1],rg:=[(0,[0,1,4,16],[4,5]),(1,[4,5,16],[4,5]),(2,[4,5,6,16],[4,5]),(3,[4,5,6,13,16],[4,5]),(4,[4,16],[4,5]),(5,[4,16],[4,5])],rets:=some ([4,16],[4,5]) } Tryz.func47 (by kernel_rfl)
@[go_sem] theorem d47 : s47.g = 47 ∧ s47.fs = ⟨[.ro 1,.ro 1],s47.F,false⟩:=⟨nr rfl,nr rfl⟩
@[go_sem] theorem e47 (b g : Int) : s47.F [.i .i64 b,.i .i64 g] = some (.agg [.i .i64 (storeCode b g),.i .i64 (if storeCode b g = 0 then b else 0),.i .i64 (if storeCode b g = 0 then g else 0),.sl .mut 13 [],.sl .mut 13 []],[.u,.u]):=mkS_eq (0) rfl rfl (fun cx h=>by
 by_cases h1 : storeCode b g = 0
 ·simp only [go_sem,reduceIte,↓reduceIte,reduceCtorEq,nA,nS,nM,nB,nE,nL,nT,nN,iL,iT,iE,iA,iM,iS,iG,iB,iN,iZ,h,h1]
 ·have h2 : (storeCode b g != 0) = true:=by simpa using h1
  simp only [go_sem,reduceIte,↓reduceIte,reduceCtorEq,nA,nS,nM,nB,nE,nL,nT,nN,iL,iT,iE,iA,iM,iS,iG,iB,iN,iZ,h,h1,h2]) (by simp only [go_sem,reduceIte,↓reduceIte,reduceCtorEq,nA,nS,nM,nB,nE,nL,nT,nN,iL,iT,iE,iA,iM,iS,iG,iB,iN,iZ,okRes,hasRo,hasRoL,hasRoLL])
def s134 : SP Tryz.prog:=mkS tyA 134 Tryz.f134 [s47] { md:=[.ro 1],rets:=some ([1],[]) } Tryz.func134 (by kernel_rfl)
@[go_sem] theorem d134 : s134.g = 134 ∧ s134.fs = ⟨[.ro 1],s134.F,false⟩:=⟨nr rfl,nr rfl⟩
@[go_sem] theorem e134 (q0 q1 q2 q3 q4 q5 q6 q7 : Int) (q8 : List ByteArray) (q9 q10 q11 q12 q13 q14 q15 q16 : Int) : s134.F [.pr [.i .i64 q0,.i .i64 q1,.i .i64 q2,.i .i64 q3,.i .i64 q4,.i .i64 q5,.i .i64 q6,.i .i64 q7,.sl .ro 1 (q8.map rStr),.i .i64 q9,.i .i64 q10,.i .i64 q11,.i .i64 q12,.i .i64 q13,.i .i64 q14,.i .i64 q15,.i .i64 q16]] = some (.i .i64 (storeCode q0 q1),[.u]):=mkS_eq (0) rfl rfl (fun cx h=>by
 simp only [go_sem,reduceIte,↓reduceIte,reduceCtorEq,nA,nS,nM,nB,nE,nL,nT,nN,iL,iT,iE,iA,iM,iS,iG,iB,iN,iZ,h]) (rfl)
def s233 : SP Tryz.prog:=mkS tyA 233 Tryz.f233 [s164] { md:=[.ro 1],rets:=some ([2],[]) } Tryz.func233 (by kernel_rfl)
@[go_sem] theorem d233 : s233.g = 233 ∧ s233.fs = ⟨[.ro 1],s233.F,false⟩:=⟨nr rfl,nr rfl⟩
@[go_sem] theorem e233 (t : ByteArray) : s233.F [.s t] = some (.b (!isWord t),[.u]):=mkS_eq (0) rfl rfl (fun cx h=>by
 simp only [go_sem,reduceIte,↓reduceIte,reduceCtorEq,nA,nS,nM,nB,nE,nL,nT,nN,iL,iT,iE,iA,iM,iS,iG,iB,iN,iZ,h]) (rfl)
def s313 : SP Tryz.prog:=mkS tyA 313 Tryz.f313 [s233] { md:=[.ro 1,.ro 1],rg:=[(0,[0,1],[]),(1,[0,1,7,8],[]),(2,[0,1,7,8,9],[]),(3,[0,1,5,7,8],[]),(4,[0,1,5,7,8,16],[]),(5,[4],[]),(6,[0,1,7,8],[]),(7,[4],[])],lv:=[(0,[0,1,7,8],[])],out:=[(0,[],[])],rets:=some ([4],[]) } Tryz.func313 (by kernel_rfl)
@[go_sem] theorem d313 : s313.g = 313 ∧ s313.fs = ⟨[.ro 1,.ro 1],s313.F,false⟩:=⟨nr rfl,nr rfl⟩
@[go_sem] theorem e313_233 (xs : List ByteArray)  (hb : xs.length ≤ 9223372036854775806) : s313.F [.sl .ro 1 (xs.map rStr),.fn 233 []] = some (.i .i64 (idxP (fun x=>!isWord x) xs 0),[.u,.u]):=mkS_eq (xs.length + 1) rfl rfl (fun cx h=>by
 have hx:=hb
 have hb0:=loopN_eq Tryz.f313 0 _ _ rfl rfl
 obtain ⟨r,hr,hq⟩:=loop_srch (cx:=cx) (blk:=0) (body:=loopN Tryz.f313 0) xs (fun k (s : Nat)=>⟨E [(0,.sl .ro 1 (xs.map rStr)),(1,.fn 233 []),(7,.i .i64 xs.length),(8,.i .i64 k)],B []⟩) (fun s=>⟨E [],B []⟩) (fun x s=>!isWord x) (fun x s=>s + 1) (fun x s=>(.ret,⟨E [(4,.i .i64 s)],B []⟩)) (fun k s=>k = s)
   (fun s hI G=>by simp only [go_sem,reduceIte,↓reduceIte,reduceCtorEq,nA,nS,nM,nB,nE,nL,nT,nN,iL,iT,iE,iA,iM,iS,iG,iB,iN,iZ,h,Int.lt_irrefl,hb0,hI]) (fun k hk s hI=>by
    have h1 : ((k : Int) < (xs.length : Int)):=Int.ofNat_lt.2 hk
    obtain rfl:=hI
    exact ⟨_,_,_,fun G=>by simp only [go_sem,reduceIte,↓reduceIte,reduceCtorEq,nA,nS,nM,nB,nE,nL,nT,nN,iL,iT,iE,iA,iM,iS,iG,iB,iN,iZ,h,map_gd rStr xs _ hk,decide_eq_true_eq,h1,idx_nt _ _ hk,wrap_nat1 (show k < 9223372036854775807 by omega),hb0] <;> with_reducible rfl,by first | exact Iff.rfl | simp,fun hc=>⟨rfl,by simp only [go_sem,reduceIte,↓reduceIte,reduceCtorEq,nA,nS,nM,nB,nE,nL,nT,nN,iL,iT,iE,iA,iM,iS,iG,iB,iN,iZ,h]⟩⟩) 0 rfl (xs.length + 1) (Nat.le_refl _)
 rw [hb0] at hr
 rcases hq with ⟨s',e1,_,e3⟩ | ⟨x,s',e1,e3⟩
 ·simp only [go_sem,reduceIte,↓reduceIte,reduceCtorEq,nA,nS,nM,nB,nE,nL,nT,nN,iL,iT,iE,iA,iM,iS,iG,iB,iN,iZ,h,hr,e3,runS_idx e1]
 ·simp only [go_sem,reduceIte,↓reduceIte,reduceCtorEq,nA,nS,nM,nB,nE,nL,nT,nN,iL,iT,iE,iA,iM,iS,iG,iB,iN,iZ,h,hr,e3,runS_idx' e1]) (rfl)
def s232 : SP Tryz.prog:=mkS tyA 232 Tryz.f232 [s313] { md:=[.ro 1,.ro 1],rets:=some ([4],[]) } Tryz.func232 (by kernel_rfl)
@[go_sem] theorem d232 : s232.g = 232 ∧ s232.fs = ⟨[.ro 1,.ro 1],s232.F,false⟩:=⟨nr rfl,nr rfl⟩
@[go_sem] theorem e232_233 (xs : List ByteArray)  (hb : xs.length ≤ 9223372036854775806) : s232.F [.sl .ro 1 (xs.map rStr),.fn 233 []] = some (.b (xs.any (fun x=>!isWord x)),[.u,.u]):=mkS_eq (0) rfl rfl (fun cx h=>by
 simp only [go_sem,reduceIte,↓reduceIte,reduceCtorEq,nA,nS,nM,nB,nE,nL,nT,nN,iL,iT,iE,iA,iM,iS,iG,iB,iN,iZ,h,hb,idxP_any]) (rfl)
def s138 : SP Tryz.prog:=mkS tyA 138 Tryz.f138 [s232,s233] { md:=[.ro 1],rg:=[(0,[0],[]),(1,[0,5],[]),(2,[2],[]),(3,[7],[]),(4,[2],[]),(5,[2],[])],rets:=some ([2],[]) } Tryz.func138 (by kernel_rfl)
@[go_sem] theorem d138 : s138.g = 138 ∧ s138.fs = ⟨[.ro 1],s138.F,false⟩:=⟨nr rfl,nr rfl⟩
@[go_sem] theorem e138 (xs : List ByteArray) : s138.F [.sl .ro 1 (xs.map rStr)] = some (.i .i64 (namesCode xs),[.u]):=mkS_eq (0) rfl rfl (fun cx h=>by
 by_cases h1 : 4 < (xs.length : Int)
 ·simp only [go_sem,reduceIte,↓reduceIte,reduceCtorEq,nA,nS,nM,nB,nE,nL,nT,nN,iL,iT,iE,iA,iM,iS,iG,iB,iN,iZ,h,h1,namesCode]
 have hx : xs.length ≤ 9223372036854775806:=by omega
 cases h2 : (xs.any fun x=>!isWord x) <;> simp only [go_sem,reduceIte,↓reduceIte,reduceCtorEq,nA,nS,nM,nB,nE,nL,nT,nN,iL,iT,iE,iA,iM,iS,iG,iB,iN,iZ,h,h1,h2,hx,namesCode]) (rfl)
def s137 : SP Tryz.prog:=mkS tyA 137 Tryz.f137 [s138] { md:=[.ro 1],rets:=some ([1],[]) } Tryz.func137 (by kernel_rfl)
@[go_sem] theorem d137 : s137.g = 137 ∧ s137.fs = ⟨[.ro 1],s137.F,false⟩:=⟨nr rfl,nr rfl⟩
@[go_sem] theorem e137 (q0 q1 q2 q3 q4 q5 q6 q7 : Int) (q8 : List ByteArray) (q9 q10 q11 q12 q13 q14 q15 q16 : Int) : s137.F [.pr [.i .i64 q0,.i .i64 q1,.i .i64 q2,.i .i64 q3,.i .i64 q4,.i .i64 q5,.i .i64 q6,.i .i64 q7,.sl .ro 1 (q8.map rStr),.i .i64 q9,.i .i64 q10,.i .i64 q11,.i .i64 q12,.i .i64 q13,.i .i64 q14,.i .i64 q15,.i .i64 q16]] = some (.i .i64 (namesCode q8),[.u]):=mkS_eq (0) rfl rfl (fun cx h=>by
 simp only [go_sem,reduceIte,↓reduceIte,reduceCtorEq,nA,nS,nM,nB,nE,nL,nT,nN,iL,iT,iE,iA,iM,iS,iG,iB,iN,iZ,h]) (rfl)
def s140 : SP Tryz.prog:=mkS tyA 140 Tryz.f140 [s115] { md:=[.ro 1],rg:=[(0,[1],[1]),(1,[18],[]),(2,[2],[]),(3,[2],[])],rets:=some ([2],[]) } Tryz.func140 (by kernel_rfl)
@[go_sem] theorem d140 : s140.g = 140 ∧ s140.fs = ⟨[.ro 1],s140.F,false⟩:=⟨nr rfl,nr rfl⟩
@[go_sem] theorem e140 (q17 q18 q19 : Int) : s140.F [.agg [.i .i64 q17,.i .i64 q18,.i .i64 q19]] = some (.i .i64 (lanesFault (Lanes.mk q17 q18 q19)),[.u]):=mkS_eq (0) rfl rfl (fun cx h=>by
 simp only [go_sem,reduceIte,↓reduceIte,reduceCtorEq,nA,nS,nM,nB,nE,nL,nT,nN,iL,iT,iE,iA,iM,iS,iG,iB,iN,iZ,h]
 simp only [lanesFault]
 cases within q17 1 8 <;> cases within q18 0 8 <;> cases within q19 0 1000000 <;> rfl) (rfl)
def s139 : SP Tryz.prog:=mkS tyA 139 Tryz.f139 [s140] { md:=[.ro 1],rets:=some ([1],[]) } Tryz.func139 (by kernel_rfl)
@[go_sem] theorem d139 : s139.g = 139 ∧ s139.fs = ⟨[.ro 1],s139.F,false⟩:=⟨nr rfl,nr rfl⟩
@[go_sem] theorem e139 (q0 q1 q2 q3 q4 q5 q6 q7 : Int) (q8 : List ByteArray) (q9 q10 q11 q12 q13 q14 q15 q16 : Int) : s139.F [.pr [.i .i64 q0,.i .i64 q1,.i .i64 q2,.i .i64 q3,.i .i64 q4,.i .i64 q5,.i .i64 q6,.i .i64 q7,.sl .ro 1 (q8.map rStr),.i .i64 q9,.i .i64 q10,.i .i64 q11,.i .i64 q12,.i .i64 q13,.i .i64 q14,.i .i64 q15,.i .i64 q16]] = some (.i .i64 (lanesFault ⟨q9,q10,q11⟩),[.u]):=mkS_eq (0) rfl rfl (fun cx h=>by
 simp only [go_sem,reduceIte,↓reduceIte,reduceCtorEq,nA,nS,nM,nB,nE,nL,nT,nN,iL,iT,iE,iA,iM,iS,iG,iB,iN,iZ,h]) (rfl)
def rulesFault (r : Rules) : Int:=if (within r.Window 1 1000000 && within r.Min 1 50 && within r.Ratio 1 1000 && within r.Cool 0 1000000 && within r.Quota 1 5) = true then 0 else 3
def s142 : SP Tryz.prog:=mkS tyA 142 Tryz.f142 [s115] { md:=[.ro 1],rg:=[(0,[1],[1]),(1,[30],[]),(2,[2],[]),(3,[2],[])],rets:=some ([2],[]) } Tryz.func142 (by kernel_rfl)
@[go_sem] theorem d142 : s142.g = 142 ∧ s142.fs = ⟨[.ro 1],s142.F,false⟩:=⟨nr rfl,nr rfl⟩
@[go_sem] theorem e142 (q20 q21 q22 q23 q24 : Int) : s142.F [.agg [.i .i64 q20,.i .i64 q21,.i .i64 q22,.i .i64 q23,.i .i64 q24]] = some (.i .i64 (rulesFault (Rules.mk q20 q21 q22 q23 q24)),[.u]):=mkS_eq (0) rfl rfl (fun cx h=>by
 simp only [go_sem,reduceIte,↓reduceIte,reduceCtorEq,nA,nS,nM,nB,nE,nL,nT,nN,iL,iT,iE,iA,iM,iS,iG,iB,iN,iZ,h]
 simp only [rulesFault]
 cases within q20 1 1000000 <;> cases within q21 1 50 <;> cases within q22 1 1000 <;> cases within q23 0 1000000 <;> cases within q24 1 5 <;> rfl) (rfl)
def s141 : SP Tryz.prog:=mkS tyA 141 Tryz.f141 [s142] { md:=[.ro 1],rets:=some ([1],[]) } Tryz.func141 (by kernel_rfl)
@[go_sem] theorem d141 : s141.g = 141 ∧ s141.fs = ⟨[.ro 1],s141.F,false⟩:=⟨nr rfl,nr rfl⟩
@[go_sem] theorem e141 (q0 q1 q2 q3 q4 q5 q6 q7 : Int) (q8 : List ByteArray) (q9 q10 q11 q12 q13 q14 q15 q16 : Int) : s141.F [.pr [.i .i64 q0,.i .i64 q1,.i .i64 q2,.i .i64 q3,.i .i64 q4,.i .i64 q5,.i .i64 q6,.i .i64 q7,.sl .ro 1 (q8.map rStr),.i .i64 q9,.i .i64 q10,.i .i64 q11,.i .i64 q12,.i .i64 q13,.i .i64 q14,.i .i64 q15,.i .i64 q16]] = some (.i .i64 (rulesFault ⟨q12,q13,q14,q15,q16⟩),[.u]):=mkS_eq (0) rfl rfl (fun cx h=>by
 simp only [go_sem,reduceIte,↓reduceIte,reduceCtorEq,nA,nS,nM,nB,nE,nL,nT,nN,iL,iT,iE,iA,iM,iS,iG,iB,iN,iZ,h]) (rfl)
def s117 : SP Tryz.prog:=mkS tyA 117 Tryz.f117 [s115] { md:=[.ro 1],rets:=some ([2],[]) } Tryz.func117 (by kernel_rfl)
@[go_sem] theorem d117 : s117.g = 117 ∧ s117.fs = ⟨[.ro 1],s117.F,false⟩:=⟨nr rfl,nr rfl⟩
@[go_sem] theorem e117 (v : Int) : s117.F [.i .i64 v] = some (.b (within v 200 599),[.u]):=mkS_eq (0) rfl rfl (fun cx h=>by
 simp only [go_sem,reduceIte,↓reduceIte,reduceCtorEq,nA,nS,nM,nB,nE,nL,nT,nN,iL,iT,iE,iA,iM,iS,iG,iB,iN,iZ,h]) (rfl)
def responseFault (r : Response) : Int:=if within r.Status 200 599 = false then 3 else if (headersFault r.Headers != 0) = true then headersFault r.Headers else if 2000 < (r.Body.length : Int) then 2 else 0
def s40 : SP Tryz.prog:=mkS tyA 40 Tryz.f40 [s117,s118] { md:=[.ro 1],rg:=[(0,[1],[1]),(1,[1,7],[1]),(2,[2],[]),(3,[1,3],[1]),(4,[1,3,12],[1]),(5,[2],[]),(6,[17],[]),(7,[2],[]),(8,[2],[])],rets:=some ([2],[]) } Tryz.func40 (by kernel_rfl)
@[go_sem] theorem d40 : s40.g = 40 ∧ s40.fs = ⟨[.ro 1],s40.F,false⟩:=⟨nr rfl,nr rfl⟩
@[go_sem] theorem e40 (q25 : Int) (q26 : List Header) (q27 : List UInt8) : s40.F [.agg [.i .i64 q25,.sl .ro 2 (q26.map (rHeader .ro)),.sl .ro 1 (q27.map rByte)]] = some (.i .i64 (responseFault (Response.mk q25 q26 q27)),[.u]):=mkS_eq (0) rfl rfl (fun cx h=>by
 cases h1 : within q25 200 599
 ·simp only [go_sem,reduceIte,↓reduceIte,reduceCtorEq,nA,nS,nM,nB,nE,nL,nT,nN,iL,iT,iE,iA,iM,iS,iG,iB,iN,iZ,h,h1,responseFault]
 by_cases z : headersFault q26 = 0
 rotate_left
 ·have z' : (headersFault q26 != 0) = true:=by simpa using z
  simp only [go_sem,reduceIte,↓reduceIte,reduceCtorEq,nA,nS,nM,nB,nE,nL,nT,nN,iL,iT,iE,iA,iM,iS,iG,iB,iN,iZ,h,h1,z',responseFault]
 by_cases h2 : 2000 < (q27.length : Int) <;> simp only [go_sem,reduceIte,↓reduceIte,reduceCtorEq,nA,nS,nM,nB,nE,nL,nT,nN,iL,iT,iE,iA,iM,iS,iG,iB,iN,iZ,h,h1,z,h2,responseFault]) (rfl)
def s122 : SP Tryz.prog:=mkS tyA 122 Tryz.f122 [] { md:=[.ro 1],rets:=some ([2],[]) } Tryz.func122 (by kernel_rfl)
@[go_sem] theorem d122 : s122.g = 122 ∧ s122.fs = ⟨[.ro 1],s122.F,false⟩:=⟨nr rfl,nr rfl⟩
@[go_sem] theorem e122 (t : ByteArray) : s122.F [.s t] = some (.b (isMethod t),[.u]):=mkS_eq (0) rfl rfl (fun cx h=>by
 have hu : isMethod t = (eqv t ⟨#[71,69,84]⟩ || eqv t ⟨#[72,69,65,68]⟩):=rfl
 cases h1 : eqv t ⟨#[71,69,84]⟩ <;> cases h2 : eqv t ⟨#[72,69,65,68]⟩ <;> simp only [go_sem,reduceIte,↓reduceIte,reduceCtorEq,nA,nS,nM,nB,nE,nL,nT,nN,iL,iT,iE,iA,iM,iS,iG,iB,iN,iZ,h,eqv_bytes,h1,h2,hu]) (rfl)
def s123 : SP Tryz.prog:=mkS tyA 123 Tryz.f123 [s218,s219] { md:=[.ro 1],rets:=some ([2],[]) } Tryz.func123 (by kernel_rfl)
@[go_sem] theorem d123 : s123.g = 123 ∧ s123.fs = ⟨[.ro 1],s123.F,false⟩:=⟨nr rfl,nr rfl⟩
@[go_sem] theorem e123 (t : ByteArray) : s123.F [.s t] = some (.b (isHost t),[.u]):=mkS_eq (0) rfl rfl (fun cx h=>by
 simp only [go_sem,reduceIte,↓reduceIte,reduceCtorEq,nA,nS,nM,nB,nE,nL,nT,nN,iL,iT,iE,iA,iM,iS,iG,iB,iN,iZ,h,isHost]) (rfl)
def s124 : SP Tryz.prog:=mkS tyA 124 Tryz.f124 [s218,s220] { md:=[.ro 1],rets:=some ([2],[]) } Tryz.func124 (by kernel_rfl)
@[go_sem] theorem d124 : s124.g = 124 ∧ s124.fs = ⟨[.ro 1],s124.F,false⟩:=⟨nr rfl,nr rfl⟩
@[go_sem] theorem e124 (t : ByteArray) : s124.F [.s t] = some (.b (isPath t),[.u]):=mkS_eq (0) rfl rfl (fun cx h=>by
 have hu : isPath t = (areB pathB 1 100 t && (((t.data[0]?.getD 0).toNat : Int) == 47)):=rfl
 cases h1 : areB pathB 1 100 t
 ·simp only [go_sem,reduceIte,↓reduceIte,reduceCtorEq,nA,nS,nM,nB,nE,nL,nT,nN,iL,iT,iE,iA,iM,iS,iG,iB,iN,iZ,h,h1,hu]
 have hi : idx? t.size 0 = some 0:=idx_nt t.size 0 (areB_nil h1)
 cases h2 : (((t.data[0]?.getD 0).toNat : Int) == 47) <;> simp only [go_sem,reduceIte,↓reduceIte,reduceCtorEq,nA,nS,nM,nB,nE,nL,nT,nN,iL,iT,iE,iA,iM,iS,iG,iB,iN,iZ,h,h1,h2,hi,hu]) (rfl)
def s238 : SP Tryz.prog:=mkS tyA 238 Tryz.f238 [] { md:=[.ro 1],rg:=[(0,[0],[]),(1,[3],[]),(2,[3,8,9,10],[]),(3,[3,8,9,10,11],[]),(4,[3,4,5,8,9,10],[]),(5,[3,4,5,8,9,10,20],[]),(6,[3,8,9,10],[]),(7,[3,8,9,10],[]),(8,[2],[])],lv:=[(0,[3,8,9,10],[])],out:=[(0,[3],[])],rets:=some ([2],[]) } Tryz.func238 (by kernel_rfl)
@[go_sem] theorem d238 : s238.g = 238 ∧ s238.fs = ⟨[.ro 1],s238.F,false⟩:=⟨nr rfl,nr rfl⟩
@[go_sem] theorem e238 (t : ByteArray) (h0 : t.size ≤ 9223372036854775806) : s238.F [.s t] = some (.s (lowS t),[.u]):=mkS_eq (t.data.toList.length + 1) rfl rfl (fun cx h=>by
 have hz : t.data.toList.length ≤ 9223372036854775807:=by rw [← str_size]; omega
 have hx : t.data.toList.length ≤ 9223372036854775806:=by rw [← str_size]; exact h0
 have hb0:=loopN_eq Tryz.f238 0 _ _ rfl rfl
 obtain ⟨hI,hr⟩:=loop_fold (cx:=cx) (blk:=0) (body:=loopN Tryz.f238 0) t.data.toList (fun k (s : Unit)=>⟨E [(3,.sl .mut 1 ((lowUp t.data.toList k).map rByte)),(8,.rf ⟨true,3,[],0⟩ 1 0 t.data.toList.length),(9,.i .i64 t.data.toList.length),(10,.i .i64 k)],B []⟩) (fun s=>⟨E [(3,.sl .mut 1 ((t.data.toList.map lowB).map rByte))],B []⟩) (fun x s=>s) (fun k s=>True)
   (fun s hI G=>by simp only [go_sem,reduceIte,↓reduceIte,reduceCtorEq,nA,nS,nM,nB,nE,nL,nT,nN,iL,iT,iE,iA,iM,iS,iG,iB,iN,iZ,h,Int.lt_irrefl,hb0,lowUp_len t.data.toList t.data.toList.length (Nat.le_refl _),lowUp_all t.data.toList,List.length_map]) (fun k hk s hI=>by
    have h1 : ((k : Int) < (t.data.toList.length : Int)):=Int.ofNat_lt.2 hk
    have g1:=lowUp_gd t.data.toList k hk
    have g2:=lowUp_g t.data.toList k hk
    have g3:=lowUp_len t.data.toList k (Nat.le_of_lt hk)
    have g4 : (List.take t.data.toList.length ((lowUp t.data.toList k).map rByte)) = (lowUp t.data.toList k).map rByte:=List.take_of_length_le (by rw [List.length_map,g3]; exact Nat.le_refl _)
    rcases lowStep t.data.toList k hk with ⟨a1,a2,w1,w2,hs,hv⟩ | ⟨a1,a2,w1,w2,hs,hv⟩ | ⟨a1,a2,w1,w2,hs,hv⟩
    all_goals exact ⟨trivial,_,fun G=>by simp only [go_sem,reduceIte,↓reduceIte,reduceCtorEq,nA,nS,nM,nB,nE,nL,nT,nN,iL,iT,iE,iA,iM,iS,iG,iB,iN,iZ,h,g1,g2,g3,g4,a1,a2,w1,w2,hs,List.length_map,h1,idx_nt _ _ hk,wrap_nat1 (show k < 9223372036854775807 by omega),hb0] <;> with_reducible rfl,by simp only [go_sem,reduceIte,↓reduceIte,reduceCtorEq,nA,nS,nM,nB,nE,nL,nT,nN,iL,iT,iE,iA,iM,iS,iG,iB,iN,iZ,h,hv]⟩) () trivial (t.data.toList.length + 1) (Nat.le_refl _)
 rw [hb0] at hr
 rw [lowUp_zero] at hr
 simp only [go_sem,reduceIte,↓reduceIte,reduceCtorEq,nA,nS,nM,nB,nE,nL,nT,nN,iL,iT,iE,iA,iM,iS,iG,iB,iN,iZ,h,hz,hr,str_size t,lowS]) (rfl)
def s212 : SP Tryz.prog:=mkS tyA 212 Tryz.f212 [s238] { md:=[.ro 1,.ro 1],rets:=some ([4],[]) } Tryz.func212 (by kernel_rfl)
@[go_sem] theorem d212 : s212.g = 212 ∧ s212.fs = ⟨[.ro 1,.ro 1],s212.F,false⟩:=⟨nr rfl,nr rfl⟩
@[go_sem] theorem e212 (a b : ByteArray) (h0 : (a.size ≤ 9223372036854775806 ∧ b.size ≤ 9223372036854775806)) : s212.F [.s a,.s b] = some (.b (eqv (lowS a) (lowS b)),[.u,.u]):=mkS_eq (0) rfl rfl (fun cx h=>by
 simp only [go_sem,reduceIte,↓reduceIte,reduceCtorEq,nA,nS,nM,nB,nE,nL,nT,nN,iL,iT,iE,iA,iM,iS,iG,iB,iN,iZ,h,h0.1,h0.2,eqv_bytes]) (rfl)
theorem ffold {α β : Type} (p : α → Bool) (f : α → β) : ∀ (xs : List α) (acc : List β),xs.foldl (fun s x=>if p x = true then s ++ [f x] else s) acc = acc ++ (xs.filter p).map f
 | [],acc=>by simp
 | x :: xs,acc=>by
  rw [List.foldl_cons,ffold p f xs,List.filter_cons]
  cases p x <;> simp
def s125 : SP Tryz.prog:=mkS tyA 125 Tryz.f125 [s212] { md:=[.ro 1,.ro 1],rg:=[(0,[0,1],[]),(1,[0,1,5],[]),(2,[0,1,5,9,10,11],[]),(3,[0,1,5,9,10,11,12],[]),(4,[0,1,5,7,9,10,11],[7]),(5,[0,1,5,7,9,10,11,18],[7]),(6,[0,1,5,9,10,11],[]),(7,[0,1,5,9,10,11],[]),(8,[4],[])],lv:=[(0,[0,1,5,9,10,11],[])],out:=[(0,[5],[])],rets:=some ([4],[]) } Tryz.func125 (by kernel_rfl)
@[go_sem] theorem d125 : s125.g = 125 ∧ s125.fs = ⟨[.ro 1,.ro 1],s125.F,false⟩:=⟨nr rfl,nr rfl⟩
@[go_sem] theorem e125 (hs : List Header) (name : ByteArray) (h0 : (hs.length ≤ 20 ∧ smL smHeader hs ∧ okN name = true)) : s125.F [.sl .ro 2 (hs.map (rHeader .ro)),.s name] = some (.sl .mut 1 ((valsOf hs name).map rStr),[.u,.u]):=mkS_eq (hs.length + 1) rfl rfl (fun cx h=>by
 have hl:=h0.1
 have hx : hs.length ≤ 9223372036854775806:=by omega
 have hb0:=loopN_eq Tryz.f125 0 _ _ rfl rfl
 obtain ⟨hI,hr⟩:=loop_fold (cx:=cx) (blk:=0) (body:=loopN Tryz.f125 0) hs (fun k (s : List ByteArray)=>⟨E [(0,.sl .ro 2 (hs.map (rHeader .ro))),(1,.s name),(5,.sl .mut 1 (s.map rStr)),(9,.sl .ro 2 (hs.map (rHeader .ro))),(10,.i .i64 hs.length),(11,.i .i64 k)],B []⟩) (fun s=>⟨E [(5,.sl .mut 1 (s.map rStr))],B []⟩) (fun x s=>(if eqv (lowS x.Name) (lowS name) = true then s ++ [x.Value] else s)) (fun k s=>s.length ≤ k)
   (fun s hI G=>by simp only [go_sem,reduceIte,↓reduceIte,reduceCtorEq,nA,nS,nM,nB,nE,nL,nT,nN,iL,iT,iE,iA,iM,iS,iG,iB,iN,iZ,h,Int.lt_irrefl,hb0,h0.1]) (fun k hk s hI=>by
    have h1 : ((k : Int) < (hs.length : Int)):=Int.ofNat_lt.2 hk
    have t3 : (s.length + 1) * 16 ≤ 140737488355328:=by omega
    have t4 : s.map rStr ++ [[.s hs[k].Value]] = (s ++ [hs[k].Value]).map rStr:=by simp [rStr]
    obtain ⟨u1,u2⟩:=h0.2.1.2 _ (List.getElem_mem hk)
    have n1 : hs[k].Name.size ≤ 9223372036854775806 ∧ name.size ≤ 9223372036854775806:=⟨by have : hs[k].Name.size ≤ 1048576:=u1; omega,of_decide_eq_true h0.2.2⟩
    cases d1 : eqv (lowS hs[k].Name) (lowS name)
    all_goals exact ⟨by split <;> (try simp only [List.length_append,List.length_cons,List.length_nil]) <;> omega,_,fun G=>by simp only [go_sem,reduceIte,↓reduceIte,reduceCtorEq,nA,nS,nM,nB,nE,nL,nT,nN,iL,iT,iE,iA,iM,iS,iG,iB,iN,iZ,h,t3,t4,map_gd (rHeader .ro) hs k hk,n1,d1,h1,idx_nt _ _ hk,wrap_nat1 (show k < 9223372036854775807 by omega),hb0] <;> with_reducible rfl,by simp only [go_sem,reduceIte,↓reduceIte,reduceCtorEq,nA,nS,nM,nB,nE,nL,nT,nN,iL,iT,iE,iA,iM,iS,iG,iB,iN,iZ,h,d1]⟩) [] (by simp) (hs.length + 1) (Nat.le_refl _)
 rw [hb0] at hr
 have hff:=ffold (fun x : Header=>eqv (lowS x.Name) (lowS name)) (fun x=>x.Value) hs []
 simp only [List.nil_append] at hff
 rw [hff] at hr
 simp only [go_sem,reduceIte,↓reduceIte,reduceCtorEq,nA,nS,nM,nB,nE,nL,nT,nN,iL,iT,iE,iA,iM,iS,iG,iB,iN,iZ,h,hr,valsOf]) (by simp only [go_sem,reduceIte,↓reduceIte,reduceCtorEq,nA,nS,nM,nB,nE,nL,nT,nN,iL,iT,iE,iA,iM,iS,iG,iB,iN,iZ,okRes,hasRo])
def s43 : SP Tryz.prog:=mkS tyA 43 Tryz.f43 [s118,s122,s123,s124,s125] { md:=[.ro 1],rg:=[(0,[1],[1]),(1,[1,19],[1]),(2,[2],[]),(3,[1,3],[1]),(4,[1,3,24],[1]),(5,[2],[]),(6,[1,26],[1]),(7,[2],[]),(8,[32],[]),(9,[2],[]),(10,[2],[])],rets:=some ([2],[]) } Tryz.func43 (by kernel_rfl)
@[go_sem] theorem d43 : s43.g = 43 ∧ s43.fs = ⟨[.ro 1],s43.F,false⟩:=⟨nr rfl,nr rfl⟩
@[go_sem] theorem e43 (q28 q29 q30 : ByteArray) (q26 : List Header) (h0 : smL smHeader (Request.mk q28 q29 q30 q26).Headers) : s43.F [.agg [.s q28,.s q29,.s q30,.sl .ro 2 (q26.map (rHeader .ro))]] = some (.i .i64 (requestFault (Request.mk q28 q29 q30 q26)),[.u]):=mkS_eq (0) rfl rfl (fun cx h=>by
 have key : ∀ m : Bool,isMethod q28 = m → (isMethod q28 && isHost q29 && isPath q30) = (m && isHost q29 && isPath q30):=fun m h=>by rw [h]
 have hn1 : okN ⟨#[72,111,115,116]⟩ = true:=by decide
 have hn2 : okN ⟨#[104,111,115,116]⟩ = true:=by decide
 cases m0 : isMethod q28
 ·simp only [go_sem,reduceIte,↓reduceIte,reduceCtorEq,nA,nS,nM,nB,nE,nL,nT,nN,iL,iT,iE,iA,iM,iS,iG,iB,iN,iZ,h,m0,requestFault]
 cases h2 : isHost q29
 ·simp only [go_sem,reduceIte,↓reduceIte,reduceCtorEq,nA,nS,nM,nB,nE,nL,nT,nN,iL,iT,iE,iA,iM,iS,iG,iB,iN,iZ,h,h2,m0,requestFault]
 cases h3 : isPath q30
 ·simp only [go_sem,reduceIte,↓reduceIte,reduceCtorEq,nA,nS,nM,nB,nE,nL,nT,nN,iL,iT,iE,iA,iM,iS,iG,iB,iN,iZ,h,h2,h3,m0,requestFault]
 by_cases z : headersFault q26 = 0
 rotate_left
 ·have z' : (headersFault q26 != 0) = true:=by simpa using z
  simp only [go_sem,reduceIte,↓reduceIte,reduceCtorEq,nA,nS,nM,nB,nE,nL,nT,nN,iL,iT,iE,iA,iM,iS,iG,iB,iN,iZ,h,h2,h3,z',m0,requestFault]
 have z' : (headersFault q26 != 0) = false:=by simpa using z
 have h4 : q26.length ≤ 20 ∧ smL smHeader q26 ∧ okN ⟨#[72,111,115,116]⟩ = true:=⟨headersFault_ok z,h0,hn1⟩
 have h5 : q26.length ≤ 20 ∧ smL smHeader q26 ∧ okN ⟨#[104,111,115,116]⟩ = true:=⟨headersFault_ok z,h0,hn2⟩
 have h6:=valsOf_pos q26 ⟨#[72,111,115,116]⟩
 have h7:=hasV_host q26
 cases h8 : hasV q26 ⟨#[72,111,115,116]⟩
 ·by_cases h9 : 20 ≤ (q26.length : Int)
  ·have h10 : ((q26.length : Int) == 20) = true:=by have:=h4.1; simp; omega
   simp only [go_sem,reduceIte,↓reduceIte,reduceCtorEq,nA,nS,nM,nB,nE,nL,nT,nN,iL,iT,iE,iA,iM,iS,iG,iB,iN,iZ,h,h2,h3,z,h4,h5,h6,h7,h8,h9,h10,m0,requestFault]
  ·have h10 : ((q26.length : Int) == 20) = false:=by have:=h4.1; simp; omega
   simp only [go_sem,reduceIte,↓reduceIte,reduceCtorEq,nA,nS,nM,nB,nE,nL,nT,nN,iL,iT,iE,iA,iM,iS,iG,iB,iN,iZ,h,h2,h3,z,h4,h5,h6,h7,h8,h9,h10,m0,requestFault]
 ·simp only [go_sem,reduceIte,↓reduceIte,reduceCtorEq,nA,nS,nM,nB,nE,nL,nT,nN,iL,iT,iE,iA,iM,iS,iG,iB,iN,iZ,h,h2,h3,z,h4,h5,h6,h7,h8,m0,requestFault]) (rfl)
end
end Go.Vm.A
