/- Functions of the program, walked by the evaluator. -/
import Derived.Test.YtnbhkifknleipaaGreatDoorWb
import Derived.Test.YtnbhkifknleipaaGreatDoorWa
import Derived.Test.YtnbhkifknleipaaGreatDoorFc
import Derived.Test.YtnbhkifknleipaaGreatDoorFd
import Derived.Test.YtnbhkifknleipaaGreatDoorFe
import Derived.Test.YtnbhkifknleipaaGreatDoorFf
import Derived.Test.YtnbhkifknleipaaGreatDoorFg
import Derived.Test.YtnbhkifknleipaaGreatDoorFi
import Derived.Test.YtnbhkifknleipaaGreatDoorFj
set_option linter.unusedVariables false
set_option linter.unusedSimpArgs false
set_option autoImplicit false
set_option maxRecDepth 100000
set_option maxHeartbeats 4000000
namespace Go.Vm.A
open Go.Proofs
open Nat renaming reduceAdd → nA, reduceSub → nS, reduceMul → nM, reduceBEq → nB, reduceEqDiff → nE, reduceLeDiff → nL, reduceLT → nT, reduceBneDiff → nN
open Int renaming reduceLE → iL, reduceLT → iT, reduceEq → iE, reduceAdd → iA, reduceMul → iM, reduceSub → iS, reduceNeg → iG, reduceBEq → iB, reduceBNe → iN, reduceToNat → iZ
noncomputable section
def s50 : SP Tryz.prog:=mkS tyA 50 Tryz.f50 [s143] { md:=[.ro 1,.ro 1],rg:=[(0,[0,1,4,16],[4,5]),(1,[4,5,16],[4,5]),(2,[4,5,6,16],[4,5]),(3,[4,5,6,13,16],[4,5]),(4,[4,16],[4,5]),(5,[4,16],[4,5])],rets:=some ([4,16],[4,5]) } Tryz.func50 (by kernel_rfl)
@[go_sem] theorem d50 : s50.g = 50 ∧ s50.fs = ⟨[.ro 1,.ro 1],s50.F,false⟩:=⟨nr rfl,nr rfl⟩
@[go_sem] theorem e50 (b g : Int) : s50.F [.i .i64 b,.i .i64 g] = some (.agg [.i .i64 (storeCode b g),.i .i64 (if storeCode b g = 0 then b else 0),.i .i64 (if storeCode b g = 0 then g else 0),.sl .mut 13 [],.sl .mut 13 []],[.u,.u]):=mkS_eq (0) rfl rfl (fun cx h=>by
 by_cases h1 : storeCode b g = 0
 ·simp only [go_sem,reduceIte,↓reduceIte,reduceCtorEq,nA,nS,nM,nB,nE,nL,nT,nN,iL,iT,iE,iA,iM,iS,iG,iB,iN,iZ,h,h1]
 ·have h2 : (storeCode b g != 0) = true:=by simpa using h1
  simp only [go_sem,reduceIte,↓reduceIte,reduceCtorEq,nA,nS,nM,nB,nE,nL,nT,nN,iL,iT,iE,iA,iM,iS,iG,iB,iN,iZ,h,h1,h2]) (by simp only [go_sem,reduceIte,↓reduceIte,reduceCtorEq,nA,nS,nM,nB,nE,nL,nT,nN,iL,iT,iE,iA,iM,iS,iG,iB,iN,iZ,okRes,hasRo,hasRoL,hasRoLL])
def s130 : SP Tryz.prog:=mkS tyA 130 Tryz.f130 [s161] { md:=[.ro 1],rg:=[(0,[0],[]),(1,[0,6],[]),(2,[2],[]),(3,[0,3],[]),(4,[0,3,10],[]),(5,[0,3],[]),(6,[0,3,18],[]),(7,[2],[]),(8,[2],[])],lv:=[(0,[0,3],[])],out:=[(0,[],[])],rets:=some ([2],[]) } Tryz.func130 (by kernel_rfl)
@[go_sem] theorem d130 : s130.g = 130 ∧ s130.fs = ⟨[.ro 1],s130.F,false⟩:=⟨nr rfl,nr rfl⟩
@[go_sem] theorem e130 (xs : List ByteArray) : s130.F [.sl .ro 1 (xs.map rStr)] = some (.i .i64 (namesCode xs),[.u]):=mkS_eq (xs.length + 1) rfl rfl (fun cx h=>by
 by_cases h1 : 4 < (xs.length : Int)
 ·simp only [go_sem,reduceIte,↓reduceIte,reduceCtorEq,nA,nS,nM,nB,nE,nL,nT,nN,iL,iT,iE,iA,iM,iS,iG,iB,iN,iZ,h,h1,namesCode]
 have hx : xs.length ≤ 9223372036854775806:=by omega
 have hb0:=loopN_eq Tryz.f130 0 _ _ rfl rfl
 obtain ⟨r,hr,hq⟩:=loop_srch (cx:=cx) (blk:=0) (body:=loopN Tryz.f130 0) xs (fun k (s : Unit)=>⟨E [(0,.sl .ro 1 (xs.map rStr)),(3,.i .i64 k)],B []⟩) (fun s=>⟨E [],B []⟩) (fun x s=>!isWord x) (fun x s=>()) (fun x s=>(.ret,⟨E [(2,.i .i64 5)],B []⟩)) (fun k s=>True)
   (fun s hI G=>by simp only [go_sem,reduceIte,↓reduceIte,reduceCtorEq,nA,nS,nM,nB,nE,nL,nT,nN,iL,iT,iE,iA,iM,iS,iG,iB,iN,iZ,h,Int.lt_irrefl,hb0,hx]) (fun k hk s hI=>by
    have h1 : ((k : Int) < (xs.length : Int)):=Int.ofNat_lt.2 hk
    exact ⟨_,_,_,fun G=>by simp only [go_sem,reduceIte,↓reduceIte,reduceCtorEq,nA,nS,nM,nB,nE,nL,nT,nN,iL,iT,iE,iA,iM,iS,iG,iB,iN,iZ,h,map_gd rStr xs _ hk,h1,idx_nt _ _ hk,wrap_nat1 (show k < 9223372036854775807 by omega),hb0] <;> with_reducible rfl,Iff.rfl,fun hc=>⟨trivial,by simp only [go_sem,reduceIte,↓reduceIte,reduceCtorEq,nA,nS,nM,nB,nE,nL,nT,nN,iL,iT,iE,iA,iM,iS,iG,iB,iN,iZ,h]⟩⟩) () trivial (xs.length + 1) (Nat.le_refl _)
 rw [hb0] at hr
 rcases hq with ⟨s',e1,_,e3⟩ | ⟨x,s',e1,e3⟩
 ·simp only [go_sem,reduceIte,↓reduceIte,reduceCtorEq,nA,nS,nM,nB,nE,nL,nT,nN,iL,iT,iE,iA,iM,iS,iG,iB,iN,iZ,h,h1,hr,e3,namesCode,any_not,runS_all e1]
 ·simp only [go_sem,reduceIte,↓reduceIte,reduceCtorEq,nA,nS,nM,nB,nE,nL,nT,nN,iL,iT,iE,iA,iM,iS,iG,iB,iN,iZ,h,h1,hr,e3,namesCode,any_not,runS_all' e1]) (rfl)
def s131 : SP Tryz.prog:=mkS tyA 131 Tryz.f131 [s113] { md:=[.ro 1],rg:=[(0,[1],[1]),(1,[18],[]),(2,[2],[]),(3,[2],[])],rets:=some ([2],[]) } Tryz.func131 (by kernel_rfl)
@[go_sem] theorem d131 : s131.g = 131 ∧ s131.fs = ⟨[.ro 1],s131.F,false⟩:=⟨nr rfl,nr rfl⟩
@[go_sem] theorem e131 (q0 q1 q2 : Int) : s131.F [.agg [.i .i64 q0,.i .i64 q1,.i .i64 q2]] = some (.i .i64 (lanesFault (Lanes.mk q0 q1 q2)),[.u]):=mkS_eq (0) rfl rfl (fun cx h=>by
 simp only [go_sem,reduceIte,↓reduceIte,reduceCtorEq,nA,nS,nM,nB,nE,nL,nT,nN,iL,iT,iE,iA,iM,iS,iG,iB,iN,iZ,h]
 simp only [lanesFault]
 cases within q0 1 8 <;> cases within q1 0 8 <;> cases within q2 0 1000000 <;> rfl) (rfl)
def s132 : SP Tryz.prog:=mkS tyA 132 Tryz.f132 [s113] { md:=[.ro 1],rg:=[(0,[1],[1]),(1,[30],[]),(2,[2],[]),(3,[2],[])],rets:=some ([2],[]) } Tryz.func132 (by kernel_rfl)
@[go_sem] theorem d132 : s132.g = 132 ∧ s132.fs = ⟨[.ro 1],s132.F,false⟩:=⟨nr rfl,nr rfl⟩
@[go_sem] theorem e132 (q3 q4 q5 q6 q7 : Int) : s132.F [.agg [.i .i64 q3,.i .i64 q4,.i .i64 q5,.i .i64 q6,.i .i64 q7]] = some (.i .i64 (rulesFault (Rules.mk q3 q4 q5 q6 q7)),[.u]):=mkS_eq (0) rfl rfl (fun cx h=>by
 simp only [go_sem,reduceIte,↓reduceIte,reduceCtorEq,nA,nS,nM,nB,nE,nL,nT,nN,iL,iT,iE,iA,iM,iS,iG,iB,iN,iZ,h]
 simp only [rulesFault]
 cases within q3 1 1000000 <;> cases within q4 1 50 <;> cases within q5 1 1000 <;> cases within q6 0 1000000 <;> cases within q7 1 5 <;> rfl) (rfl)
def s48 : SP Tryz.prog:=mkS tyA 48 Tryz.f48 [s50,s113,s129,s130,s131,s132] { md:=[.ro 1],rg:=[(0,[1],[1]),(1,[1,3],[1]),(2,[1,3,13],[1]),(3,[2],[]),(4,[1,50],[1]),(5,[2],[]),(6,[1,4],[1]),(7,[1,4,55],[1]),(8,[2],[]),(9,[1,5],[1]),(10,[1,5,61],[1]),(11,[2],[]),(12,[2],[])],rets:=some ([2],[]) } Tryz.func48 (by kernel_rfl)
@[go_sem] theorem d48 : s48.g = 48 ∧ s48.fs = ⟨[.ro 1],s48.F,false⟩:=⟨nr rfl,nr rfl⟩
@[go_sem] theorem e48 (q8 q9 q10 q11 q12 q13 q14 q15 : Int) (q16 : List ByteArray) (q17 q18 q19 q20 q21 q22 q23 q24 : Int) : s48.F [.agg [.i .i64 q8,.i .i64 q9,.i .i64 q10,.i .i64 q11,.i .i64 q12,.i .i64 q13,.i .i64 q14,.i .i64 q15,.sl .ro 1 (q16.map rStr),.i .i64 q17,.i .i64 q18,.i .i64 q19,.i .i64 q20,.i .i64 q21,.i .i64 q22,.i .i64 q23,.i .i64 q24]] = some (.i .i64 (configFault (Config.mk q8 q9 q10 q11 q12 q13 q14 q15 q16 (Lanes.mk q17 q18 q19) (Rules.mk q20 q21 q22 q23 q24))),[.u]):=mkS_eq (0) rfl rfl (fun cx h=>by
 by_cases z0 : storeCode q8 q9 = 0
 rotate_left
 ·have y0 : (storeCode q8 q9 != 0) = true:=by simpa using z0
  simp only [go_sem,reduceIte,↓reduceIte,reduceCtorEq,nA,nS,nM,nB,nE,nL,nT,nN,iL,iT,iE,iA,iM,iS,iG,iB,iN,iZ,h,y0,configFault,rangeOk,firstI_cons,firstI_nil]
 have y0 : (storeCode q8 q9 != 0) = false:=by simpa using z0
 cases h0 : within q10 0 q8
 ·simp only [go_sem,reduceIte,↓reduceIte,reduceCtorEq,nA,nS,nM,nB,nE,nL,nT,nN,iL,iT,iE,iA,iM,iS,iG,iB,iN,iZ,h,y0,h0,configFault,rangeOk,firstI_cons,firstI_nil]
 cases h1 : isTime q11
 ·simp only [go_sem,reduceIte,↓reduceIte,reduceCtorEq,nA,nS,nM,nB,nE,nL,nT,nN,iL,iT,iE,iA,iM,iS,iG,iB,iN,iZ,h,y0,h0,h1,configFault,rangeOk,firstI_cons,firstI_nil]
 cases h2 : within q12 0 1000000
 ·simp only [go_sem,reduceIte,↓reduceIte,reduceCtorEq,nA,nS,nM,nB,nE,nL,nT,nN,iL,iT,iE,iA,iM,iS,iG,iB,iN,iZ,h,y0,h0,h1,h2,configFault,rangeOk,firstI_cons,firstI_nil]
 cases h3 : within q13 1 1000000
 ·simp only [go_sem,reduceIte,↓reduceIte,reduceCtorEq,nA,nS,nM,nB,nE,nL,nT,nN,iL,iT,iE,iA,iM,iS,iG,iB,iN,iZ,h,y0,h0,h1,h2,h3,configFault,rangeOk,firstI_cons,firstI_nil]
 cases h4 : within q14 0 1000000
 ·simp only [go_sem,reduceIte,↓reduceIte,reduceCtorEq,nA,nS,nM,nB,nE,nL,nT,nN,iL,iT,iE,iA,iM,iS,iG,iB,iN,iZ,h,y0,h0,h1,h2,h3,h4,configFault,rangeOk,firstI_cons,firstI_nil]
 cases h5 : within q15 1 10
 ·simp only [go_sem,reduceIte,↓reduceIte,reduceCtorEq,nA,nS,nM,nB,nE,nL,nT,nN,iL,iT,iE,iA,iM,iS,iG,iB,iN,iZ,h,y0,h0,h1,h2,h3,h4,h5,configFault,rangeOk,firstI_cons,firstI_nil]
 by_cases x0 : namesCode q16 = 0
 rotate_left
 ·have w0 : (namesCode q16 != 0) = true:=by simpa using x0
  simp only [go_sem,reduceIte,↓reduceIte,reduceCtorEq,nA,nS,nM,nB,nE,nL,nT,nN,iL,iT,iE,iA,iM,iS,iG,iB,iN,iZ,h,y0,h0,h1,h2,h3,h4,h5,w0,configFault,rangeOk,firstI_cons,firstI_nil]
 have w0 : (namesCode q16 != 0) = false:=by simpa using x0
 by_cases x1 : lanesFault ⟨q17,q18,q19⟩ = 0
 rotate_left
 ·have w1 : (lanesFault ⟨q17,q18,q19⟩ != 0) = true:=by simpa using x1
  simp only [go_sem,reduceIte,↓reduceIte,reduceCtorEq,nA,nS,nM,nB,nE,nL,nT,nN,iL,iT,iE,iA,iM,iS,iG,iB,iN,iZ,h,y0,h0,h1,h2,h3,h4,h5,w0,w1,configFault,rangeOk,firstI_cons,firstI_nil]
 have w1 : (lanesFault ⟨q17,q18,q19⟩ != 0) = false:=by simpa using x1
 by_cases v : rulesFault ⟨q20,q21,q22,q23,q24⟩ = 0
 ·simp only [go_sem,reduceIte,↓reduceIte,reduceCtorEq,nA,nS,nM,nB,nE,nL,nT,nN,iL,iT,iE,iA,iM,iS,iG,iB,iN,iZ,h,y0,h0,h1,h2,h3,h4,h5,w0,w1,v,configFault,rangeOk,firstI_cons,firstI_nil]
 ·have v' : (rulesFault ⟨q20,q21,q22,q23,q24⟩ != 0) = true:=by simpa using v
  simp only [go_sem,reduceIte,↓reduceIte,reduceCtorEq,nA,nS,nM,nB,nE,nL,nT,nN,iL,iT,iE,iA,iM,iS,iG,iB,iN,iZ,h,y0,h0,h1,h2,h3,h4,h5,w0,w1,v',configFault,rangeOk,firstI_cons,firstI_nil]) (rfl)
def shieldFault (v : Shield) : Int:=firstI [configFault v.Config,if (!(isTime v.Now && isTime v.Next)) = true then 3 else 0,storeFault v.Store,
 if (v.Store.Budget != v.Config.Budget || v.Store.Guard != v.Config.Guard) = true then 1 else 0,if decide (6 < (v.Origins.length : Int)) = true then 2 else 0,originsFault v,flightsFault v.Flights,if (!fitsV v) = true then 8 else 0]
def s144 : SP Tryz.prog:=mkS tyA 144 Tryz.f144 [s49] { md:=[.ro 1],rets:=some ([1],[]) } Tryz.func144 (by kernel_rfl)
@[go_sem] theorem d144 : s144.g = 144 ∧ s144.fs = ⟨[.ro 1],s144.F,false⟩:=⟨nr rfl,nr rfl⟩
@[go_sem] theorem e144 (q25 q26 q27 q28 q29 q30 q31 q32 : Int) (q33 : List ByteArray) (q34 q35 q36 q37 q38 q39 q40 q41 q42 q43 q44 q45 : Int) (q46 q47 : List Entry) (q48 : List Origin) (q49 : List Flight) : s144.F [.pr [.i .i64 q25,.i .i64 q26,.i .i64 q27,.i .i64 q28,.i .i64 q29,.i .i64 q30,.i .i64 q31,.i .i64 q32,.sl .ro 1 (q33.map rStr),.i .i64 q34,.i .i64 q35,.i .i64 q36,.i .i64 q37,.i .i64 q38,.i .i64 q39,.i .i64 q40,.i .i64 q41,.i .i64 q42,.i .i64 q43,.i .i64 q44,.i .i64 q45,.sl .ro 13 (q46.map (rEntry .ro)),.sl .ro 13 (q47.map (rEntry .ro)),.sl .ro 7 (q48.map (rOrigin .ro)),.sl .ro 11 (q49.map (rFlight .ro))]] = some (.i .i64 (configFault (Config.mk q25 q26 q27 q28 q29 q30 q31 q32 q33 (Lanes.mk q34 q35 q36) (Rules.mk q37 q38 q39 q40 q41))),[.u]):=mkS_eq (0) rfl rfl (fun cx h=>by
 simp only [go_sem,reduceIte,↓reduceIte,reduceCtorEq,nA,nS,nM,nB,nE,nL,nT,nN,iL,iT,iE,iA,iM,iS,iG,iB,iN,iZ,h]) (rfl)
def s145 : SP Tryz.prog:=mkS tyA 145 Tryz.f145 [s128] { md:=[.ro 1],rets:=some ([1],[]) } Tryz.func145 (by kernel_rfl)
@[go_sem] theorem d145 : s145.g = 145 ∧ s145.fs = ⟨[.ro 1],s145.F,false⟩:=⟨nr rfl,nr rfl⟩
@[go_sem] theorem e145 (q25 q26 q27 q28 q29 q30 q31 q32 : Int) (q33 : List ByteArray) (q34 q35 q36 q37 q38 q39 q40 q41 q42 q43 q44 q45 : Int) (q46 q47 : List Entry) (q48 : List Origin) (q49 : List Flight) (h0 : smShield (Shield.mk (Config.mk q25 q26 q27 q28 q29 q30 q31 q32 q33 (Lanes.mk q34 q35 q36) (Rules.mk q37 q38 q39 q40 q41)) q42 q43 (Store.mk q44 q45 q46 q47) q48 q49)) : s145.F [.pr [.i .i64 q25,.i .i64 q26,.i .i64 q27,.i .i64 q28,.i .i64 q29,.i .i64 q30,.i .i64 q31,.i .i64 q32,.sl .ro 1 (q33.map rStr),.i .i64 q34,.i .i64 q35,.i .i64 q36,.i .i64 q37,.i .i64 q38,.i .i64 q39,.i .i64 q40,.i .i64 q41,.i .i64 q42,.i .i64 q43,.i .i64 q44,.i .i64 q45,.sl .ro 13 (q46.map (rEntry .ro)),.sl .ro 13 (q47.map (rEntry .ro)),.sl .ro 7 (q48.map (rOrigin .ro)),.sl .ro 11 (q49.map (rFlight .ro))]] = some (.i .i64 (storeFault (Store.mk q44 q45 q46 q47)),[.u]):=mkS_eq (0) rfl rfl (fun cx h=>by
 have h1:=h0.2.2.2.1
 simp only at h1
 simp only [go_sem,reduceIte,↓reduceIte,reduceCtorEq,nA,nS,nM,nB,nE,nL,nT,nN,iL,iT,iE,iA,iM,iS,iG,iB,iN,iZ,h,h1]) (rfl)
def s318 : SP Tryz.prog:=mkS tyA 318 Tryz.f318 [s136] { md:=[.ro 1],rets:=some ([2],[]) } Tryz.func318 (by kernel_rfl)
@[go_sem] theorem d318 : s318.g = 318 ∧ s318.fs = ⟨[.ro 1],s318.F,false⟩:=⟨nr rfl,nr rfl⟩
@[go_sem] theorem e318 (mAt : Int) (q50 : Bool) : s318.F [.agg [.i .i64 mAt,.b q50]] = some (.b (!isTime (Mark.mk mAt q50).At),[.u]):=mkS_eq (0) rfl rfl (fun cx h=>by
 simp only [go_sem,reduceIte,↓reduceIte,reduceCtorEq,nA,nS,nM,nB,nE,nL,nT,nN,iL,iT,iE,iA,iM,iS,iG,iB,iN,iZ,h]) (rfl)
def s237 : SP Tryz.prog:=mkS tyA 237 Tryz.f237 [] { md:=[.ro 1,.ro 1],rets:=some ([3],[]) } Tryz.func237 (by kernel_rfl)
@[go_sem] theorem d237 : s237.g = 237 ∧ s237.fs = ⟨[.ro 1,.ro 1],s237.F,false⟩:=⟨nr rfl,nr rfl⟩
@[go_sem] theorem e237 (mAt : Int) (q50 : Bool) (q25 q26 q27 q28 q29 q30 q31 q32 : Int) (q33 : List ByteArray) (q34 q35 q36 q37 q38 q39 q40 q41 q42 q43 q44 q45 : Int) (q46 q47 : List Entry) (q48 : List Origin) (q49 : List Flight) : s237.F [.agg [.i .i64 mAt,.b q50],.pr [.i .i64 q25,.i .i64 q26,.i .i64 q27,.i .i64 q28,.i .i64 q29,.i .i64 q30,.i .i64 q31,.i .i64 q32,.sl .ro 1 (q33.map rStr),.i .i64 q34,.i .i64 q35,.i .i64 q36,.i .i64 q37,.i .i64 q38,.i .i64 q39,.i .i64 q40,.i .i64 q41,.i .i64 q42,.i .i64 q43,.i .i64 q44,.i .i64 q45,.sl .ro 13 (q46.map (rEntry .ro)),.sl .ro 13 (q47.map (rEntry .ro)),.sl .ro 7 (q48.map (rOrigin .ro)),.sl .ro 11 (q49.map (rFlight .ro))]] = some (.b (decide (q42 < mAt)),[.u,.u]):=mkS_eq (0) rfl rfl (fun cx h=>by
 simp only [go_sem,reduceIte,↓reduceIte,reduceCtorEq,nA,nS,nM,nB,nE,nL,nT,nN,iL,iT,iE,iA,iM,iS,iG,iB,iN,iZ,h]) (rfl)
def s315 : SP Tryz.prog:=mkS tyA 315 Tryz.f315 [s237,s318] { md:=[.ro 1,.ro 1],rg:=[(0,[0,1],[]),(1,[0,1,7,8],[]),(2,[0,1,7,8,9],[]),(3,[0,1,5,7,8],[]),(4,[0,1,5,7,8,16],[]),(5,[4],[]),(6,[0,1,7,8],[]),(7,[4],[])],lv:=[(0,[0,1,7,8],[])],out:=[(0,[],[])],rets:=some ([4],[]) } Tryz.func315 (by kernel_rfl)
@[go_sem] theorem d315 : s315.g = 315 ∧ s315.fs = ⟨[.ro 1,.ro 1],s315.F,false⟩:=⟨nr rfl,nr rfl⟩
@[go_sem] theorem e315_318 (xs : List Mark)  (hb : xs.length ≤ 9223372036854775806) : s315.F [.sl .ro 2 (xs.map (rMark .ro)),.fn 318 []] = some (.i .i64 (idxP (fun x=>!isTime x.At) xs 0),[.u,.u]):=mkS_eq (xs.length + 1) rfl rfl (fun cx h=>by
 have hx:=hb
 have hb0:=loopN_eq Tryz.f315 0 _ _ rfl rfl
 obtain ⟨r,hr,hq⟩:=loop_srch (cx:=cx) (blk:=0) (body:=loopN Tryz.f315 0) xs (fun k (s : Nat)=>⟨E [(0,.sl .ro 2 (xs.map (rMark .ro))),(1,.fn 318 []),(7,.i .i64 xs.length),(8,.i .i64 k)],B []⟩) (fun s=>⟨E [],B []⟩) (fun x s=>!isTime x.At) (fun x s=>s + 1) (fun x s=>(.ret,⟨E [(4,.i .i64 s)],B []⟩)) (fun k s=>k = s)
   (fun s hI G=>by simp only [go_sem,reduceIte,↓reduceIte,reduceCtorEq,nA,nS,nM,nB,nE,nL,nT,nN,iL,iT,iE,iA,iM,iS,iG,iB,iN,iZ,h,Int.lt_irrefl,hb0,hI]) (fun k hk s hI=>by
    have h1 : ((k : Int) < (xs.length : Int)):=Int.ofNat_lt.2 hk
    obtain rfl:=hI
    exact ⟨_,_,_,fun G=>by simp only [go_sem,reduceIte,↓reduceIte,reduceCtorEq,nA,nS,nM,nB,nE,nL,nT,nN,iL,iT,iE,iA,iM,iS,iG,iB,iN,iZ,h,map_gd (rMark .ro) xs _ hk,decide_eq_true_eq,h1,idx_nt _ _ hk,wrap_nat1 (show k < 9223372036854775807 by omega),hb0] <;> with_reducible rfl,by first | exact Iff.rfl | simp,fun hc=>⟨rfl,by simp only [go_sem,reduceIte,↓reduceIte,reduceCtorEq,nA,nS,nM,nB,nE,nL,nT,nN,iL,iT,iE,iA,iM,iS,iG,iB,iN,iZ,h]⟩⟩) 0 rfl (xs.length + 1) (Nat.le_refl _)
 rw [hb0] at hr
 rcases hq with ⟨s',e1,_,e3⟩ | ⟨x,s',e1,e3⟩
 ·simp only [go_sem,reduceIte,↓reduceIte,reduceCtorEq,nA,nS,nM,nB,nE,nL,nT,nN,iL,iT,iE,iA,iM,iS,iG,iB,iN,iZ,h,hr,e3,runS_idx e1]
 ·simp only [go_sem,reduceIte,↓reduceIte,reduceCtorEq,nA,nS,nM,nB,nE,nL,nT,nN,iL,iT,iE,iA,iM,iS,iG,iB,iN,iZ,h,hr,e3,runS_idx' e1]) (rfl)
@[go_sem] theorem e315_237 (xs : List Mark) (q25 q26 q27 q28 q29 q30 q31 q32 : Int) (q33 : List ByteArray) (q34 q35 q36 q37 q38 q39 q40 q41 q42 q43 q44 q45 : Int) (q46 q47 : List Entry) (q48 : List Origin) (q49 : List Flight) (hb : xs.length ≤ 9223372036854775806) : s315.F [.sl .ro 2 (xs.map (rMark .ro)),.fn 237 [.pr [.i .i64 q25,.i .i64 q26,.i .i64 q27,.i .i64 q28,.i .i64 q29,.i .i64 q30,.i .i64 q31,.i .i64 q32,.sl .ro 1 (q33.map rStr),.i .i64 q34,.i .i64 q35,.i .i64 q36,.i .i64 q37,.i .i64 q38,.i .i64 q39,.i .i64 q40,.i .i64 q41,.i .i64 q42,.i .i64 q43,.i .i64 q44,.i .i64 q45,.sl .ro 13 (q46.map (rEntry .ro)),.sl .ro 13 (q47.map (rEntry .ro)),.sl .ro 7 (q48.map (rOrigin .ro)),.sl .ro 11 (q49.map (rFlight .ro))]]] = some (.i .i64 (idxP (fun x=>decide (q42 < x.At)) xs 0),[.u,.u]):=mkS_eq (xs.length + 1) rfl rfl (fun cx h=>by
 have hx:=hb
 have hb0:=loopN_eq Tryz.f315 0 _ _ rfl rfl
 obtain ⟨r,hr,hq⟩:=loop_srch (cx:=cx) (blk:=0) (body:=loopN Tryz.f315 0) xs (fun k (s : Nat)=>⟨E [(0,.sl .ro 2 (xs.map (rMark .ro))),(1,.fn 237 [.pr [.i .i64 q25,.i .i64 q26,.i .i64 q27,.i .i64 q28,.i .i64 q29,.i .i64 q30,.i .i64 q31,.i .i64 q32,.sl .ro 1 (q33.map rStr),.i .i64 q34,.i .i64 q35,.i .i64 q36,.i .i64 q37,.i .i64 q38,.i .i64 q39,.i .i64 q40,.i .i64 q41,.i .i64 q42,.i .i64 q43,.i .i64 q44,.i .i64 q45,.sl .ro 13 (q46.map (rEntry .ro)),.sl .ro 13 (q47.map (rEntry .ro)),.sl .ro 7 (q48.map (rOrigin .ro)),.sl .ro 11 (q49.map (rFlight .ro))]]),(7,.i .i64 xs.length),(8,.i .i64 k)],B []⟩) (fun s=>⟨E [],B []⟩) (fun x s=>decide (q42 < x.At)) (fun x s=>s + 1) (fun x s=>(.ret,⟨E [(4,.i .i64 s)],B []⟩)) (fun k s=>k = s)
   (fun s hI G=>by simp only [go_sem,reduceIte,↓reduceIte,reduceCtorEq,nA,nS,nM,nB,nE,nL,nT,nN,iL,iT,iE,iA,iM,iS,iG,iB,iN,iZ,h,Int.lt_irrefl,hb0,hI]) (fun k hk s hI=>by
    have h1 : ((k : Int) < (xs.length : Int)):=Int.ofNat_lt.2 hk
    obtain rfl:=hI
    exact ⟨_,_,_,fun G=>by simp only [go_sem,reduceIte,↓reduceIte,reduceCtorEq,nA,nS,nM,nB,nE,nL,nT,nN,iL,iT,iE,iA,iM,iS,iG,iB,iN,iZ,h,map_gd (rMark .ro) xs _ hk,decide_eq_true_eq,h1,idx_nt _ _ hk,wrap_nat1 (show k < 9223372036854775807 by omega),hb0] <;> with_reducible rfl,by first | exact Iff.rfl | simp,fun hc=>⟨rfl,by simp only [go_sem,reduceIte,↓reduceIte,reduceCtorEq,nA,nS,nM,nB,nE,nL,nT,nN,iL,iT,iE,iA,iM,iS,iG,iB,iN,iZ,h]⟩⟩) 0 rfl (xs.length + 1) (Nat.le_refl _)
 rw [hb0] at hr
 rcases hq with ⟨s',e1,_,e3⟩ | ⟨x,s',e1,e3⟩
 ·simp only [go_sem,reduceIte,↓reduceIte,reduceCtorEq,nA,nS,nM,nB,nE,nL,nT,nN,iL,iT,iE,iA,iM,iS,iG,iB,iN,iZ,h,hr,e3,runS_idx e1]
 ·simp only [go_sem,reduceIte,↓reduceIte,reduceCtorEq,nA,nS,nM,nB,nE,nL,nT,nN,iL,iT,iE,iA,iM,iS,iG,iB,iN,iZ,h,hr,e3,runS_idx' e1]) (rfl)
def s236 : SP Tryz.prog:=mkS tyA 236 Tryz.f236 [s315] { md:=[.ro 1,.ro 1],rets:=some ([4],[]) } Tryz.func236 (by kernel_rfl)
@[go_sem] theorem d236 : s236.g = 236 ∧ s236.fs = ⟨[.ro 1,.ro 1],s236.F,false⟩:=⟨nr rfl,nr rfl⟩
@[go_sem] theorem e236_318 (xs : List Mark)  (hb : xs.length ≤ 9223372036854775806) : s236.F [.sl .ro 2 (xs.map (rMark .ro)),.fn 318 []] = some (.b (xs.any (fun x=>!isTime x.At)),[.u,.u]):=mkS_eq (0) rfl rfl (fun cx h=>by
 simp only [go_sem,reduceIte,↓reduceIte,reduceCtorEq,nA,nS,nM,nB,nE,nL,nT,nN,iL,iT,iE,iA,iM,iS,iG,iB,iN,iZ,h,hb,idxP_any]) (rfl)
@[go_sem] theorem e236_237 (xs : List Mark) (q25 q26 q27 q28 q29 q30 q31 q32 : Int) (q33 : List ByteArray) (q34 q35 q36 q37 q38 q39 q40 q41 q42 q43 q44 q45 : Int) (q46 q47 : List Entry) (q48 : List Origin) (q49 : List Flight) (hb : xs.length ≤ 9223372036854775806) : s236.F [.sl .ro 2 (xs.map (rMark .ro)),.fn 237 [.pr [.i .i64 q25,.i .i64 q26,.i .i64 q27,.i .i64 q28,.i .i64 q29,.i .i64 q30,.i .i64 q31,.i .i64 q32,.sl .ro 1 (q33.map rStr),.i .i64 q34,.i .i64 q35,.i .i64 q36,.i .i64 q37,.i .i64 q38,.i .i64 q39,.i .i64 q40,.i .i64 q41,.i .i64 q42,.i .i64 q43,.i .i64 q44,.i .i64 q45,.sl .ro 13 (q46.map (rEntry .ro)),.sl .ro 13 (q47.map (rEntry .ro)),.sl .ro 7 (q48.map (rOrigin .ro)),.sl .ro 11 (q49.map (rFlight .ro))]]] = some (.b (xs.any (fun x=>decide (q42 < x.At))),[.u,.u]):=mkS_eq (0) rfl rfl (fun cx h=>by
 simp only [go_sem,reduceIte,↓reduceIte,reduceCtorEq,nA,nS,nM,nB,nE,nL,nT,nN,iL,iT,iE,iA,iM,iS,iG,iB,iN,iZ,h,hb,idxP_any]) (rfl)
end
end Go.Vm.A
