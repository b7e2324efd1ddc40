/- Functions of the program, walked by the evaluator. -/
import Derived.Test.YtnbhkifknleipaaGreatDoorWb
import Derived.Test.YtnbhkifknleipaaGreatDoorWa
import Derived.Test.YtnbhkifknleipaaGreatDoorFb
import Derived.Test.YtnbhkifknleipaaGreatDoorFc
import Derived.Test.YtnbhkifknleipaaGreatDoorFd
import Derived.Test.YtnbhkifknleipaaGreatDoorFe
import Derived.Test.YtnbhkifknleipaaGreatDoorFf
set_option linter.unusedVariables false
set_option linter.unusedSimpArgs false
set_option autoImplicit false
set_option maxRecDepth 100000
set_option maxHeartbeats 4000000
namespace Go.Vm.A
open Go.Proofs
open Nat renaming reduceAdd → nA, reduceSub → nS, reduceMul → nM, reduceBEq → nB, reduceEqDiff → nE, reduceLeDiff → nL, reduceLT → nT, reduceBneDiff → nN
open Int renaming reduceLE → iL, reduceLT → iT, reduceEq → iE, reduceAdd → iA, reduceMul → iM, reduceSub → iS, reduceNeg → iG, reduceBEq → iB, reduceBNe → iN, reduceToNat → iZ
noncomputable section
def kindFault (e : Event) : Int:=if (e.Kind == 1) = true then requestFault e.Request else if (e.Kind == 2) = true then responseFault e.Response else 0
def s277 : SP Tryz.prog:=mkS tyA 277 Tryz.f277 [s40,s43] { md:=[.ro 1],rg:=[(0,[0],[]),(1,[0,3],[]),(2,[0,3,4],[]),(3,[1],[]),(4,[0,9],[]),(5,[1],[]),(6,[1],[])],rets:=some ([1],[]) } Tryz.func277 (by kernel_rfl)
@[go_sem] theorem d277 : s277.g = 277 ∧ s277.fs = ⟨[.ro 1],s277.F,false⟩:=⟨nr rfl,nr rfl⟩
@[go_sem] theorem e277 (q0 eId q1 : Int) (q2 q3 q4 : ByteArray) (q5 : List Header) (q6 : Int) (q7 : List Header) (q8 : List UInt8) (q9 : ByteArray) (q10 : Bool) (h0 : smL smHeader q5) : s277.F [.pr [.i .i64 q0,.i .i64 eId,.i .i64 q1,.s q2,.s q3,.s q4,.sl .ro 2 (q5.map (rHeader .ro)),.i .i64 q6,.sl .ro 2 (q7.map (rHeader .ro)),.sl .ro 1 (q8.map rByte),.s q9,.b q10]] = some (.i .i64 (kindFault (Event.mk q0 eId q1 (Request.mk q2 q3 q4 q5) (Response.mk q6 q7 q8) q9 q10)),[.u]):=mkS_eq (0) rfl rfl (fun cx h=>by
 have hu : kindFault (Event.mk q0 eId q1 (Request.mk q2 q3 q4 q5) (Response.mk q6 q7 q8) q9 q10) = (if (q0 == 1) = true then requestFault (Request.mk q2 q3 q4 q5) else if (q0 == 2) = true then responseFault (Response.mk q6 q7 q8) else 0):=rfl
 cases h1 : q0 == 1
 ·cases h2 : q0 == 2 <;> simp only [go_sem,reduceIte,↓reduceIte,reduceCtorEq,nA,nS,nM,nB,nE,nL,nT,nN,iL,iT,iE,iA,iM,iS,iG,iB,iN,iZ,h,h1,h2,hu]
 ·simp only [go_sem,reduceIte,↓reduceIte,reduceCtorEq,nA,nS,nM,nB,nE,nL,nT,nN,iL,iT,iE,iA,iM,iS,iG,iB,iN,iZ,h,h1,h0,hu]) (rfl)
def cl (p : Bool × Int) : AV:=.fn 231 [.pr [.b p.1],.pr [.i .i64 p.2]]
@[go_sem] theorem cl_def (p : Bool × Int) : cl p = .fn 231 [.pr [.b p.1],.pr [.i .i64 p.2]]:=nr rfl
@[go_sem] theorem cl_filt (kp kr : Pl → Bool) : ∀ xs : List (Bool × Int),filtL kp kr (xs.map cl) = xs.map cl
 | []=>rfl
 | x :: xs=>by simp only [List.map_cons,filtL,cl_filt kp kr xs,cl,filt]
def clv (p : Bool × Int) : Int:=if p.1 = true then p.2 else 0
def firstC : List (Bool × Int) → Int
 | []=>0
 | p :: r=>if (clv p != 0) = true then clv p else firstC r
theorem firstC_inl : ∀ {xs : List (Bool × Int)} {u u' : Unit},runS (fun x _=>clv x != 0) (fun _ _=>()) xs u = .inl u' → firstC xs = 0
 | [],_,_,_=>rfl
 | x :: xs,u,u',h=>by
  rw [runS_cons] at h
  split at h
  ·cases h
  ·rename_i hc; rw [firstC,if_neg hc]; exact firstC_inl h
theorem firstC_inr : ∀ {xs : List (Bool × Int)} {u : Unit} {q : (Bool × Int) × Unit},runS (fun x _=>clv x != 0) (fun _ _=>()) xs u = .inr q → firstC xs = clv q.1
 | [],_,_,h=>by cases h
 | x :: xs,u,q,h=>by
  rw [runS_cons] at h
  split at h
  ·rename_i hc; injection h with h; subst h; rw [firstC,if_pos hc]
  ·rename_i hc; rw [firstC,if_neg hc]; exact firstC_inr h
theorem map_gdA {α : Type} (f : α → AV) (xs : List α) (k : Nat) (h : k < xs.length) : (xs.map f).getD k .u = f xs[k]:=by simp [List.getD,h]
def s133 : SP Tryz.prog:=mkS tyA 133 Tryz.f133 [s134,s137,s139,s141,s231,s277] { md:=[.ro 1],rg:=[(0,[0],[]),(1,[0,6,7,8],[]),(2,[0,6,7,8,9],[]),(3,[0,4,6,7,8],[]),(4,[0,5,6,7,8],[]),(5,[0,5,6,7,8,15],[]),(6,[2],[]),(7,[0,6,7,8],[]),(8,[2],[])],lv:=[(0,[0,6,7,8],[])],out:=[(0,[],[])],rets:=some ([2],[]) } Tryz.func133 (by kernel_rfl)
@[go_sem] theorem d133 : s133.g = 133 ∧ s133.fs = ⟨[.ro 1],s133.F,false⟩:=⟨nr rfl,nr rfl⟩
theorem e133 (xs : List (Bool × Int)) (hb : xs.length ≤ 1000) : s133.F [.fs (xs.map cl)] = some (.i .i64 (firstC xs),[.u]):=mkS_eq (xs.length + 1) rfl rfl (fun cx h=>by
 have hx:=hb
 have hb0:=loopN_eq Tryz.f133 0 _ _ rfl rfl
 obtain ⟨r,hr,hq⟩:=loop_srch (cx:=cx) (blk:=0) (body:=loopN Tryz.f133 0) xs (fun k (s : Unit)=>⟨E [(0,.fs (xs.map cl)),(6,.fs (xs.map cl)),(7,.i .i64 xs.length),(8,.i .i64 k)],B []⟩) (fun s=>⟨E [],B []⟩) (fun x s=>clv x != 0) (fun x s=>()) (fun x s=>(.ret,⟨E [(2,.i .i64 (clv x))],B []⟩)) (fun k s=>True)
   (fun s hI G=>by simp only [go_sem,reduceIte,↓reduceIte,reduceCtorEq,nA,nS,nM,nB,nE,nL,nT,nN,iL,iT,iE,iA,iM,iS,iG,iB,iN,iZ,h,Int.lt_irrefl,hb0,hx]) (fun k hk s hI=>by
    have h1 : ((k : Int) < (xs.length : Int)):=Int.ofNat_lt.2 hk
    have h3 : clv xs[k] = (if xs[k].1 = true then xs[k].2 else 0):=rfl
    exact ⟨_,_,_,fun G=>by simp only [go_sem,reduceIte,↓reduceIte,reduceCtorEq,nA,nS,nM,nB,nE,nL,nT,nN,iL,iT,iE,iA,iM,iS,iG,iB,iN,iZ,h,map_gdA cl xs k hk,h3,h1,idx_nt _ _ hk,wrap_nat1 (show k < 9223372036854775807 by omega),hb0] <;> with_reducible rfl,by simp [h3],fun hc=>⟨trivial,by simp only [go_sem,reduceIte,↓reduceIte,reduceCtorEq,nA,nS,nM,nB,nE,nL,nT,nN,iL,iT,iE,iA,iM,iS,iG,iB,iN,iZ,h]⟩⟩) () trivial (xs.length + 1) (Nat.le_refl _)
 rw [hb0] at hr
 rcases hq with ⟨s',e1,_,e3⟩ | ⟨x,s',e1,e3⟩
 ·simp only [go_sem,reduceIte,↓reduceIte,reduceCtorEq,nA,nS,nM,nB,nE,nL,nT,nN,iL,iT,iE,iA,iM,iS,iG,iB,iN,iZ,h,hr,e3,firstC_inl e1]
 ·simp only [go_sem,reduceIte,↓reduceIte,reduceCtorEq,nA,nS,nM,nB,nE,nL,nT,nN,iL,iT,iE,iA,iM,iS,iG,iB,iN,iZ,h,hr,e3,firstC_inr e1]) (rfl)
@[go_sem] theorem e133_1 (a0 : Bool) (x0 : Int) : s133.F [.fs [.fn 231 [.pr [.b a0],.pr [.i .i64 x0]]]] = some (.i .i64 (firstC [(a0,x0)]),[.u]):=e133 [(a0,x0)] (by simp)
@[go_sem] theorem e133_2 (a0 : Bool) (x0 : Int) (a1 : Bool) (x1 : Int) : s133.F [.fs [.fn 231 [.pr [.b a0],.pr [.i .i64 x0]],.fn 231 [.pr [.b a1],.pr [.i .i64 x1]]]] = some (.i .i64 (firstC [(a0,x0),(a1,x1)]),[.u]):=e133 [(a0,x0),(a1,x1)] (by simp)
@[go_sem] theorem e133_3 (a0 : Bool) (x0 : Int) (a1 : Bool) (x1 : Int) (a2 : Bool) (x2 : Int) : s133.F [.fs [.fn 231 [.pr [.b a0],.pr [.i .i64 x0]],.fn 231 [.pr [.b a1],.pr [.i .i64 x1]],.fn 231 [.pr [.b a2],.pr [.i .i64 x2]]]] = some (.i .i64 (firstC [(a0,x0),(a1,x1),(a2,x2)]),[.u]):=e133 [(a0,x0),(a1,x1),(a2,x2)] (by simp)
@[go_sem] theorem e133_4 (a0 : Bool) (x0 : Int) (a1 : Bool) (x1 : Int) (a2 : Bool) (x2 : Int) (a3 : Bool) (x3 : Int) : s133.F [.fs [.fn 231 [.pr [.b a0],.pr [.i .i64 x0]],.fn 231 [.pr [.b a1],.pr [.i .i64 x1]],.fn 231 [.pr [.b a2],.pr [.i .i64 x2]],.fn 231 [.pr [.b a3],.pr [.i .i64 x3]]]] = some (.i .i64 (firstC [(a0,x0),(a1,x1),(a2,x2),(a3,x3)]),[.u]):=e133 [(a0,x0),(a1,x1),(a2,x2),(a3,x3)] (by simp)
@[go_sem] theorem e133_5 (a0 : Bool) (x0 : Int) (a1 : Bool) (x1 : Int) (a2 : Bool) (x2 : Int) (a3 : Bool) (x3 : Int) (a4 : Bool) (x4 : Int) : s133.F [.fs [.fn 231 [.pr [.b a0],.pr [.i .i64 x0]],.fn 231 [.pr [.b a1],.pr [.i .i64 x1]],.fn 231 [.pr [.b a2],.pr [.i .i64 x2]],.fn 231 [.pr [.b a3],.pr [.i .i64 x3]],.fn 231 [.pr [.b a4],.pr [.i .i64 x4]]]] = some (.i .i64 (firstC [(a0,x0),(a1,x1),(a2,x2),(a3,x3),(a4,x4)]),[.u]):=e133 [(a0,x0),(a1,x1),(a2,x2),(a3,x3),(a4,x4)] (by simp)
@[go_sem] theorem e133_6 (a0 : Bool) (x0 : Int) (a1 : Bool) (x1 : Int) (a2 : Bool) (x2 : Int) (a3 : Bool) (x3 : Int) (a4 : Bool) (x4 : Int) (a5 : Bool) (x5 : Int) : s133.F [.fs [.fn 231 [.pr [.b a0],.pr [.i .i64 x0]],.fn 231 [.pr [.b a1],.pr [.i .i64 x1]],.fn 231 [.pr [.b a2],.pr [.i .i64 x2]],.fn 231 [.pr [.b a3],.pr [.i .i64 x3]],.fn 231 [.pr [.b a4],.pr [.i .i64 x4]],.fn 231 [.pr [.b a5],.pr [.i .i64 x5]]]] = some (.i .i64 (firstC [(a0,x0),(a1,x1),(a2,x2),(a3,x3),(a4,x4),(a5,x5)]),[.u]):=e133 [(a0,x0),(a1,x1),(a2,x2),(a3,x3),(a4,x4),(a5,x5)] (by simp)
@[go_sem] theorem e133_7 (a0 : Bool) (x0 : Int) (a1 : Bool) (x1 : Int) (a2 : Bool) (x2 : Int) (a3 : Bool) (x3 : Int) (a4 : Bool) (x4 : Int) (a5 : Bool) (x5 : Int) (a6 : Bool) (x6 : Int) : s133.F [.fs [.fn 231 [.pr [.b a0],.pr [.i .i64 x0]],.fn 231 [.pr [.b a1],.pr [.i .i64 x1]],.fn 231 [.pr [.b a2],.pr [.i .i64 x2]],.fn 231 [.pr [.b a3],.pr [.i .i64 x3]],.fn 231 [.pr [.b a4],.pr [.i .i64 x4]],.fn 231 [.pr [.b a5],.pr [.i .i64 x5]],.fn 231 [.pr [.b a6],.pr [.i .i64 x6]]]] = some (.i .i64 (firstC [(a0,x0),(a1,x1),(a2,x2),(a3,x3),(a4,x4),(a5,x5),(a6,x6)]),[.u]):=e133 [(a0,x0),(a1,x1),(a2,x2),(a3,x3),(a4,x4),(a5,x5),(a6,x6)] (by simp)
def s135 : SP Tryz.prog:=mkS tyA 135 Tryz.f135 [] { md:=[.ro 1,.ro 1],wk:=true,rets:=some ([4],[2,3]),fz:=[2,3] } Tryz.func135 (by kernel_rfl)
@[go_sem] theorem d135 : s135.g = 135 ∧ s135.fs = ⟨[.ro 1,.ro 1],s135.F,true⟩:=⟨nr rfl,nr rfl⟩
@[go_sem] theorem e135 (x : Bool) (c : Int) : s135.F [.b x,.i .i64 c] = some (.fn 231 [.pr [.b x],.pr [.i .i64 c]],[.u,.u]):=mkS_eq (0) rfl rfl (fun cx h=>by
 simp only [go_sem,reduceIte,↓reduceIte,reduceCtorEq,nA,nS,nM,nB,nE,nL,nT,nN,iL,iT,iE,iA,iM,iS,iG,iB,iN,iZ,h]) (rfl)
def rangeOk (c : Config) : Bool:=within c.ObjCost 0 c.Budget && isTime c.Neg && within c.Early 0 1000000 && within c.FetchTime 1 1000000 && within c.WaitTime 0 1000000 && within c.WaitCap 1 10
def configFault (c : Config) : Int:=firstI [storeCode c.Budget c.Guard,if rangeOk c = true then 0 else 3,namesCode c.Names,lanesFault c.Lanes,rulesFault c.Rules]
@[go_sem] theorem e133_cfg (q11 q12 q13 q14 q15 q16 q17 q18 : Int) (q19 : List ByteArray) (q20 q21 q22 q23 q24 q25 q26 q27 : Int) (q : Bool) (x : Int) : s133.F [.fs [.fn 134 [.pr [.i .i64 q11,.i .i64 q12,.i .i64 q13,.i .i64 q14,.i .i64 q15,.i .i64 q16,.i .i64 q17,.i .i64 q18,.sl .ro 1 (q19.map rStr),.i .i64 q20,.i .i64 q21,.i .i64 q22,.i .i64 q23,.i .i64 q24,.i .i64 q25,.i .i64 q26,.i .i64 q27]],.fn 231 [.pr [.b q],.pr [.i .i64 x]],.fn 137 [.pr [.i .i64 q11,.i .i64 q12,.i .i64 q13,.i .i64 q14,.i .i64 q15,.i .i64 q16,.i .i64 q17,.i .i64 q18,.sl .ro 1 (q19.map rStr),.i .i64 q20,.i .i64 q21,.i .i64 q22,.i .i64 q23,.i .i64 q24,.i .i64 q25,.i .i64 q26,.i .i64 q27]],.fn 139 [.pr [.i .i64 q11,.i .i64 q12,.i .i64 q13,.i .i64 q14,.i .i64 q15,.i .i64 q16,.i .i64 q17,.i .i64 q18,.sl .ro 1 (q19.map rStr),.i .i64 q20,.i .i64 q21,.i .i64 q22,.i .i64 q23,.i .i64 q24,.i .i64 q25,.i .i64 q26,.i .i64 q27]],.fn 141 [.pr [.i .i64 q11,.i .i64 q12,.i .i64 q13,.i .i64 q14,.i .i64 q15,.i .i64 q16,.i .i64 q17,.i .i64 q18,.sl .ro 1 (q19.map rStr),.i .i64 q20,.i .i64 q21,.i .i64 q22,.i .i64 q23,.i .i64 q24,.i .i64 q25,.i .i64 q26,.i .i64 q27]]]] = some (.i .i64 (firstI [storeCode q11 q12,(if q = true then x else 0),namesCode q19,lanesFault ⟨q20,q21,q22⟩,rulesFault ⟨q23,q24,q25,q26,q27⟩]),[.u]):=mkS_eq (6) rfl rfl (fun cx h=>by
 by_cases z0 : storeCode q11 q12 = 0
 rotate_left
 ·have y0 : (storeCode q11 q12 != 0) = true:=by simpa using z0
  simp only [go_sem,reduceIte,↓reduceIte,reduceCtorEq,nA,nS,nM,nB,nE,nL,nT,nN,iL,iT,iE,iA,iM,iS,iG,iB,iN,iZ,h,y0,firstI_cons,if_i,wrap_0,wrap_1,wrap_2,wrap_3,wrap_4,wrap_5,wrap_6,wrap_7,wrap_8,loopE_1,loopE_2,loopE_3,loopE_4,loopE_5,loopE_6,loopE_7]
 have y0 : (storeCode q11 q12 != 0) = false:=by simpa using z0
 by_cases z1 : (if q = true then x else 0) = 0
 rotate_left
 ·have y1 : ((if q = true then x else 0) != 0) = true:=by simpa using z1
  simp only [go_sem,reduceIte,↓reduceIte,reduceCtorEq,nA,nS,nM,nB,nE,nL,nT,nN,iL,iT,iE,iA,iM,iS,iG,iB,iN,iZ,h,y0,y1,firstI_cons,if_i,wrap_0,wrap_1,wrap_2,wrap_3,wrap_4,wrap_5,wrap_6,wrap_7,wrap_8,loopE_1,loopE_2,loopE_3,loopE_4,loopE_5,loopE_6,loopE_7]
 have y1 : ((if q = true then x else 0) != 0) = false:=by simpa using z1
 by_cases z2 : namesCode q19 = 0
 rotate_left
 ·have y2 : (namesCode q19 != 0) = true:=by simpa using z2
  simp only [go_sem,reduceIte,↓reduceIte,reduceCtorEq,nA,nS,nM,nB,nE,nL,nT,nN,iL,iT,iE,iA,iM,iS,iG,iB,iN,iZ,h,y0,y1,y2,firstI_cons,if_i,wrap_0,wrap_1,wrap_2,wrap_3,wrap_4,wrap_5,wrap_6,wrap_7,wrap_8,loopE_1,loopE_2,loopE_3,loopE_4,loopE_5,loopE_6,loopE_7]
 have y2 : (namesCode q19 != 0) = false:=by simpa using z2
 by_cases z3 : lanesFault ⟨q20,q21,q22⟩ = 0
 rotate_left
 ·have y3 : (lanesFault ⟨q20,q21,q22⟩ != 0) = true:=by simpa using z3
  simp only [go_sem,reduceIte,↓reduceIte,reduceCtorEq,nA,nS,nM,nB,nE,nL,nT,nN,iL,iT,iE,iA,iM,iS,iG,iB,iN,iZ,h,y0,y1,y2,y3,firstI_cons,if_i,wrap_0,wrap_1,wrap_2,wrap_3,wrap_4,wrap_5,wrap_6,wrap_7,wrap_8,loopE_1,loopE_2,loopE_3,loopE_4,loopE_5,loopE_6,loopE_7]
 have y3 : (lanesFault ⟨q20,q21,q22⟩ != 0) = false:=by simpa using z3
 by_cases z4 : rulesFault ⟨q23,q24,q25,q26,q27⟩ = 0
 rotate_left
 ·have y4 : (rulesFault ⟨q23,q24,q25,q26,q27⟩ != 0) = true:=by simpa using z4
  simp only [go_sem,reduceIte,↓reduceIte,reduceCtorEq,nA,nS,nM,nB,nE,nL,nT,nN,iL,iT,iE,iA,iM,iS,iG,iB,iN,iZ,h,y0,y1,y2,y3,y4,firstI_cons,if_i,wrap_0,wrap_1,wrap_2,wrap_3,wrap_4,wrap_5,wrap_6,wrap_7,wrap_8,loopE_1,loopE_2,loopE_3,loopE_4,loopE_5,loopE_6,loopE_7]
 have y4 : (rulesFault ⟨q23,q24,q25,q26,q27⟩ != 0) = false:=by simpa using z4
 simp only [go_sem,reduceIte,↓reduceIte,reduceCtorEq,nA,nS,nM,nB,nE,nL,nT,nN,iL,iT,iE,iA,iM,iS,iG,iB,iN,iZ,h,y0,y1,y2,y3,y4,firstI_cons,firstI_nil,if_i,wrap_0,wrap_1,wrap_2,wrap_3,wrap_4,wrap_5,wrap_6,wrap_7,wrap_8,loopE_1,loopE_2,loopE_3,loopE_4,loopE_5,loopE_6,loopE_7]) (rfl)
def s49 : SP Tryz.prog:=mkS tyA 49 Tryz.f49 [s115,s133,s135,s136] { md:=[.ro 1],rets:=some ([2],[]),fz:=[1] } Tryz.func49 (by kernel_rfl)
@[go_sem] theorem d49 : s49.g = 49 ∧ s49.fs = ⟨[.ro 1],s49.F,false⟩:=⟨nr rfl,nr rfl⟩
@[go_sem] theorem e49 (q11 q12 q13 q14 q15 q16 q17 q18 : Int) (q19 : List ByteArray) (q20 q21 q22 q23 q24 q25 q26 q27 : Int) : s49.F [.agg [.i .i64 q11,.i .i64 q12,.i .i64 q13,.i .i64 q14,.i .i64 q15,.i .i64 q16,.i .i64 q17,.i .i64 q18,.sl .ro 1 (q19.map rStr),.i .i64 q20,.i .i64 q21,.i .i64 q22,.i .i64 q23,.i .i64 q24,.i .i64 q25,.i .i64 q26,.i .i64 q27]] = some (.i .i64 (configFault (Config.mk q11 q12 q13 q14 q15 q16 q17 q18 q19 (Lanes.mk q20 q21 q22) (Rules.mk q23 q24 q25 q26 q27))),[.u]):=mkS_eq (0) rfl rfl (fun cx h=>by
 cases h0 : within q13 0 q11
 ·simp only [go_sem,reduceIte,↓reduceIte,reduceCtorEq,nA,nS,nM,nB,nE,nL,nT,nN,iL,iT,iE,iA,iM,iS,iG,iB,iN,iZ,h,h0,configFault,rangeOk]
 cases h1 : isTime q14
 ·simp only [go_sem,reduceIte,↓reduceIte,reduceCtorEq,nA,nS,nM,nB,nE,nL,nT,nN,iL,iT,iE,iA,iM,iS,iG,iB,iN,iZ,h,h0,h1,configFault,rangeOk]
 cases h2 : within q15 0 1000000
 ·simp only [go_sem,reduceIte,↓reduceIte,reduceCtorEq,nA,nS,nM,nB,nE,nL,nT,nN,iL,iT,iE,iA,iM,iS,iG,iB,iN,iZ,h,h0,h1,h2,configFault,rangeOk]
 cases h3 : within q16 1 1000000
 ·simp only [go_sem,reduceIte,↓reduceIte,reduceCtorEq,nA,nS,nM,nB,nE,nL,nT,nN,iL,iT,iE,iA,iM,iS,iG,iB,iN,iZ,h,h0,h1,h2,h3,configFault,rangeOk]
 cases h4 : within q17 0 1000000
 ·simp only [go_sem,reduceIte,↓reduceIte,reduceCtorEq,nA,nS,nM,nB,nE,nL,nT,nN,iL,iT,iE,iA,iM,iS,iG,iB,iN,iZ,h,h0,h1,h2,h3,h4,configFault,rangeOk]
 cases h5 : within q18 1 10
 ·simp only [go_sem,reduceIte,↓reduceIte,reduceCtorEq,nA,nS,nM,nB,nE,nL,nT,nN,iL,iT,iE,iA,iM,iS,iG,iB,iN,iZ,h,h0,h1,h2,h3,h4,h5,configFault,rangeOk]
 simp only [go_sem,reduceIte,↓reduceIte,reduceCtorEq,nA,nS,nM,nB,nE,nL,nT,nN,iL,iT,iE,iA,iM,iS,iG,iB,iN,iZ,h,h0,h1,h2,h3,h4,h5,configFault,rangeOk]) (rfl)
def s223 : SP Tryz.prog:=mkS tyA 223 Tryz.f223 [] { md:=[.ro 1],rg:=[(0,[0],[]),(1,[0,4],[]),(2,[2],[]),(3,[2],[])],rets:=some ([2],[]),nz:=true } Tryz.func223 (by kernel_rfl)
@[go_sem] theorem d223 : s223.g = 223 ∧ s223.fs = ⟨[.ro 1],s223.F,false⟩:=⟨nr rfl,nr rfl⟩
@[go_sem] theorem e223 (xs : List ByteArray) (h0 : smL smStr xs) : s223.F [.sl .ro 1 (xs.map rStr)] = some (.sl .mut 1 (xs.map rStr),[.u]):=mkS_eqN (0) rfl rfl (fun cx h=>by
 have h0:=h0.1
 have h1 : (xs.map rStr).all (·.all plain) = true:=by simp [rStr,plain]
 have h2 : xs.length * 16 ≤ 140737488355328:=by omega
 rcases Nat.eq_zero_or_pos xs.length with hp | hp
 ·obtain rfl:=List.length_eq_zero_iff.1 hp
  simp only [go_sem,reduceIte,↓reduceIte,reduceCtorEq,nA,nS,nM,nB,nE,nL,nT,nN,iL,iT,iE,iA,iM,iS,iG,iB,iN,iZ,h]
 ·simp only [go_sem,reduceIte,↓reduceIte,reduceCtorEq,nA,nS,nM,nB,nE,nL,nT,nN,iL,iT,iE,iA,iM,iS,iG,iB,iN,iZ,h,h1,h2,hp]) (by simp only [go_sem,reduceIte,↓reduceIte,reduceCtorEq,nA,nS,nM,nB,nE,nL,nT,nN,iL,iT,iE,iA,iM,iS,iG,iB,iN,iZ,okRes,hasRo])
end
end Go.Vm.A
