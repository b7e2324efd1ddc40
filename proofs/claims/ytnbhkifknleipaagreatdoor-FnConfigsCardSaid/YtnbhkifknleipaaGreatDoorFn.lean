/- Functions of the program, walked by the evaluator. -/
import Derived.Test.YtnbhkifknleipaaGreatDoorWb
import Derived.Test.YtnbhkifknleipaaGreatDoorWa
import Derived.Test.YtnbhkifknleipaaGreatDoorFc
import Derived.Test.YtnbhkifknleipaaGreatDoorFd
import Derived.Test.YtnbhkifknleipaaGreatDoorFf
import Derived.Test.YtnbhkifknleipaaGreatDoorFm
set_option linter.unusedVariables false
set_option linter.unusedSimpArgs false
set_option autoImplicit false
set_option maxRecDepth 100000
set_option maxHeartbeats 4000000
namespace Go.Vm.A
open Go.Proofs
open Nat renaming reduceAdd → nA, reduceSub → nS, reduceMul → nM, reduceBEq → nB, reduceEqDiff → nE, reduceLeDiff → nL, reduceLT → nT, reduceBneDiff → nN
open Int renaming reduceLE → iL, reduceLT → iT, reduceEq → iE, reduceAdd → iA, reduceMul → iM, reduceSub → iS, reduceNeg → iG, reduceBEq → iB, reduceBNe → iN, reduceToNat → iZ
noncomputable section
def s187 : SP Tryz.prog:=mkS tyA 187 Tryz.f187 [s136] { md:=[.ro 1],rets:=some ([2],[]) } Tryz.func187 (by kernel_rfl)
@[go_sem] theorem d187 : s187.g = 187 ∧ s187.fs = ⟨[.ro 1],s187.F,false⟩:=⟨nr rfl,nr rfl⟩
@[go_sem] theorem e187 (q0 : Int) (q1 : Bool) (q2 : Int) (q3 : Bool) : s187.F [.agg [.i .i64 q0,.b q1,.i .i64 q2,.b q3]] = some (.b (isReqW (Waiter.mk q0 q1 q2 q3)),[.u]):=mkS_eq (0) rfl rfl (fun cx h=>by
 simp only [go_sem,reduceIte,↓reduceIte,reduceCtorEq,nA,nS,nM,nB,nE,nL,nT,nN,iL,iT,iE,iA,iM,iS,iG,iB,iN,iZ,h]
 simp only [isReqW]
 cases isTime q0 <;> cases isTime q2 <;> rfl) (rfl)
def s186 : SP Tryz.prog:=mkS tyA 186 Tryz.f186 [s187] { md:=[.ro 1],rets:=some ([2],[]) } Tryz.func186 (by kernel_rfl)
@[go_sem] theorem d186 : s186.g = 186 ∧ s186.fs = ⟨[.ro 1],s186.F,false⟩:=⟨nr rfl,nr rfl⟩
@[go_sem] theorem e186 (q0 : Int) (q1 : Bool) (q2 : Int) (q3 : Bool) : s186.F [.agg [.i .i64 q0,.b q1,.i .i64 q2,.b q3]] = some (.b (!isReqW (Waiter.mk q0 q1 q2 q3)),[.u]):=mkS_eq (0) rfl rfl (fun cx h=>by
 simp only [go_sem,reduceIte,↓reduceIte,reduceCtorEq,nA,nS,nM,nB,nE,nL,nT,nN,iL,iT,iE,iA,iM,iS,iG,iB,iN,iZ,h]) (rfl)
def s279 : SP Tryz.prog:=mkS tyA 279 Tryz.f279 [s186,s280] { md:=[.ro 1,.ro 1],rg:=[(0,[0,1],[]),(1,[0,1,7,8],[]),(2,[0,1,7,8,9],[]),(3,[0,1,5,7,8],[]),(4,[0,1,5,7,8,16],[]),(5,[4],[]),(6,[0,1,7,8],[]),(7,[4],[])],lv:=[(0,[0,1,7,8],[])],out:=[(0,[],[])],rets:=some ([4],[]) } Tryz.func279 (by kernel_rfl)
@[go_sem] theorem d279 : s279.g = 279 ∧ s279.fs = ⟨[.ro 1,.ro 1],s279.F,false⟩:=⟨nr rfl,nr rfl⟩
@[go_sem] theorem e279_280 (xs : List Waiter) (req : Int) (hb : xs.length ≤ 9223372036854775806) : s279.F [.sl .ro 4 (xs.map (rWaiter .ro)),.fn 280 [.pr [.i .i64 req]]] = some (.i .i64 (idxP (fun x=>x.Req == req) xs 0),[.u,.u]):=mkS_eq (xs.length + 1) rfl rfl (fun cx h=>by
 have hx:=hb
 have hb0:=loopN_eq Tryz.f279 0 _ _ rfl rfl
 obtain ⟨r,hr,hq⟩:=loop_srch (cx:=cx) (blk:=0) (body:=loopN Tryz.f279 0) xs (fun k (s : Nat)=>⟨E [(0,.sl .ro 4 (xs.map (rWaiter .ro))),(1,.fn 280 [.pr [.i .i64 req]]),(7,.i .i64 xs.length),(8,.i .i64 k)],B []⟩) (fun s=>⟨E [],B []⟩) (fun x s=>x.Req == req) (fun x s=>s + 1) (fun x s=>(.ret,⟨E [(4,.i .i64 s)],B []⟩)) (fun k s=>k = s)
   (fun s hI G=>by simp only [go_sem,reduceIte,↓reduceIte,reduceCtorEq,nA,nS,nM,nB,nE,nL,nT,nN,iL,iT,iE,iA,iM,iS,iG,iB,iN,iZ,h,Int.lt_irrefl,hb0,hI]) (fun k hk s hI=>by
    have h1 : ((k : Int) < (xs.length : Int)):=Int.ofNat_lt.2 hk
    obtain rfl:=hI
    exact ⟨_,_,_,fun G=>by simp only [go_sem,reduceIte,↓reduceIte,reduceCtorEq,nA,nS,nM,nB,nE,nL,nT,nN,iL,iT,iE,iA,iM,iS,iG,iB,iN,iZ,h,map_gd (rWaiter .ro) xs _ hk,decide_eq_true_eq,h1,idx_nt _ _ hk,wrap_nat1 (show k < 9223372036854775807 by omega),hb0] <;> with_reducible rfl,by first | exact Iff.rfl | simp,fun hc=>⟨rfl,by simp only [go_sem,reduceIte,↓reduceIte,reduceCtorEq,nA,nS,nM,nB,nE,nL,nT,nN,iL,iT,iE,iA,iM,iS,iG,iB,iN,iZ,h]⟩⟩) 0 rfl (xs.length + 1) (Nat.le_refl _)
 rw [hb0] at hr
 rcases hq with ⟨s',e1,_,e3⟩ | ⟨x,s',e1,e3⟩
 ·simp only [go_sem,reduceIte,↓reduceIte,reduceCtorEq,nA,nS,nM,nB,nE,nL,nT,nN,iL,iT,iE,iA,iM,iS,iG,iB,iN,iZ,h,hr,e3,runS_idx e1]
 ·simp only [go_sem,reduceIte,↓reduceIte,reduceCtorEq,nA,nS,nM,nB,nE,nL,nT,nN,iL,iT,iE,iA,iM,iS,iG,iB,iN,iZ,h,hr,e3,runS_idx' e1]) (rfl)
@[go_sem] theorem e279_186 (xs : List Waiter)  (hb : xs.length ≤ 9223372036854775806) : s279.F [.sl .ro 4 (xs.map (rWaiter .ro)),.fn 186 []] = some (.i .i64 (idxP (fun x=>!isReqW x) xs 0),[.u,.u]):=mkS_eq (xs.length + 1) rfl rfl (fun cx h=>by
 have hx:=hb
 have hb0:=loopN_eq Tryz.f279 0 _ _ rfl rfl
 obtain ⟨r,hr,hq⟩:=loop_srch (cx:=cx) (blk:=0) (body:=loopN Tryz.f279 0) xs (fun k (s : Nat)=>⟨E [(0,.sl .ro 4 (xs.map (rWaiter .ro))),(1,.fn 186 []),(7,.i .i64 xs.length),(8,.i .i64 k)],B []⟩) (fun s=>⟨E [],B []⟩) (fun x s=>!isReqW x) (fun x s=>s + 1) (fun x s=>(.ret,⟨E [(4,.i .i64 s)],B []⟩)) (fun k s=>k = s)
   (fun s hI G=>by simp only [go_sem,reduceIte,↓reduceIte,reduceCtorEq,nA,nS,nM,nB,nE,nL,nT,nN,iL,iT,iE,iA,iM,iS,iG,iB,iN,iZ,h,Int.lt_irrefl,hb0,hI]) (fun k hk s hI=>by
    have h1 : ((k : Int) < (xs.length : Int)):=Int.ofNat_lt.2 hk
    obtain rfl:=hI
    exact ⟨_,_,_,fun G=>by simp only [go_sem,reduceIte,↓reduceIte,reduceCtorEq,nA,nS,nM,nB,nE,nL,nT,nN,iL,iT,iE,iA,iM,iS,iG,iB,iN,iZ,h,map_gd (rWaiter .ro) xs _ hk,decide_eq_true_eq,h1,idx_nt _ _ hk,wrap_nat1 (show k < 9223372036854775807 by omega),hb0] <;> with_reducible rfl,by first | exact Iff.rfl | simp,fun hc=>⟨rfl,by simp only [go_sem,reduceIte,↓reduceIte,reduceCtorEq,nA,nS,nM,nB,nE,nL,nT,nN,iL,iT,iE,iA,iM,iS,iG,iB,iN,iZ,h]⟩⟩) 0 rfl (xs.length + 1) (Nat.le_refl _)
 rw [hb0] at hr
 rcases hq with ⟨s',e1,_,e3⟩ | ⟨x,s',e1,e3⟩
 ·simp only [go_sem,reduceIte,↓reduceIte,reduceCtorEq,nA,nS,nM,nB,nE,nL,nT,nN,iL,iT,iE,iA,iM,iS,iG,iB,iN,iZ,h,hr,e3,runS_idx e1]
 ·simp only [go_sem,reduceIte,↓reduceIte,reduceCtorEq,nA,nS,nM,nB,nE,nL,nT,nN,iL,iT,iE,iA,iM,iS,iG,iB,iN,iZ,h,hr,e3,runS_idx' e1]) (rfl)
def s185 : SP Tryz.prog:=mkS tyA 185 Tryz.f185 [s279] { md:=[.ro 1,.ro 1],rets:=some ([4],[]) } Tryz.func185 (by kernel_rfl)
@[go_sem] theorem d185 : s185.g = 185 ∧ s185.fs = ⟨[.ro 1,.ro 1],s185.F,false⟩:=⟨nr rfl,nr rfl⟩
@[go_sem] theorem e185_280 (xs : List Waiter) (req : Int) (hb : xs.length ≤ 9223372036854775806) : s185.F [.sl .ro 4 (xs.map (rWaiter .ro)),.fn 280 [.pr [.i .i64 req]]] = some (.b (xs.any (fun x=>x.Req == req)),[.u,.u]):=mkS_eq (0) rfl rfl (fun cx h=>by
 simp only [go_sem,reduceIte,↓reduceIte,reduceCtorEq,nA,nS,nM,nB,nE,nL,nT,nN,iL,iT,iE,iA,iM,iS,iG,iB,iN,iZ,h,hb,idxP_any]) (rfl)
@[go_sem] theorem e185_186 (xs : List Waiter)  (hb : xs.length ≤ 9223372036854775806) : s185.F [.sl .ro 4 (xs.map (rWaiter .ro)),.fn 186 []] = some (.b (xs.any (fun x=>!isReqW x)),[.u,.u]):=mkS_eq (0) rfl rfl (fun cx h=>by
 simp only [go_sem,reduceIte,↓reduceIte,reduceCtorEq,nA,nS,nM,nB,nE,nL,nT,nN,iL,iT,iE,iA,iM,iS,iG,iB,iN,iZ,h,hb,idxP_any]) (rfl)
def s188 : SP Tryz.prog:=mkS tyA 188 Tryz.f188 [s185] { md:=[.ro 1,.ro 1],rets:=some ([4],[]),fz:=[3] } Tryz.func188 (by kernel_rfl)
@[go_sem] theorem d188 : s188.g = 188 ∧ s188.fs = ⟨[.ro 1,.ro 1],s188.F,false⟩:=⟨nr rfl,nr rfl⟩
@[go_sem] theorem e188 (fId : Int) (q4 : ByteArray) (q5 q6 : Bool) (q7 : Int) (q8 : Bool) (q9 q10 q11 : ByteArray) (fGetHeaders : List Header) (q12 : List Waiter) (req : Int) (h0 : (Flight.mk fId q4 q5 q6 q7 q8 (Request.mk q9 q10 q11 fGetHeaders) q12).Waiters.length ≤ 9223372036854775806) : s188.F [.agg [.i .i64 fId,.s q4,.b q5,.b q6,.i .i64 q7,.b q8,.s q9,.s q10,.s q11,.sl .ro 2 (fGetHeaders.map (rHeader .ro)),.sl .ro 4 (q12.map (rWaiter .ro))],.i .i64 req] = some (.b ((Flight.mk fId q4 q5 q6 q7 q8 (Request.mk q9 q10 q11 fGetHeaders) q12).Waiters.any fun x=>x.Req == req),[.u,.u]):=mkS_eq (0) rfl rfl (fun cx h=>by
 simp only [go_sem,reduceIte,↓reduceIte,reduceCtorEq,nA,nS,nM,nB,nE,nL,nT,nN,iL,iT,iE,iA,iM,iS,iG,iB,iN,iZ,h,h0]) (rfl)
@[go_sem] theorem e188_0 (fId : Int) (q4 : ByteArray) (q5 q6 : Bool) (q7 : Int) (q8 : Bool) (q9 q10 q11 : ByteArray) (q12 : List Waiter) (req : Int) (h0 : q12.length ≤ 9223372036854775806) : s188.F [.agg [.i .i64 fId,.s q4,.b q5,.b q6,.i .i64 q7,.b q8,.s q9,.s q10,.s q11,.sl .ro 2 [],.sl .ro 4 (q12.map (rWaiter .ro))],.i .i64 req] = some (.b (q12.any fun x=>x.Req == req),[.u,.u]):=e188 fId q4 q5 q6 q7 q8 q9 q10 q11 [] q12 req h0
def s80 : SP Tryz.prog:=mkS tyA 80 Tryz.f80 [s188] { md:=[.ro 1],rg:=[(0,[0],[]),(1,[0,5,6,7],[]),(2,[0,5,6,7,8],[]),(3,[0,3,4,5,6,7],[4]),(4,[0,5,6,7,18],[]),(5,[2],[]),(6,[0,5,6,7],[]),(7,[2],[])],lv:=[(0,[0,5,6,7],[])],out:=[(0,[],[])],rets:=some ([2],[]),plan:=[(4,(.take 0 (.take 1 (.take 2 (.take 3 (.take 4 (.take 5 (.one 6 .done))))))))] } Tryz.func80 (by kernel_rfl)
@[go_sem] theorem d80 : s80.g = 80 ∧ s80.fs = ⟨[.ro 1],s80.F,false⟩:=⟨nr rfl,nr rfl⟩
@[go_sem] theorem e80 (ws : List Waiter) (h0 : ws.length ≤ 9223372036854775806) : s80.F [.sl .ro 4 (ws.map (rWaiter .ro))] = some (.b (tw [] ws),[.u]):=mkS_eq (ws.length + 1) rfl rfl (fun cx h=>by
 have hx:=h0
 have hb0:=loopN_eq Tryz.f80 0 _ _ rfl rfl
 obtain ⟨r,hr,hq⟩:=loop_srch (cx:=cx) (blk:=0) (body:=loopN Tryz.f80 0) ws (fun k (s : List Waiter)=>⟨E [(0,.sl .ro 4 (ws.map (rWaiter .ro))),(5,.sl .ro 4 (ws.map (rWaiter .ro))),(6,.i .i64 ws.length),(7,.i .i64 k)],B []⟩) (fun s=>⟨E [],B []⟩) (fun x s=>s.any fun y=>y.Req == x.Req) (fun x s=>s ++ [x]) (fun x s=>(.ret,⟨E [(2,.b true)],B []⟩)) (fun k s=>s = ws.take k)
   (fun s hI G=>by simp only [go_sem,reduceIte,↓reduceIte,reduceCtorEq,nA,nS,nM,nB,nE,nL,nT,nN,iL,iT,iE,iA,iM,iS,iG,iB,iN,iZ,h,Int.lt_irrefl,hb0,hx]) (fun k hk s hI=>by
    have h1 : ((k : Int) < (ws.length : Int)):=Int.ofNat_lt.2 hk
    have t3 : ws.length ≤ 9223372036854775806:=hx
    have t4 : (ws.map (rWaiter .ro)).take k = (ws.take k).map (rWaiter .ro):=by rw [List.map_take]
    have t5 : (ws.take k).length ≤ 9223372036854775806:=by rw [List.length_take]; omega
    have c1 : (0 : Int) ≤ (k : Int):=by omega
    have c2 : (k : Int) ≤ (ws.length : Int):=by omega
    subst hI
    exact ⟨_,_,_,fun G=>by simp only [go_sem,reduceIte,↓reduceIte,reduceCtorEq,nA,nS,nM,nB,nE,nL,nT,nN,iL,iT,iE,iA,iM,iS,iG,iB,iN,iZ,h,t4,t5,c1,c2,map_gd (rWaiter .ro) ws _ hk,Int.toNat_natCast,List.drop_zero,Nat.sub_zero,h1,idx_nt _ _ hk,wrap_nat1 (show k < 9223372036854775807 by omega),hb0] <;> with_reducible rfl,Iff.rfl,fun hc=>⟨(take_snoc ws k hk).symm,by simp only [go_sem,reduceIte,↓reduceIte,reduceCtorEq,nA,nS,nM,nB,nE,nL,nT,nN,iL,iT,iE,iA,iM,iS,iG,iB,iN,iZ,h]⟩⟩) [] rfl (ws.length + 1) (Nat.le_refl _)
 rw [hb0] at hr
 rcases hq with ⟨s',e1,_,e3⟩ | ⟨x,s',e1,e3⟩
 ·simp only [go_sem,reduceIte,↓reduceIte,reduceCtorEq,nA,nS,nM,nB,nE,nL,nT,nN,iL,iT,iE,iA,iM,iS,iG,iB,iN,iZ,h,hr,e3,tw_inl e1]
 ·simp only [go_sem,reduceIte,↓reduceIte,reduceCtorEq,nA,nS,nM,nB,nE,nL,nT,nN,iL,iT,iE,iA,iM,iS,iG,iB,iN,iZ,h,hr,e3,tw_inr e1]) (rfl)
def s79 : SP Tryz.prog:=mkS tyA 79 Tryz.f79 [s43,s80,s136,s184,s185,s186] { md:=[.ro 1],rg:=[(0,[1],[1]),(1,[1,4],[1]),(2,[2],[]),(3,[1,15],[1]),(4,[2],[]),(5,[1,3],[1]),(6,[1,3,24],[1]),(7,[2],[]),(8,[1,26],[1]),(9,[2],[]),(10,[1,35],[1]),(11,[2],[]),(12,[1,40],[1]),(13,[2],[]),(14,[44],[]),(15,[2],[]),(16,[2],[])],rets:=some ([2],[]) } Tryz.func79 (by kernel_rfl)
@[go_sem] theorem d79 : s79.g = 79 ∧ s79.fs = ⟨[.ro 1],s79.F,false⟩:=⟨nr rfl,nr rfl⟩
@[go_sem] theorem e79 (fId : Int) (q4 : ByteArray) (q5 q6 : Bool) (q7 : Int) (q8 : Bool) (q9 q10 q11 : ByteArray) (fGetHeaders : List Header) (q12 : List Waiter) (h0 : smL smHeader (Flight.mk fId q4 q5 q6 q7 q8 (Request.mk q9 q10 q11 fGetHeaders) q12).Get.Headers) : s79.F [.agg [.i .i64 fId,.s q4,.b q5,.b q6,.i .i64 q7,.b q8,.s q9,.s q10,.s q11,.sl .ro 2 (fGetHeaders.map (rHeader .ro)),.sl .ro 4 (q12.map (rWaiter .ro))]] = some (.i .i64 (flightFault (Flight.mk fId q4 q5 q6 q7 q8 (Request.mk q9 q10 q11 fGetHeaders) q12)),[.u]):=mkS_eq (0) rfl rfl (fun cx h=>by
 have hH : smL smHeader fGetHeaders:=h0
 cases t1 : isTime fId
 ·simp only [go_sem,reduceIte,↓reduceIte,reduceCtorEq,nA,nS,nM,nB,nE,nL,nT,nN,iL,iT,iE,iA,iM,iS,iG,iB,iN,iZ,h,t1,flightFault]
 cases t2 : isTime q7
 ·simp only [go_sem,reduceIte,↓reduceIte,reduceCtorEq,nA,nS,nM,nB,nE,nL,nT,nN,iL,iT,iE,iA,iM,iS,iG,iB,iN,iZ,h,t1,t2,flightFault]
 cases hk : isKey q4
 ·simp only [go_sem,reduceIte,↓reduceIte,reduceCtorEq,nA,nS,nM,nB,nE,nL,nT,nN,iL,iT,iE,iA,iM,iS,iG,iB,iN,iZ,h,t1,t2,hk,flightFault]
 by_cases z : requestFault (Request.mk q9 q10 q11 fGetHeaders) = 0
 rotate_left
 ·have z' : (requestFault (Request.mk q9 q10 q11 fGetHeaders) != 0) = true:=by simpa using z
  simp only [go_sem,reduceIte,↓reduceIte,reduceCtorEq,nA,nS,nM,nB,nE,nL,nT,nN,iL,iT,iE,iA,iM,iS,iG,iB,iN,iZ,h,t1,t2,hk,hH,z',flightFault]
 rcases (show (q6 = true ∧ True) ∨ (q6 = false ∧ (q7 != 0) = false) ∨ (q6 = false ∧ (q7 != 0) = true) from by cases q6 <;> cases (q7 != 0) <;> simp) with ⟨o1,o2⟩ | ⟨o1,o2⟩ | ⟨o1,o2⟩
 rotate_left
 rotate_left
 ·simp only [go_sem,reduceIte,↓reduceIte,reduceCtorEq,nA,nS,nM,nB,nE,nL,nT,nN,iL,iT,iE,iA,iM,iS,iG,iB,iN,iZ,h,t1,t2,hk,hH,z,o1,o2,flightFault]
 all_goals
  by_cases w1 : 10 < (q12.length : Int)
  ·simp only [go_sem,reduceIte,↓reduceIte,reduceCtorEq,nA,nS,nM,nB,nE,nL,nT,nN,iL,iT,iE,iA,iM,iS,iG,iB,iN,iZ,h,t1,t2,hk,hH,z,o1,o2,w1,flightFault]
  have hx : q12.length ≤ 9223372036854775806:=by omega
  cases w2 : (q12.any fun x=>!isReqW x)
  ·cases w3 : tw [] q12 <;> simp only [go_sem,reduceIte,↓reduceIte,reduceCtorEq,nA,nS,nM,nB,nE,nL,nT,nN,iL,iT,iE,iA,iM,iS,iG,iB,iN,iZ,h,t1,t2,hk,hH,z,o1,o2,w1,w2,w3,hx,flightFault]
  ·simp only [go_sem,reduceIte,↓reduceIte,reduceCtorEq,nA,nS,nM,nB,nE,nL,nT,nN,iL,iT,iE,iA,iM,iS,iG,iB,iN,iZ,h,t1,t2,hk,hH,z,o1,o2,w1,w2,hx,flightFault]) (rfl)
def s16 : SP Tryz.prog:=mkS tyA 16 Tryz.f16 [s73,s79,s80] { md:=[.ro 1],rg:=[(0,[0],[]),(1,[0,13],[]),(2,[2],[]),(3,[0,14,15,16],[]),(4,[0,14,15,16,17],[]),(5,[0,4,14,15,16],[4]),(6,[0,5,14,15,16],[]),(7,[0,5,14,15,16,23],[]),(8,[2],[]),(9,[0,14,15,16],[]),(10,[0,6],[]),(11,[0,6,27,28,29],[]),(12,[0,6,27,28,29,30],[]),(13,[0,6,7,8,27,28,29],[8]),(14,[0,6,8,27,28,29,46],[8]),(15,[2],[]),(16,[0,6,27,28,29],[]),(17,[0,6,27,28,29],[]),(18,[0,6,52,53,54],[]),(19,[0,6,52,53,54,55],[]),(20,[0,6,9,10,52,53,54],[10]),(21,[0,6,52,53,54,65],[]),(22,[2],[]),(23,[0,6,52,53,54],[]),(24,[68],[]),(25,[2],[]),(26,[2],[])],lv:=[(0,[0,14,15,16],[]),(2,[0,6,27,28,29],[]),(4,[0,6,52,53,54],[])],out:=[(0,[0],[]),(2,[0,6],[]),(4,[6],[])],rets:=some ([2],[]),plan:=[(14,(.take 0 (.take 1 (.take 2 (.take 3 (.take 4 (.take 5 (.take 6 (.take 7 (.take 8 (.take 9 (.take 10 (.take 11 (.take 12 .done)))))))))))))),(21,(.take 0 (.take 1 (.take 2 (.take 3 (.take 4 (.one 5 (.take 6 .done))))))))] } Tryz.func16 (by kernel_rfl)
@[go_sem] theorem d16 : s16.g = 16 ∧ s16.fs = ⟨[.ro 1],s16.F,false⟩:=⟨nr rfl,nr rfl⟩
@[go_sem] theorem e16 (fs : List Flight) (h0 : smL smFlight fs) : s16.F [.sl .ro 11 (fs.map (rFlight .ro))] = some (.i .i64 (flightsFault fs),[.u]):=mkS_eq (fs.length + 1) rfl rfl (fun cx h=>by
 by_cases h1 : 24 < (fs.length : Int)
 ·simp only [go_sem,reduceIte,↓reduceIte,reduceCtorEq,nA,nS,nM,nB,nE,nL,nT,nN,iL,iT,iE,iA,iM,iS,iG,iB,iN,iZ,h,flightsFault,h1]
 have hx : fs.length ≤ 9223372036854775806:=by omega
 have hb0:=loopN_eq Tryz.f16 0 _ _ rfl rfl
 obtain ⟨z0,hz0,hqz0⟩:=loop_srch (cx:=cx) (blk:=0) (body:=loopN Tryz.f16 0) fs (fun k (s : Unit)=>⟨E [(0,.sl .ro 11 (fs.map (rFlight .ro))),(14,.sl .ro 11 (fs.map (rFlight .ro))),(15,.i .i64 fs.length),(16,.i .i64 k)],B []⟩) (fun s=>⟨E [(0,.sl .ro 11 (fs.map (rFlight .ro)))],B []⟩) (fun x s=>flightFault x != 0) (fun x s=>()) (fun x s=>(.ret,⟨E [(2,.i .i64 (flightFault x))],B []⟩)) (fun k s=>True)
   (fun s hI G=>by simp only [go_sem,reduceIte,↓reduceIte,reduceCtorEq,nA,nS,nM,nB,nE,nL,nT,nN,iL,iT,iE,iA,iM,iS,iG,iB,iN,iZ,h,Int.lt_irrefl,hb0,hx]) (fun k hk s hI=>by
    have h1 : ((k : Int) < (fs.length : Int)):=Int.ofNat_lt.2 hk
    have hs:=h0.2 _ (List.getElem_mem hk)
    obtain ⟨u0,u1,u2,u3,u4,u5,u6,u7⟩:=hs
    have hH : smL smHeader fs[k].Get.Headers:=u6.2.2.2
    all_goals exact ⟨_,_,_,fun G=>by simp only [go_sem,reduceIte,↓reduceIte,reduceCtorEq,nA,nS,nM,nB,nE,nL,nT,nN,iL,iT,iE,iA,iM,iS,iG,iB,iN,iZ,h,map_gd (rFlight .ro) fs _ hk,hH,h1,idx_nt _ _ hk,wrap_nat1 (show k < 9223372036854775807 by omega),hb0] <;> with_reducible rfl,Iff.rfl,fun hc=>⟨trivial,by simp only [go_sem,reduceIte,↓reduceIte,reduceCtorEq,nA,nS,nM,nB,nE,nL,nT,nN,iL,iT,iE,iA,iM,iS,iG,iB,iN,iZ,h]⟩⟩) () trivial (fs.length + 1) (Nat.le_refl _)
 rw [hb0] at hz0
 rcases hqz0 with ⟨s0,e1,_,e3⟩ | ⟨x,s0,e1,e3⟩
 rotate_left
 ·have e2:=firstI_inr e1
  have e4 : (flightFault x != 0) = true:=runS_hit e1
  simp only [go_sem,reduceIte,↓reduceIte,reduceCtorEq,nA,nS,nM,nB,nE,nL,nT,nN,iL,iT,iE,iA,iM,iS,iG,iB,iN,iZ,h,hz0,e3,e2,e4,flightsFault,h1]
 have e2:=firstI_inl e1
 have hall : ∀ x ∈ fs,x.Waiters.length ≤ 10:=fun x hx=>flightFault_ok (runS_zero e1 x hx)
 have hb1:=loopN_eq Tryz.f16 1 _ _ rfl rfl
 obtain ⟨z1,hz1,hqz1⟩:=loop_srch (cx:=cx) (blk:=2) (body:=loopN Tryz.f16 1) fs (fun k (s : Option Int)=>⟨E [(0,.sl .ro 11 (fs.map (rFlight .ro))),(6,.sl .mut 4 ((allW (fs.take k)).map (rWaiter .ro))),(27,.sl .ro 11 (fs.map (rFlight .ro))),(28,.i .i64 fs.length),(29,.i .i64 k)],B []⟩) (fun s=>⟨E [(0,.sl .ro 11 (fs.map (rFlight .ro))),(6,.sl .mut 4 ((allW (fs.take (fs.length))).map (rWaiter .ro)))],B []⟩) (fun x s=>leO x s) (fun x s=>some x.Id) (fun x s=>(.ret,⟨E [(2,.i .i64 1)],B []⟩)) (fun k s=>((k = 0 ∧ s = none) ∨ ∃ m,∃ (hm : m < fs.length),k = m + 1 ∧ s = some fs[m].Id))
   (fun s hI G=>by simp only [go_sem,reduceIte,↓reduceIte,reduceCtorEq,nA,nS,nM,nB,nE,nL,nT,nN,iL,iT,iE,iA,iM,iS,iG,iB,iN,iZ,h,Int.lt_irrefl,hb1,hx,List.take_length]) (fun k hk s hI=>by
    have h1 : ((k : Int) < (fs.length : Int)):=Int.ofNat_lt.2 hk
    have hJ : (k = 0 ∧ s = none) ∨ ∃ m,∃ (hm : m < fs.length),k = m + 1 ∧ s = some fs[m].Id:=hI
    have hw : fs[k].Waiters.length ≤ 10:=hall _ (List.getElem_mem hk)
    have hl2 : (allW (fs.take k)).length ≤ 10 * k:=by
     have:=allW_len (fs:=fs.take k) (fun x hx=>hall x (List.mem_of_mem_take hx))
     rw [List.length_take] at this
     omega
    have p1:=wrow_plain fs[k].Waiters
    have p2 : (allW (fs.take k)).map (rWaiter .ro) ++ fs[k].Waiters.map (rWaiter .ro) = (allW (fs.take (k + 1))).map (rWaiter .ro):=by rw [allW_snoc fs k hk,List.map_append]
    have p3 : ((allW (fs.take k)).length + fs[k].Waiters.length) * 32 ≤ 140737488355328:=by omega
    have p4 : (fs[k].Waiters.map (rWaiter .ro)).take fs[k].Waiters.length = fs[k].Waiters.map (rWaiter .ro):=List.take_of_length_le (by simp)
    rcases hJ with ⟨e0,hs⟩ | ⟨m,hm,e0,hs⟩
    ·have c1 : ¬ (0 : Int) < (k : Int):=by omega
     have c2 : leO fs[k] s = false:=by rw [hs]; rfl
     have c3:=trivial
     have c4:=trivial
     have c5:=trivial
     exact ⟨False,inferInstance,_,fun G=>by rw [if_neg (fun h=>h)]; simp only [go_sem,reduceIte,↓reduceIte,reduceCtorEq,nA,nS,nM,nB,nE,nL,nT,nN,iL,iT,iE,iA,iM,iS,iG,iB,iN,iZ,h,map_gd (rFlight .ro) fs _ hk,p1,p2,p3,p4,c1,c3,c4,c5,List.length_map,List.length_append,h1,idx_nt _ _ hk,wrap_nat1 (show k < 9223372036854775807 by omega),hb1] <;> with_reducible rfl,(show False ↔ _ from by rw [c2]; simp),fun hc=>⟨(.inr ⟨k,hk,rfl,rfl⟩),by simp only [go_sem,reduceIte,↓reduceIte,reduceCtorEq,nA,nS,nM,nB,nE,nL,nT,nN,iL,iT,iE,iA,iM,iS,iG,iB,iN,iZ,h,p2]⟩⟩
    ·subst e0
     have c1 : (0 : Int) < ((m + 1 : Nat) : Int):=by omega
     have c3 : (IntKind.i64).wrap (((m + 1 : Nat) : Int) - 1) = (m : Int):=by rw [wrap_id (by omega) (by omega)]; omega
     have c4:=idx_nt fs.length m hm
     have c5:=map_gd (rFlight .ro) fs m hm
     have c2 : leO fs[m + 1] s = decide (fs[m + 1].Id ≤ fs[m].Id):=by rw [hs]; rfl
     exact ⟨_,_,_,fun G=>by simp only [go_sem,reduceIte,↓reduceIte,reduceCtorEq,nA,nS,nM,nB,nE,nL,nT,nN,iL,iT,iE,iA,iM,iS,iG,iB,iN,iZ,h,map_gd (rFlight .ro) fs _ hk,p1,p2,p3,p4,c1,c3,c4,c5,List.length_map,List.length_append,h1,idx_nt _ _ hk,wrap_nat1 (show m + 1 < 9223372036854775807 by omega),hb1] <;> with_reducible rfl,(by rw [c2,decide_eq_true_eq]),fun hc=>⟨(.inr ⟨m + 1,hk,rfl,rfl⟩),by simp only [go_sem,reduceIte,↓reduceIte,reduceCtorEq,nA,nS,nM,nB,nE,nL,nT,nN,iL,iT,iE,iA,iM,iS,iG,iB,iN,iZ,h,p2]⟩⟩) none (.inl ⟨rfl,rfl⟩) (fs.length + 1) (Nat.le_refl _)
 rw [hb1] at hz1
 have hT : allW (fs.take 0) = []:=rfl
 simp only [hT,List.map_nil] at hz1
 rcases hqz1 with ⟨s1,g1,_,g3⟩ | ⟨x,s1,g1,g3⟩
 rotate_left
 ·have g2:=unsO_inr g1
  rw [unsO_none] at g2
  simp only [go_sem,reduceIte,↓reduceIte,reduceCtorEq,nA,nS,nM,nB,nE,nL,nT,nN,iL,iT,iE,iA,iM,iS,iG,iB,iN,iZ,h,hz0,e3,e2,hz1,g3,g2,flightsFault,h1]
 have g2:=unsO_inl g1
 rw [unsO_none] at g2
 have hb2:=loopN_eq Tryz.f16 2 _ _ rfl rfl
 obtain ⟨z2,hz2,hqz2⟩:=loop_srch (cx:=cx) (blk:=4) (body:=loopN Tryz.f16 2) fs (fun k (s : List Flight)=>⟨E [(0,.sl .ro 11 (fs.map (rFlight .ro))),(6,.sl .mut 4 ((allW fs).map (rWaiter .ro))),(52,.sl .ro 11 (fs.map (rFlight .ro))),(53,.i .i64 fs.length),(54,.i .i64 k)],B []⟩) (fun s=>⟨E [(6,.sl .mut 4 ((allW fs).map (rWaiter .ro)))],B []⟩) (fun x s=>s.any fun y=>sameKey y x) (fun x s=>s ++ [x]) (fun x s=>(.ret,⟨E [(2,.i .i64 6)],B []⟩)) (fun k s=>s = fs.take k)
   (fun s hI G=>by simp only [go_sem,reduceIte,↓reduceIte,reduceCtorEq,nA,nS,nM,nB,nE,nL,nT,nN,iL,iT,iE,iA,iM,iS,iG,iB,iN,iZ,h,Int.lt_irrefl,hb2,hx]) (fun k hk s hI=>by
    have h1 : ((k : Int) < (fs.length : Int)):=Int.ofNat_lt.2 hk
    have t3 : fs.length ≤ 9223372036854775806:=hx
    have t4 : (fs.map (rFlight .ro)).take k = (fs.take k).map (rFlight .ro):=by rw [List.map_take]
    have t5 : (fs.take k).length ≤ 9223372036854775806:=by rw [List.length_take]; omega
    have c1 : (0 : Int) ≤ (k : Int):=by omega
    have c2 : (k : Int) ≤ (fs.length : Int):=by omega
    have c3 : ((fs.take k).any fun y=>sameKey y fs[k]) = (fs.take k).any fun x=>eqv x.Key fs[k].Key:=rfl
    subst hI
    exact ⟨_,_,_,fun G=>by simp only [go_sem,reduceIte,↓reduceIte,reduceCtorEq,nA,nS,nM,nB,nE,nL,nT,nN,iL,iT,iE,iA,iM,iS,iG,iB,iN,iZ,h,t4,t5,c1,c2,map_gd (rFlight .ro) fs _ hk,Int.toNat_natCast,List.drop_zero,Nat.sub_zero,idxP_any,h1,idx_nt _ _ hk,wrap_nat1 (show k < 9223372036854775807 by omega),hb2] <;> with_reducible rfl,by rw [c3],fun hc=>⟨(take_snoc fs k hk).symm,by simp only [go_sem,reduceIte,↓reduceIte,reduceCtorEq,nA,nS,nM,nB,nE,nL,nT,nN,iL,iT,iE,iA,iM,iS,iG,iB,iN,iZ,h]⟩⟩) [] rfl (fs.length + 1) (Nat.le_refl _)
 rw [hb2] at hz2
 have hal : (allW fs).length ≤ 9223372036854775806:=by have:=allW_len hall; omega
 rcases hqz2 with ⟨s2,k1,_,k3⟩ | ⟨x,s2,k1,k3⟩
 ·have k2:=dup_inl k1
  cases k4 : tw [] (allW fs) <;> simp only [go_sem,reduceIte,↓reduceIte,reduceCtorEq,nA,nS,nM,nB,nE,nL,nT,nN,iL,iT,iE,iA,iM,iS,iG,iB,iN,iZ,h,hz0,e3,e2,hz1,g3,g2,hz2,k3,k2,k4,hal,List.take_length,flightsFault,h1]
 ·have k2:=dup_inr k1
  simp only [go_sem,reduceIte,↓reduceIte,reduceCtorEq,nA,nS,nM,nB,nE,nL,nT,nN,iL,iT,iE,iA,iM,iS,iG,iB,iN,iZ,h,hz0,e3,e2,hz1,g3,g2,hz2,k3,k2,List.take_length,flightsFault,h1]) (rfl)
end
end Go.Vm.A
