/- Functions of the program, walked by the evaluator. -/
import Derived.Test.YtnbhkifknleipaaGreatDoorWb
import Derived.Test.YtnbhkifknleipaaGreatDoorWa
import Derived.Test.YtnbhkifknleipaaGreatDoorFb
import Derived.Test.YtnbhkifknleipaaGreatDoorFc
import Derived.Test.YtnbhkifknleipaaGreatDoorFe
import Derived.Test.YtnbhkifknleipaaGreatDoorFf
import Derived.Test.YtnbhkifknleipaaGreatDoorFg
import Derived.Test.YtnbhkifknleipaaGreatDoorFk
set_option linter.unusedVariables false
set_option linter.unusedSimpArgs false
set_option autoImplicit false
set_option maxRecDepth 100000
set_option maxHeartbeats 4000000
namespace Go.Vm.A
open Go.Proofs
open Nat renaming reduceAdd → nA, reduceSub → nS, reduceMul → nM, reduceBEq → nB, reduceEqDiff → nE, reduceLeDiff → nL, reduceLT → nT, reduceBneDiff → nN
open Int renaming reduceLE → iL, reduceLT → iT, reduceEq → iE, reduceAdd → iA, reduceMul → iM, reduceSub → iS, reduceNeg → iG, reduceBEq → iB, reduceBNe → iN, reduceToNat → iZ
noncomputable section
def s322 : SP Tryz.prog:=mkS tyA 322 Tryz.f322 [] { md:=[.ro 1,.ro 1],rets:=some ([3],[]) } Tryz.func322 (by kernel_rfl)
@[go_sem] theorem d322 : s322.g = 322 ∧ s322.fs = ⟨[.ro 1,.ro 1],s322.F,false⟩:=⟨nr rfl,nr rfl⟩
@[go_sem] theorem e322 (wId j0 id : Int) : s322.F [.agg [.i .i64 wId,.i .i64 j0],.pr [.i .i64 id]] = some (.b ((Wait.mk wId j0).Id == id),[.u,.u]):=mkS_eq (0) rfl rfl (fun cx h=>by
 simp only [go_sem,reduceIte,↓reduceIte,reduceCtorEq,nA,nS,nM,nB,nE,nL,nT,nN,iL,iT,iE,iA,iM,iS,iG,iB,iN,iZ,h]) (rfl)
def s317 : SP Tryz.prog:=mkS tyA 317 Tryz.f317 [s136] { md:=[.ro 1],rets:=some ([2],[]) } Tryz.func317 (by kernel_rfl)
@[go_sem] theorem d317 : s317.g = 317 ∧ s317.fs = ⟨[.ro 1],s317.F,false⟩:=⟨nr rfl,nr rfl⟩
@[go_sem] theorem e317 (wId j0 : Int) : s317.F [.agg [.i .i64 wId,.i .i64 j0]] = some (.b (!(isTime (Wait.mk wId j0).Id && isTime (Wait.mk wId j0).Due)),[.u]):=mkS_eq (0) rfl rfl (fun cx h=>by
 cases h1 : isTime wId <;> cases h2 : isTime j0 <;> simp only [go_sem,reduceIte,↓reduceIte,reduceCtorEq,nA,nS,nM,nB,nE,nL,nT,nN,iL,iT,iE,iA,iM,iS,iG,iB,iN,iZ,h,h1,h2]) (rfl)
def s321 : SP Tryz.prog:=mkS tyA 321 Tryz.f321 [s317,s322] { md:=[.ro 1,.ro 1],rg:=[(0,[0,1],[]),(1,[0,1,7,8],[]),(2,[0,1,7,8,9],[]),(3,[0,1,5,7,8],[]),(4,[0,1,5,7,8,16],[]),(5,[4],[]),(6,[0,1,7,8],[]),(7,[4],[])],lv:=[(0,[0,1,7,8],[])],out:=[(0,[],[])],rets:=some ([4],[]) } Tryz.func321 (by kernel_rfl)
@[go_sem] theorem d321 : s321.g = 321 ∧ s321.fs = ⟨[.ro 1,.ro 1],s321.F,false⟩:=⟨nr rfl,nr rfl⟩
@[go_sem] theorem e321_322 (xs : List Wait) (id : Int) (hb : xs.length ≤ 9223372036854775806) : s321.F [.sl .ro 2 (xs.map (rWait .ro)),.fn 322 [.pr [.i .i64 id]]] = some (.i .i64 (idxP (fun x=>x.Id == id) xs 0),[.u,.u]):=mkS_eq (xs.length + 1) rfl rfl (fun cx h=>by
 have hx:=hb
 have hb0:=loopN_eq Tryz.f321 0 _ _ rfl rfl
 obtain ⟨r,hr,hq⟩:=loop_srch (cx:=cx) (blk:=0) (body:=loopN Tryz.f321 0) xs (fun k (s : Nat)=>⟨E [(0,.sl .ro 2 (xs.map (rWait .ro))),(1,.fn 322 [.pr [.i .i64 id]]),(7,.i .i64 xs.length),(8,.i .i64 k)],B []⟩) (fun s=>⟨E [],B []⟩) (fun x s=>x.Id == id) (fun x s=>s + 1) (fun x s=>(.ret,⟨E [(4,.i .i64 s)],B []⟩)) (fun k s=>k = s)
   (fun s hI G=>by simp only [go_sem,reduceIte,↓reduceIte,reduceCtorEq,nA,nS,nM,nB,nE,nL,nT,nN,iL,iT,iE,iA,iM,iS,iG,iB,iN,iZ,h,Int.lt_irrefl,hb0,hI]) (fun k hk s hI=>by
    have h1 : ((k : Int) < (xs.length : Int)):=Int.ofNat_lt.2 hk
    obtain rfl:=hI
    exact ⟨_,_,_,fun G=>by simp only [go_sem,reduceIte,↓reduceIte,reduceCtorEq,nA,nS,nM,nB,nE,nL,nT,nN,iL,iT,iE,iA,iM,iS,iG,iB,iN,iZ,h,map_gd (rWait .ro) xs _ hk,decide_eq_true_eq,h1,idx_nt _ _ hk,wrap_nat1 (show k < 9223372036854775807 by omega),hb0] <;> with_reducible rfl,by first | exact Iff.rfl | simp,fun hc=>⟨rfl,by simp only [go_sem,reduceIte,↓reduceIte,reduceCtorEq,nA,nS,nM,nB,nE,nL,nT,nN,iL,iT,iE,iA,iM,iS,iG,iB,iN,iZ,h]⟩⟩) 0 rfl (xs.length + 1) (Nat.le_refl _)
 rw [hb0] at hr
 rcases hq with ⟨s',e1,_,e3⟩ | ⟨x,s',e1,e3⟩
 ·simp only [go_sem,reduceIte,↓reduceIte,reduceCtorEq,nA,nS,nM,nB,nE,nL,nT,nN,iL,iT,iE,iA,iM,iS,iG,iB,iN,iZ,h,hr,e3,runS_idx e1]
 ·simp only [go_sem,reduceIte,↓reduceIte,reduceCtorEq,nA,nS,nM,nB,nE,nL,nT,nN,iL,iT,iE,iA,iM,iS,iG,iB,iN,iZ,h,hr,e3,runS_idx' e1]) (rfl)
@[go_sem] theorem e321_317 (xs : List Wait)  (hb : xs.length ≤ 9223372036854775806) : s321.F [.sl .ro 2 (xs.map (rWait .ro)),.fn 317 []] = some (.i .i64 (idxP (fun x=>!(isTime x.Id && isTime x.Due)) xs 0),[.u,.u]):=mkS_eq (xs.length + 1) rfl rfl (fun cx h=>by
 have hx:=hb
 have hb0:=loopN_eq Tryz.f321 0 _ _ rfl rfl
 obtain ⟨r,hr,hq⟩:=loop_srch (cx:=cx) (blk:=0) (body:=loopN Tryz.f321 0) xs (fun k (s : Nat)=>⟨E [(0,.sl .ro 2 (xs.map (rWait .ro))),(1,.fn 317 []),(7,.i .i64 xs.length),(8,.i .i64 k)],B []⟩) (fun s=>⟨E [],B []⟩) (fun x s=>!(isTime x.Id && isTime x.Due)) (fun x s=>s + 1) (fun x s=>(.ret,⟨E [(4,.i .i64 s)],B []⟩)) (fun k s=>k = s)
   (fun s hI G=>by simp only [go_sem,reduceIte,↓reduceIte,reduceCtorEq,nA,nS,nM,nB,nE,nL,nT,nN,iL,iT,iE,iA,iM,iS,iG,iB,iN,iZ,h,Int.lt_irrefl,hb0,hI]) (fun k hk s hI=>by
    have h1 : ((k : Int) < (xs.length : Int)):=Int.ofNat_lt.2 hk
    obtain rfl:=hI
    exact ⟨_,_,_,fun G=>by simp only [go_sem,reduceIte,↓reduceIte,reduceCtorEq,nA,nS,nM,nB,nE,nL,nT,nN,iL,iT,iE,iA,iM,iS,iG,iB,iN,iZ,h,map_gd (rWait .ro) xs _ hk,decide_eq_true_eq,h1,idx_nt _ _ hk,wrap_nat1 (show k < 9223372036854775807 by omega),hb0] <;> with_reducible rfl,by first | exact Iff.rfl | simp,fun hc=>⟨rfl,by simp only [go_sem,reduceIte,↓reduceIte,reduceCtorEq,nA,nS,nM,nB,nE,nL,nT,nN,iL,iT,iE,iA,iM,iS,iG,iB,iN,iZ,h]⟩⟩) 0 rfl (xs.length + 1) (Nat.le_refl _)
 rw [hb0] at hr
 rcases hq with ⟨s',e1,_,e3⟩ | ⟨x,s',e1,e3⟩
 ·simp only [go_sem,reduceIte,↓reduceIte,reduceCtorEq,nA,nS,nM,nB,nE,nL,nT,nN,iL,iT,iE,iA,iM,iS,iG,iB,iN,iZ,h,hr,e3,runS_idx e1]
 ·simp only [go_sem,reduceIte,↓reduceIte,reduceCtorEq,nA,nS,nM,nB,nE,nL,nT,nN,iL,iT,iE,iA,iM,iS,iG,iB,iN,iZ,h,hr,e3,runS_idx' e1]) (rfl)
def s246 : SP Tryz.prog:=mkS tyA 246 Tryz.f246 [s321] { md:=[.ro 1,.ro 1],rets:=some ([4],[]),fz:=[3] } Tryz.func246 (by kernel_rfl)
@[go_sem] theorem d246 : s246.g = 246 ∧ s246.fs = ⟨[.ro 1,.ro 1],s246.F,false⟩:=⟨nr rfl,nr rfl⟩
@[go_sem] theorem e246 (j1 : Int) (j2 : List Wait) (id : Int) (h0 : (Bulk.mk j1 j2).Queue.length ≤ 9223372036854775806) : s246.F [.agg [.i .i64 j1,.sl .ro 2 (j2.map (rWait .ro))],.i .i64 id] = some (.i .i64 (waitsB (Bulk.mk j1 j2) id),[.u,.u]):=mkS_eq (0) rfl rfl (fun cx h=>by
 simp only [go_sem,reduceIte,↓reduceIte,reduceCtorEq,nA,nS,nM,nB,nE,nL,nT,nN,iL,iT,iE,iA,iM,iS,iG,iB,iN,iZ,h,h0,waitsB]) (rfl)
def s316 : SP Tryz.prog:=mkS tyA 316 Tryz.f316 [s321] { md:=[.ro 1,.ro 1],rets:=some ([4],[]) } Tryz.func316 (by kernel_rfl)
@[go_sem] theorem d316 : s316.g = 316 ∧ s316.fs = ⟨[.ro 1,.ro 1],s316.F,false⟩:=⟨nr rfl,nr rfl⟩
@[go_sem] theorem e316_322 (xs : List Wait) (id : Int) (hb : xs.length ≤ 9223372036854775806) : s316.F [.sl .ro 2 (xs.map (rWait .ro)),.fn 322 [.pr [.i .i64 id]]] = some (.b (xs.any (fun x=>x.Id == id)),[.u,.u]):=mkS_eq (0) rfl rfl (fun cx h=>by
 simp only [go_sem,reduceIte,↓reduceIte,reduceCtorEq,nA,nS,nM,nB,nE,nL,nT,nN,iL,iT,iE,iA,iM,iS,iG,iB,iN,iZ,h,hb,idxP_any]) (rfl)
@[go_sem] theorem e316_317 (xs : List Wait)  (hb : xs.length ≤ 9223372036854775806) : s316.F [.sl .ro 2 (xs.map (rWait .ro)),.fn 317 []] = some (.b (xs.any (fun x=>!(isTime x.Id && isTime x.Due))),[.u,.u]):=mkS_eq (0) rfl rfl (fun cx h=>by
 simp only [go_sem,reduceIte,↓reduceIte,reduceCtorEq,nA,nS,nM,nB,nE,nL,nT,nN,iL,iT,iE,iA,iM,iS,iG,iB,iN,iZ,h,hb,idxP_any]) (rfl)
def s240 : SP Tryz.prog:=mkS tyA 240 Tryz.f240 [s115,s140,s246,s316,s317] { md:=[.ro 1,.ro 1],rg:=[(0,[2,3],[2,3]),(1,[2,3,5],[2,3]),(2,[2,3,5,11],[2,3]),(3,[4],[]),(4,[2,3,13],[2,3]),(5,[4],[]),(6,[2,20],[2]),(7,[4],[]),(8,[2,27],[2]),(9,[4],[]),(10,[2,32,33,34],[2]),(11,[2,32,33,34,35],[2]),(12,[2,6,7,32,33,34],[2,7]),(13,[2,32,33,34,44],[2]),(14,[4],[]),(15,[2,32,33,34],[2]),(16,[4],[])],lv:=[(1,[2,32,33,34],[2])],out:=[(1,[],[])],rets:=some ([4],[]) } Tryz.func240 (by kernel_rfl)
@[go_sem] theorem d240 : s240.g = 240 ∧ s240.fs = ⟨[.ro 1,.ro 1],s240.F,false⟩:=⟨nr rfl,nr rfl⟩
@[go_sem] theorem e240 (j1 : Int) (j2 : List Wait) (j3 j4 j5 : Int) : s240.F [.agg [.i .i64 j1,.sl .ro 2 (j2.map (rWait .ro))],.agg [.i .i64 j3,.i .i64 j4,.i .i64 j5]] = some (.i .i64 (bulkFault (Bulk.mk j1 j2) (Lanes.mk j3 j4 j5)),[.u,.u]):=mkS_eq (j2.length + 1) rfl rfl (fun cx h=>by
 by_cases z : lanesFault (Lanes.mk j3 j4 j5) = 0
 rotate_left
 ·have z' : (lanesFault (Lanes.mk j3 j4 j5) != 0) = true:=by simpa using z
  simp only [go_sem,reduceIte,↓reduceIte,reduceCtorEq,nA,nS,nM,nB,nE,nL,nT,nN,iL,iT,iE,iA,iM,iS,iG,iB,iN,iZ,h,z',bulkFault]
 have hl:=lanesFault_ok z
 simp only at hl
 cases b1 : within j1 0 j3
 ·simp only [go_sem,reduceIte,↓reduceIte,reduceCtorEq,nA,nS,nM,nB,nE,nL,nT,nN,iL,iT,iE,iA,iM,iS,iG,iB,iN,iZ,h,z,b1,bulkFault]
 by_cases b2 : j4 < (j2.length : Int)
 ·simp only [go_sem,reduceIte,↓reduceIte,reduceCtorEq,nA,nS,nM,nB,nE,nL,nT,nN,iL,iT,iE,iA,iM,iS,iG,iB,iN,iZ,h,z,b1,b2,bulkFault]
 have hx : j2.length ≤ 9223372036854775806:=by omega
 cases b3 : (j2.any fun x=>!(isTime x.Id && isTime x.Due))
 rotate_left
 ·simp only [go_sem,reduceIte,↓reduceIte,reduceCtorEq,nA,nS,nM,nB,nE,nL,nT,nN,iL,iT,iE,iA,iM,iS,iG,iB,iN,iZ,h,z,b1,b2,b3,hx,bulkFault]
 have hb0:=loopN_eq Tryz.f240 0 _ _ rfl rfl
 obtain ⟨q,hq,hqq⟩:=loop_srch (cx:=cx) (blk:=1) (body:=loopN Tryz.f240 0) j2 (fun k (s : List Wait)=>⟨E [(2,.p ⟨false,2,[],0⟩),(32,.sl .ro 2 (j2.map (rWait .ro))),(33,.i .i64 j2.length),(34,.i .i64 k)],B [(2,[.i .i64 j1,.sl .ro 2 (j2.map (rWait .ro))])]⟩) (fun s=>⟨E [],B []⟩) (fun x s=>s.any fun y=>sameW y x) (fun x s=>s ++ [x]) (fun x s=>(.ret,⟨E [(4,.i .i64 6)],B []⟩)) (fun k s=>s = j2.take k)
   (fun s hI G=>by simp only [go_sem,reduceIte,↓reduceIte,reduceCtorEq,nA,nS,nM,nB,nE,nL,nT,nN,iL,iT,iE,iA,iM,iS,iG,iB,iN,iZ,h,Int.lt_irrefl,hb0,hx]) (fun k hk s hI=>by
    have h1 : ((k : Int) < (j2.length : Int)):=Int.ofNat_lt.2 hk
    have hit:=idxP_take0 (fun x : Wait=>x.Id == j2[k].Id) j2 k hk (by simp)
    have hwu : waitsB (Bulk.mk j1 j2) j2[k].Id = idxP (fun x : Wait=>x.Id == j2[k].Id) j2 0:=rfl
    have c3 : ((j2.take k).any fun y=>sameW y j2[k]) = (j2.take k).any fun x=>x.Id == j2[k].Id:=rfl
    subst hI
    exact ⟨_,_,_,fun G=>by simp only [go_sem,reduceIte,↓reduceIte,reduceCtorEq,nA,nS,nM,nB,nE,nL,nT,nN,iL,iT,iE,iA,iM,iS,iG,iB,iN,iZ,h,map_gd (rWait .ro) j2 k hk,hx,hwu,hit,h1,idx_nt _ _ hk,wrap_nat1 (show k < 9223372036854775807 by omega),hb0] <;> with_reducible rfl,by rw [c3],fun hc=>⟨(take_snoc j2 k hk).symm,by simp only [go_sem,reduceIte,↓reduceIte,reduceCtorEq,nA,nS,nM,nB,nE,nL,nT,nN,iL,iT,iE,iA,iM,iS,iG,iB,iN,iZ,h]⟩⟩) [] rfl (j2.length + 1) (Nat.le_refl _)
 rw [hb0] at hq
 rcases hqq with ⟨s',e1,_,e3⟩ | ⟨x,s',e1,e3⟩
 ·have e2:=dup_inl e1
  simp only [go_sem,reduceIte,↓reduceIte,reduceCtorEq,nA,nS,nM,nB,nE,nL,nT,nN,iL,iT,iE,iA,iM,iS,iG,iB,iN,iZ,h,z,b1,b2,b3,hx,hq,e3,e2,bulkFault]
 ·have e2:=dup_inr e1
  simp only [go_sem,reduceIte,↓reduceIte,reduceCtorEq,nA,nS,nM,nB,nE,nL,nT,nN,iL,iT,iE,iA,iM,iS,iG,iB,iN,iZ,h,z,b1,b2,b3,hx,hq,e3,e2,bulkFault]) (rfl)
def s239 : SP Tryz.prog:=mkS tyA 239 Tryz.f239 [s240] { md:=[.ro 1,.ro 1],rets:=some ([2],[]) } Tryz.func239 (by kernel_rfl)
@[go_sem] theorem d239 : s239.g = 239 ∧ s239.fs = ⟨[.ro 1,.ro 1],s239.F,false⟩:=⟨nr rfl,nr rfl⟩
@[go_sem] theorem e239 (j6 : ByteArray) (j7 : Int) (j8 : List Wait) (j9 j10 j11 : Int) (j12 : List Mark) (j13 j14 j15 j16 j17 j18 j19 j20 : Int) (j21 : List ByteArray) (j22 j23 j24 j25 j26 j27 j28 j29 j30 j31 j32 j33 : Int) (j34 j35 : List Entry) (j36 : List Origin) (j37 : List Flight) : s239.F [.pr [.s j6,.i .i64 j7,.sl .ro 2 (j8.map (rWait .ro)),.i .i64 j9,.i .i64 j10,.i .i64 j11,.sl .ro 2 (j12.map (rMark .ro))],.pr [.i .i64 j13,.i .i64 j14,.i .i64 j15,.i .i64 j16,.i .i64 j17,.i .i64 j18,.i .i64 j19,.i .i64 j20,.sl .ro 1 (j21.map rStr),.i .i64 j22,.i .i64 j23,.i .i64 j24,.i .i64 j25,.i .i64 j26,.i .i64 j27,.i .i64 j28,.i .i64 j29,.i .i64 j30,.i .i64 j31,.i .i64 j32,.i .i64 j33,.sl .ro 13 (j34.map (rEntry .ro)),.sl .ro 13 (j35.map (rEntry .ro)),.sl .ro 7 (j36.map (rOrigin .ro)),.sl .ro 11 (j37.map (rFlight .ro))]] = some (.i .i64 (bulkFault (Bulk.mk j7 j8) (Lanes.mk j22 j23 j24)),[.u,.u]):=mkS_eq (0) rfl rfl (fun cx h=>by
 simp only [go_sem,reduceIte,↓reduceIte,reduceCtorEq,nA,nS,nM,nB,nE,nL,nT,nN,iL,iT,iE,iA,iM,iS,iG,iB,iN,iZ,h]) (rfl)
def s320 : SP Tryz.prog:=mkS tyA 320 Tryz.f320 [] { md:=[.ro 1,.ro 1],rets:=some ([4],[]) } Tryz.func320 (by kernel_rfl)
@[go_sem] theorem d320 : s320.g = 320 ∧ s320.fs = ⟨[.ro 1,.ro 1],s320.F,false⟩:=⟨nr rfl,nr rfl⟩
@[go_sem] theorem e320 (xAt : Int) (j38 : Bool) (yAt : Int) (j39 : Bool) : s320.F [.agg [.i .i64 xAt,.b j38],.agg [.i .i64 yAt,.b j39]] = some (.i .i64 ((IntKind.i64).wrap ((Mark.mk xAt j38).At - (Mark.mk yAt j39).At)),[.u,.u]):=mkS_eq (0) rfl rfl (fun cx h=>by
 simp only [go_sem,reduceIte,↓reduceIte,reduceCtorEq,nA,nS,nM,nB,nE,nL,nT,nN,iL,iT,iE,iA,iM,iS,iG,iB,iN,iZ,h]) (rfl)
def s319 : SP Tryz.prog:=mkS tyA 319 Tryz.f319 [s320] { md:=[.ro 1,.ro 1],rg:=[(0,[0,1],[]),(1,[0,1,5],[]),(2,[0,1,5,10],[]),(3,[0,1,5],[]),(4,[0,1,5,24],[]),(5,[4],[]),(6,[4],[])],lv:=[(0,[0,1,5],[])],out:=[(0,[],[])],rets:=some ([4],[]),plan:=[(4,(.take 0 (.take 1 (.take 2 (.take 3 (.take 4 (.take 5 (.take 6 (.take 7 (.take 8 (.take 9 (.one 10 (.take 11 .done)))))))))))))] } Tryz.func319 (by kernel_rfl)
@[go_sem] theorem d319 : s319.g = 319 ∧ s319.fs = ⟨[.ro 1,.ro 1],s319.F,false⟩:=⟨nr rfl,nr rfl⟩
@[go_sem] theorem e319 (xs : List Mark) (h0 : badT xs = false) (hb : xs.length ≤ 1000) : s319.F [.sl .ro 2 (xs.map (rMark .ro)),.fn 320 []] = some (.b (!unsorted xs),[.u,.u]):=mkS_eq (xs.length + 1) rfl rfl (fun cx h=>by
 have w0 : (IntKind.i64).wrap ((xs.length : Int) - 1) = (xs.length : Int) - 1 - ((0 : Nat) : Int):=by rw [wrap_id (by omega) (by omega)]; omega
 have hb0:=loopN_eq Tryz.f319 0 _ _ rfl rfl
 obtain ⟨r,hr,hq⟩:=loop_srch (cx:=cx) (blk:=0) (body:=loopN Tryz.f319 0) (xs.zip xs.tail).reverse (fun k (s : Unit)=>⟨E [(0,.sl .ro 2 (xs.map (rMark .ro))),(1,.fn 320 []),(5,.i .i64 ((xs.length : Int) - 1 - k))],B []⟩) (fun s=>⟨E [],B []⟩) (fun x s=>decide (x.2.At < x.1.At)) (fun x s=>()) (fun x s=>(.ret,⟨E [(4,.b false)],B []⟩)) (fun k s=>True)
   (fun s hI G=>by simp only [go_sem,reduceIte,↓reduceIte,reduceCtorEq,nA,nS,nM,nB,nE,nL,nT,nN,iL,iT,iE,iA,iM,iS,iG,iB,iN,iZ,h,Int.lt_irrefl,hb0,show ¬ (0 < ((xs.length : Int) - 1 - ((xs.zip xs.tail).reverse.length : Nat))) by simp; omega]) (fun k hk s hI=>by
    have h1 : ((k : Int) < ((xs.zip xs.tail).reverse.length : Int)):=Int.ofNat_lt.2 hk
    have hk2 : k < xs.length - 1:=by simpa using hk
    have h3 : (xs.zip xs.tail).reverse[k] = (xs[xs.length - 2 - k]'(by omega),xs[xs.length - 1 - k]'(by omega)):=by
     rw [List.getElem_reverse,pairs_get]
     have e1 : (xs.zip xs.tail).length - 1 - k = xs.length - 2 - k:=by rw [pairs_len]; omega
     have e2 : xs.length - 2 - k + 1 = xs.length - 1 - k:=by omega
     simp only [e1,e2]
    rw [h3]
    have t1:=isTime_t.1 (badT_get h0 (List.getElem_mem (show xs.length - 2 - k < xs.length by omega)))
    have t2:=isTime_t.1 (badT_get h0 (List.getElem_mem (show xs.length - 1 - k < xs.length by omega)))
    have i1 : ((xs.length : Int) - 1 - k) = ((xs.length - 1 - k : Nat) : Int):=by omega
    have i0 : 0 < ((xs.length - 1 - k : Nat) : Int):=by omega
    have i2 : (IntKind.i64).wrap (((xs.length - 1 - k : Nat) : Int) - 1) = ((xs.length - 2 - k : Nat) : Int):=by rw [wrap_id (by omega) (by omega)]; omega
    have i3 : (xs.length : Int) - 1 - (k + 1 : Nat) = ((xs.length - 2 - k : Nat) : Int):=by omega
    have w1 : (IntKind.i64).wrap ((xs[xs.length - 1 - k]'(by omega)).At - (xs[xs.length - 2 - k]'(by omega)).At) = (xs[xs.length - 1 - k]'(by omega)).At - (xs[xs.length - 2 - k]'(by omega)).At:=wrap_id (by omega) (by omega)
    exact ⟨_,_,_,fun G=>by simp only [go_sem,reduceIte,↓reduceIte,reduceCtorEq,nA,nS,nM,nB,nE,nL,nT,nN,iL,iT,iE,iA,iM,iS,iG,iB,iN,iZ,h,i1,i0,i2,w1,idx_nt xs.length _ (show xs.length - 1 - k < xs.length by omega),idx_nt xs.length _ (show xs.length - 2 - k < xs.length by omega),map_gd (rMark .ro) xs _ (show xs.length - 1 - k < xs.length by omega),map_gd (rMark .ro) xs _ (show xs.length - 2 - k < xs.length by omega),h1,idx_nt _ _ hk,wrap_nat1 (show k < 9223372036854775807 by omega),hb0] <;> with_reducible rfl,by simp <;> omega,fun hc=>⟨trivial,by simp only [go_sem,reduceIte,↓reduceIte,reduceCtorEq,nA,nS,nM,nB,nE,nL,nT,nN,iL,iT,iE,iA,iM,iS,iG,iB,iN,iZ,h,i3]⟩⟩) () trivial (xs.length + 1) (by simp <;> omega)
 rw [hb0] at hr
 rcases hq with ⟨s',e1,_,e3⟩ | ⟨x,s',e1,e3⟩
 ·have e4 : unsorted xs = false:=by rw [unsorted,← List.any_reverse]; exact runS_any e1
  simp only [go_sem,reduceIte,↓reduceIte,reduceCtorEq,nA,nS,nM,nB,nE,nL,nT,nN,iL,iT,iE,iA,iM,iS,iG,iB,iN,iZ,h,w0,hr,e3,e4]
 ·have e4 : unsorted xs = true:=by rw [unsorted,← List.any_reverse]; exact (runS_found e1).1
  simp only [go_sem,reduceIte,↓reduceIte,reduceCtorEq,nA,nS,nM,nB,nE,nL,nT,nN,iL,iT,iE,iA,iM,iS,iG,iB,iN,iZ,h,w0,hr,e3,e4]) (rfl)
def s242 : SP Tryz.prog:=mkS tyA 242 Tryz.f242 [s115,s136,s236,s318,s319,s320] { md:=[.ro 1],rg:=[(0,[1],[1]),(1,[1,3],[1]),(2,[2],[]),(3,[1,20],[1]),(4,[2],[]),(5,[1,25],[1]),(6,[2],[]),(7,[1,29],[1]),(8,[2],[]),(9,[34],[]),(10,[2],[]),(11,[2],[])],rets:=some ([2],[]) } Tryz.func242 (by kernel_rfl)
@[go_sem] theorem d242 : s242.g = 242 ∧ s242.fs = ⟨[.ro 1],s242.F,false⟩:=⟨nr rfl,nr rfl⟩
@[go_sem] theorem e242 (j40 j41 j42 : Int) (j43 : List Mark) (h0 : (Breaker.mk j40 j41 j42 j43).Marks.length ≤ 1048576) : s242.F [.agg [.i .i64 j40,.i .i64 j41,.i .i64 j42,.sl .ro 2 (j43.map (rMark .ro))]] = some (.i .i64 (breakerFault (Breaker.mk j40 j41 j42 j43)),[.u]):=mkS_eq (0) rfl rfl (fun cx h=>by
 have hb : j43.length ≤ 9223372036854775806:=by have:=h0; simp only at this; omega
 by_cases c0 : (within j40 0 2 && isTime j41 && within j42 0 5) = false
 ·simp only [go_sem,reduceIte,↓reduceIte,reduceCtorEq,nA,nS,nM,nB,nE,nL,nT,nN,iL,iT,iE,iA,iM,iS,iG,iB,iN,iZ,h,hb,breakerFault,c0]
  all_goals (cases hw1 : within j40 0 2 <;> cases hw2 : isTime j41 <;> cases hw3 : within j42 0 5 <;> simp_all)
 simp only [Bool.not_eq_false,Bool.and_eq_true] at c0
 obtain ⟨⟨d1,d2⟩,d3⟩:=c0
 by_cases c1 : 60 < (j43.length : Int)
 ·simp only [go_sem,reduceIte,↓reduceIte,reduceCtorEq,nA,nS,nM,nB,nE,nL,nT,nN,iL,iT,iE,iA,iM,iS,iG,iB,iN,iZ,h,hb,breakerFault,d1,d2,d3,c1]
 cases c2 : badT j43
 case true =>
  have c2' : (j43.any fun x=>!isTime x.At) = true:=c2
  simp only [go_sem,reduceIte,↓reduceIte,reduceCtorEq,nA,nS,nM,nB,nE,nL,nT,nN,iL,iT,iE,iA,iM,iS,iG,iB,iN,iZ,h,hb,breakerFault,d1,d2,d3,c1,c2,c2']
 have c2' : (j43.any fun x=>!isTime x.At) = false:=c2
 have c4 : j43.length ≤ 1000:=by omega
 cases c5 : unsorted j43
 case true=>simp only [go_sem,reduceIte,↓reduceIte,reduceCtorEq,nA,nS,nM,nB,nE,nL,nT,nN,iL,iT,iE,iA,iM,iS,iG,iB,iN,iZ,h,hb,breakerFault,d1,d2,d3,c1,c2,c2',c4,c5]
 simp only [go_sem,reduceIte,↓reduceIte,reduceCtorEq,nA,nS,nM,nB,nE,nL,nT,nN,iL,iT,iE,iA,iM,iS,iG,iB,iN,iZ,h,hb,breakerFault,d1,d2,d3,c1,c2,c2',c4,c5]
 all_goals (cases e1 : j40 != 0 <;> cases e2 : j40 != 2 <;> cases e3 : j42 != 0 <;> cases e4 : decide (0 < (j43.length : Int)) <;> simp_all)) (rfl)
def s241 : SP Tryz.prog:=mkS tyA 241 Tryz.f241 [s242] { md:=[.ro 1],rets:=some ([1],[]) } Tryz.func241 (by kernel_rfl)
@[go_sem] theorem d241 : s241.g = 241 ∧ s241.fs = ⟨[.ro 1],s241.F,false⟩:=⟨nr rfl,nr rfl⟩
@[go_sem] theorem e241 (j6 : ByteArray) (j7 : Int) (j8 : List Wait) (j9 j10 j11 : Int) (j12 : List Mark) (h0 : j12.length ≤ 1048576) : s241.F [.pr [.s j6,.i .i64 j7,.sl .ro 2 (j8.map (rWait .ro)),.i .i64 j9,.i .i64 j10,.i .i64 j11,.sl .ro 2 (j12.map (rMark .ro))]] = some (.i .i64 (breakerFault (Breaker.mk j9 j10 j11 j12)),[.u]):=mkS_eq (0) rfl rfl (fun cx h=>by
 simp only [go_sem,reduceIte,↓reduceIte,reduceCtorEq,nA,nS,nM,nB,nE,nL,nT,nN,iL,iT,iE,iA,iM,iS,iG,iB,iN,iZ,h,h0]) (rfl)
theorem isHost_size {t : ByteArray} (h : isHost t = true) : t.size ≤ 9223372036854775806:=by
 have h1 : areB hostB 1 60 t = true:=h
 unfold areB at h1
 simp only [Bool.and_eq_true,decide_eq_true_eq] at h1
 omega
def s133_o : SP Tryz.prog:=mkS tyA 133 Tryz.f133 [s231,s239,s241] { md:=[.ro 1],rg:=[(0,[0],[]),(1,[0,6,7,8],[]),(2,[0,6,7,8,9],[]),(3,[0,4,6,7,8],[]),(4,[0,5,6,7,8],[]),(5,[0,5,6,7,8,15],[]),(6,[2],[]),(7,[0,6,7,8],[]),(8,[2],[])],lv:=[(0,[0,6,7,8],[])],out:=[(0,[],[])],rets:=some ([2],[]) } Tryz.func133 (by kernel_rfl)
@[go_sem] theorem d133_o : s133_o.g = 133 ∧ s133_o.fs = ⟨[.ro 1],s133_o.F,false⟩:=⟨nr rfl,nr rfl⟩
@[go_sem] theorem e133_or (j6 : ByteArray) (j7 : Int) (j8 : List Wait) (j9 j10 j11 : Int) (j12 : List Mark) (j13 j14 j15 j16 j17 j18 j19 j20 : Int) (j21 : List ByteArray) (j22 j23 j24 j25 j26 j27 j28 j29 j30 j31 j32 j33 : Int) (j34 j35 : List Entry) (j36 : List Origin) (j37 : List Flight) (q1 q2 : Bool) (x1 x2 : Int) (h0 : j12.length ≤ 1048576) : s133_o.F [.fs [.fn 231 [.pr [.b q1],.pr [.i .i64 x1]],.fn 239 [.pr [.s j6,.i .i64 j7,.sl .ro 2 (j8.map (rWait .ro)),.i .i64 j9,.i .i64 j10,.i .i64 j11,.sl .ro 2 (j12.map (rMark .ro))],.pr [.i .i64 j13,.i .i64 j14,.i .i64 j15,.i .i64 j16,.i .i64 j17,.i .i64 j18,.i .i64 j19,.i .i64 j20,.sl .ro 1 (j21.map rStr),.i .i64 j22,.i .i64 j23,.i .i64 j24,.i .i64 j25,.i .i64 j26,.i .i64 j27,.i .i64 j28,.i .i64 j29,.i .i64 j30,.i .i64 j31,.i .i64 j32,.i .i64 j33,.sl .ro 13 (j34.map (rEntry .ro)),.sl .ro 13 (j35.map (rEntry .ro)),.sl .ro 7 (j36.map (rOrigin .ro)),.sl .ro 11 (j37.map (rFlight .ro))]],.fn 241 [.pr [.s j6,.i .i64 j7,.sl .ro 2 (j8.map (rWait .ro)),.i .i64 j9,.i .i64 j10,.i .i64 j11,.sl .ro 2 (j12.map (rMark .ro))]],.fn 231 [.pr [.b q2],.pr [.i .i64 x2]]]] = some (.i .i64 (firstI [(if q1 = true then x1 else 0),bulkFault (Bulk.mk j7 j8) (Lanes.mk j22 j23 j24),breakerFault (Breaker.mk j9 j10 j11 j12),(if q2 = true then x2 else 0)]),[.u]):=mkS_eq (5) rfl rfl (fun cx h=>by
 have hM:=h0
 by_cases z0 : (if q1 = true then x1 else 0) = 0
 rotate_left
 ·have y0 : ((if q1 = true then x1 else 0) != 0) = true:=by simpa using z0
  simp only [go_sem,reduceIte,↓reduceIte,reduceCtorEq,nA,nS,nM,nB,nE,nL,nT,nN,iL,iT,iE,iA,iM,iS,iG,iB,iN,iZ,h,hM,y0,firstI_cons,if_i,wrap_0,wrap_1,wrap_2,wrap_3,wrap_4,wrap_5,wrap_6,wrap_7,wrap_8,loopE_1,loopE_2,loopE_3,loopE_4,loopE_5,loopE_6,loopE_7]
 have y0 : ((if q1 = true then x1 else 0) != 0) = false:=by simpa using z0
 by_cases z1 : bulkFault (Bulk.mk j7 j8) (Lanes.mk j22 j23 j24) = 0
 rotate_left
 ·have y1 : (bulkFault (Bulk.mk j7 j8) (Lanes.mk j22 j23 j24) != 0) = true:=by simpa using z1
  simp only [go_sem,reduceIte,↓reduceIte,reduceCtorEq,nA,nS,nM,nB,nE,nL,nT,nN,iL,iT,iE,iA,iM,iS,iG,iB,iN,iZ,h,hM,y0,y1,firstI_cons,if_i,wrap_0,wrap_1,wrap_2,wrap_3,wrap_4,wrap_5,wrap_6,wrap_7,wrap_8,loopE_1,loopE_2,loopE_3,loopE_4,loopE_5,loopE_6,loopE_7]
 have y1 : (bulkFault (Bulk.mk j7 j8) (Lanes.mk j22 j23 j24) != 0) = false:=by simpa using z1
 by_cases z2 : breakerFault (Breaker.mk j9 j10 j11 j12) = 0
 rotate_left
 ·have y2 : (breakerFault (Breaker.mk j9 j10 j11 j12) != 0) = true:=by simpa using z2
  simp only [go_sem,reduceIte,↓reduceIte,reduceCtorEq,nA,nS,nM,nB,nE,nL,nT,nN,iL,iT,iE,iA,iM,iS,iG,iB,iN,iZ,h,hM,y0,y1,y2,firstI_cons,if_i,wrap_0,wrap_1,wrap_2,wrap_3,wrap_4,wrap_5,wrap_6,wrap_7,wrap_8,loopE_1,loopE_2,loopE_3,loopE_4,loopE_5,loopE_6,loopE_7]
 have y2 : (breakerFault (Breaker.mk j9 j10 j11 j12) != 0) = false:=by simpa using z2
 by_cases z3 : (if q2 = true then x2 else 0) = 0
 rotate_left
 ·have y3 : ((if q2 = true then x2 else 0) != 0) = true:=by simpa using z3
  simp only [go_sem,reduceIte,↓reduceIte,reduceCtorEq,nA,nS,nM,nB,nE,nL,nT,nN,iL,iT,iE,iA,iM,iS,iG,iB,iN,iZ,h,hM,y0,y1,y2,y3,firstI_cons,if_i,wrap_0,wrap_1,wrap_2,wrap_3,wrap_4,wrap_5,wrap_6,wrap_7,wrap_8,loopE_1,loopE_2,loopE_3,loopE_4,loopE_5,loopE_6,loopE_7]
 have y3 : ((if q2 = true then x2 else 0) != 0) = false:=by simpa using z3
 simp only [go_sem,reduceIte,↓reduceIte,reduceCtorEq,nA,nS,nM,nB,nE,nL,nT,nN,iL,iT,iE,iA,iM,iS,iG,iB,iN,iZ,h,hM,y0,y1,y2,y3,firstI_cons,firstI_nil,if_i,wrap_0,wrap_1,wrap_2,wrap_3,wrap_4,wrap_5,wrap_6,wrap_7,wrap_8,loopE_1,loopE_2,loopE_3,loopE_4,loopE_5,loopE_6,loopE_7]) (rfl)
def s147 : SP Tryz.prog:=mkS tyA 147 Tryz.f147 [s123,s133_o,s135,s236,s238] { md:=[.ro 1,.ro 1],rg:=[(0,[2,3],[2,3]),(1,[2,3,5],[2,3]),(2,[4],[])],rets:=some ([4],[]),plan:=[(2,(.take 0 (.take 1 (.take 13 (.take 14 (.take 15 (.one 2 (.take 3 (.take 4 (.take 5 (.take 6 (.take 8 (.take 9 (.one 7 (.take 10 (.take 11 (.one 12 (.one 16 (.one 17 (.one 18 (.one 19 .done)))))))))))))))))))))],fz:=[2,3] } Tryz.func147 (by kernel_rfl)
@[go_sem] theorem d147 : s147.g = 147 ∧ s147.fs = ⟨[.ro 1,.ro 1],s147.F,false⟩:=⟨nr rfl,nr rfl⟩
@[go_sem] theorem e147 (j13 j14 j15 j16 j17 j18 j19 j20 : Int) (j21 : List ByteArray) (j22 j23 j24 j25 j26 j27 j28 j29 j30 j31 j32 j33 : Int) (j34 j35 : List Entry) (j36 : List Origin) (j37 : List Flight) (j6 : ByteArray) (j7 : Int) (j8 : List Wait) (j9 j10 j11 : Int) (j12 : List Mark) (h0 : j12.length ≤ 1048576) : s147.F [.agg [.i .i64 j13,.i .i64 j14,.i .i64 j15,.i .i64 j16,.i .i64 j17,.i .i64 j18,.i .i64 j19,.i .i64 j20,.sl .ro 1 (j21.map rStr),.i .i64 j22,.i .i64 j23,.i .i64 j24,.i .i64 j25,.i .i64 j26,.i .i64 j27,.i .i64 j28,.i .i64 j29,.i .i64 j30,.i .i64 j31,.i .i64 j32,.i .i64 j33,.sl .ro 13 (j34.map (rEntry .ro)),.sl .ro 13 (j35.map (rEntry .ro)),.sl .ro 7 (j36.map (rOrigin .ro)),.sl .ro 11 (j37.map (rFlight .ro))],.agg [.s j6,.i .i64 j7,.sl .ro 2 (j8.map (rWait .ro)),.i .i64 j9,.i .i64 j10,.i .i64 j11,.sl .ro 2 (j12.map (rMark .ro))]] = some (.i .i64 (originFault (Shield.mk (Config.mk j13 j14 j15 j16 j17 j18 j19 j20 j21 (Lanes.mk j22 j23 j24) (Rules.mk j25 j26 j27 j28 j29)) j30 j31 (Store.mk j32 j33 j34 j35) j36 j37) (Origin.mk j6 (Bulk.mk j7 j8) (Breaker.mk j9 j10 j11 j12))),[.u,.u]):=mkS_eq (0) rfl rfl (fun cx h=>by
 have hM:=h0
 have hx : j12.length ≤ 9223372036854775806:=by omega
 have hu : originFault (Shield.mk (Config.mk j13 j14 j15 j16 j17 j18 j19 j20 j21 (Lanes.mk j22 j23 j24) (Rules.mk j25 j26 j27 j28 j29)) j30 j31 (Store.mk j32 j33 j34 j35) j36 j37) (Origin.mk j6 (Bulk.mk j7 j8) (Breaker.mk j9 j10 j11 j12)) = firstI [if originText (Origin.mk j6 (Bulk.mk j7 j8) (Breaker.mk j9 j10 j11 j12)) = true then 5 else 0,bulkFault (Bulk.mk j7 j8) (Lanes.mk j22 j23 j24),breakerFault (Breaker.mk j9 j10 j11 j12),if lateO j30 (Breaker.mk j9 j10 j11 j12) = true then 3 else 0]:=rfl
 have ht : originText (Origin.mk j6 (Bulk.mk j7 j8) (Breaker.mk j9 j10 j11 j12)) = (!isHost j6 || !eqv (lowS j6) j6):=rfl
 have hl : lateO j30 (Breaker.mk j9 j10 j11 j12) = (decide (j30 < j10) || j12.any fun x=>decide (j30 < x.At)):=rfl
 obtain ⟨B1,hB1⟩ : ∃ q,bulkFault (Bulk.mk j7 j8) (Lanes.mk j22 j23 j24) = q:=⟨_,rfl⟩
 obtain ⟨B2,hB2⟩ : ∃ q,breakerFault (Breaker.mk j9 j10 j11 j12) = q:=⟨_,rfl⟩
 rw [hB1,hB2] at hu
 by_cases c1 : j30 < j10
 ·cases a1 : isHost j6
  ·simp only [go_sem,reduceIte,↓reduceIte,reduceCtorEq,nA,nS,nM,nB,nE,nL,nT,nN,iL,iT,iE,iA,iM,iS,iG,iB,iN,iZ,h,hM,hx,c1,a1,hB1,hB2,ht,hl,hu]
  have hs : j6.size ≤ 9223372036854775806:=isHost_size a1
  cases a2 : eqv (lowS j6) j6 <;> simp only [go_sem,reduceIte,↓reduceIte,reduceCtorEq,nA,nS,nM,nB,nE,nL,nT,nN,iL,iT,iE,iA,iM,iS,iG,iB,iN,iZ,h,hM,hx,c1,a1,hs,a2,eqv_bytesne,eqv_bytes,hB1,hB2,ht,hl,hu]
 cases c2 : (j12.any fun x=>decide (j30 < x.At))
 all_goals (cases a1 : isHost j6)
 all_goals first
  | (simp only [go_sem,reduceIte,↓reduceIte,reduceCtorEq,nA,nS,nM,nB,nE,nL,nT,nN,iL,iT,iE,iA,iM,iS,iG,iB,iN,iZ,h,hM,hx,c1,c2,a1,hB1,hB2,ht,hl,hu]; done)
  | (have hs : j6.size ≤ 9223372036854775806:=isHost_size a1
     cases a2 : eqv (lowS j6) j6 <;> simp only [go_sem,reduceIte,↓reduceIte,reduceCtorEq,nA,nS,nM,nB,nE,nL,nT,nN,iL,iT,iE,iA,iM,iS,iG,iB,iN,iZ,h,hM,hx,c1,c2,a1,hs,a2,eqv_bytesne,eqv_bytes,hB1,hB2,ht,hl,hu])) (rfl)
end
end Go.Vm.A
