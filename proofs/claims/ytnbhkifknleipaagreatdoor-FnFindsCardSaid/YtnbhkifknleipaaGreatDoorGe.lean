/- Functions of the program, walked by the evaluator. -/
import Derived.Test.YtnbhkifknleipaaGreatDoorWb
import Derived.Test.YtnbhkifknleipaaGreatDoorWa
import Derived.Test.YtnbhkifknleipaaGreatDoorGa
import Derived.Test.YtnbhkifknleipaaGreatDoorGb
import Derived.Test.YtnbhkifknleipaaGreatDoorGc
import Derived.Test.YtnbhkifknleipaaGreatDoorGd
set_option linter.unusedVariables false
set_option linter.unusedSimpArgs false
set_option autoImplicit false
set_option maxRecDepth 100000
set_option maxHeartbeats 4000000
namespace Go.Vm.A
open Go.Proofs
open Nat renaming reduceAdd → nA, reduceSub → nS, reduceMul → nM, reduceBEq → nB, reduceEqDiff → nE, reduceLeDiff → nL, reduceLT → nT, reduceBneDiff → nN
open Int renaming reduceLE → iL, reduceLT → iT, reduceEq → iE, reduceAdd → iA, reduceMul → iM, reduceSub → iS, reduceNeg → iG, reduceBEq → iB, reduceBNe → iN, reduceToNat → iZ
noncomputable section
def s80 : SP Tryz.prog:=mkS tyA 80 Tryz.f80 [s188] { md:=[.ro 1],rg:=[(0,[0],[]),(1,[0,5,6,7],[]),(2,[0,5,6,7,8],[]),(3,[0,3,4,5,6,7],[4]),(4,[0,5,6,7,18],[]),(5,[2],[]),(6,[0,5,6,7],[]),(7,[2],[])],lv:=[(0,[0,5,6,7],[])],out:=[(0,[],[])],rets:=some ([2],[]),plan:=[(4,(.take 0 (.take 1 (.take 2 (.take 3 (.take 4 (.take 5 (.one 6 .done))))))))] } Tryz.func80 (by kernel_rfl)
@[go_sem] theorem d80 : s80.g = 80 ∧ s80.fs = ⟨[.ro 1],s80.F,false⟩:=⟨nr rfl,nr rfl⟩
@[go_sem] theorem e80 (ws : List Waiter) (h0 : ws.length ≤ 9223372036854775806) : s80.F [.sl .ro 4 (ws.map (rWaiter .ro))] = some (.b (tw [] ws),[.u]):=mkS_eq (ws.length + 1) rfl rfl (fun cx h=>by
 have hx:=h0
 have hb0:=loopN_eq Tryz.f80 0 _ _ rfl rfl
 obtain ⟨r,hr,hq⟩:=loop_srch (cx:=cx) (blk:=0) (body:=loopN Tryz.f80 0) ws (fun k (s : List Waiter)=>⟨E [(0,.sl .ro 4 (ws.map (rWaiter .ro))),(5,.sl .ro 4 (ws.map (rWaiter .ro))),(6,.i .i64 ws.length),(7,.i .i64 k)],B []⟩) (fun s=>⟨E [],B []⟩) (fun x s=>s.any fun y=>y.Req == x.Req) (fun x s=>s ++ [x]) (fun x s=>(.ret,⟨E [(2,.b true)],B []⟩)) (fun k s=>s = ws.take k)
   (fun s hI G=>by simp only [go_sem,reduceIte,↓reduceIte,reduceCtorEq,nA,nS,nM,nB,nE,nL,nT,nN,iL,iT,iE,iA,iM,iS,iG,iB,iN,iZ,h,Int.lt_irrefl,hb0,hx]) (fun k hk s hI=>by
    have h1 : ((k : Int) < (ws.length : Int)):=Int.ofNat_lt.2 hk
    have t3 : ws.length ≤ 9223372036854775806:=hx
    have t4 : (ws.map (rWaiter .ro)).take k = (ws.take k).map (rWaiter .ro):=by rw [List.map_take]
    have t5 : (ws.take k).length ≤ 9223372036854775806:=by rw [List.length_take]; omega
    have c1 : (0 : Int) ≤ (k : Int):=by omega
    have c2 : (k : Int) ≤ (ws.length : Int):=by omega
    subst hI
    exact ⟨_,_,_,fun G=>by simp only [go_sem,reduceIte,↓reduceIte,reduceCtorEq,nA,nS,nM,nB,nE,nL,nT,nN,iL,iT,iE,iA,iM,iS,iG,iB,iN,iZ,h,t4,t5,c1,c2,map_gd (rWaiter .ro) ws _ hk,Int.toNat_natCast,List.drop_zero,Nat.sub_zero,h1,idx_nt _ _ hk,wrap_nat1 (show k < 9223372036854775807 by omega),hb0] <;> with_reducible rfl,Iff.rfl,fun hc=>⟨(take_snoc ws k hk).symm,by simp only [go_sem,reduceIte,↓reduceIte,reduceCtorEq,nA,nS,nM,nB,nE,nL,nT,nN,iL,iT,iE,iA,iM,iS,iG,iB,iN,iZ,h]⟩⟩) [] rfl (ws.length + 1) (Nat.le_refl _)
 rw [hb0] at hr
 rcases hq with ⟨s',e1,_,e3⟩ | ⟨x,s',e1,e3⟩
 ·simp only [go_sem,reduceIte,↓reduceIte,reduceCtorEq,nA,nS,nM,nB,nE,nL,nT,nN,iL,iT,iE,iA,iM,iS,iG,iB,iN,iZ,h,hr,e3,tw_inl e1]
 ·simp only [go_sem,reduceIte,↓reduceIte,reduceCtorEq,nA,nS,nM,nB,nE,nL,nT,nN,iL,iT,iE,iA,iM,iS,iG,iB,iN,iZ,h,hr,e3,tw_inr e1]) (rfl)
def namesCode (xs : List ByteArray) : Int:=if 4 < (xs.length : Int) then 2 else if (xs.any fun x=>!isWord x) = true then 5 else 0
theorem any_not {α : Type} (p : α → Bool) : ∀ xs : List α,(xs.any fun x=>!p x) = !xs.all p
 | []=>rfl
 | x :: xs=>by rw [List.any_cons,List.all_cons,any_not p xs]; cases p x <;> rfl
def isKey (t : ByteArray) : Bool:=decide (1 ≤ (t.size : Int)) && decide ((t.size : Int) ≤ 500)
def flightFault (f : Flight) : Int :=
 if (isTime f.Id && isTime f.Due) = false then 3 else if isKey f.Key = false then 2 else if (requestFault f.Get != 0) = true then requestFault f.Get else if (!f.Out && f.Due != 0) = true then 8
 else if 10 < (f.Waiters.length : Int) then 2 else if (f.Waiters.any fun x=>!isReqW x) = true then 3 else if tw [] f.Waiters = true then 6 else 0
theorem flightFault_ok {f : Flight} (h : flightFault f = 0) : f.Waiters.length ≤ 10:=by
 unfold flightFault at h
 split at h
 ·cases h
 split at h
 ·cases h
 split at h
 ·rename_i hc; rw [h] at hc; cases hc
 split at h
 ·cases h
 split at h
 ·cases h
 omega
def s184 : SP Tryz.prog:=mkS tyA 184 Tryz.f184 [] { md:=[.ro 1],rets:=some ([2],[]) } Tryz.func184 (by kernel_rfl)
@[go_sem] theorem d184 : s184.g = 184 ∧ s184.fs = ⟨[.ro 1],s184.F,false⟩:=⟨nr rfl,nr rfl⟩
@[go_sem] theorem e184 (t : ByteArray) : s184.F [.s t] = some (.b (isKey t),[.u]):=mkS_eq (0) rfl rfl (fun cx h=>by
 by_cases h1 : 1 ≤ (t.size : Int) <;> by_cases h2 : (t.size : Int) ≤ 500 <;> simp only [go_sem,reduceIte,↓reduceIte,reduceCtorEq,nA,nS,nM,nB,nE,nL,nT,nN,iL,iT,iE,iA,iM,iS,iG,iB,iN,iZ,h,h1,h2,isKey]) (rfl)
def s79 : SP Tryz.prog:=mkS tyA 79 Tryz.f79 [s43,s80,s136,s184,s185,s186] { md:=[.ro 1],rg:=[(0,[1],[1]),(1,[1,4],[1]),(2,[2],[]),(3,[1,15],[1]),(4,[2],[]),(5,[1,3],[1]),(6,[1,3,24],[1]),(7,[2],[]),(8,[1,26],[1]),(9,[2],[]),(10,[1,35],[1]),(11,[2],[]),(12,[1,40],[1]),(13,[2],[]),(14,[44],[]),(15,[2],[]),(16,[2],[])],rets:=some ([2],[]) } Tryz.func79 (by kernel_rfl)
@[go_sem] theorem d79 : s79.g = 79 ∧ s79.fs = ⟨[.ro 1],s79.F,false⟩:=⟨nr rfl,nr rfl⟩
@[go_sem] theorem e79 (fId : Int) (y0 : ByteArray) (y1 y2 : Bool) (y3 : Int) (y4 : Bool) (y5 y6 y7 : ByteArray) (fGetHeaders : List Header) (y8 : List Waiter) (h0 : smL smHeader (Flight.mk fId y0 y1 y2 y3 y4 (Request.mk y5 y6 y7 fGetHeaders) y8).Get.Headers) : s79.F [.agg [.i .i64 fId,.s y0,.b y1,.b y2,.i .i64 y3,.b y4,.s y5,.s y6,.s y7,.sl .ro 2 (fGetHeaders.map (rHeader .ro)),.sl .ro 4 (y8.map (rWaiter .ro))]] = some (.i .i64 (flightFault (Flight.mk fId y0 y1 y2 y3 y4 (Request.mk y5 y6 y7 fGetHeaders) y8)),[.u]):=mkS_eq (0) rfl rfl (fun cx h=>by
 have hH : smL smHeader fGetHeaders:=h0
 cases t1 : isTime fId
 ·simp only [go_sem,reduceIte,↓reduceIte,reduceCtorEq,nA,nS,nM,nB,nE,nL,nT,nN,iL,iT,iE,iA,iM,iS,iG,iB,iN,iZ,h,t1,flightFault]
 cases t2 : isTime y3
 ·simp only [go_sem,reduceIte,↓reduceIte,reduceCtorEq,nA,nS,nM,nB,nE,nL,nT,nN,iL,iT,iE,iA,iM,iS,iG,iB,iN,iZ,h,t1,t2,flightFault]
 cases hk : isKey y0
 ·simp only [go_sem,reduceIte,↓reduceIte,reduceCtorEq,nA,nS,nM,nB,nE,nL,nT,nN,iL,iT,iE,iA,iM,iS,iG,iB,iN,iZ,h,t1,t2,hk,flightFault]
 by_cases z : requestFault (Request.mk y5 y6 y7 fGetHeaders) = 0
 rotate_left
 ·have z' : (requestFault (Request.mk y5 y6 y7 fGetHeaders) != 0) = true:=by simpa using z
  simp only [go_sem,reduceIte,↓reduceIte,reduceCtorEq,nA,nS,nM,nB,nE,nL,nT,nN,iL,iT,iE,iA,iM,iS,iG,iB,iN,iZ,h,t1,t2,hk,hH,z',flightFault]
 rcases (show (y2 = true ∧ True) ∨ (y2 = false ∧ (y3 != 0) = false) ∨ (y2 = false ∧ (y3 != 0) = true) from by cases y2 <;> cases (y3 != 0) <;> simp) with ⟨o1,o2⟩ | ⟨o1,o2⟩ | ⟨o1,o2⟩
 rotate_left
 rotate_left
 ·simp only [go_sem,reduceIte,↓reduceIte,reduceCtorEq,nA,nS,nM,nB,nE,nL,nT,nN,iL,iT,iE,iA,iM,iS,iG,iB,iN,iZ,h,t1,t2,hk,hH,z,o1,o2,flightFault]
 all_goals
  by_cases w1 : 10 < (y8.length : Int)
  ·simp only [go_sem,reduceIte,↓reduceIte,reduceCtorEq,nA,nS,nM,nB,nE,nL,nT,nN,iL,iT,iE,iA,iM,iS,iG,iB,iN,iZ,h,t1,t2,hk,hH,z,o1,o2,w1,flightFault]
  have hx : y8.length ≤ 9223372036854775806:=by omega
  cases w2 : (y8.any fun x=>!isReqW x)
  ·cases w3 : tw [] y8 <;> simp only [go_sem,reduceIte,↓reduceIte,reduceCtorEq,nA,nS,nM,nB,nE,nL,nT,nN,iL,iT,iE,iA,iM,iS,iG,iB,iN,iZ,h,t1,t2,hk,hH,z,o1,o2,w1,w2,w3,hx,flightFault]
  ·simp only [go_sem,reduceIte,↓reduceIte,reduceCtorEq,nA,nS,nM,nB,nE,nL,nT,nN,iL,iT,iE,iA,iM,iS,iG,iB,iN,iZ,h,t1,t2,hk,hH,z,o1,o2,w1,w2,hx,flightFault]) (rfl)
/-! flights -/
def unsF (fs : List Flight) : Bool:=(fs.zip fs.tail).any fun p=>decide (p.2.Id ≤ p.1.Id)
def leO (x : Flight) : Option Int → Bool
 | none=>false
 | some y=>decide (x.Id ≤ y)
def unsO : Option Int → List Flight → Bool
 | _,[]=>false
 | s,x :: r=>if leO x s = true then true else unsO (some x.Id) r
theorem unsO_some : ∀ (y : Flight) (xs : List Flight),unsO (some y.Id) xs = ((y :: xs).zip xs).any fun p=>decide (p.2.Id ≤ p.1.Id)
 | _,[]=>rfl
 | y,x :: r=>by
  rw [unsO,List.zip_cons_cons,List.any_cons,unsO_some x r]
  show (if decide (x.Id ≤ y.Id) = true then true else _) = _
  cases decide (x.Id ≤ y.Id) <;> rfl
theorem unsO_none (fs : List Flight) : unsO none fs = unsF fs:=by
 cases fs with
 | nil=>rfl
 | cons x r=>exact unsO_some x r
theorem unsO_inl : ∀ {xs : List Flight} {s s' : Option Int},runS (fun x s=>leO x s) (fun x _=>some x.Id) xs s = .inl s' → unsO s xs = false
 | [],_,_,_=>rfl
 | x :: xs,s,s',h=>by
  rw [runS_cons] at h
  split at h
  ·cases h
  ·rename_i hc; rw [unsO,if_neg hc]; exact unsO_inl h
theorem unsO_inr : ∀ {xs : List Flight} {s : Option Int} {q : Flight × Option Int},runS (fun x s=>leO x s) (fun x _=>some x.Id) xs s = .inr q → unsO s xs = true
 | [],_,_,h=>by cases h
 | x :: xs,s,q,h=>by
  rw [runS_cons] at h
  split at h
  ·rename_i hc; rw [unsO,if_pos hc]
  ·rename_i hc; rw [unsO,if_neg hc]; exact unsO_inr h
def dup {α : Type} (q : α → α → Bool) (s : List α) : List α → Bool
 | []=>false
 | x :: r=>if (s.any fun y=>q y x) = true then true else dup q (s ++ [x]) r
theorem dup_inl {α : Type} {p : α → α → Bool} : ∀ {xs s s' : List α},runS (fun x s=>s.any fun y=>p y x) (fun x s=>s ++ [x]) xs s = .inl s' → dup p s xs = false
 | [],_,_,_=>rfl
 | x :: xs,s,s',h=>by
  rw [runS_cons] at h
  split at h
  ·cases h
  ·rename_i hc; rw [dup,if_neg hc]; exact dup_inl h
theorem dup_inr {α : Type} {p : α → α → Bool} : ∀ {xs s : List α} {q : α × List α},runS (fun x s=>s.any fun y=>p y x) (fun x s=>s ++ [x]) xs s = .inr q → dup p s xs = true
 | [],_,_,h=>by cases h
 | x :: xs,s,q,h=>by
  rw [runS_cons] at h
  split at h
  ·rename_i hc; rw [dup,if_pos hc]
  ·rename_i hc; rw [dup,if_neg hc]; exact dup_inr h
def sameKey (y x : Flight) : Bool:=eqv y.Key x.Key
def allW (fs : List Flight) : List Waiter:=fs.flatMap (·.Waiters)
def flightsFault (fs : List Flight) : Int :=
 if 24 < (fs.length : Int) then 2 else if (firstI (fs.map flightFault) != 0) = true then firstI (fs.map flightFault) else if unsF fs = true then 1
 else if dup sameKey [] fs = true then 6 else if tw [] (allW fs) = true then 6 else 0
theorem runS_zero {α : Type} {f : α → Int} {σ : Type} {g : α → σ → σ} : ∀ {xs : List α} {u u' : σ},runS (fun x _=>f x != 0) g xs u = .inl u' → ∀ x ∈ xs,f x = 0
 | [],_,_,_,x,hx=>by cases hx
 | y :: xs,u,u',h,x,hx=>by
  rw [runS_cons] at h
  split at h
  ·cases h
  ·rename_i hc
   rcases List.mem_cons.1 hx with rfl | hx
   ·simpa using hc
   ·exact runS_zero h x hx
theorem runS_hit {α σ : Type} {c : α → σ → Bool} {g : α → σ → σ} : ∀ {xs : List α} {s : σ} {q : α × σ},runS c g xs s = .inr q → c q.1 q.2 = true
 | [],s,q,h=>by cases h
 | x :: xs,s,q,h=>by
  rw [runS_cons] at h
  split at h
  ·rename_i hc; injection h with h; subst h; exact hc
  ·exact runS_hit h
theorem allW_len : ∀ {fs : List Flight},(∀ x ∈ fs,x.Waiters.length ≤ 10) → (allW fs).length ≤ 10 * fs.length
 | [],_=>Nat.zero_le _
 | x :: fs,h=>by
  have h1:=h x (List.mem_cons_self ..)
  have h2:=allW_len (fs:=fs) (fun y hy=>h y (List.mem_cons_of_mem _ hy))
  unfold allW at h2 ⊢
  rw [List.flatMap_cons,List.length_append,List.length_cons]
  omega
theorem allW_snoc (fs : List Flight) (k : Nat) (h : k < fs.length) : allW (fs.take (k + 1)) = allW (fs.take k) ++ fs[k].Waiters:=by
 unfold allW
 rw [take_snoc fs k h,List.flatMap_append]
 simp
theorem wrow_plain (ws : List Waiter) : (ws.map (rWaiter .ro)).all (·.all plain) = true:=by
 simp [rWaiter,plain]
def s16 : SP Tryz.prog:=mkS tyA 16 Tryz.f16 [s73,s79,s80] { md:=[.ro 1],rg:=[(0,[0],[]),(1,[0,13],[]),(2,[2],[]),(3,[0,14,15,16],[]),(4,[0,14,15,16,17],[]),(5,[0,4,14,15,16],[4]),(6,[0,5,14,15,16],[]),(7,[0,5,14,15,16,23],[]),(8,[2],[]),(9,[0,14,15,16],[]),(10,[0,6],[]),(11,[0,6,27,28,29],[]),(12,[0,6,27,28,29,30],[]),(13,[0,6,7,8,27,28,29],[8]),(14,[0,6,8,27,28,29,46],[8]),(15,[2],[]),(16,[0,6,27,28,29],[]),(17,[0,6,27,28,29],[]),(18,[0,6,52,53,54],[]),(19,[0,6,52,53,54,55],[]),(20,[0,6,9,10,52,53,54],[10]),(21,[0,6,52,53,54,65],[]),(22,[2],[]),(23,[0,6,52,53,54],[]),(24,[68],[]),(25,[2],[]),(26,[2],[])],lv:=[(0,[0,14,15,16],[]),(2,[0,6,27,28,29],[]),(4,[0,6,52,53,54],[])],out:=[(0,[0],[]),(2,[0,6],[]),(4,[6],[])],rets:=some ([2],[]),plan:=[(14,(.take 0 (.take 1 (.take 2 (.take 3 (.take 4 (.take 5 (.take 6 (.take 7 (.take 8 (.take 9 (.take 10 (.take 11 (.take 12 .done)))))))))))))),(21,(.take 0 (.take 1 (.take 2 (.take 3 (.take 4 (.one 5 (.take 6 .done))))))))] } Tryz.func16 (by kernel_rfl)
@[go_sem] theorem d16 : s16.g = 16 ∧ s16.fs = ⟨[.ro 1],s16.F,false⟩:=⟨nr rfl,nr rfl⟩
@[go_sem] theorem e16 (fs : List Flight) (h0 : smL smFlight fs) : s16.F [.sl .ro 11 (fs.map (rFlight .ro))] = some (.i .i64 (flightsFault fs),[.u]):=mkS_eq (fs.length + 1) rfl rfl (fun cx h=>by
 by_cases h1 : 24 < (fs.length : Int)
 ·simp only [go_sem,reduceIte,↓reduceIte,reduceCtorEq,nA,nS,nM,nB,nE,nL,nT,nN,iL,iT,iE,iA,iM,iS,iG,iB,iN,iZ,h,flightsFault,h1]
 have hx : fs.length ≤ 9223372036854775806:=by omega
 have hb0:=loopN_eq Tryz.f16 0 _ _ rfl rfl
 obtain ⟨z0,hz0,hqz0⟩:=loop_srch (cx:=cx) (blk:=0) (body:=loopN Tryz.f16 0) fs (fun k (s : Unit)=>⟨E [(0,.sl .ro 11 (fs.map (rFlight .ro))),(14,.sl .ro 11 (fs.map (rFlight .ro))),(15,.i .i64 fs.length),(16,.i .i64 k)],B []⟩) (fun s=>⟨E [(0,.sl .ro 11 (fs.map (rFlight .ro)))],B []⟩) (fun x s=>flightFault x != 0) (fun x s=>()) (fun x s=>(.ret,⟨E [(2,.i .i64 (flightFault x))],B []⟩)) (fun k s=>True)
   (fun s hI G=>by simp only [go_sem,reduceIte,↓reduceIte,reduceCtorEq,nA,nS,nM,nB,nE,nL,nT,nN,iL,iT,iE,iA,iM,iS,iG,iB,iN,iZ,h,Int.lt_irrefl,hb0,hx]) (fun k hk s hI=>by
    have h1 : ((k : Int) < (fs.length : Int)):=Int.ofNat_lt.2 hk
    have hs:=h0.2 _ (List.getElem_mem hk)
    obtain ⟨u0,u1,u2,u3,u4,u5,u6,u7⟩:=hs
    have hH : smL smHeader fs[k].Get.Headers:=u6.2.2.2
    all_goals exact ⟨_,_,_,fun G=>by simp only [go_sem,reduceIte,↓reduceIte,reduceCtorEq,nA,nS,nM,nB,nE,nL,nT,nN,iL,iT,iE,iA,iM,iS,iG,iB,iN,iZ,h,map_gd (rFlight .ro) fs _ hk,hH,h1,idx_nt _ _ hk,wrap_nat1 (show k < 9223372036854775807 by omega),hb0] <;> with_reducible rfl,Iff.rfl,fun hc=>⟨trivial,by simp only [go_sem,reduceIte,↓reduceIte,reduceCtorEq,nA,nS,nM,nB,nE,nL,nT,nN,iL,iT,iE,iA,iM,iS,iG,iB,iN,iZ,h]⟩⟩) () trivial (fs.length + 1) (Nat.le_refl _)
 rw [hb0] at hz0
 rcases hqz0 with ⟨s0,e1,_,e3⟩ | ⟨x,s0,e1,e3⟩
 rotate_left
 ·have e2:=firstI_inr e1
  have e4 : (flightFault x != 0) = true:=runS_hit e1
  simp only [go_sem,reduceIte,↓reduceIte,reduceCtorEq,nA,nS,nM,nB,nE,nL,nT,nN,iL,iT,iE,iA,iM,iS,iG,iB,iN,iZ,h,hz0,e3,e2,e4,flightsFault,h1]
 have e2:=firstI_inl e1
 have hall : ∀ x ∈ fs,x.Waiters.length ≤ 10:=fun x hx=>flightFault_ok (runS_zero e1 x hx)
 have hb1:=loopN_eq Tryz.f16 1 _ _ rfl rfl
 obtain ⟨z1,hz1,hqz1⟩:=loop_srch (cx:=cx) (blk:=2) (body:=loopN Tryz.f16 1) fs (fun k (s : Option Int)=>⟨E [(0,.sl .ro 11 (fs.map (rFlight .ro))),(6,.sl .mut 4 ((allW (fs.take k)).map (rWaiter .ro))),(27,.sl .ro 11 (fs.map (rFlight .ro))),(28,.i .i64 fs.length),(29,.i .i64 k)],B []⟩) (fun s=>⟨E [(0,.sl .ro 11 (fs.map (rFlight .ro))),(6,.sl .mut 4 ((allW (fs.take (fs.length))).map (rWaiter .ro)))],B []⟩) (fun x s=>leO x s) (fun x s=>some x.Id) (fun x s=>(.ret,⟨E [(2,.i .i64 1)],B []⟩)) (fun k s=>((k = 0 ∧ s = none) ∨ ∃ m,∃ (hm : m < fs.length),k = m + 1 ∧ s = some fs[m].Id))
   (fun s hI G=>by simp only [go_sem,reduceIte,↓reduceIte,reduceCtorEq,nA,nS,nM,nB,nE,nL,nT,nN,iL,iT,iE,iA,iM,iS,iG,iB,iN,iZ,h,Int.lt_irrefl,hb1,hx,List.take_length]) (fun k hk s hI=>by
    have h1 : ((k : Int) < (fs.length : Int)):=Int.ofNat_lt.2 hk
    have hJ : (k = 0 ∧ s = none) ∨ ∃ m,∃ (hm : m < fs.length),k = m + 1 ∧ s = some fs[m].Id:=hI
    have hw : fs[k].Waiters.length ≤ 10:=hall _ (List.getElem_mem hk)
    have hl2 : (allW (fs.take k)).length ≤ 10 * k:=by
     have:=allW_len (fs:=fs.take k) (fun x hx=>hall x (List.mem_of_mem_take hx))
     rw [List.length_take] at this
     omega
    have p1:=wrow_plain fs[k].Waiters
    have p2 : (allW (fs.take k)).map (rWaiter .ro) ++ fs[k].Waiters.map (rWaiter .ro) = (allW (fs.take (k + 1))).map (rWaiter .ro):=by rw [allW_snoc fs k hk,List.map_append]
    have p3 : ((allW (fs.take k)).length + fs[k].Waiters.length) * 32 ≤ 140737488355328:=by omega
    have p4 : (fs[k].Waiters.map (rWaiter .ro)).take fs[k].Waiters.length = fs[k].Waiters.map (rWaiter .ro):=List.take_of_length_le (by simp)
    rcases hJ with ⟨e0,hs⟩ | ⟨m,hm,e0,hs⟩
    ·have c1 : ¬ (0 : Int) < (k : Int):=by omega
     have c2 : leO fs[k] s = false:=by rw [hs]; rfl
     have c3:=trivial
     have c4:=trivial
     have c5:=trivial
     exact ⟨False,inferInstance,_,fun G=>by rw [if_neg (fun h=>h)]; simp only [go_sem,reduceIte,↓reduceIte,reduceCtorEq,nA,nS,nM,nB,nE,nL,nT,nN,iL,iT,iE,iA,iM,iS,iG,iB,iN,iZ,h,map_gd (rFlight .ro) fs _ hk,p1,p2,p3,p4,c1,c3,c4,c5,List.length_map,List.length_append,h1,idx_nt _ _ hk,wrap_nat1 (show k < 9223372036854775807 by omega),hb1] <;> with_reducible rfl,(show False ↔ _ from by rw [c2]; simp),fun hc=>⟨(.inr ⟨k,hk,rfl,rfl⟩),by simp only [go_sem,reduceIte,↓reduceIte,reduceCtorEq,nA,nS,nM,nB,nE,nL,nT,nN,iL,iT,iE,iA,iM,iS,iG,iB,iN,iZ,h,p2]⟩⟩
    ·subst e0
     have c1 : (0 : Int) < ((m + 1 : Nat) : Int):=by omega
     have c3 : (IntKind.i64).wrap (((m + 1 : Nat) : Int) - 1) = (m : Int):=by rw [wrap_id (by omega) (by omega)]; omega
     have c4:=idx_nt fs.length m hm
     have c5:=map_gd (rFlight .ro) fs m hm
     have c2 : leO fs[m + 1] s = decide (fs[m + 1].Id ≤ fs[m].Id):=by rw [hs]; rfl
     exact ⟨_,_,_,fun G=>by simp only [go_sem,reduceIte,↓reduceIte,reduceCtorEq,nA,nS,nM,nB,nE,nL,nT,nN,iL,iT,iE,iA,iM,iS,iG,iB,iN,iZ,h,map_gd (rFlight .ro) fs _ hk,p1,p2,p3,p4,c1,c3,c4,c5,List.length_map,List.length_append,h1,idx_nt _ _ hk,wrap_nat1 (show m + 1 < 9223372036854775807 by omega),hb1] <;> with_reducible rfl,(by rw [c2,decide_eq_true_eq]),fun hc=>⟨(.inr ⟨m + 1,hk,rfl,rfl⟩),by simp only [go_sem,reduceIte,↓reduceIte,reduceCtorEq,nA,nS,nM,nB,nE,nL,nT,nN,iL,iT,iE,iA,iM,iS,iG,iB,iN,iZ,h,p2]⟩⟩) none (.inl ⟨rfl,rfl⟩) (fs.length + 1) (Nat.le_refl _)
 rw [hb1] at hz1
 have hT : allW (fs.take 0) = []:=rfl
 simp only [hT,List.map_nil] at hz1
 rcases hqz1 with ⟨s1,g1,_,g3⟩ | ⟨x,s1,g1,g3⟩
 rotate_left
 ·have g2:=unsO_inr g1
  rw [unsO_none] at g2
  simp only [go_sem,reduceIte,↓reduceIte,reduceCtorEq,nA,nS,nM,nB,nE,nL,nT,nN,iL,iT,iE,iA,iM,iS,iG,iB,iN,iZ,h,hz0,e3,e2,hz1,g3,g2,flightsFault,h1]
 have g2:=unsO_inl g1
 rw [unsO_none] at g2
 have hb2:=loopN_eq Tryz.f16 2 _ _ rfl rfl
 obtain ⟨z2,hz2,hqz2⟩:=loop_srch (cx:=cx) (blk:=4) (body:=loopN Tryz.f16 2) fs (fun k (s : List Flight)=>⟨E [(0,.sl .ro 11 (fs.map (rFlight .ro))),(6,.sl .mut 4 ((allW fs).map (rWaiter .ro))),(52,.sl .ro 11 (fs.map (rFlight .ro))),(53,.i .i64 fs.length),(54,.i .i64 k)],B []⟩) (fun s=>⟨E [(6,.sl .mut 4 ((allW fs).map (rWaiter .ro)))],B []⟩) (fun x s=>s.any fun y=>sameKey y x) (fun x s=>s ++ [x]) (fun x s=>(.ret,⟨E [(2,.i .i64 6)],B []⟩)) (fun k s=>s = fs.take k)
   (fun s hI G=>by simp only [go_sem,reduceIte,↓reduceIte,reduceCtorEq,nA,nS,nM,nB,nE,nL,nT,nN,iL,iT,iE,iA,iM,iS,iG,iB,iN,iZ,h,Int.lt_irrefl,hb2,hx]) (fun k hk s hI=>by
    have h1 : ((k : Int) < (fs.length : Int)):=Int.ofNat_lt.2 hk
    have t3 : fs.length ≤ 9223372036854775806:=hx
    have t4 : (fs.map (rFlight .ro)).take k = (fs.take k).map (rFlight .ro):=by rw [List.map_take]
    have t5 : (fs.take k).length ≤ 9223372036854775806:=by rw [List.length_take]; omega
    have c1 : (0 : Int) ≤ (k : Int):=by omega
    have c2 : (k : Int) ≤ (fs.length : Int):=by omega
    have c3 : ((fs.take k).any fun y=>sameKey y fs[k]) = (fs.take k).any fun x=>eqv x.Key fs[k].Key:=rfl
    subst hI
    exact ⟨_,_,_,fun G=>by simp only [go_sem,reduceIte,↓reduceIte,reduceCtorEq,nA,nS,nM,nB,nE,nL,nT,nN,iL,iT,iE,iA,iM,iS,iG,iB,iN,iZ,h,t4,t5,c1,c2,map_gd (rFlight .ro) fs _ hk,Int.toNat_natCast,List.drop_zero,Nat.sub_zero,idxP_any,h1,idx_nt _ _ hk,wrap_nat1 (show k < 9223372036854775807 by omega),hb2] <;> with_reducible rfl,by rw [c3],fun hc=>⟨(take_snoc fs k hk).symm,by simp only [go_sem,reduceIte,↓reduceIte,reduceCtorEq,nA,nS,nM,nB,nE,nL,nT,nN,iL,iT,iE,iA,iM,iS,iG,iB,iN,iZ,h]⟩⟩) [] rfl (fs.length + 1) (Nat.le_refl _)
 rw [hb2] at hz2
 have hal : (allW fs).length ≤ 9223372036854775806:=by have:=allW_len hall; omega
 rcases hqz2 with ⟨s2,k1,_,k3⟩ | ⟨x,s2,k1,k3⟩
 ·have k2:=dup_inl k1
  cases k4 : tw [] (allW fs) <;> simp only [go_sem,reduceIte,↓reduceIte,reduceCtorEq,nA,nS,nM,nB,nE,nL,nT,nN,iL,iT,iE,iA,iM,iS,iG,iB,iN,iZ,h,hz0,e3,e2,hz1,g3,g2,hz2,k3,k2,k4,hal,List.take_length,flightsFault,h1]
 ·have k2:=dup_inr k1
  simp only [go_sem,reduceIte,↓reduceIte,reduceCtorEq,nA,nS,nM,nB,nE,nL,nT,nN,iL,iT,iE,iA,iM,iS,iG,iB,iN,iZ,h,hz0,e3,e2,hz1,g3,g2,hz2,k3,k2,List.take_length,flightsFault,h1]) (rfl)
def s72 : SP Tryz.prog:=mkS tyA 72 Tryz.f72 [s16] { md:=[.ro 1,.ro 1],rg:=[(0,[0,1,4],[4]),(1,[1,4,5],[4]),(2,[1,4,5,9],[4]),(3,[4],[4]),(4,[1,4,13],[4]),(5,[4],[4]),(6,[4],[4])],rets:=some ([4],[4]) } Tryz.func72 (by kernel_rfl)
@[go_sem] theorem d72 : s72.g = 72 ∧ s72.fs = ⟨[.ro 1,.ro 1],s72.F,false⟩:=⟨nr rfl,nr rfl⟩
@[go_sem] theorem e72 (fs : List Flight) (at0 : Int) (h0 : smL smFlight fs) : s72.F [.sl .ro 11 (fs.map (rFlight .ro)),.i .i64 at0] = some (.agg [.i .i64 (if (flightsFault fs != 0) = true then flightsFault fs else if at0 < 0 then 4 else 0),.i .i64 (if (flightsFault fs != 0) = true then 0 else if at0 < 0 then 0 else at0)],[.u,.u]):=mkS_eq (0) rfl rfl (fun cx h=>by
 cases h1 : flightsFault fs != 0
 ·by_cases h2 : at0 < 0 <;> simp only [go_sem,reduceIte,↓reduceIte,reduceCtorEq,nA,nS,nM,nB,nE,nL,nT,nN,iL,iT,iE,iA,iM,iS,iG,iB,iN,iZ,h,h0,h1,h2]
 ·simp only [go_sem,reduceIte,↓reduceIte,reduceCtorEq,nA,nS,nM,nB,nE,nL,nT,nN,iL,iT,iE,iA,iM,iS,iG,iB,iN,iZ,h,h0,h1]) (rfl)
def placeR (fs : List Flight) (i : Int) : IntResult:=⟨if (flightsFault fs != 0) = true then flightsFault fs else if i < 0 then 4 else 0,if (flightsFault fs != 0) = true then 0 else if i < 0 then 0 else i⟩
def s11 : SP Tryz.prog:=mkS tyA 11 Tryz.f11 [s72,s73] { md:=[.ro 1,.ro 1],rets:=some ([4],[4]) } Tryz.func11 (by kernel_rfl)
@[go_sem] theorem d11 : s11.g = 11 ∧ s11.fs = ⟨[.ro 1,.ro 1],s11.F,false⟩:=⟨nr rfl,nr rfl⟩
@[go_sem] theorem e11 (fs : List Flight) (key : ByteArray) (h0 : smL smFlight fs) : s11.F [.sl .ro 11 (fs.map (rFlight .ro)),.s key] = some (.agg (rIntResult .ro (placeR fs (idxP (fun x=>eqv x.Key key) fs 0))),[.u,.u]):=mkS_eq (0) rfl rfl (fun cx h=>by
 have hx : fs.length ≤ 9223372036854775806:=by have:=h0.1; omega
 simp only [go_sem,reduceIte,↓reduceIte,reduceCtorEq,nA,nS,nM,nB,nE,nL,nT,nN,iL,iT,iE,iA,iM,iS,iG,iB,iN,iZ,h,h0,hx,placeR]) (rfl)
def s12 : SP Tryz.prog:=mkS tyA 12 Tryz.f12 [s67,s68,s69,s70,s74] { md:=[.ro 1],wk:=true,rg:=[(0,[0],[]),(1,[4],[8]),(2,[4,5],[8]),(3,[4,5,6],[8]),(4,[4,5,6,19],[8]),(5,[2,3],[]),(6,[2,3],[])],rets:=some ([2,3],[]),plan:=[(5,(.take 0 (.take 1 (.take 2 (.take 3 (.one 4 (.alt 5 (.take 6 (.alt 7 (.one 8 (.one 9 .done)) (.one 8 (.one 7 (.one 9 .done))))) (.one 8 (.one 5 (.take 6 (.one 7 (.one 9 .done))))))))))))],ws:=[(2,[(true,5,0)])] } Tryz.func12 (by kernel_rfl)
@[go_sem] theorem d12 : s12.g = 12 ∧ s12.fs = ⟨[.ro 1],s12.F,true⟩:=⟨nr rfl,nr rfl⟩
@[go_sem] theorem e12 (code : List UInt8) : s12.F [.sl .ro 1 (code.map rByte)] = some (.tup [.sl .app 11 ((listP code 0).2.map (rFlight .ro)),.i .i64 (drawId code)],[.u]):=mkS_eq (50) rfl rfl (fun cx h=>by
 have g0 : gOk 0 = true:=rfl
 obtain ⟨i1,i2,i3⟩:=listP_le code g0
 obtain ⟨p,hp⟩ : ∃ p,(listP code 0).1 = p:=⟨_,rfl⟩
 obtain ⟨l,hl⟩ : ∃ l,(listP code 0).2 = l:=⟨_,rfl⟩
 rw [hp] at i1 i2
 rw [hl] at i3
 have p0 : aOk p = true:=by simp only [aOk,decide_eq_true_eq]; omega
 have p1 : aOk (p + 1) = true:=by simp only [aOk,decide_eq_true_eq]; omega
 by_cases c : 0 < (l.length : Int)
 ·cases c1 : nextV code p 4 == 0
  ·have n1:=nextV_in code p1 (n:=l.length) (by omega)
   obtain ⟨i,hi⟩ : ∃ i : Nat,nextV code (p + 1) l.length = (i : Int):=⟨(nextV code (p + 1) l.length).toNat,by omega⟩
   have hi2 : i < l.length:=by omega
   have e1 : l[i]? = some l[i]:=List.getElem?_eq_getElem hi2
   have e2 : (l.map (rFlight .ro))[i]? = some (rFlight .ro l[i]):=by rw [List.getElem?_map,e1]; rfl
   simp only [go_sem,reduceIte,↓reduceIte,reduceCtorEq,nA,nS,nM,nB,nE,nL,nT,nN,iL,iT,iE,iA,iM,iS,iG,iB,iN,iZ,h,g0,hp,hl,p0,p1,c,c1,hi,e1,e2,Option.map_some,Option.getD_some,Int.toNat_natCast,idx_nt _ _ hi2,map_gd (rFlight .ro) l i hi2,drawHit,drawAt,drawNext,drawId]
  ·simp only [go_sem,reduceIte,↓reduceIte,reduceCtorEq,nA,nS,nM,nB,nE,nL,nT,nN,iL,iT,iE,iA,iM,iS,iG,iB,iN,iZ,h,g0,hp,hl,p0,p1,c,c1,drawHit,drawAt,drawNext,drawId]
 ·simp only [go_sem,reduceIte,↓reduceIte,reduceCtorEq,nA,nS,nM,nB,nE,nL,nT,nN,iL,iT,iE,iA,iM,iS,iG,iB,iN,iZ,h,g0,hp,hl,p0,p1,c,drawHit,drawAt,drawNext,drawId]) (rfl)
def s75 : SP Tryz.prog:=mkS tyA 75 Tryz.f75 [s181] { md:=[.ro 1,.ro 1],rets:=some ([4],[]),fz:=[3] } Tryz.func75 (by kernel_rfl)
@[go_sem] theorem d75 : s75.g = 75 ∧ s75.fs = ⟨[.ro 1,.ro 1],s75.F,false⟩:=⟨nr rfl,nr rfl⟩
@[go_sem] theorem e75 (fs : List Flight) (id : Int) (h0 : fs.length ≤ 9223372036854775806) : s75.F [.sl .ro 11 (fs.map (rFlight .ro)),.i .i64 id] = some (.i .i64 (idxP (fun x=>x.Id == id) fs 0),[.u,.u]):=mkS_eq (0) rfl rfl (fun cx h=>by
 simp only [go_sem,reduceIte,↓reduceIte,reduceCtorEq,nA,nS,nM,nB,nE,nL,nT,nN,iL,iT,iE,iA,iM,iS,iG,iB,iN,iZ,h,h0]) (rfl)
def s13 : SP Tryz.prog:=mkS tyA 13 Tryz.f13 [s72,s75] { md:=[.ro 1,.ro 1],rets:=some ([4],[4]) } Tryz.func13 (by kernel_rfl)
@[go_sem] theorem d13 : s13.g = 13 ∧ s13.fs = ⟨[.ro 1,.ro 1],s13.F,false⟩:=⟨nr rfl,nr rfl⟩
@[go_sem] theorem e13 (fs : List Flight) (id : Int) (h0 : smL smFlight fs) : s13.F [.sl .ro 11 (fs.map (rFlight .ro)),.i .i64 id] = some (.agg (rIntResult .ro (placeR fs (idxP (fun x=>x.Id == id) fs 0))),[.u,.u]):=mkS_eq (0) rfl rfl (fun cx h=>by
 have hx : fs.length ≤ 9223372036854775806:=by have:=h0.1; omega
 simp only [go_sem,reduceIte,↓reduceIte,reduceCtorEq,nA,nS,nM,nB,nE,nL,nT,nN,iL,iT,iE,iA,iM,iS,iG,iB,iN,iZ,h,h0,hx,placeR]) (rfl)
def s82 : SP Tryz.prog:=mkS tyA 82 Tryz.f82 [] { md:=[.ro 1],rg:=[(0,[0],[]),(1,[0,3],[]),(2,[0,3,8],[]),(3,[0,3],[]),(4,[0,3,4],[]),(5,[0,3,4,13],[]),(6,[0,3,4],[]),(7,[0,3,4,26],[]),(8,[2],[]),(9,[2],[])],lv:=[(0,[0,3],[]),(2,[0,3,4],[])],out:=[(0,[],[]),(2,[0,3],[])],rets:=some ([2],[]),plan:=[(7,(.take 0 (.take 1 (.take 2 (.take 3 (.take 4 (.take 5 (.take 6 (.take 7 (.take 8 (.take 9 (.take 10 .done))))))))))))] } Tryz.func82 (by kernel_rfl)
@[go_sem] theorem d82 : s82.g = 82 ∧ s82.fs = ⟨[.ro 1],s82.F,false⟩:=⟨nr rfl,nr rfl⟩
@[go_sem] theorem e82 (ws : List Waiter) (h0 : ws.length ≤ 9223372036854775806) : s82.F [.sl .ro 4 (ws.map (rWaiter .ro))] = some (.b (tw [] ws),[.u]):=mkS_eq (ws.length + 1) rfl rfl (fun cx h=>by
 have hx:=h0
 have hb0:=loopN_eq Tryz.f82 0 _ _ rfl rfl
 obtain ⟨r,hr,hq⟩:=loop_srch (cx:=cx) (blk:=0) (body:=loopN Tryz.f82 0) ws (fun k (s : List Waiter)=>⟨E [(0,.sl .ro 4 (ws.map (rWaiter .ro))),(3,.i .i64 k)],B []⟩) (fun s=>⟨E [],B []⟩) (fun x s=>s.any fun y=>y.Req == x.Req) (fun x s=>s ++ [x]) (fun x s=>(.ret,⟨E [(2,.b true)],B []⟩)) (fun k s=>s = ws.take k)
   (fun s hI G=>by simp only [go_sem,reduceIte,↓reduceIte,reduceCtorEq,nA,nS,nM,nB,nE,nL,nT,nN,iL,iT,iE,iA,iM,iS,iG,iB,iN,iZ,h,Int.lt_irrefl,hb0,hx]) (fun k hk s hI=>by
    have h1 : ((k : Int) < (ws.length : Int)):=Int.ofNat_lt.2 hk
    obtain ⟨q,hq0⟩ : ∃ q,q = k:=⟨k,rfl⟩
    have hq1 : q < ws.length:=by omega
    have hlen : (ws.take q).length = q:=by rw [List.length_take]; omega
    have hb1:=loopN_eq Tryz.f82 1 _ _ rfl rfl
    obtain ⟨r2,hr2,hqr2⟩:=loop_srch (cx:=cx) (blk:=2) (body:=loopN Tryz.f82 1) (ws.take q) (fun k (s : Unit)=>⟨E [(0,.sl .ro 4 (ws.map (rWaiter .ro))),(3,.i .i64 q),(4,.i .i64 k)],B []⟩) (fun s=>⟨E [(0,.sl .ro 4 (ws.map (rWaiter .ro))),(3,.i .i64 q)],B []⟩) (fun x s=>ws[q].Req == x.Req) (fun x s=>()) (fun x s=>(.ret,⟨E [(2,.b true)],B []⟩)) (fun k s=>True)
      (fun s hI G=>by simp only [go_sem,reduceIte,↓reduceIte,reduceCtorEq,nA,nS,nM,nB,nE,nL,nT,nN,iL,iT,iE,iA,iM,iS,iG,iB,iN,iZ,h,Int.lt_irrefl,hb1,hlen,Int.lt_irrefl]) (fun k hk s hI=>by
       have h1 : ((k : Int) < ((ws.take q).length : Int)):=Int.ofNat_lt.2 hk
       have hk2 : k < q:=by rw [List.length_take] at hk; omega
       have hk3 : k < ws.length:=by omega
       have hkq : (k : Int) < (q : Int):=by omega
       have e1 : (ws.take q)[k] = ws[k]:=by simp
       have i1:=idx_nt ws.length k hk3
       have i2:=idx_nt ws.length q hq1
       have w1:=wrap_nat1 (show k < 9223372036854775807 by omega)
       all_goals exact ⟨_,_,_,fun G=>by simp only [go_sem,reduceIte,↓reduceIte,reduceCtorEq,nA,nS,nM,nB,nE,nL,nT,nN,iL,iT,iE,iA,iM,iS,iG,iB,iN,iZ,h,hkq,e1,i1,i2,w1,map_gd (rWaiter .ro) ws k hk3,map_gd (rWaiter .ro) ws q hq1,List.length_map,h1,idx_nt _ _ hk,wrap_nat1 (show k < 9223372036854775807 by omega),hb1] <;> with_reducible rfl,by simp [e1],fun hc=>⟨trivial,by simp only [go_sem,reduceIte,↓reduceIte,reduceCtorEq,nA,nS,nM,nB,nE,nL,nT,nN,iL,iT,iE,iA,iM,iS,iG,iB,iN,iZ,h,hlen]⟩⟩) () trivial (ws.length + 1) (by rw [List.length_take]; omega)
    rw [hb1] at hr2
    subst hq0
    have hfl:=any_flip (ws.take q) ws[q].Req
    have hy : r2 = (if (s.any fun y=>y.Req == ws[q].Req) = true then some (.ret,⟨E [(2,.b true)],B []⟩) else some (.ex 2,⟨E [(0,.sl .ro 4 (ws.map (rWaiter .ro))),(3,.i .i64 q)],B []⟩)):=by
     subst hI
     rcases hqr2 with ⟨s',e1,_,e3⟩ | ⟨x,s',e1,e3⟩
     ·rw [← hfl,runS_any e1,e3]; rfl
     ·rw [← hfl,runS_any' e1,e3]; rfl
    rw [hy] at hr2
    exact ⟨_,_,_,fun G=>by simp only [go_sem,reduceIte,↓reduceIte,reduceCtorEq,nA,nS,nM,nB,nE,nL,nT,nN,iL,iT,iE,iA,iM,iS,iG,iB,iN,iZ,h,hr2,h1,idx_nt ws.length q hk,wrap_nat1 (show q < 9223372036854775807 by omega),hb0] <;> with_reducible rfl,Iff.rfl,fun hc=>⟨(by rw [hI]; exact (take_snoc ws q hk).symm),by simp only [go_sem,reduceIte,↓reduceIte,reduceCtorEq,nA,nS,nM,nB,nE,nL,nT,nN,iL,iT,iE,iA,iM,iS,iG,iB,iN,iZ,h]⟩⟩) [] rfl (ws.length + 1) (Nat.le_refl _)
 rw [hb0] at hr
 rcases hq with ⟨s',e1,_,e3⟩ | ⟨x,s',e1,e3⟩
 ·simp only [go_sem,reduceIte,↓reduceIte,reduceCtorEq,nA,nS,nM,nB,nE,nL,nT,nN,iL,iT,iE,iA,iM,iS,iG,iB,iN,iZ,h,hr,e3,tw_inl e1]
 ·simp only [go_sem,reduceIte,↓reduceIte,reduceCtorEq,nA,nS,nM,nB,nE,nL,nT,nN,iL,iT,iE,iA,iM,iS,iG,iB,iN,iZ,h,hr,e3,tw_inr e1]) (rfl)
def s282 : SP Tryz.prog:=mkS tyA 282 Tryz.f282 [] { md:=[.ro 1],rets:=some ([2],[]) } Tryz.func282 (by kernel_rfl)
@[go_sem] theorem d282 : s282.g = 282 ∧ s282.fs = ⟨[.ro 1],s282.F,false⟩:=⟨nr rfl,nr rfl⟩
@[go_sem] theorem e282 (c : UInt8) : s282.F [.i .u8 c.toNat] = some (.b (letterB c),[.u]):=mkS_eq (0) rfl rfl (fun cx h=>by
 by_cases h1 : 97 ≤ (c.toNat : Int) <;> by_cases h2 : (c.toNat : Int) ≤ 122 <;> by_cases h3 : 65 ≤ (c.toNat : Int) <;> by_cases h4 : (c.toNat : Int) ≤ 90 <;> simp only [go_sem,reduceIte,↓reduceIte,reduceCtorEq,nA,nS,nM,nB,nE,nL,nT,nN,iL,iT,iE,iA,iM,iS,iG,iB,iN,iZ,h,h1,h2,h3,h4,letterB]) (rfl)
def s283 : SP Tryz.prog:=mkS tyA 283 Tryz.f283 [] { md:=[.ro 1],rets:=some ([2],[]) } Tryz.func283 (by kernel_rfl)
@[go_sem] theorem d283 : s283.g = 283 ∧ s283.fs = ⟨[.ro 1],s283.F,false⟩:=⟨nr rfl,nr rfl⟩
@[go_sem] theorem e283 (c : UInt8) : s283.F [.i .u8 c.toNat] = some (.b (digitB c),[.u]):=mkS_eq (0) rfl rfl (fun cx h=>by
 by_cases h1 : 48 ≤ (c.toNat : Int) <;> by_cases h2 : (c.toNat : Int) ≤ 57 <;> simp only [go_sem,reduceIte,↓reduceIte,reduceCtorEq,nA,nS,nM,nB,nE,nL,nT,nN,iL,iT,iE,iA,iM,iS,iG,iB,iN,iZ,h,h1,h2,digitB]) (rfl)
theorem wx : (1 : Int) = 1:=rfl
def s254 : SP Tryz.prog:=mkS tyA 254 Tryz.f254 [s282,s283] { md:=[.ro 1],rg:=[(0,[0],[]),(1,[0,3],[]),(2,[0,3,4],[]),(3,[0,3,4],[]),(4,[0,3,4],[]),(5,[0,3,4],[]),(6,[0,3,4],[]),(7,[0,3,4],[]),(8,[0,3,4],[]),(9,[0,3,4],[]),(10,[0,3,4],[]),(11,[0,3,4],[]),(12,[0,3,4],[]),(13,[0,3,4],[]),(14,[0,3,4],[]),(15,[0,4],[]),(16,[2],[]),(17,[2],[])],rets:=some ([2],[]) } Tryz.func254 (by kernel_rfl)
@[go_sem] theorem d254 : s254.g = 254 ∧ s254.fs = ⟨[.ro 1],s254.F,false⟩:=⟨nr rfl,nr rfl⟩
@[go_sem] theorem e254 (c : UInt8) : s254.F [.i .u8 c.toNat] = some (.b (wordB c),[.u]):=mkS_eq (0) rfl rfl (fun cx h=>by
 by_cases m : c ∈ symB
 ·have hw:=wordB_sym m
  simp only [symB,List.mem_cons,List.not_mem_nil,or_false] at m
  have u33 : (((33 : UInt8).toNat : Nat) : Int) = 33:=rfl
  have u35 : (((35 : UInt8).toNat : Nat) : Int) = 35:=rfl
  have u36 : (((36 : UInt8).toNat : Nat) : Int) = 36:=rfl
  have u37 : (((37 : UInt8).toNat : Nat) : Int) = 37:=rfl
  have u38 : (((38 : UInt8).toNat : Nat) : Int) = 38:=rfl
  have u39 : (((39 : UInt8).toNat : Nat) : Int) = 39:=rfl
  have u42 : (((42 : UInt8).toNat : Nat) : Int) = 42:=rfl
  have u43 : (((43 : UInt8).toNat : Nat) : Int) = 43:=rfl
  have u45 : (((45 : UInt8).toNat : Nat) : Int) = 45:=rfl
  have u46 : (((46 : UInt8).toNat : Nat) : Int) = 46:=rfl
  have u94 : (((94 : UInt8).toNat : Nat) : Int) = 94:=rfl
  have u95 : (((95 : UInt8).toNat : Nat) : Int) = 95:=rfl
  have u124 : (((124 : UInt8).toNat : Nat) : Int) = 124:=rfl
  have u126 : (((126 : UInt8).toNat : Nat) : Int) = 126:=rfl
  rcases m with rfl | rfl | rfl | rfl | rfl | rfl | rfl | rfl | rfl | rfl | rfl | rfl | rfl | rfl <;> simp only [go_sem,reduceIte,↓reduceIte,reduceCtorEq,nA,nS,nM,nB,nE,nL,nT,nN,iL,iT,iE,iA,iM,iS,iG,iB,iN,iZ,h,hw,wx,u33,u35,u36,u37,u38,u39,u42,u43,u45,u46,u94,u95,u124,u126]
 ·have hw:=wordB_not m
  have q33 : ((c.toNat : Int) == 33) = false:=byne (v:=33) (fun e=>m (by subst e; decide))
  have q35 : ((c.toNat : Int) == 35) = false:=byne (v:=35) (fun e=>m (by subst e; decide))
  have q36 : ((c.toNat : Int) == 36) = false:=byne (v:=36) (fun e=>m (by subst e; decide))
  have q37 : ((c.toNat : Int) == 37) = false:=byne (v:=37) (fun e=>m (by subst e; decide))
  have q38 : ((c.toNat : Int) == 38) = false:=byne (v:=38) (fun e=>m (by subst e; decide))
  have q39 : ((c.toNat : Int) == 39) = false:=byne (v:=39) (fun e=>m (by subst e; decide))
  have q42 : ((c.toNat : Int) == 42) = false:=byne (v:=42) (fun e=>m (by subst e; decide))
  have q43 : ((c.toNat : Int) == 43) = false:=byne (v:=43) (fun e=>m (by subst e; decide))
  have q45 : ((c.toNat : Int) == 45) = false:=byne (v:=45) (fun e=>m (by subst e; decide))
  have q46 : ((c.toNat : Int) == 46) = false:=byne (v:=46) (fun e=>m (by subst e; decide))
  have q94 : ((c.toNat : Int) == 94) = false:=byne (v:=94) (fun e=>m (by subst e; decide))
  have q95 : ((c.toNat : Int) == 95) = false:=byne (v:=95) (fun e=>m (by subst e; decide))
  have q124 : ((c.toNat : Int) == 124) = false:=byne (v:=124) (fun e=>m (by subst e; decide))
  have q126 : ((c.toNat : Int) == 126) = false:=byne (v:=126) (fun e=>m (by subst e; decide))
  cases h1 : letterB c <;> cases h2 : digitB c <;> simp only [go_sem,reduceIte,↓reduceIte,reduceCtorEq,nA,nS,nM,nB,nE,nL,nT,nN,iL,iT,iE,iA,iM,iS,iG,iB,iN,iZ,h,hw,h1,h2,q33,q35,q36,q37,q38,q39,q42,q43,q45,q46,q94,q95,q124,q126]) (rfl)
def s161 : SP Tryz.prog:=mkS tyA 161 Tryz.f161 [s254] { md:=[.ro 1],rg:=[(0,[0],[]),(1,[0,11],[]),(2,[2],[]),(3,[0,3],[]),(4,[0,3,15],[]),(5,[0,3],[]),(6,[0,3,22],[]),(7,[2],[]),(8,[2],[])],lv:=[(0,[0,3],[])],out:=[(0,[],[])],rets:=some ([2],[]) } Tryz.func161 (by kernel_rfl)
@[go_sem] theorem d161 : s161.g = 161 ∧ s161.fs = ⟨[.ro 1],s161.F,false⟩:=⟨nr rfl,nr rfl⟩
@[go_sem] theorem e161 (t : ByteArray) : s161.F [.s t] = some (.b (isWord t),[.u]):=mkS_eq (t.data.toList.length + 1) rfl rfl (fun cx h=>by
 have hu : isWord t = areB wordB 1 64 t:=rfl
 by_cases h1 : (t.size : Int) < 1
 ·simp only [go_sem,reduceIte,↓reduceIte,reduceCtorEq,nA,nS,nM,nB,nE,nL,nT,nN,iL,iT,iE,iA,iM,iS,iG,iB,iN,iZ,h,h1,hu,areB_short h1]
 by_cases h2 : 64 < (t.size : Int)
 ·simp only [go_sem,reduceIte,↓reduceIte,reduceCtorEq,nA,nS,nM,nB,nE,nL,nT,nN,iL,iT,iE,iA,iM,iS,iG,iB,iN,iZ,h,h1,h2,hu,areB_long h2]
 have hx : t.data.toList.length ≤ 9223372036854775806:=by rw [← str_size]; omega
 have ha:=areB_all (p:=wordB) h1 h2
 rw [str_size t] at h1 h2
 ·have hb0:=loopN_eq Tryz.f161 0 _ _ rfl rfl
  obtain ⟨r,hr,hq⟩:=loop_srch (cx:=cx) (blk:=0) (body:=loopN Tryz.f161 0) t.data.toList (fun k (s : Unit)=>⟨E [(0,.s t),(3,.i .i64 k)],B []⟩) (fun s=>⟨E [],B []⟩) (fun x s=>!wordB x) (fun x s=>()) (fun x s=>(.ret,⟨E [(2,.b false)],B []⟩)) (fun k s=>True)
    (fun s hI G=>by simp only [go_sem,reduceIte,↓reduceIte,reduceCtorEq,nA,nS,nM,nB,nE,nL,nT,nN,iL,iT,iE,iA,iM,iS,iG,iB,iN,iZ,h,Int.lt_irrefl,hb0,str_size t]) (fun k hk s hI=>by
     have h1 : ((k : Int) < (t.data.toList.length : Int)):=Int.ofNat_lt.2 hk
     have hz:=str_at t k hk
     exact ⟨_,_,_,fun G=>by simp only [go_sem,reduceIte,↓reduceIte,reduceCtorEq,nA,nS,nM,nB,nE,nL,nT,nN,iL,iT,iE,iA,iM,iS,iG,iB,iN,iZ,h,hz,str_size t,h1,idx_nt _ _ hk,wrap_nat1 (show k < 9223372036854775807 by omega),hb0] <;> with_reducible rfl,Iff.rfl,fun hc=>⟨trivial,by simp only [go_sem,reduceIte,↓reduceIte,reduceCtorEq,nA,nS,nM,nB,nE,nL,nT,nN,iL,iT,iE,iA,iM,iS,iG,iB,iN,iZ,h,str_size t]⟩⟩) () trivial (t.data.toList.length + 1) (Nat.le_refl _)
  rw [hb0] at hr
  rcases hq with ⟨s',e1,_,e3⟩ | ⟨x,s',e1,e3⟩
  ·simp only [go_sem,reduceIte,↓reduceIte,reduceCtorEq,nA,nS,nM,nB,nE,nL,nT,nN,iL,iT,iE,iA,iM,iS,iG,iB,iN,iZ,h,h1,h2,str_size t,hr,e3,hu,ha,runS_all e1]
  ·simp only [go_sem,reduceIte,↓reduceIte,reduceCtorEq,nA,nS,nM,nB,nE,nL,nT,nN,iL,iT,iE,iA,iM,iS,iG,iB,iN,iZ,h,h1,h2,str_size t,hr,e3,hu,ha,runS_all' e1]) (rfl)
end
end Go.Vm.A
