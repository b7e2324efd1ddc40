/- Functions of the program, walked by the evaluator. -/
import Derived.Test.YtnbhkifknleipaaGreatDoorWb
import Derived.Test.YtnbhkifknleipaaGreatDoorWa
import Derived.Test.YtnbhkifknleipaaGreatDoorGa
set_option linter.unusedVariables false
set_option linter.unusedSimpArgs false
set_option autoImplicit false
set_option maxRecDepth 100000
set_option maxHeartbeats 4000000
namespace Go.Vm.A
open Go.Proofs
open Nat renaming reduceAdd → nA, reduceSub → nS, reduceMul → nM, reduceBEq → nB, reduceEqDiff → nE, reduceLeDiff → nL, reduceLT → nT, reduceBneDiff → nN
open Int renaming reduceLE → iL, reduceLT → iT, reduceEq → iE, reduceAdd → iA, reduceMul → iM, reduceSub → iS, reduceNeg → iG, reduceBEq → iB, reduceBNe → iN, reduceToNat → iZ
noncomputable section
theorem word_sz (code : List UInt8) {a : Int} (xs : List ByteArray) (N : Nat) (h : aOk a = true) (hx : 0 < xs.length) (hs : ∀ x ∈ xs,x.size ≤ N) : (wordV code a xs).size ≤ N:=by
 have:=nextV_in code (n:=xs.length) h (by omega)
 obtain ⟨i,e,hi⟩ : ∃ i : Nat,nextV code a xs.length = (i : Int) ∧ i < xs.length:=⟨(nextV code a xs.length).toNat,by omega,by omega⟩
 have : wordV code a xs = xs[i]:=by unfold wordV; rw [e]; simp [List.getD,hi]
 rw [this]; exact hs _ (List.getElem_mem hi)
theorem reqV_path (code : List UInt8) {a : Int} (h : dOk a = true) : (reqV code a).Path.size ≤ 20:=by
 simp only [dOk,decide_eq_true_eq] at h
 refine word_sz code _ 20 (by simp only [aOk,decide_eq_true_eq]; omega) (by simp) fun x hx=>?_
 simp only [List.mem_cons,List.not_mem_nil,or_false] at hx
 rcases hx with rfl | rfl | rfl | rfl | rfl | rfl | rfl <;> decide
def eOk (a : Int) : Bool:=decide (0 ≤ a ∧ a ≤ 600000)
def bendM (code : List UInt8) (p : Int) (l : Nat) : Nat:=(pickV code (p + 1) [100,101] - l).toNat
def bendP (code : List UInt8) (a : Int) : Int × Request :=
 let r:=reqV code a
 let p:=(reqP code a).1
 let k:=nextV code p 14
 if k = 0 then (p + 1 + 1,{ r with Method:=wordV code (p + 1) [⟨#[80,79,83,84]⟩,⟨#[103,101,116]⟩,⟨#[]⟩] })
 else if k = 1 then (p + 1 + 1,{ r with Host:=wordV code (p + 1) [⟨#[]⟩,⟨#[97,32,98]⟩,⟨#[97,47,98]⟩,⟨#[97,46,99,111,109,58,56,48]⟩] })
 else if k = 2 then (p + 1 + 1,{ r with Path:=wordV code (p + 1) [⟨#[]⟩,⟨#[120]⟩,⟨#[47,97,32,98]⟩,⟨#[47,1]⟩,⟨#[47,97,34,98]⟩] })
 else if k = 3 then (p + 1,{ r with Headers:=r.Headers ++ [⟨⟨#[104,79,83,84]⟩,⟨#[113]⟩⟩] })
 else if k = 4 then ((bentP code (p + 1)).1,{ r with Headers:=(bentP code (p + 1)).2 })
 else if k = 5 then (p + 1 + 1,{ r with Path:=spaces 112 r.Path (bendM code p r.Path.size) })
 else (p + 1,r)
def s105 : SP Tryz.prog:=mkS tyA 105 Tryz.f105 [s70,s74,s106,s205,s206] { md:=[.rw 2],wk:=true,rg:=[(0,[0,2],[0,2,3]),(1,[0,2,3],[0,2,3]),(2,[0,2,3,8],[0,2,3]),(3,[0,2,3,8,9],[0,2,3]),(4,[0,2,3],[0,2,3]),(5,[0,2,3,8,15],[0,2,3]),(6,[0,2,3],[0,2,3]),(7,[0,2,3,8,21],[0,2,3]),(8,[0,2,3],[0,2,3]),(9,[0,2,3,8,27],[0,2,3]),(10,[0,2,3],[0,2,3]),(11,[0,2,3,8,35],[0,2,3]),(12,[0,2,3],[0,2,3]),(13,[0,2,3,40],[0,2,3]),(14,[0,2,3,4],[0,2,3]),(15,[0,2,3,4,49],[0,2,3]),(16,[0,2,3,4],[0,2,3]),(17,[0,2],[0,2,3])],lv:=[(1,[0,2,3,4],[0,2,3])],out:=[(1,[0,2,3],[0,2,3])],rets:=some ([0,2],[0,2,3]) } Tryz.func105 (by kernel_rfl)
@[go_sem] theorem d105 : s105.g = 105 ∧ s105.fs = ⟨[.rw 2],s105.F,true⟩:=⟨nr rfl,nr rfl⟩
@[go_sem] theorem e105 (code : List UInt8) (a : Int) (h1 : eOk a = true) : s105.F [.agg [.sl .ro 1 (code.map rByte),.i .i64 a]] = some (.agg (rRequest .mut (bendP code a).2),[.agg [.sl .ro 1 (code.map rByte),.i .i64 (bendP code a).1]]):=mkS_eq (300) rfl rfl (fun cx h=>by
 have ha:=h1
 simp only [eOk,decide_eq_true_eq] at ha
 have p0 : dOk a = true:=by simp only [dOk,decide_eq_true_eq]; omega
 have i1:=reqP_le code p0
 have i2:=reqV_path code p0
 have i3 : (reqV code a).Headers.length ≤ 2:=i1.2.2
 obtain ⟨p,hp⟩ : ∃ p,(reqP code a).1 = p:=⟨_,rfl⟩
 obtain ⟨r,hr⟩ : ∃ r,reqV code a = r:=⟨_,rfl⟩
 rw [hp] at i1
 rw [hr] at i2 i3
 have p2 : aOk p = true:=by simp only [aOk,decide_eq_true_eq]; omega
 have p3 : aOk (p + 1) = true:=by simp only [aOk,decide_eq_true_eq]; omega
 have p4 : dOk (p + 1) = true:=by simp only [dOk,decide_eq_true_eq]; omega
 have t3 : (r.Headers.length + 1) * 32 ≤ 140737488355328:=by omega
 have t4 : ∀ x y,r.Headers.map (rHeader .mut) ++ [[.s x,.s y]] = (r.Headers ++ [Header.mk x y]).map (rHeader .mut):=fun x y=>by simp [rHeader]
 obtain ⟨k,hk⟩ : ∃ k,nextV code p 14 = k:=⟨_,rfl⟩
 by_cases c0 : k = 0
 ·subst c0
  simp only [go_sem,reduceIte,↓reduceIte,reduceCtorEq,nA,nS,nM,nB,nE,nL,nT,nN,iL,iT,iE,iA,iM,iS,iG,iB,iN,iZ,h,bendP,hr,hp,hk,p0,p2,p3,p4,t3,t4]
 have d0 : (k == 0) = false:=by simpa using c0
 by_cases c1 : k = 1
 ·subst c1
  simp only [go_sem,reduceIte,↓reduceIte,reduceCtorEq,nA,nS,nM,nB,nE,nL,nT,nN,iL,iT,iE,iA,iM,iS,iG,iB,iN,iZ,h,bendP,hr,hp,hk,p0,p2,p3,p4,t3,t4]
 have d1 : (k == 1) = false:=by simpa using c1
 by_cases c2 : k = 2
 ·subst c2
  simp only [go_sem,reduceIte,↓reduceIte,reduceCtorEq,nA,nS,nM,nB,nE,nL,nT,nN,iL,iT,iE,iA,iM,iS,iG,iB,iN,iZ,h,bendP,hr,hp,hk,p0,p2,p3,p4,t3,t4]
 have d2 : (k == 2) = false:=by simpa using c2
 by_cases c3 : k = 3
 ·subst c3
  simp only [go_sem,reduceIte,↓reduceIte,reduceCtorEq,nA,nS,nM,nB,nE,nL,nT,nN,iL,iT,iE,iA,iM,iS,iG,iB,iN,iZ,h,bendP,hr,hp,hk,p0,p2,p3,p4,t3,t4]
 have d3 : (k == 3) = false:=by simpa using c3
 by_cases c4 : k = 4
 ·subst c4
  simp only [go_sem,reduceIte,↓reduceIte,reduceCtorEq,nA,nS,nM,nB,nE,nL,nT,nN,iL,iT,iE,iA,iM,iS,iG,iB,iN,iZ,h,bendP,hr,hp,hk,p0,p2,p3,p4,t3,t4]
 have d4 : (k == 4) = false:=by simpa using c4
 by_cases c5 : k = 5
 ·subst c5
  have m1:=pick_in code [100,101] p3 (by simp)
  simp only [List.mem_cons,List.not_mem_nil,or_false] at m1
  obtain ⟨K,hK⟩ : ∃ K,pickV code (p + 1) [100,101] = K:=⟨_,rfl⟩
  obtain ⟨M,hM⟩ : ∃ M,bendM code p r.Path.size = M:=⟨_,rfl⟩
  have hM1:=hM
  unfold bendM at hM1
  rw [hK] at m1 hM1
  have hz:=spaces_size 112 r.Path M
  have hKM : ¬ (((r.Path.size + M : Nat) : Int) < K):=by omega
  have hb0:=loopN_eq Tryz.f105 0 _ _ rfl rfl
  obtain ⟨hI,hr1⟩:=loop_fold (cx:=cx) (blk:=1) (body:=loopN Tryz.f105 0) (List.range M) (fun k (s : Unit)=>⟨E [(0,.p ⟨false,0,[],0⟩),(2,.p ⟨false,2,[],0⟩),(3,.p ⟨false,3,[],0⟩),(4,.i .i64 K)],B [(0,[.sl .ro 1 (code.map rByte),.i .i64 (p + 1 + 1)]),(2,[.s ⟨#[]⟩,.s ⟨#[]⟩,.s ⟨#[]⟩,.sl .mut 2 []]),(3,[.s r.Method,.s r.Host,.s (spaces 112 r.Path k),.sl .mut 2 (r.Headers.map (rHeader .mut))])]⟩) (fun s=>⟨E [(0,.p ⟨false,0,[],0⟩),(2,.p ⟨false,2,[],0⟩),(3,.p ⟨false,3,[],0⟩)],B [(0,[.sl .ro 1 (code.map rByte),.i .i64 (p + 1 + 1)]),(2,[.s ⟨#[]⟩,.s ⟨#[]⟩,.s ⟨#[]⟩,.sl .mut 2 []]),(3,[.s r.Method,.s r.Host,.s (spaces 112 r.Path M),.sl .mut 2 (r.Headers.map (rHeader .mut))])]⟩) (fun x s=>()) (fun k s=>True)
    (fun s hI G=>by simp only [go_sem,reduceIte,↓reduceIte,reduceCtorEq,nA,nS,nM,nB,nE,nL,nT,nN,iL,iT,iE,iA,iM,iS,iG,iB,iN,iZ,h,Int.lt_irrefl,hb0,List.length_range,hz,hKM]) (fun k hk s hI=>by
     have h1 : ((k : Int) < ((List.range M).length : Int)):=Int.ofNat_lt.2 hk
     simp only [List.length_range] at hk h1
     have z1:=spaces_size 112 r.Path k
     have t1 : ((r.Path.size + k : Nat) : Int) < K:=by omega
     have t3 : r.Path.size + k + (#[112] : Array UInt8).size ≤ 9223372036854775807:=by simp; omega
     have t5 : spaces 112 r.Path k ++ ⟨#[112]⟩ = spaces 112 r.Path (k + 1):=rfl
     exact ⟨trivial,_,fun G=>by simp only [go_sem,reduceIte,↓reduceIte,reduceCtorEq,nA,nS,nM,nB,nE,nL,nT,nN,iL,iT,iE,iA,iM,iS,iG,iB,iN,iZ,h,z1,t1,t3,t5,h1,idx_nt _ _ hk,wrap_nat1 (show k < 9223372036854775807 by omega),hb0] <;> with_reducible rfl,by simp only [go_sem,reduceIte,↓reduceIte,reduceCtorEq,nA,nS,nM,nB,nE,nL,nT,nN,iL,iT,iE,iA,iM,iS,iG,iB,iN,iZ,h]⟩) () trivial 300 (by simp; omega)
  rw [hb0] at hr1
  rw [show spaces 112 r.Path 0 = r.Path from rfl] at hr1
  simp only [go_sem,reduceIte,↓reduceIte,reduceCtorEq,nA,nS,nM,nB,nE,nL,nT,nN,iL,iT,iE,iA,iM,iS,iG,iB,iN,iZ,h,bendP,hr,hp,hk,p0,p2,p3,p4,t3,t4,hM,hK,hr1]
 have d5 : (k == 5) = false:=by simpa using c5
 simp only [go_sem,reduceIte,↓reduceIte,reduceCtorEq,nA,nS,nM,nB,nE,nL,nT,nN,iL,iT,iE,iA,iM,iS,iG,iB,iN,iZ,h,bendP,hr,hp,hk,p0,p2,p3,p4,t3,t4,c0,d0,c1,d1,c2,d2,c3,d3,c4,d4,c5,d5]) (rfl)
def keyV (code : List UInt8) (a : Int) : ByteArray:=wordV code a [⟨#[97,46,99,111,109,47]⟩,⟨#[97,46,99,111,109,47,120]⟩,⟨#[98,46,111,114,103,47,120]⟩,⟨#[97,46,99,111,109,47,121,63,97,61,49,38,98,61,50]⟩,⟨#[107,49]⟩,⟨#[107,50]⟩,⟨#[107,51]⟩,⟨#[107,52]⟩,⟨#[107,53]⟩]
def waiterV (code : List UInt8) (a : Int) : Waiter:=⟨nextV code a 40,nextV code (a + 1) 4 == 0,pickV code (a + 1 + 1) [0,500,1000,2000],nextV code (a + 1 + 1 + 1) 5 == 0⟩
def s71 : SP Tryz.prog:=mkS tyA 71 Tryz.f71 [s106] { md:=[.rw 2],wk:=true,rets:=some ([0,2],[0]) } Tryz.func71 (by kernel_rfl)
@[go_sem] theorem d71 : s71.g = 71 ∧ s71.fs = ⟨[.rw 2],s71.F,true⟩:=⟨nr rfl,nr rfl⟩
@[go_sem] theorem e71 (code : List UInt8) (a : Int) (h1 : aOk a = true) : s71.F [.agg [.sl .ro 1 (code.map rByte),.i .i64 a]] = some (.s (keyV code a),[.agg [.sl .ro 1 (code.map rByte),.i .i64 (a + 1)]]):=mkS_eq (0) rfl rfl (fun cx h=>by
 simp only [go_sem,reduceIte,↓reduceIte,reduceCtorEq,nA,nS,nM,nB,nE,nL,nT,nN,iL,iT,iE,iA,iM,iS,iG,iB,iN,iZ,h,keyV,h1]) (rfl)
def s337 : SP Tryz.prog:=mkS tyA 337 Tryz.f337 [s69,s70,s74] { md:=[.rw 2],wk:=true,rets:=some ([0,2],[0,2]) } Tryz.func337 (by kernel_rfl)
@[go_sem] theorem d337 : s337.g = 337 ∧ s337.fs = ⟨[.rw 2],s337.F,true⟩:=⟨nr rfl,nr rfl⟩
@[go_sem] theorem e337 (code : List UInt8) (a : Int) (h1 : bOk a = true) : s337.F [.agg [.sl .ro 1 (code.map rByte),.i .i64 a]] = some (.agg (rWaiter .ro (waiterV code a)),[.agg [.sl .ro 1 (code.map rByte),.i .i64 (a + 1 + 1 + 1 + 1)]]):=mkS_eq (0) rfl rfl (fun cx h=>by
 have p0 : aOk (a) = true:=by have:=bOk_a h1 0 (by omega) (by omega); rwa [show a + (0 : Int) = a by omega] at this
 have p1 : aOk (a + 1) = true:=by have:=bOk_a h1 1 (by omega) (by omega); rwa [show a + (1 : Int) = a + 1 by omega] at this
 have p2 : aOk (a + 1 + 1) = true:=by have:=bOk_a h1 2 (by omega) (by omega); rwa [show a + (2 : Int) = a + 1 + 1 by omega] at this
 have p3 : aOk (a + 1 + 1 + 1) = true:=by have:=bOk_a h1 3 (by omega) (by omega); rwa [show a + (3 : Int) = a + 1 + 1 + 1 by omega] at this
 simp only [go_sem,reduceIte,↓reduceIte,reduceCtorEq,nA,nS,nM,nB,nE,nL,nT,nN,iL,iT,iE,iA,iM,iS,iG,iB,iN,iZ,h,waiterV,p0,p1,p2,p3]) (rfl)
/-! two with one number -/
def tw (s : List Waiter) : List Waiter → Bool
 | []=>false
 | x :: r=>if (s.any fun y=>y.Req == x.Req) = true then true else tw (s ++ [x]) r
theorem tw_inl : ∀ {xs s s' : List Waiter},runS (fun x s=>s.any fun y=>y.Req == x.Req) (fun x s=>s ++ [x]) xs s = .inl s' → tw s xs = false
 | [],_,_,_=>rfl
 | x :: xs,s,s',h=>by
  rw [runS_cons] at h
  split at h
  ·cases h
  ·rename_i hc; rw [tw,if_neg hc]; exact tw_inl h
theorem tw_inr : ∀ {xs s : List Waiter} {q : Waiter × List Waiter},runS (fun x s=>s.any fun y=>y.Req == x.Req) (fun x s=>s ++ [x]) xs s = .inr q → tw s xs = true
 | [],_,_,h=>by cases h
 | x :: xs,s,q,h=>by
  rw [runS_cons] at h
  split at h
  ·rename_i hc; rw [tw,if_pos hc]
  ·rename_i hc; rw [tw,if_neg hc]; exact tw_inr h
theorem any_flip (ws : List Waiter) (r : Int) : (ws.any fun y=>r == y.Req) = ws.any fun y=>y.Req == r:=by
 congr 1; funext y; exact Bool.eq_iff_iff.2 (by rw [beq_iff_eq,beq_iff_eq]; exact eq_comm)
theorem take_snoc {α : Type} (xs : List α) (k : Nat) (h : k < xs.length) : xs.take (k + 1) = xs.take k ++ [xs[k]]:=by
 rw [List.take_add_one,List.getElem?_eq_getElem h]; rfl
theorem runS_any {α : Type} {p : α → Bool} : ∀ {xs : List α} {u u' : Unit},runS (fun x _=>p x) (fun _ _=>()) xs u = .inl u' → xs.any p = false
 | [],_,_,_=>rfl
 | x :: xs,u,u',h=>by
  rw [runS_cons] at h
  split at h
  ·cases h
  ·rename_i hc
   simp only [List.any_cons,runS_any h,Bool.or_false]
   simpa using hc
theorem runS_any' {α : Type} {p : α → Bool} : ∀ {xs : List α} {u : Unit} {q : α × Unit},runS (fun x _=>p x) (fun _ _=>()) xs u = .inr q → xs.any p = true
 | [],_,_,h=>by cases h
 | x :: xs,u,q,h=>by
  rw [runS_cons] at h
  split at h
  ·rename_i hc; simp [hc]
  ·simp only [List.any_cons,runS_any' h,Bool.or_true]
def s338 : SP Tryz.prog:=mkS tyA 338 Tryz.f338 [] { md:=[.ro 1,.ro 1],rg:=[(0,[0,1],[]),(1,[0,1,5],[]),(2,[0,1,5,9],[]),(3,[0,1,5],[]),(4,[0,1,5,18],[]),(5,[4],[]),(6,[4],[])],lv:=[(0,[0,1,5],[])],out:=[(0,[],[])],rets:=some ([4],[]) } Tryz.func338 (by kernel_rfl)
@[go_sem] theorem d338 : s338.g = 338 ∧ s338.fs = ⟨[.ro 1,.ro 1],s338.F,false⟩:=⟨nr rfl,nr rfl⟩
@[go_sem] theorem e338 (ws : List Waiter) (req : Int) (h0 : ws.length ≤ 9223372036854775806) : s338.F [.sl .ro 4 (ws.map (rWaiter .ro)),.i .i64 req] = some (.b (ws.any fun x=>x.Req == req),[.u,.u]):=mkS_eq (ws.length + 1) rfl rfl (fun cx h=>by
 have hx:=h0
 have hb0:=loopN_eq Tryz.f338 0 _ _ rfl rfl
 obtain ⟨r,hr,hq⟩:=loop_srch (cx:=cx) (blk:=0) (body:=loopN Tryz.f338 0) ws (fun k (s : Unit)=>⟨E [(0,.sl .ro 4 (ws.map (rWaiter .ro))),(1,.i .i64 req),(5,.i .i64 k)],B []⟩) (fun s=>⟨E [],B []⟩) (fun x s=>x.Req == req) (fun x s=>()) (fun x s=>(.ret,⟨E [(4,.b true)],B []⟩)) (fun k s=>True)
   (fun s hI G=>by simp only [go_sem,reduceIte,↓reduceIte,reduceCtorEq,nA,nS,nM,nB,nE,nL,nT,nN,iL,iT,iE,iA,iM,iS,iG,iB,iN,iZ,h,Int.lt_irrefl,hb0,hx]) (fun k hk s hI=>by
    have h1 : ((k : Int) < (ws.length : Int)):=Int.ofNat_lt.2 hk
    exact ⟨_,_,_,fun G=>by simp only [go_sem,reduceIte,↓reduceIte,reduceCtorEq,nA,nS,nM,nB,nE,nL,nT,nN,iL,iT,iE,iA,iM,iS,iG,iB,iN,iZ,h,map_gd (rWaiter .ro) ws _ hk,h1,idx_nt _ _ hk,wrap_nat1 (show k < 9223372036854775807 by omega),hb0] <;> with_reducible rfl,Iff.rfl,fun hc=>⟨trivial,by simp only [go_sem,reduceIte,↓reduceIte,reduceCtorEq,nA,nS,nM,nB,nE,nL,nT,nN,iL,iT,iE,iA,iM,iS,iG,iB,iN,iZ,h]⟩⟩) () trivial (ws.length + 1) (Nat.le_refl _)
 rw [hb0] at hr
 rcases hq with ⟨s',e1,_,e3⟩ | ⟨x,s',e1,e3⟩
 ·simp only [go_sem,reduceIte,↓reduceIte,reduceCtorEq,nA,nS,nM,nB,nE,nL,nT,nN,iL,iT,iE,iA,iM,iS,iG,iB,iN,iZ,h,hr,e3,runS_any e1]
 ·simp only [go_sem,reduceIte,↓reduceIte,reduceCtorEq,nA,nS,nM,nB,nE,nL,nT,nN,iL,iT,iE,iA,iM,iS,iG,iB,iN,iZ,h,hr,e3,runS_any' e1]) (rfl)
def flyStep (code : List UInt8) (s : Int × List Waiter) : Int × List Waiter:=(s.1 + 1 + 1 + 1 + 1,if (s.2.any fun x=>x.Req == (waiterV code s.1).Req) = true then s.2 else s.2 ++ [waiterV code s.1])
def flyOut (code : List UInt8) (a : Int) : Bool:=nextV code (a + 1 + 1 + 1) 2 == 0
def flyAt (code : List UInt8) (a : Int) : Int:=(reqP code (a + 1 + 1 + 1 + 1)).1
def flyDue (code : List UInt8) (a : Int) : Int:=if flyOut code a = true then pickV code (flyAt code a + 1) [0,700,3000] else 0
def flyQ (code : List UInt8) (a : Int) : Int:=if flyOut code a = true then flyAt code a + 1 + 1 else flyAt code a + 1
def flyN (code : List UInt8) (a : Int) : Int:=pickV code (flyQ code a) [0,1,2,4,10]
def flyRun (code : List UInt8) (a : Int) : Int × List Waiter:=(List.range (flyN code a).toNat).foldl (fun s _=>flyStep code s) (flyQ code a + 1,[])
def flightP (code : List UInt8) (a : Int) : Int × Flight:=((flyRun code a).1,⟨nextV code a 30,keyV code (a + 1),nextV code (a + 1 + 1) 3 == 0,flyOut code a,flyDue code a,nextV code (flyAt code a) 6 == 0,reqV code (a + 1 + 1 + 1 + 1),(flyRun code a).2⟩)
def FlyI (q : Int) (k : Nat) (s : Int × List Waiter) : Prop:=s.1 = q + 4 * k ∧ s.2.length ≤ k
theorem flyI (code : List UInt8) (q : Int) (k : Nat) (s : Int × List Waiter) (h : FlyI q k s) : FlyI q (k + 1) (flyStep code s):=by
 unfold FlyI flyStep at *
 simp only
 split
 ·omega
 ·simp only [List.length_append,List.length_cons,List.length_nil]; omega
theorem flyRun_I (code : List UInt8) (a : Int) : FlyI (flyQ code a + 1) (flyN code a).toNat (flyRun code a):=by
 unfold flyRun
 generalize (flyN code a).toNat = m
 induction m with
 | zero=>unfold FlyI; simp
 | succ m ih=>rw [List.range_succ,List.foldl_append]; exact flyI code _ m _ ih
def s278 : SP Tryz.prog:=mkS tyA 278 Tryz.f278 [s69,s70,s71,s74,s205,s337,s338] { md:=[.rw 2],wk:=true,rg:=[(0,[0,2,15],[0,2,3]),(1,[0,2,3,15],[0,2,3]),(2,[0,2,3,15,20],[0,2,3]),(3,[0,2,3,15],[0,2,3]),(4,[0,2,3,4,15],[0,2,3]),(5,[0,2,3,4,15,29],[0,2,3]),(6,[0,2,3,4,15],[0,2,3]),(7,[0,2,3,4,5,15],[0,2,3,5]),(8,[0,2,3,4,5,15,39],[0,2,3,5]),(9,[0,2,3,4,15],[0,2,3]),(10,[0,2,15],[0,2,3])],lv:=[(0,[0,2,3,4,15],[0,2,3])],out:=[(0,[0,2,3,15],[0,2,3])],rets:=some ([0,2,15],[0,2,3]) } Tryz.func278 (by kernel_rfl)
@[go_sem] theorem d278 : s278.g = 278 ∧ s278.fs = ⟨[.rw 2],s278.F,true⟩:=⟨nr rfl,nr rfl⟩
@[go_sem] theorem e278 (code : List UInt8) (a : Int) (h1 : eOk a = true) : s278.F [.agg [.sl .ro 1 (code.map rByte),.i .i64 a]] = some (.agg (rFlight .mut (flightP code a).2),[.agg [.sl .ro 1 (code.map rByte),.i .i64 (flightP code a).1]]):=mkS_eq (50) rfl rfl (fun cx h=>by
 have ha:=h1
 simp only [eOk,decide_eq_true_eq] at ha
 have p0 : aOk a = true:=by simp only [aOk,decide_eq_true_eq]; omega
 have p1 : aOk (a + 1) = true:=by simp only [aOk,decide_eq_true_eq]; omega
 have p2 : aOk (a + 1 + 1) = true:=by simp only [aOk,decide_eq_true_eq]; omega
 have p3 : aOk (a + 1 + 1 + 1) = true:=by simp only [aOk,decide_eq_true_eq]; omega
 have p4 : dOk (a + 1 + 1 + 1 + 1) = true:=by simp only [dOk,decide_eq_true_eq]; omega
 have i1:=reqP_le code p4
 obtain ⟨p,hp⟩ : ∃ p,(reqP code (a + 1 + 1 + 1 + 1)).1 = p:=⟨_,rfl⟩
 rw [hp] at i1
 have hp2 : flyAt code a = p:=hp
 have p5 : aOk p = true:=by simp only [aOk,decide_eq_true_eq]; omega
 have p6 : aOk (p + 1) = true:=by simp only [aOk,decide_eq_true_eq]; omega
 have p7 : aOk (p + 1 + 1) = true:=by simp only [aOk,decide_eq_true_eq]; omega
 obtain ⟨r,hr⟩ : ∃ r,reqV code (a + 1 + 1 + 1 + 1) = r:=⟨_,rfl⟩
 obtain ⟨I,hI0⟩ : ∃ I,nextV code a 30 = I:=⟨_,rfl⟩
 obtain ⟨Y,hY⟩ : ∃ Y,keyV code (a + 1) = Y:=⟨_,rfl⟩
 obtain ⟨Bk,hBk⟩ : ∃ b,(nextV code (a + 1 + 1) 3 == 0) = b:=⟨_,rfl⟩
 obtain ⟨O,hO⟩ : ∃ b,(nextV code (a + 1 + 1 + 1) 2 == 0) = b:=⟨_,rfl⟩
 have hO2 : flyOut code a = O:=hO
 obtain ⟨Dm,hDm⟩ : ∃ b,(nextV code p 6 == 0) = b:=⟨_,rfl⟩
 obtain ⟨D,hD⟩ : ∃ D,flyDue code a = D:=⟨_,rfl⟩
 obtain ⟨q,hq⟩ : ∃ q,flyQ code a = q:=⟨_,rfl⟩
 obtain ⟨K,hK⟩ : ∃ K,pickV code q [0,1,2,4,10] = K:=⟨_,rfl⟩
 have hD1:=hD
 have hq1:=hq
 unfold flyDue at hD1
 unfold flyQ at hq1
 rw [hO2,hp2] at hD1 hq1
 have hq2 : 0 ≤ q ∧ q ≤ 650000:=by revert hq1; split <;> omega
 have q0 : aOk q = true:=by simp only [aOk,decide_eq_true_eq]; omega
 have hK0 : 0 ≤ K ∧ K ≤ 10:=by
  have m1:=pick_in code [0,1,2,4,10] q0 (by simp)
  simp only [List.mem_cons,List.not_mem_nil,or_false] at m1
  rw [hK] at m1; omega
 have hb0:=loopN_eq Tryz.f278 0 _ _ rfl rfl
 obtain ⟨hI,hr1⟩:=loop_fold (cx:=cx) (blk:=0) (body:=loopN Tryz.f278 0) (List.range K.toNat) (fun k (s : Int × List Waiter)=>⟨E [(0,.p ⟨false,0,[],0⟩),(2,.p ⟨false,2,[],0⟩),(3,.p ⟨false,3,[],0⟩),(4,.i .i64 (K - k)),(15,.agg [.s r.Method,.s r.Host,.s r.Path,.u])],B [(0,[.sl .ro 1 (code.map rByte),.i .i64 s.1]),(2,[.i .i64 0,.s ⟨#[]⟩,.b false,.b false,.i .i64 0,.b false,.s ⟨#[]⟩,.s ⟨#[]⟩,.s ⟨#[]⟩,.sl .mut 2 [],.sl .mut 4 []]),(3,[.i .i64 I,.s Y,.b Bk,.b O,.i .i64 D,.b Dm,.s r.Method,.s r.Host,.s r.Path,.sl .mut 2 (r.Headers.map (rHeader .mut)),.sl .mut 4 (s.2.map (rWaiter .mut))])]⟩) (fun s=>⟨E [(0,.p ⟨false,0,[],0⟩),(2,.p ⟨false,2,[],0⟩),(3,.p ⟨false,3,[],0⟩),(15,.agg [.s r.Method,.s r.Host,.s r.Path,.u])],B [(0,[.sl .ro 1 (code.map rByte),.i .i64 s.1]),(2,[.i .i64 0,.s ⟨#[]⟩,.b false,.b false,.i .i64 0,.b false,.s ⟨#[]⟩,.s ⟨#[]⟩,.s ⟨#[]⟩,.sl .mut 2 [],.sl .mut 4 []]),(3,[.i .i64 I,.s Y,.b Bk,.b O,.i .i64 D,.b Dm,.s r.Method,.s r.Host,.s r.Path,.sl .mut 2 (r.Headers.map (rHeader .mut)),.sl .mut 4 (s.2.map (rWaiter .mut))])]⟩) (fun x s=>flyStep code s) (fun k s=>FlyI (q + 1) k s)
   (fun s hI G=>by simp only [go_sem,reduceIte,↓reduceIte,reduceCtorEq,nA,nS,nM,nB,nE,nL,nT,nN,iL,iT,iE,iA,iM,iS,iG,iB,iN,iZ,h,Int.lt_irrefl,hb0,List.length_range,show ¬ (0 < K - (K.toNat : Int)) from by omega]) (fun k hk s hI=>by
    have h1 : ((k : Int) < ((List.range K.toNat).length : Int)):=Int.ofNat_lt.2 hk
    simp only [List.length_range] at hk h1
    rcases s with ⟨b,ws⟩
    obtain ⟨q1,q2⟩:=id hI
    simp only at q1 q2
    have t1 : 0 < K - (k : Int):=by omega
    have t2 : (IntKind.i64).wrap (K - (k : Int) - 1) = K - ((k + 1 : Nat) : Int):=by rw [wrap_id (by omega) (by omega)]; omega
    have t3 : (ws.length + 1) * 32 ≤ 140737488355328:=by omega
    have t5 : bOk b = true:=by simp only [bOk,decide_eq_true_eq]; omega
    have t6 : ws.length ≤ 9223372036854775806:=by omega
    obtain ⟨W,hW⟩ : ∃ W,waiterV code b = W:=⟨_,rfl⟩
    have t4 : ws.map (rWaiter .mut) ++ [[.i .i64 W.Req,.b W.Head,.i .i64 W.Due,.b W.Late]] = (ws ++ [W]).map (rWaiter .mut):=by simp [rWaiter]
    have hJ:=flyI code (q + 1) k (b,ws) hI
    cases c0 : (ws.any fun x=>x.Req == W.Req)
    all_goals exact ⟨hJ,_,fun G=>by simp only [go_sem,reduceIte,↓reduceIte,reduceCtorEq,nA,nS,nM,nB,nE,nL,nT,nN,iL,iT,iE,iA,iM,iS,iG,iB,iN,iZ,h,t1,t2,t3,t4,t5,t6,hW,c0,h1,idx_nt _ _ hk,wrap_nat1 (show k < 9223372036854775807 by omega),hb0] <;> with_reducible rfl,by simp only [go_sem,reduceIte,↓reduceIte,reduceCtorEq,nA,nS,nM,nB,nE,nL,nT,nN,iL,iT,iE,iA,iM,iS,iG,iB,iN,iZ,h,flyStep,hW,c0]⟩) (q + 1,[]) (by unfold FlyI; simp) 50 (by simp; omega)
 rw [hb0] at hr1
 rw [show K - ((0 : Nat) : Int) = K from by simp] at hr1
 have hrun : (List.range K.toNat).foldl (fun s _=>flyStep code s) (q + 1,[]) = flyRun code a:=by unfold flyRun flyN; rw [hq,hK]
 rw [hrun] at hr1
 have FP : flightP code a = ((flyRun code a).1,⟨I,Y,Bk,O,D,Dm,r,(flyRun code a).2⟩):=by unfold flightP; rw [hI0,hY,hBk,hO2,hD,hp2,hDm,hr]
 rw [FP]
 obtain ⟨S,hS⟩ : ∃ S,flyRun code a = S:=⟨_,rfl⟩
 rw [hS] at hr1 ⊢
 cases O
 ·simp only [Bool.false_eq_true,if_false] at hD1 hq1
  subst hD1 hq1
  simp only [go_sem,reduceIte,↓reduceIte,reduceCtorEq,nA,nS,nM,nB,nE,nL,nT,nN,iL,iT,iE,iA,iM,iS,iG,iB,iN,iZ,h,p0,p1,p2,p3,p4,p5,p6,p7,hp,hr,hI0,hY,hBk,hO,hDm,hK,hr1]
 ·simp only [if_true] at hD1 hq1
  subst hq1
  simp only [go_sem,reduceIte,↓reduceIte,reduceCtorEq,nA,nS,nM,nB,nE,nL,nT,nN,iL,iT,iE,iA,iM,iS,iG,iB,iN,iZ,h,p0,p1,p2,p3,p4,p5,p6,p7,hp,hr,hI0,hY,hBk,hO,hDm,hK,hD1,hr1]) (rfl)
theorem flightP_le (code : List UInt8) {a : Int} (h : eOk a = true) : a ≤ (flightP code a).1 ∧ (flightP code a).1 ≤ a + 100 ∧ (flightP code a).2.Waiters.length ≤ 10 ∧ (flightP code a).2.Get.Headers.length ≤ 2:=by
 have h':=h
 simp only [eOk,decide_eq_true_eq] at h'
 have p4 : dOk (a + 1 + 1 + 1 + 1) = true:=by simp only [dOk,decide_eq_true_eq]; omega
 have i1:=reqP_le code p4
 have hq : a ≤ flyQ code a ∧ flyQ code a ≤ a + 20:=by unfold flyQ flyAt; split <;> omega
 have q0 : aOk (flyQ code a) = true:=by simp only [aOk,decide_eq_true_eq]; omega
 have m1:=pick_in code [0,1,2,4,10] q0 (by simp)
 simp only [List.mem_cons,List.not_mem_nil,or_false] at m1
 have i2:=flyRun_I code a
 unfold FlyI flyN at i2
 unfold flightP
 simp only
 have i3 : (reqV code (a + 1 + 1 + 1 + 1)).Headers.length ≤ 2:=i1.2.2
 omega
def fOk (a : Int) : Bool:=decide (0 ≤ a ∧ a ≤ 500000)
def fbentP (code : List UInt8) (a : Int) : Int × Flight :=
 let p:=(flightP code a).1
 let f:=(flightP code a).2
 let k:=nextV code p 16
 if k = 0 then (p + 1,{ f with Id:=-1 })
 else if k = 1 then (p + 1,{ f with Key:=⟨#[]⟩ })
 else if k = 2 then ((bendP code (p + 1)).1,{ f with Get:=(bendP code (p + 1)).2 })
 else if k = 3 then (p + 1 + 1,{ f with Due:=pickV code (p + 1) [5,-1] })
 else if k = 4 then (p + 1 + 1 + 1,{ f with Waiters:=f.Waiters ++ [⟨pickV code (p + 1) [-1,7,8],false,pickV code (p + 1 + 1) [0,-1],false⟩] })
 else if k = 5 then (p + 1,{ f with Waiters:=f.Waiters ++ f.Waiters.take 1 })
 else (p + 1,f)
def s179 : SP Tryz.prog:=mkS tyA 179 Tryz.f179 [s70,s74,s105,s278] { md:=[.rw 2],wk:=true,rg:=[(0,[0,2],[0,2,3]),(1,[0,2,3],[0,2,3]),(2,[0,2,3,7],[0,2,3]),(3,[0,2,3,7,8],[0,2,3]),(4,[0,2,3],[0,2,3]),(5,[0,2,3,7,11],[0,2,3]),(6,[0,2,3],[0,2,3]),(7,[0,2,3,7,14],[0,2,3]),(8,[0,2,3],[0,2,3]),(9,[0,2,3,7,19],[0,2,3]),(10,[0,2,3],[0,2,3]),(11,[0,2,3,7,25],[0,2,3]),(12,[0,2,3],[0,2,3]),(13,[0,2,3,39],[0,2,3]),(14,[0,2,3,44],[0,2,3]),(15,[0,2,3],[0,2,3]),(16,[0,2],[0,2,3])],rets:=some ([0,2],[0,2,3]),plan:=[(12,(.take 0 (.take 2 (.take 5 (.alt 1 (.alt 3 (.alt 4 (.one 6 (.one 7 (.one 8 (.one 9 (.one 10 (.take 11 (.one 12 .done))))))) (.one 6 (.one 4 (.one 7 (.one 8 (.one 9 (.one 10 (.take 11 (.one 12 .done))))))))) (.one 6 (.one 3 (.one 4 (.one 7 (.one 8 (.one 9 (.one 10 (.take 11 (.one 12 .done)))))))))) (.alt 3 (.alt 1 (.alt 4 (.one 6 (.one 7 (.one 8 (.one 9 (.one 10 (.take 11 (.one 12 .done))))))) (.one 6 (.one 4 (.one 7 (.one 8 (.one 9 (.one 10 (.take 11 (.one 12 .done))))))))) (.alt 4 (.alt 1 (.one 6 (.one 7 (.one 8 (.one 9 (.one 10 (.take 11 (.one 12 .done))))))) (.one 6 (.alt 1 (.one 7 (.one 8 (.one 9 (.one 10 (.take 11 (.one 12 .done)))))) (.one 7 (.alt 1 (.one 8 (.one 9 (.one 10 (.take 11 (.one 12 .done))))) (.one 8 (.alt 1 (.one 9 (.one 10 (.take 11 (.one 12 .done)))) (.one 9 (.one 1 (.one 10 (.take 11 (.one 12 .done)))))))))))) (.one 6 (.alt 1 (.one 4 (.one 7 (.one 8 (.one 9 (.one 10 (.take 11 (.one 12 .done))))))) (.one 4 (.alt 1 (.one 7 (.one 8 (.one 9 (.one 10 (.take 11 (.one 12 .done)))))) (.one 7 (.alt 1 (.one 8 (.one 9 (.one 10 (.take 11 (.one 12 .done))))) (.one 8 (.alt 1 (.one 9 (.one 10 (.take 11 (.one 12 .done)))) (.one 9 (.one 1 (.one 10 (.take 11 (.one 12 .done))))))))))))))) (.one 6 (.alt 1 (.one 3 (.one 4 (.one 7 (.one 8 (.one 9 (.one 10 (.take 11 (.one 12 .done)))))))) (.one 3 (.alt 1 (.one 4 (.one 7 (.one 8 (.one 9 (.one 10 (.take 11 (.one 12 .done))))))) (.one 4 (.alt 1 (.one 7 (.one 8 (.one 9 (.one 10 (.take 11 (.one 12 .done)))))) (.one 7 (.alt 1 (.one 8 (.one 9 (.one 10 (.take 11 (.one 12 .done))))) (.one 8 (.alt 1 (.one 9 (.one 10 (.take 11 (.one 12 .done)))) (.one 9 (.one 1 (.one 10 (.take 11 (.one 12 .done))))))))))))))))))))),(15,(.take 0 (.take 1 (.take 2 (.take 3 (.take 4 (.take 5 (.one 6 (.one 7 (.take 8 (.one 9 .done)))))))))))] } Tryz.func179 (by kernel_rfl)
@[go_sem] theorem d179 : s179.g = 179 ∧ s179.fs = ⟨[.rw 2],s179.F,true⟩:=⟨nr rfl,nr rfl⟩
@[go_sem] theorem e179 (code : List UInt8) (a : Int) (h1 : fOk a = true) : s179.F [.agg [.sl .ro 1 (code.map rByte),.i .i64 a]] = some (.agg (rFlight .mut (fbentP code a).2),[.agg [.sl .ro 1 (code.map rByte),.i .i64 (fbentP code a).1]]):=mkS_eq (0) rfl rfl (fun cx h=>by
 have ha:=h1
 simp only [fOk,decide_eq_true_eq] at ha
 have p0 : eOk a = true:=by simp only [eOk,decide_eq_true_eq]; omega
 obtain ⟨i1,i2,i3,i4⟩:=flightP_le code p0
 obtain ⟨p,hp⟩ : ∃ p,(flightP code a).1 = p:=⟨_,rfl⟩
 obtain ⟨f,hf⟩ : ∃ f,(flightP code a).2 = f:=⟨_,rfl⟩
 rw [hp] at i1 i2
 rw [hf] at i3 i4
 have p2 : aOk p = true:=by simp only [aOk,decide_eq_true_eq]; omega
 have p3 : aOk (p + 1) = true:=by simp only [aOk,decide_eq_true_eq]; omega
 have p4 : eOk (p + 1) = true:=by simp only [eOk,decide_eq_true_eq]; omega
 have p5 : aOk (p + 1 + 1) = true:=by simp only [aOk,decide_eq_true_eq]; omega
 have t3 : (f.Waiters.length + 1) * 32 ≤ 140737488355328:=by omega
 have t4 : ∀ x y,f.Waiters.map (rWaiter .mut) ++ [[.i .i64 x,.b false,.i .i64 y,.b false]] = (f.Waiters ++ [Waiter.mk x false y false]).map (rWaiter .mut):=fun x y=>by simp [rWaiter]
 obtain ⟨k,hk⟩ : ∃ k,nextV code p 16 = k:=⟨_,rfl⟩
 by_cases c0 : k = 0
 ·subst c0
  simp only [go_sem,reduceIte,↓reduceIte,reduceCtorEq,nA,nS,nM,nB,nE,nL,nT,nN,iL,iT,iE,iA,iM,iS,iG,iB,iN,iZ,h,fbentP,hp,hf,hk,p0,p2,p3,p4,p5,t3,t4]
 have d0 : (k == 0) = false:=by simpa using c0
 by_cases c1 : k = 1
 ·subst c1
  simp only [go_sem,reduceIte,↓reduceIte,reduceCtorEq,nA,nS,nM,nB,nE,nL,nT,nN,iL,iT,iE,iA,iM,iS,iG,iB,iN,iZ,h,fbentP,hp,hf,hk,p0,p2,p3,p4,p5,t3,t4]
 have d1 : (k == 1) = false:=by simpa using c1
 by_cases c2 : k = 2
 ·subst c2
  simp only [go_sem,reduceIte,↓reduceIte,reduceCtorEq,nA,nS,nM,nB,nE,nL,nT,nN,iL,iT,iE,iA,iM,iS,iG,iB,iN,iZ,h,fbentP,hp,hf,hk,p0,p2,p3,p4,p5,t3,t4]
 have d2 : (k == 2) = false:=by simpa using c2
 by_cases c3 : k = 3
 ·subst c3
  simp only [go_sem,reduceIte,↓reduceIte,reduceCtorEq,nA,nS,nM,nB,nE,nL,nT,nN,iL,iT,iE,iA,iM,iS,iG,iB,iN,iZ,h,fbentP,hp,hf,hk,p0,p2,p3,p4,p5,t3,t4]
 have d3 : (k == 3) = false:=by simpa using c3
 by_cases c4 : k = 4
 ·subst c4
  simp only [go_sem,reduceIte,↓reduceIte,reduceCtorEq,nA,nS,nM,nB,nE,nL,nT,nN,iL,iT,iE,iA,iM,iS,iG,iB,iN,iZ,h,fbentP,hp,hf,hk,p0,p2,p3,p4,p5,t3,t4]
 have d4 : (k == 4) = false:=by simpa using c4
 by_cases c5 : k = 5
 ·subst c5
  cases hw : f.Waiters with
  | nil=>simp only [go_sem,reduceIte,↓reduceIte,reduceCtorEq,nA,nS,nM,nB,nE,nL,nT,nN,iL,iT,iE,iA,iM,iS,iG,iB,iN,iZ,h,fbentP,hp,hf,hk,p0,p2,p3,p4,p5,t3,t4,hw]
  | cons x ws =>
   rw [hw] at t3
   simp only [List.length_cons] at t3
   have t6 : idx? (ws.length + 1) 0 = some 0:=idx_nt (ws.length + 1) 0 (by omega)
   have t7 : (0 : Int) < ((ws.length + 1 : Nat) : Int):=by omega
   simp only [go_sem,reduceIte,↓reduceIte,reduceCtorEq,nA,nS,nM,nB,nE,nL,nT,nN,iL,iT,iE,iA,iM,iS,iG,iB,iN,iZ,h,fbentP,hp,hf,hk,p0,p2,p3,p4,p5,t3,t4,hw,t6,t7,List.take_length,List.map_append,List.map_cons,List.map_nil,List.cons_append,List.take_succ_cons,List.take_zero]
 have d5 : (k == 5) = false:=by simpa using c5
 simp only [go_sem,reduceIte,↓reduceIte,reduceCtorEq,nA,nS,nM,nB,nE,nL,nT,nN,iL,iT,iE,iA,iM,iS,iG,iB,iN,iZ,h,fbentP,hp,hf,hk,p0,p2,p3,p4,p5,t3,t4,c0,d0,c1,d1,c2,d2,c3,d3,c4,d4,c5,d5]) (rfl)
def dig1 (n : Int) : ByteArray:=⟨#[UInt8.ofNat (48 + n).toNat]⟩
def dig2 (n : Int) : ByteArray:=if n < 10 then dig1 n else dig1 (n.tdiv 10) ++ dig1 (n.tmod 10)
def g1Ok (n : Int) : Bool:=decide (0 ≤ n ∧ n < 10)
def g2Ok (n : Int) : Bool:=decide (0 ≤ n ∧ n < 100)
theorem wrap_u8 {n : Int} (h : 0 ≤ n) (h1 : n ≤ 255) : (IntKind.u8).wrap n = n:=by unfold IntKind.wrap; simp [IntKind.bits,IntKind.signed]; omega
def s180_0 : SP Tryz.prog:=⟨180,⟨[.ro 1],fun _=>none,false⟩,fun _ _ _ _ _ _ _ h=>nomatch h⟩
@[go_sem] theorem d180_0 : s180_0.g = 180 ∧ s180_0.fs = ⟨[.ro 1],s180_0.F,false⟩:=⟨nr rfl,nr rfl⟩
def s180_1 : SP Tryz.prog:=mkS tyA 180 Tryz.f180 [s180_0] { md:=[.ro 1],rg:=[(0,[0],[]),(1,[0,4],[]),(2,[2],[]),(3,[2],[])],rets:=some ([2],[]),plan:=[(3,(.take 0 (.take 1 (.take 3 (.take 4 (.take 5 (.take 6 (.alt 2 (.one 7 (.take 8 (.take 9 (.one 10 .done)))) (.one 7 (.take 8 (.one 2 (.take 9 (.one 10 .done)))))))))))))] } Tryz.func180 (by kernel_rfl)
@[go_sem] theorem d180_1 : s180_1.g = 180 ∧ s180_1.fs = ⟨[.ro 1],s180_1.F,false⟩:=⟨nr rfl,nr rfl⟩
@[go_sem] theorem e180_1 (n : Int) (h0 : g1Ok n = true) : s180_1.F [.i .i64 n] = some (.s (dig1 n),[.u]):=mkS_eq (0) rfl rfl (fun cx h=>by
 have hn:=h0
 simp only [g1Ok,decide_eq_true_eq] at hn
 have c1 : n < 10:=hn.2
 have w1 : (IntKind.i64).wrap (48 + n) = 48 + n:=wrap_id (by omega) (by omega)
 have w2 : (IntKind.u8).wrap (48 + n) = 48 + n:=wrap_u8 (by omega) (by omega)
 simp only [go_sem,reduceIte,↓reduceIte,reduceCtorEq,nA,nS,nM,nB,nE,nL,nT,nN,iL,iT,iE,iA,iM,iS,iG,iB,iN,iZ,h,dig1,c1,w1,w2,strOf]) (rfl)
def s180 : SP Tryz.prog:=mkS tyA 180 Tryz.f180 [s180_1] { md:=[.ro 1],rg:=[(0,[0],[]),(1,[0,4],[]),(2,[2],[]),(3,[2],[])],rets:=some ([2],[]),plan:=[(3,(.take 0 (.take 1 (.take 3 (.take 4 (.take 5 (.take 6 (.alt 2 (.one 7 (.take 8 (.take 9 (.one 10 .done)))) (.one 7 (.take 8 (.one 2 (.take 9 (.one 10 .done)))))))))))))] } Tryz.func180 (by kernel_rfl)
@[go_sem] theorem d180 : s180.g = 180 ∧ s180.fs = ⟨[.ro 1],s180.F,false⟩:=⟨nr rfl,nr rfl⟩
@[go_sem] theorem e180 (n : Int) (h0 : g2Ok n = true) : s180.F [.i .i64 n] = some (.s (dig2 n),[.u]):=mkS_eq (0) rfl rfl (fun cx h=>by
 have hn:=h0
 simp only [g2Ok,decide_eq_true_eq] at hn
 by_cases c1 : n < 10
 ·have w1 : (IntKind.i64).wrap (48 + n) = 48 + n:=wrap_id (by omega) (by omega)
  have w2 : (IntKind.u8).wrap (48 + n) = 48 + n:=wrap_u8 (by omega) (by omega)
  simp only [go_sem,reduceIte,↓reduceIte,reduceCtorEq,nA,nS,nM,nB,nE,nL,nT,nN,iL,iT,iE,iA,iM,iS,iG,iB,iN,iZ,h,dig2,dig1,c1,w1,w2,strOf]
 ·obtain ⟨q,hq⟩ : ∃ q,n.tdiv 10 = q:=⟨_,rfl⟩
  obtain ⟨r,hr⟩ : ∃ r,n.tmod 10 = r:=⟨_,rfl⟩
  have e:=Int.mul_tdiv_add_tmod n 10
  have r1:=Int.tmod_lt_of_pos n (b:=10) (by omega)
  have r0:=Int.tmod_nonneg (a:=n) 10 (by omega)
  rw [hq,hr] at e
  rw [hr] at r1 r0
  have g1 : g1Ok q = true:=by simp only [g1Ok,decide_eq_true_eq]; omega
  have w1 : (IntKind.i64).wrap (48 + r) = 48 + r:=wrap_id (by omega) (by omega)
  have w2 : (IntKind.u8).wrap (48 + r) = 48 + r:=wrap_u8 (by omega) (by omega)
  have w3 : (IntKind.i64).wrap q = q:=wrap_id (by omega) (by omega)
  have sz : #[UInt8.ofNat (48 + q).toNat].size + #[UInt8.ofNat (48 + r).toNat].size ≤ 9223372036854775807:=by simp
  simp only [go_sem,reduceIte,↓reduceIte,reduceCtorEq,nA,nS,nM,nB,nE,nL,nT,nN,iL,iT,iE,iA,iM,iS,iG,iB,iN,iZ,h,dig2,dig1,c1,w1,w2,w3,hq,hr,g1,sz,strOf]) (rfl)
theorem bentP_le (code : List UInt8) {a : Int} (h : dOk a = true) : a ≤ (bentP code a).1 ∧ (bentP code a).1 ≤ a + 1200 ∧ (bentP code a).2.length ≤ 30:=by
 simp only [dOk,decide_eq_true_eq] at h
 obtain ⟨i1,i2,i3,_⟩:=bent0_I code (show aOk a = true by simp only [aOk,decide_eq_true_eq]; omega)
 have i4:=longN_le code ((bent0 code a).1 + 1)
 have m1:=pick_in code [20,21] (show aOk ((bent0 code a).1 + 1) = true by simp only [aOk,decide_eq_true_eq]; omega) (by simp)
 simp only [List.mem_cons,List.not_mem_nil,or_false] at m1
 have i5 : bentM code (bent0 code a).1 (bent0 code a).2.length ≤ 21:=by unfold bentM; omega
 have i6:=linesFrom_I code ((bent0 code a).1 + 1 + 1,(bent0 code a).2) (bentM code (bent0 code a).1 (bent0 code a).2.length)
 simp only at i6
 unfold bentP
 simp only
 repeat' split
 all_goals (try simp only [List.length_append,List.length_cons,List.length_nil]) <;> omega
theorem bendP_le (code : List UInt8) {a : Int} (h : eOk a = true) : a ≤ (bendP code a).1 ∧ (bendP code a).1 ≤ a + 1300:=by
 simp only [eOk,decide_eq_true_eq] at h
 have i1:=reqP_le code (show dOk a = true by simp only [dOk,decide_eq_true_eq]; omega)
 have i2:=bentP_le code (a:=(reqP code a).1 + 1) (by simp only [dOk,decide_eq_true_eq]; omega)
 unfold bendP
 simp only
 repeat' split
 all_goals simp only <;> omega
def ReqIn (ws : List Waiter) : Prop:=∀ w ∈ ws,-1 ≤ w.Req ∧ w.Req ≤ 40
theorem keyV_sz (code : List UInt8) {a : Int} (h : aOk a = true) : (keyV code a).size ≤ 20:=by
 refine word_sz code _ 20 h (by simp) fun x hx=>?_
 simp only [List.mem_cons,List.not_mem_nil,or_false] at hx
 rcases hx with rfl | rfl | rfl | rfl | rfl | rfl | rfl | rfl | rfl <;> decide
theorem flyRun_req (code : List UInt8) {a : Int} (h : 0 ≤ flyQ code a ∧ flyQ code a ≤ 700000) (hN : flyN code a ≤ 10) : ReqIn (flyRun code a).2:=by
 have : ∀ m : Nat,m ≤ 10 → FlyI (flyQ code a + 1) m ((List.range m).foldl (fun s _=>flyStep code s) (flyQ code a + 1,[])) ∧ ReqIn ((List.range m).foldl (fun s _=>flyStep code s) (flyQ code a + 1,[])).2:=by
  intro m
  induction m with
  | zero=>intro _; exact ⟨by unfold FlyI; simp,fun w hw=>by simp at hw⟩
  | succ m ih =>
   intro hm
   obtain ⟨h1,h2⟩:=ih (by omega)
   rw [List.range_succ,List.foldl_append]
   refine ⟨flyI code _ m _ h1,?_⟩
   generalize (List.range m).foldl (fun s _=>flyStep code s) (flyQ code a + 1,[]) = s at h1 h2 ⊢
   unfold FlyI at h1
   have n1:=nextV_in code (a:=s.1) (n:=40) (by simp only [aOk,decide_eq_true_eq]; omega) (by omega)
   simp only [List.foldl_cons,List.foldl_nil,flyStep]
   split
   ·exact h2
   ·intro w hw
    rcases List.mem_append.1 hw with hw | hw
    ·exact h2 w hw
    ·obtain rfl:=List.mem_singleton.1 hw
     show -1 ≤ nextV code s.1 40 ∧ nextV code s.1 40 ≤ 40
     omega
 exact (this (flyN code a).toNat (by omega)).2
theorem fbentP_le (code : List UInt8) {a : Int} (h : fOk a = true) : a ≤ (fbentP code a).1 ∧ (fbentP code a).1 ≤ a + 1500 ∧ (fbentP code a).2.Waiters.length ≤ 20 ∧ (fbentP code a).2.Key.size ≤ 20 ∧ ReqIn (fbentP code a).2.Waiters:=by
 simp only [fOk,decide_eq_true_eq] at h
 have he : eOk a = true:=by simp only [eOk,decide_eq_true_eq]; omega
 obtain ⟨i1,i2,i3,_⟩:=flightP_le code he
 have i4:=bendP_le code (a:=(flightP code a).1 + 1) (by simp only [eOk,decide_eq_true_eq]; omega)
 have k1 : (flightP code a).2.Key.size ≤ 20:=keyV_sz code (by simp only [aOk,decide_eq_true_eq]; omega)
 have r1 : ReqIn (flightP code a).2.Waiters:=by
  have p4 : dOk (a + 1 + 1 + 1 + 1) = true:=by simp only [dOk,decide_eq_true_eq]; omega
  have i1:=reqP_le code p4
  have hq : a ≤ flyQ code a ∧ flyQ code a ≤ a + 20:=by unfold flyQ flyAt; split <;> omega
  have m1:=pick_in code [0,1,2,4,10] (show aOk (flyQ code a) = true by simp only [aOk,decide_eq_true_eq]; omega) (by simp)
  simp only [List.mem_cons,List.not_mem_nil,or_false] at m1
  exact flyRun_req code (by omega) (by unfold flyN; omega)
 have m2:=pick_in code [-1,7,8] (show aOk ((flightP code a).1 + 1) = true by simp only [aOk,decide_eq_true_eq]; omega) (by simp)
 simp only [List.mem_cons,List.not_mem_nil,or_false] at m2
 unfold fbentP
 simp only
 repeat' split
 all_goals simp only
 ·exact ⟨by omega,by omega,by omega,k1,r1⟩
 ·exact ⟨by omega,by omega,by omega,by decide,r1⟩
 ·exact ⟨by omega,by omega,by omega,k1,r1⟩
 ·exact ⟨by omega,by omega,by omega,k1,r1⟩
 ·refine ⟨by omega,by omega,by simp only [List.length_append,List.length_cons,List.length_nil]; omega,k1,fun w hw=>?_⟩
  rcases List.mem_append.1 hw with hw | hw
  ·exact r1 w hw
  ·obtain rfl:=List.mem_singleton.1 hw
   show -1 ≤ pickV code ((flightP code a).1 + 1) [-1,7,8] ∧ pickV code ((flightP code a).1 + 1) [-1,7,8] ≤ 40
   omega
 ·refine ⟨by omega,by omega,by simp only [List.length_append,List.length_take]; omega,k1,fun w hw=>?_⟩
  rcases List.mem_append.1 hw with hw | hw
  ·exact r1 w hw
  ·exact r1 w (List.mem_of_mem_take hw)
 ·exact ⟨by omega,by omega,by omega,k1,r1⟩
end
end Go.Vm.A
