/- Functions of the program, walked by the evaluator. -/
import Derived.Test.YtnbhkifknleipaaGreatDoorWb
import Derived.Test.YtnbhkifknleipaaGreatDoorWa
import Derived.Test.YtnbhkifknleipaaGreatDoorGa
import Derived.Test.YtnbhkifknleipaaGreatDoorGb
set_option linter.unusedVariables false
set_option linter.unusedSimpArgs false
set_option autoImplicit false
set_option maxRecDepth 100000
set_option maxHeartbeats 4000000
namespace Go.Vm.A
open Go.Proofs
open Nat renaming reduceAdd → nA, reduceSub → nS, reduceMul → nM, reduceBEq → nB, reduceEqDiff → nE, reduceLeDiff → nL, reduceLT → nT, reduceBneDiff → nN
open Int renaming reduceLE → iL, reduceLT → iT, reduceEq → iE, reduceAdd → iA, reduceMul → iM, reduceSub → iS, reduceNeg → iG, reduceBEq → iB, reduceBNe → iN, reduceToNat → iZ
noncomputable section
def gOk (a : Int) : Bool:=decide (0 ≤ a ∧ a ≤ 300000)
def laterW (id : Int) (w : Waiter) : Waiter:={ w with Req:=w.Req + 50 * id }
def updK (g : Waiter → Waiter) : Nat → List Waiter → List Waiter
 | 0,l=>l
 | _ + 1,[]=>[]
 | k + 1,x :: l=>g x :: updK g k l
theorem updK_len (g : Waiter → Waiter) (k : Nat) (l : List Waiter) : (updK g k l).length = l.length:=by
 induction k generalizing l with
 | zero=>rfl
 | succ k ih=>cases l with
  | nil=>rfl
  | cons x l=>simp only [updK,List.length_cons,ih]
theorem updK_all (g : Waiter → Waiter) (l : List Waiter) : updK g l.length l = l.map g:=by
 induction l with
 | nil=>rfl
 | cons x l ih=>simp only [List.length_cons,updK,ih,List.map_cons]
theorem updK_get (g : Waiter → Waiter) (k : Nat) (l : List Waiter) (h : k < l.length) : (updK g k l)[k]? = some l[k]:=by
 induction k generalizing l with
 | zero=>cases l with
  | nil=>cases h
  | cons x l=>rfl
 | succ k ih=>cases l with
  | nil=>cases h
  | cons x l=>exact ih l (Nat.lt_of_succ_lt_succ h)
theorem updK_set (g : Waiter → Waiter) (k : Nat) (l : List Waiter) (h : k < l.length) : (updK g k l).set k (g l[k]) = updK g (k + 1) l:=by
 induction k generalizing l with
 | zero=>cases l with
  | nil=>cases h
  | cons x l=>rfl
 | succ k ih=>cases l with
  | nil=>cases h
  | cons x l=>exact congrArg (g x :: ·) (ih l (Nat.lt_of_succ_lt_succ h))
def lstStep (code : List UInt8) (s : Int × Int × List Flight) : Int × Int × List Flight :=
 let p:=(fbentP code s.1).1
 let f:=(fbentP code s.1).2
 let id:=s.2.1 + 1 + nextV code (p + 1) 3
 if (nextV code p 12 == 0) = true then (p + 1,s.2.1,s.2.2 ++ [f])
 else (p + 1 + 1,id,s.2.2 ++ [{ f with Id:=id,Key:=f.Key ++ dig2 id,Waiters:=f.Waiters.map (laterW id) }])
def LstI (a : Int) (k : Nat) (s : Int × Int × List Flight) : Prop:=a ≤ s.1 ∧ s.1 ≤ a + 1600 * k ∧ 0 ≤ s.2.1 ∧ s.2.1 ≤ 3 * k ∧ s.2.2.length = k
theorem lstI (code : List UInt8) {a : Int} (ha : 0 ≤ a ∧ a ≤ 400000) (k : Nat) (hk : k ≤ 10) (s : Int × Int × List Flight) (h : LstI a k s) : LstI a (k + 1) (lstStep code s):=by
 unfold LstI at h
 have i1:=fbentP_le code (a:=s.1) (by simp only [fOk,decide_eq_true_eq]; omega)
 have n1:=nextV_in code (a:=(fbentP code s.1).1 + 1) (n:=3) (by simp only [aOk,decide_eq_true_eq]; omega) (by omega)
 unfold LstI lstStep
 simp only
 split <;> simp only [List.length_append,List.length_cons,List.length_nil] <;> omega
def lstRun (code : List UInt8) (a : Int) : Int × Int × List Flight:=(List.range (nextV code a 4).toNat).foldl (fun s _=>lstStep code s) (a + 1,0,[])
def padF (n : Nat) : Flight:=⟨100 + (n : Int),⟨#[122]⟩ ++ dig2 n,false,false,0,false,⟨⟨#[71,69,84]⟩,⟨#[97]⟩,⟨#[47]⟩,[]⟩,[]⟩
def padL (l : List Flight) : Nat → List Flight
 | 0=>l
 | k + 1=>padL l k ++ [padF (padL l k).length]
theorem padL_len (l : List Flight) (k : Nat) : (padL l k).length = l.length + k:=by
 induction k with
 | zero=>rfl
 | succ k ih=>simp only [padL,List.length_append,List.length_cons,List.length_nil,ih]; omega
def listP (code : List UInt8) (a : Int) : Int × List Flight :=
 ((lstRun code a).1 + 1,if (nextV code (lstRun code a).1 40 == 0) = true then padL (lstRun code a).2.2 (25 - (lstRun code a).2.2.length) else (lstRun code a).2.2)
def s68 : SP Tryz.prog:=mkS tyA 68 Tryz.f68 [s69,s70,s179,s180] { md:=[.rw 2],wk:=true,rg:=[(0,[0],[0]),(1,[0,3],[0]),(2,[0,3,4],[0]),(3,[0,3,4,5],[0]),(4,[0,3,4,5,12],[0]),(5,[0,3,4,5],[0]),(6,[0,3,4,5,6],[0,6]),(7,[0,3,4,5,6,19],[0,6]),(8,[0,3,4,5,6],[0,6]),(9,[0,3,4,5,6],[0,6]),(10,[0,3,4,5,6],[0,6]),(11,[0,3,4,5,6,35,36],[0,6]),(12,[0,3,4,5,6,35,36,37],[0,6]),(13,[0,3,4,5,6,7,35,36],[0,6]),(14,[0,3,4,5,6,35,36],[0,6]),(15,[0,3,4,5,6,35,36],[0,6]),(16,[0,3,4,5],[0]),(17,[0,3,59],[0]),(18,[0,3,62],[0]),(19,[0,3],[0]),(20,[0,2],[0])],lv:=[(0,[0,3,4,5],[0]),(2,[0,3,4,5,6,35,36],[0,6]),(4,[0,3],[0])],out:=[(0,[0,3],[0]),(2,[0,3,4,5,6],[0,6]),(4,[0,3],[0])],rets:=some ([0,2],[0]),plan:=[(10,(.take 0 (.take 1 (.take 2 (.one 3 (.take 4 (.take 5 (.one 6 .done)))))))),(14,(.take 0 (.take 1 (.take 2 (.take 3 (.take 4 (.take 5 (.take 6 (.take 7 (.take 8 (.take 9 (.take 10 (.take 11 (.take 12 (.take 13 (.one 14 .done))))))))))))))))] } Tryz.func68 (by kernel_rfl)
@[go_sem] theorem d68 : s68.g = 68 ∧ s68.fs = ⟨[.rw 2],s68.F,true⟩:=⟨nr rfl,nr rfl⟩
@[go_sem] theorem e68 (code : List UInt8) (a : Int) (h1 : gOk a = true) : s68.F [.agg [.sl .ro 1 (code.map rByte),.i .i64 a]] = some (.sl .mut 11 ((listP code a).2.map (rFlight .mut)),[.agg [.sl .ro 1 (code.map rByte),.i .i64 (listP code a).1]]):=mkS_eq (50) rfl rfl (fun cx h=>by
 have ha:=h1
 simp only [gOk,decide_eq_true_eq] at ha
 have p0 : aOk a = true:=by simp only [aOk,decide_eq_true_eq]; omega
 have n4:=nextV_in code p0 (n:=4) (by omega)
 obtain ⟨K,hK⟩ : ∃ K,nextV code a 4 = K:=⟨_,rfl⟩
 rw [hK] at n4
 have hb0:=loopN_eq Tryz.f68 0 _ _ rfl rfl
 obtain ⟨hI,hr1⟩:=loop_fold (cx:=cx) (blk:=0) (body:=loopN Tryz.f68 0) (List.range K.toNat) (fun k (s : Int × Int × List Flight)=>⟨E [(0,.p ⟨false,0,[],0⟩),(3,.sl .mut 11 (s.2.2.map (rFlight .mut))),(4,.i .i64 s.2.1),(5,.i .i64 (K - k))],B [(0,[.sl .ro 1 (code.map rByte),.i .i64 s.1])]⟩) (fun s=>⟨E [(0,.p ⟨false,0,[],0⟩),(3,.sl .mut 11 (s.2.2.map (rFlight .mut)))],B [(0,[.sl .ro 1 (code.map rByte),.i .i64 s.1])]⟩) (fun x s=>lstStep code s) (fun k s=>LstI (a + 1) k s)
   (fun s hI G=>by simp only [go_sem,reduceIte,↓reduceIte,reduceCtorEq,nA,nS,nM,nB,nE,nL,nT,nN,iL,iT,iE,iA,iM,iS,iG,iB,iN,iZ,h,Int.lt_irrefl,hb0,List.length_range,show ¬ (0 < K - (K.toNat : Int)) from by omega]) (fun k hk s hI=>by
    have h1 : ((k : Int) < ((List.range K.toNat).length : Int)):=Int.ofNat_lt.2 hk
    simp only [List.length_range] at hk h1
    have hJ:=lstI code (a:=a + 1) (by omega) k (by omega) s hI
    rcases s with ⟨b,d,out⟩
    obtain ⟨q1,q2,q3,q4,q5⟩:=hI
    simp only at q1 q2 q3 q4 q5
    have t1 : 0 < K - (k : Int):=by omega
    have t2 : (IntKind.i64).wrap (K - (k : Int) - 1) = K - ((k + 1 : Nat) : Int):=by rw [wrap_id (by omega) (by omega)]; omega
    have t5 : fOk b = true:=by simp only [fOk,decide_eq_true_eq]; omega
    obtain ⟨j1,j2,j3,j4,j5⟩:=fbentP_le code t5
    obtain ⟨p,hp⟩ : ∃ p,(fbentP code b).1 = p:=⟨_,rfl⟩
    obtain ⟨F,hF⟩ : ∃ F,(fbentP code b).2 = F:=⟨_,rfl⟩
    rw [hp] at j1 j2
    rw [hF] at j3 j4 j5
    have t6 : aOk p = true:=by simp only [aOk,decide_eq_true_eq]; omega
    have t7 : aOk (p + 1) = true:=by simp only [aOk,decide_eq_true_eq]; omega
    have n3:=nextV_in code t7 (n:=3) (by omega)
    obtain ⟨D0,hD0⟩ : ∃ D0,nextV code (p + 1) 3 = D0:=⟨_,rfl⟩
    rw [hD0] at n3
    obtain ⟨D,hD⟩ : ∃ D,d + 1 + D0 = D:=⟨_,rfl⟩
    have w3 : (IntKind.i64).wrap (d + 1) = d + 1:=wrap_id (by omega) (by omega)
    have w4 : (IntKind.i64).wrap (d + 1 + D0) = D:=by rw [hD]; exact wrap_id (by omega) (by omega)
    have g2 : g2Ok D = true:=by simp only [g2Ok,decide_eq_true_eq]; omega
    have z1 : (dig2 D).size ≤ 2:=by unfold dig2 dig1; split <;> simp [ByteArray.size_append,ByteArray.size]
    have z2 : F.Key.size + (dig2 D).size ≤ 9223372036854775807:=by omega
    have t3 : (out.length + 1) * 144 ≤ 140737488355328:=by omega
    have t4 : out.map (rFlight .mut) ++ [rFlight .mut F] = (out ++ [F]).map (rFlight .mut):=by simp
    have t4' : out.map (rFlight .mut) ++ [rFlight .mut { F with Id:=D,Key:=F.Key ++ dig2 D,Waiters:=F.Waiters.map (laterW D) }] = (out ++ [{ F with Id:=D,Key:=F.Key ++ dig2 D,Waiters:=F.Waiters.map (laterW D) }]).map (rFlight .mut):=by simp
    have u1:=updK_all (laterW D) F.Waiters
    simp only [rFlight] at t4 t4'
    obtain ⟨q,hq0⟩ : ∃ q,k = q:=⟨k,rfl⟩
    have hb1:=loopN_eq Tryz.f68 1 _ _ rfl rfl
    obtain ⟨hI,hr2⟩:=loop_fold (cx:=cx) (blk:=2) (body:=loopN Tryz.f68 1) F.Waiters (fun k (s : Unit)=>⟨E [(0,.p ⟨false,0,[],0⟩),(3,.sl .mut 11 (out.map (rFlight .mut))),(4,.i .i64 D),(5,.i .i64 (K - q)),(6,.p ⟨false,6,[],0⟩),(35,.i .i64 F.Waiters.length),(36,.i .i64 k)],B [(0,[.sl .ro 1 (code.map rByte),.i .i64 (p + 1 + 1)]),(6,[.i .i64 D,.s (F.Key ++ dig2 D),.b F.Back,.b F.Out,.i .i64 F.Due,.b F.Doomed,.s F.Get.Method,.s F.Get.Host,.s F.Get.Path,.sl .mut 2 (F.Get.Headers.map (rHeader .mut)),.sl .mut 4 ((updK (laterW D) k F.Waiters).map (rWaiter .mut))])]⟩) (fun s=>⟨E [(0,.p ⟨false,0,[],0⟩),(3,.sl .mut 11 (out.map (rFlight .mut))),(4,.i .i64 D),(5,.i .i64 (K - q)),(6,.p ⟨false,6,[],0⟩)],B [(0,[.sl .ro 1 (code.map rByte),.i .i64 (p + 1 + 1)]),(6,[.i .i64 D,.s (F.Key ++ dig2 D),.b F.Back,.b F.Out,.i .i64 F.Due,.b F.Doomed,.s F.Get.Method,.s F.Get.Host,.s F.Get.Path,.sl .mut 2 (F.Get.Headers.map (rHeader .mut)),.sl .mut 4 ((updK (laterW D) (F.Waiters.length) F.Waiters).map (rWaiter .mut))])]⟩) (fun x s=>()) (fun k s=>True)
      (fun s hI G=>by simp only [go_sem,reduceIte,↓reduceIte,reduceCtorEq,nA,nS,nM,nB,nE,nL,nT,nN,iL,iT,iE,iA,iM,iS,iG,iB,iN,iZ,h,Int.lt_irrefl,hb1,List.length_map]) (fun k hk s hI=>by
       have h1 : ((k : Int) < (F.Waiters.length : Int)):=Int.ofNat_lt.2 hk
       have wk1:=j5 F.Waiters[k] (List.getElem_mem hk)
       have e1 : ((updK (laterW D) k F.Waiters).map (rWaiter .mut))[k]? = some (rWaiter .mut F.Waiters[k]):=by rw [List.getElem?_map,updK_get _ _ _ hk]; rfl
       have e2 : ((updK (laterW D) k F.Waiters).map (rWaiter .mut)).set k [.i .i64 (F.Waiters[k].Req + 50 * D),.b F.Waiters[k].Head,.i .i64 F.Waiters[k].Due,.b F.Waiters[k].Late] = (updK (laterW D) (k + 1) F.Waiters).map (rWaiter .mut):=by rw [← updK_set _ _ _ hk,List.map_set]; rfl
       have e3:=updK_len (laterW D) k F.Waiters
       have w1 : (IntKind.i64).wrap (50 * D) = 50 * D:=wrap_id (by omega) (by omega)
       have w2 : (IntKind.i64).wrap (F.Waiters[k].Req + 50 * D) = F.Waiters[k].Req + 50 * D:=wrap_id (by omega) (by omega)
       all_goals exact ⟨trivial,_,fun G=>by simp only [go_sem,reduceIte,↓reduceIte,reduceCtorEq,nA,nS,nM,nB,nE,nL,nT,nN,iL,iT,iE,iA,iM,iS,iG,iB,iN,iZ,h,e1,e2,e3,w1,w2,List.length_map,h1,idx_nt _ _ hk,wrap_nat1 (show k < 9223372036854775807 by omega),hb1] <;> with_reducible rfl,by simp only [go_sem,reduceIte,↓reduceIte,reduceCtorEq,nA,nS,nM,nB,nE,nL,nT,nN,iL,iT,iE,iA,iM,iS,iG,iB,iN,iZ,h]⟩) () trivial 50 (by omega)
    rw [hb1] at hr2
    subst hq0
    rw [u1,show updK (laterW D) 0 F.Waiters = F.Waiters from rfl] at hr2
    cases c0 : nextV code p 12 == 0
    all_goals exact ⟨hJ,_,fun G=>by simp only [go_sem,reduceIte,↓reduceIte,reduceCtorEq,nA,nS,nM,nB,nE,nL,nT,nN,iL,iT,iE,iA,iM,iS,iG,iB,iN,iZ,h,t1,t2,t3,t4,t4',t5,t6,t7,hp,hF,hD0,w3,w4,g2,z2,hr2,c0,h1,idx_nt _ _ hk,wrap_nat1 (show k < 9223372036854775807 by omega),hb0] <;> with_reducible rfl,by simp only [go_sem,reduceIte,↓reduceIte,reduceCtorEq,nA,nS,nM,nB,nE,nL,nT,nN,iL,iT,iE,iA,iM,iS,iG,iB,iN,iZ,h,lstStep,hp,hF,hD0,hD,c0]⟩) (a + 1,0,[]) (by unfold LstI; simp) 50 (by simp; omega)
 rw [hb0] at hr1
 rw [show K - ((0 : Nat) : Int) = K from by simp] at hr1
 have hrun : (List.range K.toNat).foldl (fun s _=>lstStep code s) (a + 1,0,[]) = lstRun code a:=by unfold lstRun; rw [hK]
 rw [hrun] at hI hr1
 obtain ⟨⟨p,d,l⟩,hS⟩ : ∃ S,lstRun code a = S:=⟨_,rfl⟩
 rw [hS] at hI hr1
 obtain ⟨q1,q2,_,_,q5⟩:=hI
 simp only [List.length_range] at q1 q2 q5
 have p1 : aOk p = true:=by simp only [aOk,decide_eq_true_eq]; omega
 cases c : nextV code p 40 == 0
 ·simp only [go_sem,reduceIte,↓reduceIte,reduceCtorEq,nA,nS,nM,nB,nE,nL,nT,nN,iL,iT,iE,iA,iM,iS,iG,iB,iN,iZ,h,listP,p0,p1,hK,hS,hr1,c]
 ·have z9 : (padL l (25 - l.length)).length = 25:=by rw [padL_len]; omega
  have z8 : ¬ (((25 : Nat) : Int) < 25):=by omega
  have hb2:=loopN_eq Tryz.f68 2 _ _ rfl rfl
  obtain ⟨hI,hr3⟩:=loop_fold (cx:=cx) (blk:=4) (body:=loopN Tryz.f68 2) (List.range (25 - l.length)) (fun k (s : Unit)=>⟨E [(0,.p ⟨false,0,[],0⟩),(3,.sl .mut 11 ((padL l k).map (rFlight .mut)))],B [(0,[.sl .ro 1 (code.map rByte),.i .i64 (p + 1)])]⟩) (fun s=>⟨E [(0,.p ⟨false,0,[],0⟩),(3,.sl .mut 11 ((padL l ((List.range (25 - l.length)).length)).map (rFlight .mut)))],B [(0,[.sl .ro 1 (code.map rByte),.i .i64 (p + 1)])]⟩) (fun x s=>()) (fun k s=>True)
    (fun s hI G=>by simp only [go_sem,reduceIte,↓reduceIte,reduceCtorEq,nA,nS,nM,nB,nE,nL,nT,nN,iL,iT,iE,iA,iM,iS,iG,iB,iN,iZ,h,Int.lt_irrefl,hb2,List.length_range,z9,List.length_take,List.length_map,Nat.min_self,z8]) (fun k hk s hI=>by
     have h1 : ((k : Int) < ((List.range (25 - l.length)).length : Int)):=Int.ofNat_lt.2 hk
     simp only [List.length_range] at hk h1
     have z:=padL_len l k
     obtain ⟨m,hm⟩ : ∃ m,l.length + k = m:=⟨_,rfl⟩
     rw [hm] at z
     have m1 : m < 25:=by omega
     have m2 : (m : Int) < 25:=by omega
     have w1 : (IntKind.i64).wrap (100 + (m : Int)) = 100 + (m : Int):=wrap_id (by omega) (by omega)
     have g2 : g2Ok (m : Int) = true:=by simp only [g2Ok,decide_eq_true_eq]; omega
     have z1 : (dig2 (m : Int)).size ≤ 2:=by unfold dig2 dig1; split <;> simp [ByteArray.size_append,ByteArray.size]
     have z2 : (#[122] : Array UInt8).size + (dig2 (m : Int)).size ≤ 9223372036854775807:=by simp; omega
     have t3 : (m + 1) * 144 ≤ 140737488355328:=by omega
     have t4 : (padL l k).map (rFlight .mut) ++ [rFlight .mut (padF m)] = (padL l (k + 1)).map (rFlight .mut):=by simp only [padL,List.map_append,z]; rfl
     simp only [rFlight,padF,List.map_nil] at t4
     have t6 : List.take m ((padL l k).map (rFlight .mut)) = (padL l k).map (rFlight .mut):=List.take_of_length_le (by rw [List.length_map,z]; exact Nat.le_refl _)
     exact ⟨trivial,_,fun G=>by simp only [go_sem,reduceIte,↓reduceIte,reduceCtorEq,nA,nS,nM,nB,nE,nL,nT,nN,iL,iT,iE,iA,iM,iS,iG,iB,iN,iZ,h,t6,z,hm,m2,w1,g2,z2,t3,t4,List.length_take,List.length_map,Nat.min_self,h1,idx_nt _ _ hk,wrap_nat1 (show k < 9223372036854775807 by omega),hb2] <;> with_reducible rfl,by simp only [go_sem,reduceIte,↓reduceIte,reduceCtorEq,nA,nS,nM,nB,nE,nL,nT,nN,iL,iT,iE,iA,iM,iS,iG,iB,iN,iZ,h,t6,t4]⟩) () trivial 50 (by simp; omega)
  rw [hb2] at hr3
  rw [show padL l 0 = l from rfl] at hr3
  simp only [go_sem,reduceIte,↓reduceIte,reduceCtorEq,nA,nS,nM,nB,nE,nL,nT,nN,iL,iT,iE,iA,iM,iS,iG,iB,iN,iZ,h,listP,p0,p1,hK,hS,hr1,c,hr3,List.length_range]) (rfl)
theorem listP_le (code : List UInt8) {a : Int} (h : gOk a = true) : a ≤ (listP code a).1 ∧ (listP code a).1 ≤ a + 6000 ∧ (listP code a).2.length ≤ 25:=by
 have ha:=h
 simp only [gOk,decide_eq_true_eq] at ha
 have n4:=nextV_in code (a:=a) (n:=4) (by simp only [aOk,decide_eq_true_eq]; omega) (by omega)
 have : ∀ m : Nat,m ≤ 4 → LstI (a + 1) m ((List.range m).foldl (fun s _=>lstStep code s) (a + 1,0,[])):=by
  intro m
  induction m with
  | zero=>intro _; unfold LstI; simp
  | succ m ih=>intro hm; rw [List.range_succ,List.foldl_append]; exact lstI code (by omega) m (by omega) _ (ih (by omega))
 have h1:=this (nextV code a 4).toNat (by omega)
 have h2 : LstI (a + 1) (nextV code a 4).toNat (lstRun code a):=h1
 unfold LstI at h2
 unfold listP
 simp only
 split
 ·rw [padL_len]; omega
 ·omega
def drawAt (code : List UInt8) : Nat:=(nextV code ((listP code 0).1 + 1) (listP code 0).2.length).toNat
def drawHit (code : List UInt8) : Bool:=decide (0 < ((listP code 0).2.length : Int)) && !(nextV code (listP code 0).1 4 == 0)
def drawNext (code : List UInt8) : Int:=if 0 < ((listP code 0).2.length : Int) then (listP code 0).1 + 1 else (listP code 0).1
def drawKey (code : List UInt8) : ByteArray:=if drawHit code = true then (((listP code 0).2[drawAt code]?).map Flight.Key).getD ⟨#[]⟩ else keyV code (drawNext code)
def drawId (code : List UInt8) : Int:=if drawHit code = true then (((listP code 0).2[drawAt code]?).map Flight.Id).getD 0 else pickV code (drawNext code) [0,3,-1]
def s10 : SP Tryz.prog:=mkS tyA 10 Tryz.f10 [s67,s68,s69,s70,s71] { md:=[.ro 1],wk:=true,rg:=[(0,[0],[]),(1,[4],[8]),(2,[4,5],[8]),(3,[4,5,6],[8]),(4,[4,5,6,19],[8]),(5,[2,3],[]),(6,[2,3],[])],rets:=some ([2,3],[]),plan:=[(5,(.take 0 (.take 1 (.take 2 (.take 3 (.one 4 (.alt 5 (.take 6 (.alt 7 (.one 8 (.one 9 .done)) (.one 8 (.one 7 (.one 9 .done))))) (.one 8 (.one 5 (.take 6 (.one 7 (.one 9 .done))))))))))))],ws:=[(2,[(true,5,0)])] } Tryz.func10 (by kernel_rfl)
@[go_sem] theorem d10 : s10.g = 10 ∧ s10.fs = ⟨[.ro 1],s10.F,true⟩:=⟨nr rfl,nr rfl⟩
@[go_sem] theorem e10 (code : List UInt8) : s10.F [.sl .ro 1 (code.map rByte)] = some (.tup [.sl .app 11 ((listP code 0).2.map (rFlight .ro)),.s (drawKey code)],[.u]):=mkS_eq (50) rfl rfl (fun cx h=>by
 have g0 : gOk 0 = true:=rfl
 obtain ⟨i1,i2,i3⟩:=listP_le code g0
 obtain ⟨p,hp⟩ : ∃ p,(listP code 0).1 = p:=⟨_,rfl⟩
 obtain ⟨l,hl⟩ : ∃ l,(listP code 0).2 = l:=⟨_,rfl⟩
 rw [hp] at i1 i2
 rw [hl] at i3
 have p0 : aOk p = true:=by simp only [aOk,decide_eq_true_eq]; omega
 have p1 : aOk (p + 1) = true:=by simp only [aOk,decide_eq_true_eq]; omega
 by_cases c : 0 < (l.length : Int)
 ·cases c1 : nextV code p 4 == 0
  ·have n1:=nextV_in code p1 (n:=l.length) (by omega)
   obtain ⟨i,hi⟩ : ∃ i : Nat,nextV code (p + 1) l.length = (i : Int):=⟨(nextV code (p + 1) l.length).toNat,by omega⟩
   have hi2 : i < l.length:=by omega
   have e1 : l[i]? = some l[i]:=List.getElem?_eq_getElem hi2
   have e2 : (l.map (rFlight .ro))[i]? = some (rFlight .ro l[i]):=by rw [List.getElem?_map,e1]; rfl
   simp only [go_sem,reduceIte,↓reduceIte,reduceCtorEq,nA,nS,nM,nB,nE,nL,nT,nN,iL,iT,iE,iA,iM,iS,iG,iB,iN,iZ,h,g0,hp,hl,p0,p1,c,c1,hi,e1,e2,Option.map_some,Option.getD_some,Int.toNat_natCast,idx_nt _ _ hi2,map_gd (rFlight .ro) l i hi2,drawHit,drawAt,drawNext,drawKey]
  ·simp only [go_sem,reduceIte,↓reduceIte,reduceCtorEq,nA,nS,nM,nB,nE,nL,nT,nN,iL,iT,iE,iA,iM,iS,iG,iB,iN,iZ,h,g0,hp,hl,p0,p1,c,c1,drawHit,drawAt,drawNext,drawKey]
 ·simp only [go_sem,reduceIte,↓reduceIte,reduceCtorEq,nA,nS,nM,nB,nE,nL,nT,nN,iL,iT,iE,iA,iM,iS,iG,iB,iN,iZ,h,g0,hp,hl,p0,p1,c,drawHit,drawAt,drawNext,drawKey]) (rfl)
def s182 : SP Tryz.prog:=mkS tyA 182 Tryz.f182 [] { md:=[.ro 1,.ro 1],rets:=some ([3],[]) } Tryz.func182 (by kernel_rfl)
@[go_sem] theorem d182 : s182.g = 182 ∧ s182.fs = ⟨[.ro 1,.ro 1],s182.F,false⟩:=⟨nr rfl,nr rfl⟩
@[go_sem] theorem e182 (xId : Int) (y0 : ByteArray) (y1 y2 : Bool) (y3 : Int) (y4 : Bool) (y5 y6 y7 : ByteArray) (y8 : List Header) (y9 : List Waiter) (key : ByteArray) : s182.F [.agg [.i .i64 xId,.s y0,.b y1,.b y2,.i .i64 y3,.b y4,.s y5,.s y6,.s y7,.sl .ro 2 (y8.map (rHeader .ro)),.sl .ro 4 (y9.map (rWaiter .ro))],.pr [.s key]] = some (.b (eqv (Flight.mk xId y0 y1 y2 y3 y4 (Request.mk y5 y6 y7 y8) y9).Key key),[.u,.u]):=mkS_eq (0) rfl rfl (fun cx h=>by
 simp only [go_sem,reduceIte,↓reduceIte,reduceCtorEq,nA,nS,nM,nB,nE,nL,nT,nN,iL,iT,iE,iA,iM,iS,iG,iB,iN,iZ,h,eqv_bytes]) (rfl)
def s183 : SP Tryz.prog:=mkS tyA 183 Tryz.f183 [] { md:=[.ro 1,.ro 1],rets:=some ([3],[]) } Tryz.func183 (by kernel_rfl)
@[go_sem] theorem d183 : s183.g = 183 ∧ s183.fs = ⟨[.ro 1,.ro 1],s183.F,false⟩:=⟨nr rfl,nr rfl⟩
@[go_sem] theorem e183 (xId : Int) (y0 : ByteArray) (y1 y2 : Bool) (y3 : Int) (y4 : Bool) (y5 y6 y7 : ByteArray) (y8 : List Header) (y9 : List Waiter) (id : Int) : s183.F [.agg [.i .i64 xId,.s y0,.b y1,.b y2,.i .i64 y3,.b y4,.s y5,.s y6,.s y7,.sl .ro 2 (y8.map (rHeader .ro)),.sl .ro 4 (y9.map (rWaiter .ro))],.pr [.i .i64 id]] = some (.b ((Flight.mk xId y0 y1 y2 y3 y4 (Request.mk y5 y6 y7 y8) y9).Id == id),[.u,.u]):=mkS_eq (0) rfl rfl (fun cx h=>by
 simp only [go_sem,reduceIte,↓reduceIte,reduceCtorEq,nA,nS,nM,nB,nE,nL,nT,nN,iL,iT,iE,iA,iM,iS,iG,iB,iN,iZ,h]) (rfl)
def s181 : SP Tryz.prog:=mkS tyA 181 Tryz.f181 [s182,s183] { md:=[.ro 1,.ro 1],rg:=[(0,[0,1],[]),(1,[0,1,7,8],[]),(2,[0,1,7,8,9],[]),(3,[0,1,5,7,8],[]),(4,[0,1,5,7,8,16],[]),(5,[4],[]),(6,[0,1,7,8],[]),(7,[4],[])],lv:=[(0,[0,1,7,8],[])],out:=[(0,[],[])],rets:=some ([4],[]) } Tryz.func181 (by kernel_rfl)
@[go_sem] theorem d181 : s181.g = 181 ∧ s181.fs = ⟨[.ro 1,.ro 1],s181.F,false⟩:=⟨nr rfl,nr rfl⟩
@[go_sem] theorem e181_182 (xs : List Flight) (key : ByteArray) (hb : xs.length ≤ 9223372036854775806) : s181.F [.sl .ro 11 (xs.map (rFlight .ro)),.fn 182 [.pr [.s key]]] = some (.i .i64 (idxP (fun x=>eqv x.Key key) xs 0),[.u,.u]):=mkS_eq (xs.length + 1) rfl rfl (fun cx h=>by
 have hx:=hb
 have hb0:=loopN_eq Tryz.f181 0 _ _ rfl rfl
 obtain ⟨r,hr,hq⟩:=loop_srch (cx:=cx) (blk:=0) (body:=loopN Tryz.f181 0) xs (fun k (s : Nat)=>⟨E [(0,.sl .ro 11 (xs.map (rFlight .ro))),(1,.fn 182 [.pr [.s key]]),(7,.i .i64 xs.length),(8,.i .i64 k)],B []⟩) (fun s=>⟨E [],B []⟩) (fun x s=>eqv x.Key key) (fun x s=>s + 1) (fun x s=>(.ret,⟨E [(4,.i .i64 s)],B []⟩)) (fun k s=>k = s)
   (fun s hI G=>by simp only [go_sem,reduceIte,↓reduceIte,reduceCtorEq,nA,nS,nM,nB,nE,nL,nT,nN,iL,iT,iE,iA,iM,iS,iG,iB,iN,iZ,h,Int.lt_irrefl,hb0,hI]) (fun k hk s hI=>by
    have h1 : ((k : Int) < (xs.length : Int)):=Int.ofNat_lt.2 hk
    obtain rfl:=hI
    exact ⟨_,_,_,fun G=>by simp only [go_sem,reduceIte,↓reduceIte,reduceCtorEq,nA,nS,nM,nB,nE,nL,nT,nN,iL,iT,iE,iA,iM,iS,iG,iB,iN,iZ,h,map_gd (rFlight .ro) xs _ hk,decide_eq_true_eq,h1,idx_nt _ _ hk,wrap_nat1 (show k < 9223372036854775807 by omega),hb0] <;> with_reducible rfl,by first | exact Iff.rfl | simp,fun hc=>⟨rfl,by simp only [go_sem,reduceIte,↓reduceIte,reduceCtorEq,nA,nS,nM,nB,nE,nL,nT,nN,iL,iT,iE,iA,iM,iS,iG,iB,iN,iZ,h]⟩⟩) 0 rfl (xs.length + 1) (Nat.le_refl _)
 rw [hb0] at hr
 rcases hq with ⟨s',e1,_,e3⟩ | ⟨x,s',e1,e3⟩
 ·simp only [go_sem,reduceIte,↓reduceIte,reduceCtorEq,nA,nS,nM,nB,nE,nL,nT,nN,iL,iT,iE,iA,iM,iS,iG,iB,iN,iZ,h,hr,e3,runS_idx e1]
 ·simp only [go_sem,reduceIte,↓reduceIte,reduceCtorEq,nA,nS,nM,nB,nE,nL,nT,nN,iL,iT,iE,iA,iM,iS,iG,iB,iN,iZ,h,hr,e3,runS_idx' e1]) (rfl)
@[go_sem] theorem e181_183 (xs : List Flight) (id : Int) (hb : xs.length ≤ 9223372036854775806) : s181.F [.sl .ro 11 (xs.map (rFlight .ro)),.fn 183 [.pr [.i .i64 id]]] = some (.i .i64 (idxP (fun x=>x.Id == id) xs 0),[.u,.u]):=mkS_eq (xs.length + 1) rfl rfl (fun cx h=>by
 have hx:=hb
 have hb0:=loopN_eq Tryz.f181 0 _ _ rfl rfl
 obtain ⟨r,hr,hq⟩:=loop_srch (cx:=cx) (blk:=0) (body:=loopN Tryz.f181 0) xs (fun k (s : Nat)=>⟨E [(0,.sl .ro 11 (xs.map (rFlight .ro))),(1,.fn 183 [.pr [.i .i64 id]]),(7,.i .i64 xs.length),(8,.i .i64 k)],B []⟩) (fun s=>⟨E [],B []⟩) (fun x s=>x.Id == id) (fun x s=>s + 1) (fun x s=>(.ret,⟨E [(4,.i .i64 s)],B []⟩)) (fun k s=>k = s)
   (fun s hI G=>by simp only [go_sem,reduceIte,↓reduceIte,reduceCtorEq,nA,nS,nM,nB,nE,nL,nT,nN,iL,iT,iE,iA,iM,iS,iG,iB,iN,iZ,h,Int.lt_irrefl,hb0,hI]) (fun k hk s hI=>by
    have h1 : ((k : Int) < (xs.length : Int)):=Int.ofNat_lt.2 hk
    obtain rfl:=hI
    exact ⟨_,_,_,fun G=>by simp only [go_sem,reduceIte,↓reduceIte,reduceCtorEq,nA,nS,nM,nB,nE,nL,nT,nN,iL,iT,iE,iA,iM,iS,iG,iB,iN,iZ,h,map_gd (rFlight .ro) xs _ hk,decide_eq_true_eq,h1,idx_nt _ _ hk,wrap_nat1 (show k < 9223372036854775807 by omega),hb0] <;> with_reducible rfl,by first | exact Iff.rfl | simp,fun hc=>⟨rfl,by simp only [go_sem,reduceIte,↓reduceIte,reduceCtorEq,nA,nS,nM,nB,nE,nL,nT,nN,iL,iT,iE,iA,iM,iS,iG,iB,iN,iZ,h]⟩⟩) 0 rfl (xs.length + 1) (Nat.le_refl _)
 rw [hb0] at hr
 rcases hq with ⟨s',e1,_,e3⟩ | ⟨x,s',e1,e3⟩
 ·simp only [go_sem,reduceIte,↓reduceIte,reduceCtorEq,nA,nS,nM,nB,nE,nL,nT,nN,iL,iT,iE,iA,iM,iS,iG,iB,iN,iZ,h,hr,e3,runS_idx e1]
 ·simp only [go_sem,reduceIte,↓reduceIte,reduceCtorEq,nA,nS,nM,nB,nE,nL,nT,nN,iL,iT,iE,iA,iM,iS,iG,iB,iN,iZ,h,hr,e3,runS_idx' e1]) (rfl)
def s73 : SP Tryz.prog:=mkS tyA 73 Tryz.f73 [s181] { md:=[.ro 1,.ro 1],rets:=some ([4],[]),fz:=[3] } Tryz.func73 (by kernel_rfl)
@[go_sem] theorem d73 : s73.g = 73 ∧ s73.fs = ⟨[.ro 1,.ro 1],s73.F,false⟩:=⟨nr rfl,nr rfl⟩
@[go_sem] theorem e73 (fs : List Flight) (key : ByteArray) (h0 : fs.length ≤ 9223372036854775806) : s73.F [.sl .ro 11 (fs.map (rFlight .ro)),.s key] = some (.i .i64 (idxP (fun x=>eqv x.Key key) fs 0),[.u,.u]):=mkS_eq (0) rfl rfl (fun cx h=>by
 simp only [go_sem,reduceIte,↓reduceIte,reduceCtorEq,nA,nS,nM,nB,nE,nL,nT,nN,iL,iT,iE,iA,iM,iS,iG,iB,iN,iZ,h,h0]) (rfl)
theorem byne {c v : UInt8} (h : c ≠ v) : ((c.toNat : Int) == (v.toNat : Int)) = false:=by
 simp only [beq_eq_false_iff_ne,ne_eq,Int.ofNat_inj]
 exact fun e=>h (UInt8.toNat_inj.1 e)
def letterB (c : UInt8) : Bool:=(decide (97 ≤ (c.toNat : Int)) && decide ((c.toNat : Int) ≤ 122)) || (decide (65 ≤ (c.toNat : Int)) && decide ((c.toNat : Int) ≤ 90))
def digitB (c : UInt8) : Bool:=decide (48 ≤ (c.toNat : Int)) && decide ((c.toNat : Int) ≤ 57)
theorem index_ge (l : List UInt8) (c : UInt8) : 0 ≤ Lib.indexByte l c ↔ c ∈ l:=by
 induction l with
 | nil=>simp [Lib.indexByte]
 | cons b l ih =>
  have:=Lib.indexByte_ge l c
  unfold Lib.indexByte
  by_cases hb : b = c
  ·simp [hb]
  ·by_cases hx : Lib.indexByte l c = -1
   ·have hn : ¬ c ∈ l:=fun h=>by have:=ih.2 h; omega
    simp [hx,hn,hb,Ne.symm hb]
   ·have h2 : 0 ≤ Lib.indexByte l c:=by omega
    simp [hb,hx,ih.1 h2]; omega
def ixB (s : ByteArray) (c : UInt8) : Int:=Lib.indexByte s.data.toList c
theorem ixB_ge (l : List UInt8) (c : UInt8) : decide (0 ≤ ixB ⟨l.toArray⟩ c) = l.contains c:=by
 rw [Bool.eq_iff_iff,decide_eq_true_eq,List.contains_iff_mem]
 exact index_ge l c
theorem int_u8 (c : UInt8) : ((c.toNat : Int)).toNat.toUInt8 = c:=by simp
def s302 : SP Tryz.prog:=mkS tyA 302 Tryz.f302 [] { md:=[.ro 1],rets:=some ([2],[]) } Tryz.func302 (by kernel_rfl)
@[go_sem] theorem d302 : s302.g = 302 ∧ s302.fs = ⟨[.ro 1],s302.F,false⟩:=⟨nr rfl,nr rfl⟩
@[go_sem] theorem e302 (c : UInt8) : s302.F [.i .u8 c.toNat] = some (.b (letterB c),[.u]):=mkS_eq (0) rfl rfl (fun cx h=>by
 by_cases h1 : 97 ≤ (c.toNat : Int) <;> by_cases h2 : (c.toNat : Int) ≤ 122 <;> by_cases h3 : 65 ≤ (c.toNat : Int) <;> by_cases h4 : (c.toNat : Int) ≤ 90 <;> simp only [go_sem,reduceIte,↓reduceIte,reduceCtorEq,nA,nS,nM,nB,nE,nL,nT,nN,iL,iT,iE,iA,iM,iS,iG,iB,iN,iZ,h,h1,h2,h3,h4,letterB]) (rfl)
def s303 : SP Tryz.prog:=mkS tyA 303 Tryz.f303 [] { md:=[.ro 1],rets:=some ([2],[]) } Tryz.func303 (by kernel_rfl)
@[go_sem] theorem d303 : s303.g = 303 ∧ s303.fs = ⟨[.ro 1],s303.F,false⟩:=⟨nr rfl,nr rfl⟩
@[go_sem] theorem e303 (c : UInt8) : s303.F [.i .u8 c.toNat] = some (.b (digitB c),[.u]):=mkS_eq (0) rfl rfl (fun cx h=>by
 by_cases h1 : 48 ≤ (c.toNat : Int) <;> by_cases h2 : (c.toNat : Int) ≤ 57 <;> simp only [go_sem,reduceIte,↓reduceIte,reduceCtorEq,nA,nS,nM,nB,nE,nL,nT,nN,iL,iT,iE,iA,iM,iS,iG,iB,iN,iZ,h,h1,h2,digitB]) (rfl)
def s378 : SP Tryz.prog:=⟨378,⟨[.ro 1,.ro 1],idxF,false⟩,idx_ok Tryz.func378 (by kernel_rfl) (by kernel_rfl) (by kernel_rfl) (by kernel_rfl)⟩
@[go_sem] theorem d378 : s378.g = 378 ∧ s378.fs = ⟨[.ro 1,.ro 1],s378.F,false⟩:=⟨nr rfl,nr rfl⟩
@[go_sem] theorem e378 (s : ByteArray) (c : UInt8) : s378.F [.s s,.i .u8 c.toNat] = some (.i .i64 (ixB s c),[.u,.u]):=by
 show idxF [.s s,.i .u8 c.toNat] = _
 rw [idxF_eq,int_u8]
 rfl
def s354 : SP Tryz.prog:=mkS tyA 354 Tryz.f354 [s378] { md:=[.ro 1,.ro 1],rets:=some ([4],[]) } Tryz.func354 (by kernel_rfl)
@[go_sem] theorem d354 : s354.g = 354 ∧ s354.fs = ⟨[.ro 1,.ro 1],s354.F,false⟩:=⟨nr rfl,nr rfl⟩
@[go_sem] theorem e354 (s : ByteArray) (c : UInt8) : s354.F [.s s,.i .u8 c.toNat] = some (.i .i64 (ixB s c),[.u,.u]):=mkS_eq (0) rfl rfl (fun cx h=>by
 simp only [go_sem,reduceIte,↓reduceIte,reduceCtorEq,nA,nS,nM,nB,nE,nL,nT,nN,iL,iT,iE,iA,iM,iS,iG,iB,iN,iZ,h]) (rfl)
def s304 : SP Tryz.prog:=mkS tyA 304 Tryz.f304 [s354] { md:=[.ro 1,.ro 1],rets:=some ([4],[]) } Tryz.func304 (by kernel_rfl)
@[go_sem] theorem d304 : s304.g = 304 ∧ s304.fs = ⟨[.ro 1,.ro 1],s304.F,false⟩:=⟨nr rfl,nr rfl⟩
@[go_sem] theorem e304 (s : ByteArray) (c : UInt8) : s304.F [.s s,.i .u8 c.toNat] = some (.i .i64 (ixB s c),[.u,.u]):=mkS_eq (0) rfl rfl (fun cx h=>by
 simp only [go_sem,reduceIte,↓reduceIte,reduceCtorEq,nA,nS,nM,nB,nE,nL,nT,nN,iL,iT,iE,iA,iM,iS,iG,iB,iN,iZ,h]) (rfl)
def symB : List UInt8:=[33,35,36,37,38,39,42,43,45,46,94,95,124,126]
def wordB (c : UInt8) : Bool:=letterB c || digitB c || symB.contains c
theorem wordB_sym {c : UInt8} (h : c ∈ symB) : wordB c = true:=by
 have : symB.contains c = true:=List.contains_iff_mem.2 h
 simp [wordB,this,-List.contains_eq_mem]
theorem wordB_not {c : UInt8} (h : ¬ c ∈ symB) : wordB c = (letterB c || digitB c):=by
 have : symB.contains c = false:=by rw [Bool.eq_false_iff]; exact fun e=>h (List.contains_iff_mem.1 e)
 simp [wordB,this,-List.contains_eq_mem]
theorem ixB_sym (c : UInt8) : decide (0 ≤ ixB ⟨#[33,35,36,37,38,39,42,43,45,46,94,95,124,126]⟩ c) = symB.contains c:=ixB_ge symB c
@[go_sem] theorem ixB_symI (c : UInt8) : decide (ixB ⟨#[33,35,36,37,38,39,42,43,45,46,94,95,124,126]⟩ c ≥ 0) = symB.contains c:=ixB_ge symB c
def s259 : SP Tryz.prog:=mkS tyA 259 Tryz.f259 [s302,s303,s304] { md:=[.ro 1],rets:=some ([2],[]) } Tryz.func259 (by kernel_rfl)
@[go_sem] theorem d259 : s259.g = 259 ∧ s259.fs = ⟨[.ro 1],s259.F,false⟩:=⟨nr rfl,nr rfl⟩
@[go_sem] theorem e259 (c : UInt8) : s259.F [.i .u8 c.toNat] = some (.b (wordB c),[.u]):=mkS_eq (0) rfl rfl (fun cx h=>by
 have hix:=ixB_sym c
 have hu : wordB c = (letterB c || digitB c || symB.contains c):=rfl
 cases h1 : letterB c <;> cases h2 : digitB c <;> cases h3 : symB.contains c <;> simp only [go_sem,reduceIte,↓reduceIte,reduceCtorEq,nA,nS,nM,nB,nE,nL,nT,nN,iL,iT,iE,iA,iM,iS,iG,iB,iN,iZ,h,h1,h2,h3,hu,hix]) (rfl)
def plainB (c : UInt8) : Bool:=((c.toNat : Int) == 9) || (decide (32 ≤ (c.toNat : Int)) && decide ((c.toNat : Int) ≤ 126))
def s344 : SP Tryz.prog:=mkS tyA 344 Tryz.f344 [] { md:=[.ro 1],rets:=some ([2],[]) } Tryz.func344 (by kernel_rfl)
@[go_sem] theorem d344 : s344.g = 344 ∧ s344.fs = ⟨[.ro 1],s344.F,false⟩:=⟨nr rfl,nr rfl⟩
@[go_sem] theorem e344 (c : UInt8) : s344.F [.i .u8 c.toNat] = some (.b (plainB c),[.u]):=mkS_eq (0) rfl rfl (fun cx h=>by
 cases h1 : ((c.toNat : Int) == 9) <;> by_cases h2 : 32 ≤ (c.toNat : Int) <;> by_cases h3 : (c.toNat : Int) ≤ 126 <;> simp only [go_sem,reduceIte,↓reduceIte,reduceCtorEq,nA,nS,nM,nB,nE,nL,nT,nN,iL,iT,iE,iA,iM,iS,iG,iB,iN,iZ,h,h1,h2,h3,plainB]) (rfl)
def hostB (c : UInt8) : Bool:=letterB c || digitB c || ((c.toNat : Int) == 46) || ((c.toNat : Int) == 45)
def s219 : SP Tryz.prog:=mkS tyA 219 Tryz.f219 [s302,s303] { md:=[.ro 1],rets:=some ([2],[]) } Tryz.func219 (by kernel_rfl)
@[go_sem] theorem d219 : s219.g = 219 ∧ s219.fs = ⟨[.ro 1],s219.F,false⟩:=⟨nr rfl,nr rfl⟩
@[go_sem] theorem e219 (c : UInt8) : s219.F [.i .u8 c.toNat] = some (.b (hostB c),[.u]):=mkS_eq (0) rfl rfl (fun cx h=>by
 cases h1 : letterB c <;> cases h2 : digitB c <;> cases h3 : ((c.toNat : Int) == 46) <;> cases h4 : ((c.toNat : Int) == 45) <;> simp only [go_sem,reduceIte,↓reduceIte,reduceCtorEq,nA,nS,nM,nB,nE,nL,nT,nN,iL,iT,iE,iA,iM,iS,iG,iB,iN,iZ,h,h1,h2,h3,h4,hostB]) (rfl)
def pSymB : List UInt8:=[47,63,61,38,58,64,44,59,40,41]
def pathB (c : UInt8) : Bool:=wordB c || pSymB.contains c
theorem pathB_sym {c : UInt8} (h : c ∈ pSymB) : pathB c = true:=by
 have : pSymB.contains c = true:=List.contains_iff_mem.2 h
 simp [pathB,this,-List.contains_eq_mem]
theorem pathB_not {c : UInt8} (h : ¬ c ∈ pSymB) : pathB c = wordB c:=by
 have : pSymB.contains c = false:=by rw [Bool.eq_false_iff]; exact fun e=>h (List.contains_iff_mem.1 e)
 simp [pathB,this,-List.contains_eq_mem]
theorem ixB_psym (c : UInt8) : decide (0 ≤ ixB ⟨#[47,63,61,38,58,64,44,59,40,41]⟩ c) = pSymB.contains c:=ixB_ge pSymB c
def s220 : SP Tryz.prog:=mkS tyA 220 Tryz.f220 [s259,s304] { md:=[.ro 1],rets:=some ([2],[]) } Tryz.func220 (by kernel_rfl)
@[go_sem] theorem d220 : s220.g = 220 ∧ s220.fs = ⟨[.ro 1],s220.F,false⟩:=⟨nr rfl,nr rfl⟩
@[go_sem] theorem e220 (c : UInt8) : s220.F [.i .u8 c.toNat] = some (.b (pathB c),[.u]):=mkS_eq (0) rfl rfl (fun cx h=>by
 have hix:=ixB_psym c
 have hu : pathB c = (wordB c || pSymB.contains c):=rfl
 cases h1 : wordB c <;> cases h3 : pSymB.contains c <;> simp only [go_sem,reduceIte,↓reduceIte,reduceCtorEq,nA,nS,nM,nB,nE,nL,nT,nN,iL,iT,iE,iA,iM,iS,iG,iB,iN,iZ,h,h1,h3,hu,hix]) (rfl)
def areB (p : UInt8 → Bool) (lo hi : Int) (t : ByteArray) : Bool:=decide (lo ≤ (t.size : Int)) && decide ((t.size : Int) ≤ hi) && t.data.toList.all p
theorem areB_short {p : UInt8 → Bool} {lo hi : Int} {t : ByteArray} (h : (t.size : Int) < lo) : areB p lo hi t = false:=by
 have : ¬ lo ≤ (t.size : Int):=by omega
 simp [areB,this]
theorem areB_long {p : UInt8 → Bool} {lo hi : Int} {t : ByteArray} (h : hi < (t.size : Int)) : areB p lo hi t = false:=by
 have : ¬ (t.size : Int) ≤ hi:=by omega
 simp [areB,this]
theorem areB_all {p : UInt8 → Bool} {lo hi : Int} {t : ByteArray} (h : ¬ (t.size : Int) < lo) (h' : ¬ hi < (t.size : Int)) : areB p lo hi t = t.data.toList.all p:=by
 have h1 : lo ≤ (t.size : Int):=by omega
 have h2 : (t.size : Int) ≤ hi:=by omega
 simp [areB,h1,h2]
theorem runS_all {α : Type} {p : α → Bool} : ∀ {xs : List α} {u u' : Unit},runS (fun x _=>!p x) (fun _ _=>()) xs u = .inl u' → xs.all p = true
 | [],_,_,_=>rfl
 | x :: xs,u,u',h=>by
  rw [runS_cons] at h
  split at h
  ·cases h
  ·rename_i hc
   simp only [List.all_cons,runS_all h,Bool.and_true]
   simpa using hc
theorem runS_all' {α : Type} {p : α → Bool} : ∀ {xs : List α} {u : Unit} {q : α × Unit},runS (fun x _=>!p x) (fun _ _=>()) xs u = .inr q → xs.all p = false
 | [],_,_,h=>by cases h
 | x :: xs,u,q,h=>by
  rw [runS_cons] at h
  split at h
  ·rename_i hc
   have : p x = false:=by simpa using hc
   simp [this]
  ·simp only [List.all_cons,runS_all' h,Bool.and_false]
theorem str_at (t : ByteArray) (k : Nat) (h : k < t.data.toList.length) : t.data[k]?.getD 0 = t.data.toList[k]:=by
 have h' : k < t.data.size:=by simpa using h
 rw [Array.getElem?_eq_getElem h']
 simp
theorem str_size (t : ByteArray) : t.size = t.data.toList.length:=by
 show t.data.size = _
 simp
def s218 : SP Tryz.prog:=mkS tyA 218 Tryz.f218 [s219,s220,s259,s303,s344] { md:=[.ro 1,.ro 1,.ro 1,.ro 1],rg:=[(0,[0,1,2,3],[]),(1,[0,3,19],[]),(2,[8],[]),(3,[0,3,21,22],[]),(4,[0,3,21,22,23],[]),(5,[0,3,9,21,22],[]),(6,[0,3,21,22,30],[]),(7,[8],[]),(8,[0,3,21,22],[]),(9,[8],[])],lv:=[(0,[0,3,21,22],[])],out:=[(0,[],[])],rets:=some ([8],[]) } Tryz.func218 (by kernel_rfl)
@[go_sem] theorem d218 : s218.g = 218 ∧ s218.fs = ⟨[.ro 1,.ro 1,.ro 1,.ro 1],s218.F,false⟩:=⟨nr rfl,nr rfl⟩
@[go_sem] theorem e218_259 (t : ByteArray) (lo hi : Int) (hb : hi ≤ 1000000) : s218.F [.s t,.i .i64 lo,.i .i64 hi,.fn 259 []] = some (.b (areB wordB lo hi t),[.u,.u,.u,.u]):=mkS_eq (t.data.toList.length + 1) rfl rfl (fun cx h=>by
 by_cases h1 : (t.size : Int) < lo
 ·simp only [go_sem,reduceIte,↓reduceIte,reduceCtorEq,nA,nS,nM,nB,nE,nL,nT,nN,iL,iT,iE,iA,iM,iS,iG,iB,iN,iZ,h,h1,areB_short h1]
 by_cases h2 : hi < (t.size : Int)
 ·simp only [go_sem,reduceIte,↓reduceIte,reduceCtorEq,nA,nS,nM,nB,nE,nL,nT,nN,iL,iT,iE,iA,iM,iS,iG,iB,iN,iZ,h,h1,h2,areB_long h2]
 have hx : t.data.toList.length ≤ 9223372036854775806:=by rw [← str_size]; omega
 have ha:=areB_all (p:=wordB) h1 h2
 rw [str_size t] at h1 h2
 ·have hb0:=loopN_eq Tryz.f218 0 _ _ rfl rfl
  obtain ⟨r,hr,hq⟩:=loop_srch (cx:=cx) (blk:=0) (body:=loopN Tryz.f218 0) t.data.toList (fun k (s : Unit)=>⟨E [(0,.s t),(3,.fn 259 []),(21,.i .i64 t.size),(22,.i .i64 k)],B []⟩) (fun s=>⟨E [],B []⟩) (fun x s=>!wordB x) (fun x s=>()) (fun x s=>(.ret,⟨E [(8,.b false)],B []⟩)) (fun k s=>True)
    (fun s hI G=>by simp only [go_sem,reduceIte,↓reduceIte,reduceCtorEq,nA,nS,nM,nB,nE,nL,nT,nN,iL,iT,iE,iA,iM,iS,iG,iB,iN,iZ,h,Int.lt_irrefl,hb0,str_size t]) (fun k hk s hI=>by
     have h1 : ((k : Int) < (t.data.toList.length : Int)):=Int.ofNat_lt.2 hk
     have hz:=str_at t k hk
     exact ⟨_,_,_,fun G=>by simp only [go_sem,reduceIte,↓reduceIte,reduceCtorEq,nA,nS,nM,nB,nE,nL,nT,nN,iL,iT,iE,iA,iM,iS,iG,iB,iN,iZ,h,hz,str_size t,h1,idx_nt _ _ hk,wrap_nat1 (show k < 9223372036854775807 by omega),hb0] <;> with_reducible rfl,Iff.rfl,fun hc=>⟨trivial,by simp only [go_sem,reduceIte,↓reduceIte,reduceCtorEq,nA,nS,nM,nB,nE,nL,nT,nN,iL,iT,iE,iA,iM,iS,iG,iB,iN,iZ,h,str_size t]⟩⟩) () trivial (t.data.toList.length + 1) (Nat.le_refl _)
  rw [hb0] at hr
  rcases hq with ⟨s',e1,_,e3⟩ | ⟨x,s',e1,e3⟩
  ·simp only [go_sem,reduceIte,↓reduceIte,reduceCtorEq,nA,nS,nM,nB,nE,nL,nT,nN,iL,iT,iE,iA,iM,iS,iG,iB,iN,iZ,h,h1,h2,str_size t,hr,e3,ha,runS_all e1]
  ·simp only [go_sem,reduceIte,↓reduceIte,reduceCtorEq,nA,nS,nM,nB,nE,nL,nT,nN,iL,iT,iE,iA,iM,iS,iG,iB,iN,iZ,h,h1,h2,str_size t,hr,e3,ha,runS_all' e1]) (rfl)
@[go_sem] theorem e218_344 (t : ByteArray) (lo hi : Int) (hb : hi ≤ 1000000) : s218.F [.s t,.i .i64 lo,.i .i64 hi,.fn 344 []] = some (.b (areB plainB lo hi t),[.u,.u,.u,.u]):=mkS_eq (t.data.toList.length + 1) rfl rfl (fun cx h=>by
 by_cases h1 : (t.size : Int) < lo
 ·simp only [go_sem,reduceIte,↓reduceIte,reduceCtorEq,nA,nS,nM,nB,nE,nL,nT,nN,iL,iT,iE,iA,iM,iS,iG,iB,iN,iZ,h,h1,areB_short h1]
 by_cases h2 : hi < (t.size : Int)
 ·simp only [go_sem,reduceIte,↓reduceIte,reduceCtorEq,nA,nS,nM,nB,nE,nL,nT,nN,iL,iT,iE,iA,iM,iS,iG,iB,iN,iZ,h,h1,h2,areB_long h2]
 have hx : t.data.toList.length ≤ 9223372036854775806:=by rw [← str_size]; omega
 have ha:=areB_all (p:=plainB) h1 h2
 rw [str_size t] at h1 h2
 ·have hb0:=loopN_eq Tryz.f218 0 _ _ rfl rfl
  obtain ⟨r,hr,hq⟩:=loop_srch (cx:=cx) (blk:=0) (body:=loopN Tryz.f218 0) t.data.toList (fun k (s : Unit)=>⟨E [(0,.s t),(3,.fn 344 []),(21,.i .i64 t.size),(22,.i .i64 k)],B []⟩) (fun s=>⟨E [],B []⟩) (fun x s=>!plainB x) (fun x s=>()) (fun x s=>(.ret,⟨E [(8,.b false)],B []⟩)) (fun k s=>True)
    (fun s hI G=>by simp only [go_sem,reduceIte,↓reduceIte,reduceCtorEq,nA,nS,nM,nB,nE,nL,nT,nN,iL,iT,iE,iA,iM,iS,iG,iB,iN,iZ,h,Int.lt_irrefl,hb0,str_size t]) (fun k hk s hI=>by
     have h1 : ((k : Int) < (t.data.toList.length : Int)):=Int.ofNat_lt.2 hk
     have hz:=str_at t k hk
     exact ⟨_,_,_,fun G=>by simp only [go_sem,reduceIte,↓reduceIte,reduceCtorEq,nA,nS,nM,nB,nE,nL,nT,nN,iL,iT,iE,iA,iM,iS,iG,iB,iN,iZ,h,hz,str_size t,h1,idx_nt _ _ hk,wrap_nat1 (show k < 9223372036854775807 by omega),hb0] <;> with_reducible rfl,Iff.rfl,fun hc=>⟨trivial,by simp only [go_sem,reduceIte,↓reduceIte,reduceCtorEq,nA,nS,nM,nB,nE,nL,nT,nN,iL,iT,iE,iA,iM,iS,iG,iB,iN,iZ,h,str_size t]⟩⟩) () trivial (t.data.toList.length + 1) (Nat.le_refl _)
  rw [hb0] at hr
  rcases hq with ⟨s',e1,_,e3⟩ | ⟨x,s',e1,e3⟩
  ·simp only [go_sem,reduceIte,↓reduceIte,reduceCtorEq,nA,nS,nM,nB,nE,nL,nT,nN,iL,iT,iE,iA,iM,iS,iG,iB,iN,iZ,h,h1,h2,str_size t,hr,e3,ha,runS_all e1]
  ·simp only [go_sem,reduceIte,↓reduceIte,reduceCtorEq,nA,nS,nM,nB,nE,nL,nT,nN,iL,iT,iE,iA,iM,iS,iG,iB,iN,iZ,h,h1,h2,str_size t,hr,e3,ha,runS_all' e1]) (rfl)
@[go_sem] theorem e218_219 (t : ByteArray) (lo hi : Int) (hb : hi ≤ 1000000) : s218.F [.s t,.i .i64 lo,.i .i64 hi,.fn 219 []] = some (.b (areB hostB lo hi t),[.u,.u,.u,.u]):=mkS_eq (t.data.toList.length + 1) rfl rfl (fun cx h=>by
 by_cases h1 : (t.size : Int) < lo
 ·simp only [go_sem,reduceIte,↓reduceIte,reduceCtorEq,nA,nS,nM,nB,nE,nL,nT,nN,iL,iT,iE,iA,iM,iS,iG,iB,iN,iZ,h,h1,areB_short h1]
 by_cases h2 : hi < (t.size : Int)
 ·simp only [go_sem,reduceIte,↓reduceIte,reduceCtorEq,nA,nS,nM,nB,nE,nL,nT,nN,iL,iT,iE,iA,iM,iS,iG,iB,iN,iZ,h,h1,h2,areB_long h2]
 have hx : t.data.toList.length ≤ 9223372036854775806:=by rw [← str_size]; omega
 have ha:=areB_all (p:=hostB) h1 h2
 rw [str_size t] at h1 h2
 ·have hb0:=loopN_eq Tryz.f218 0 _ _ rfl rfl
  obtain ⟨r,hr,hq⟩:=loop_srch (cx:=cx) (blk:=0) (body:=loopN Tryz.f218 0) t.data.toList (fun k (s : Unit)=>⟨E [(0,.s t),(3,.fn 219 []),(21,.i .i64 t.size),(22,.i .i64 k)],B []⟩) (fun s=>⟨E [],B []⟩) (fun x s=>!hostB x) (fun x s=>()) (fun x s=>(.ret,⟨E [(8,.b false)],B []⟩)) (fun k s=>True)
    (fun s hI G=>by simp only [go_sem,reduceIte,↓reduceIte,reduceCtorEq,nA,nS,nM,nB,nE,nL,nT,nN,iL,iT,iE,iA,iM,iS,iG,iB,iN,iZ,h,Int.lt_irrefl,hb0,str_size t]) (fun k hk s hI=>by
     have h1 : ((k : Int) < (t.data.toList.length : Int)):=Int.ofNat_lt.2 hk
     have hz:=str_at t k hk
     exact ⟨_,_,_,fun G=>by simp only [go_sem,reduceIte,↓reduceIte,reduceCtorEq,nA,nS,nM,nB,nE,nL,nT,nN,iL,iT,iE,iA,iM,iS,iG,iB,iN,iZ,h,hz,str_size t,h1,idx_nt _ _ hk,wrap_nat1 (show k < 9223372036854775807 by omega),hb0] <;> with_reducible rfl,Iff.rfl,fun hc=>⟨trivial,by simp only [go_sem,reduceIte,↓reduceIte,reduceCtorEq,nA,nS,nM,nB,nE,nL,nT,nN,iL,iT,iE,iA,iM,iS,iG,iB,iN,iZ,h,str_size t]⟩⟩) () trivial (t.data.toList.length + 1) (Nat.le_refl _)
  rw [hb0] at hr
  rcases hq with ⟨s',e1,_,e3⟩ | ⟨x,s',e1,e3⟩
  ·simp only [go_sem,reduceIte,↓reduceIte,reduceCtorEq,nA,nS,nM,nB,nE,nL,nT,nN,iL,iT,iE,iA,iM,iS,iG,iB,iN,iZ,h,h1,h2,str_size t,hr,e3,ha,runS_all e1]
  ·simp only [go_sem,reduceIte,↓reduceIte,reduceCtorEq,nA,nS,nM,nB,nE,nL,nT,nN,iL,iT,iE,iA,iM,iS,iG,iB,iN,iZ,h,h1,h2,str_size t,hr,e3,ha,runS_all' e1]) (rfl)
@[go_sem] theorem e218_220 (t : ByteArray) (lo hi : Int) (hb : hi ≤ 1000000) : s218.F [.s t,.i .i64 lo,.i .i64 hi,.fn 220 []] = some (.b (areB pathB lo hi t),[.u,.u,.u,.u]):=mkS_eq (t.data.toList.length + 1) rfl rfl (fun cx h=>by
 by_cases h1 : (t.size : Int) < lo
 ·simp only [go_sem,reduceIte,↓reduceIte,reduceCtorEq,nA,nS,nM,nB,nE,nL,nT,nN,iL,iT,iE,iA,iM,iS,iG,iB,iN,iZ,h,h1,areB_short h1]
 by_cases h2 : hi < (t.size : Int)
 ·simp only [go_sem,reduceIte,↓reduceIte,reduceCtorEq,nA,nS,nM,nB,nE,nL,nT,nN,iL,iT,iE,iA,iM,iS,iG,iB,iN,iZ,h,h1,h2,areB_long h2]
 have hx : t.data.toList.length ≤ 9223372036854775806:=by rw [← str_size]; omega
 have ha:=areB_all (p:=pathB) h1 h2
 rw [str_size t] at h1 h2
 ·have hb0:=loopN_eq Tryz.f218 0 _ _ rfl rfl
  obtain ⟨r,hr,hq⟩:=loop_srch (cx:=cx) (blk:=0) (body:=loopN Tryz.f218 0) t.data.toList (fun k (s : Unit)=>⟨E [(0,.s t),(3,.fn 220 []),(21,.i .i64 t.size),(22,.i .i64 k)],B []⟩) (fun s=>⟨E [],B []⟩) (fun x s=>!pathB x) (fun x s=>()) (fun x s=>(.ret,⟨E [(8,.b false)],B []⟩)) (fun k s=>True)
    (fun s hI G=>by simp only [go_sem,reduceIte,↓reduceIte,reduceCtorEq,nA,nS,nM,nB,nE,nL,nT,nN,iL,iT,iE,iA,iM,iS,iG,iB,iN,iZ,h,Int.lt_irrefl,hb0,str_size t]) (fun k hk s hI=>by
     have h1 : ((k : Int) < (t.data.toList.length : Int)):=Int.ofNat_lt.2 hk
     have hz:=str_at t k hk
     exact ⟨_,_,_,fun G=>by simp only [go_sem,reduceIte,↓reduceIte,reduceCtorEq,nA,nS,nM,nB,nE,nL,nT,nN,iL,iT,iE,iA,iM,iS,iG,iB,iN,iZ,h,hz,str_size t,h1,idx_nt _ _ hk,wrap_nat1 (show k < 9223372036854775807 by omega),hb0] <;> with_reducible rfl,Iff.rfl,fun hc=>⟨trivial,by simp only [go_sem,reduceIte,↓reduceIte,reduceCtorEq,nA,nS,nM,nB,nE,nL,nT,nN,iL,iT,iE,iA,iM,iS,iG,iB,iN,iZ,h,str_size t]⟩⟩) () trivial (t.data.toList.length + 1) (Nat.le_refl _)
  rw [hb0] at hr
  rcases hq with ⟨s',e1,_,e3⟩ | ⟨x,s',e1,e3⟩
  ·simp only [go_sem,reduceIte,↓reduceIte,reduceCtorEq,nA,nS,nM,nB,nE,nL,nT,nN,iL,iT,iE,iA,iM,iS,iG,iB,iN,iZ,h,h1,h2,str_size t,hr,e3,ha,runS_all e1]
  ·simp only [go_sem,reduceIte,↓reduceIte,reduceCtorEq,nA,nS,nM,nB,nE,nL,nT,nN,iL,iT,iE,iA,iM,iS,iG,iB,iN,iZ,h,h1,h2,str_size t,hr,e3,ha,runS_all' e1]) (rfl)
@[go_sem] theorem e218_303 (t : ByteArray) (lo hi : Int) (hb : hi ≤ 1000000) : s218.F [.s t,.i .i64 lo,.i .i64 hi,.fn 303 []] = some (.b (areB digitB lo hi t),[.u,.u,.u,.u]):=mkS_eq (t.data.toList.length + 1) rfl rfl (fun cx h=>by
 by_cases h1 : (t.size : Int) < lo
 ·simp only [go_sem,reduceIte,↓reduceIte,reduceCtorEq,nA,nS,nM,nB,nE,nL,nT,nN,iL,iT,iE,iA,iM,iS,iG,iB,iN,iZ,h,h1,areB_short h1]
 by_cases h2 : hi < (t.size : Int)
 ·simp only [go_sem,reduceIte,↓reduceIte,reduceCtorEq,nA,nS,nM,nB,nE,nL,nT,nN,iL,iT,iE,iA,iM,iS,iG,iB,iN,iZ,h,h1,h2,areB_long h2]
 have hx : t.data.toList.length ≤ 9223372036854775806:=by rw [← str_size]; omega
 have ha:=areB_all (p:=digitB) h1 h2
 rw [str_size t] at h1 h2
 ·have hb0:=loopN_eq Tryz.f218 0 _ _ rfl rfl
  obtain ⟨r,hr,hq⟩:=loop_srch (cx:=cx) (blk:=0) (body:=loopN Tryz.f218 0) t.data.toList (fun k (s : Unit)=>⟨E [(0,.s t),(3,.fn 303 []),(21,.i .i64 t.size),(22,.i .i64 k)],B []⟩) (fun s=>⟨E [],B []⟩) (fun x s=>!digitB x) (fun x s=>()) (fun x s=>(.ret,⟨E [(8,.b false)],B []⟩)) (fun k s=>True)
    (fun s hI G=>by simp only [go_sem,reduceIte,↓reduceIte,reduceCtorEq,nA,nS,nM,nB,nE,nL,nT,nN,iL,iT,iE,iA,iM,iS,iG,iB,iN,iZ,h,Int.lt_irrefl,hb0,str_size t]) (fun k hk s hI=>by
     have h1 : ((k : Int) < (t.data.toList.length : Int)):=Int.ofNat_lt.2 hk
     have hz:=str_at t k hk
     exact ⟨_,_,_,fun G=>by simp only [go_sem,reduceIte,↓reduceIte,reduceCtorEq,nA,nS,nM,nB,nE,nL,nT,nN,iL,iT,iE,iA,iM,iS,iG,iB,iN,iZ,h,hz,str_size t,h1,idx_nt _ _ hk,wrap_nat1 (show k < 9223372036854775807 by omega),hb0] <;> with_reducible rfl,Iff.rfl,fun hc=>⟨trivial,by simp only [go_sem,reduceIte,↓reduceIte,reduceCtorEq,nA,nS,nM,nB,nE,nL,nT,nN,iL,iT,iE,iA,iM,iS,iG,iB,iN,iZ,h,str_size t]⟩⟩) () trivial (t.data.toList.length + 1) (Nat.le_refl _)
  rw [hb0] at hr
  rcases hq with ⟨s',e1,_,e3⟩ | ⟨x,s',e1,e3⟩
  ·simp only [go_sem,reduceIte,↓reduceIte,reduceCtorEq,nA,nS,nM,nB,nE,nL,nT,nN,iL,iT,iE,iA,iM,iS,iG,iB,iN,iZ,h,h1,h2,str_size t,hr,e3,ha,runS_all e1]
  ·simp only [go_sem,reduceIte,↓reduceIte,reduceCtorEq,nA,nS,nM,nB,nE,nL,nT,nN,iL,iT,iE,iA,iM,iS,iG,iB,iN,iZ,h,h1,h2,str_size t,hr,e3,ha,runS_all' e1]) (rfl)
end
end Go.Vm.A
