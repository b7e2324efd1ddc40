/- Functions of the program, walked by the evaluator. -/
import Derived.Test.YtnbhkifknleipaaGreatDoorWb
import Derived.Test.YtnbhkifknleipaaGreatDoorWa
import Derived.Test.YtnbhkifknleipaaGreatDoorFa
import Derived.Test.YtnbhkifknleipaaGreatDoorFb
import Derived.Test.YtnbhkifknleipaaGreatDoorFc
set_option linter.unusedVariables false
set_option linter.unusedSimpArgs false
set_option autoImplicit false
set_option maxRecDepth 100000
set_option maxHeartbeats 4000000
namespace Go.Vm.A
open Go.Proofs
open Nat renaming reduceAdd → nA, reduceSub → nS, reduceMul → nM, reduceBEq → nB, reduceEqDiff → nE, reduceLeDiff → nL, reduceLT → nT, reduceBneDiff → nN
open Int renaming reduceLE → iL, reduceLT → iT, reduceEq → iE, reduceAdd → iA, reduceMul → iM, reduceSub → iS, reduceNeg → iG, reduceBEq → iB, reduceBNe → iN, reduceToNat → iZ
noncomputable section
def s95 : SP Tryz.prog:=mkS tyA 95 Tryz.f95 [s115,s118,s184,s200] { md:=[.ro 1],rg:=[(0,[1],[1]),(1,[1,4],[1]),(2,[2],[]),(3,[1,9],[1]),(4,[2],[]),(5,[1,3],[1]),(6,[1,3,33],[1]),(7,[2],[]),(8,[1,44],[1]),(9,[2],[]),(10,[2],[])],rets:=some ([2],[]) } Tryz.func95 (by kernel_rfl)
@[go_sem] theorem d95 : s95.g = 95 ∧ s95.fs = ⟨[.ro 1],s95.F,false⟩:=⟨nr rfl,nr rfl⟩
@[go_sem] theorem e95 (q0 : ByteArray) (q1 : Int) (q2 : List Header) (q3 : List UInt8) (q4 q5 q6 q7 q8 : Int) (q9 q10 : Bool) (q11 : List ByteArray) (q12 : Int) (h0 : smL smHeader (Entry.mk q0 q1 q2 q3 (Meta.mk q4 q5 q6 q7 q8 q9 q10) q11 q12).Headers) : s95.F [.agg [.s q0,.i .i64 q1,.sl .ro 2 (q2.map (rHeader .ro)),.sl .ro 1 (q3.map rByte),.i .i64 q4,.i .i64 q5,.i .i64 q6,.i .i64 q7,.i .i64 q8,.b q9,.b q10,.sl .ro 1 (q11.map rStr),.i .i64 q12]] = some (.i .i64 (entryFault (Entry.mk q0 q1 q2 q3 (Meta.mk q4 q5 q6 q7 q8 q9 q10) q11 q12)),[.u]):=mkS_eq (0) rfl rfl (fun cx h=>by
 cases hk : isKey q0
 ·simp only [go_sem,reduceIte,↓reduceIte,reduceCtorEq,nA,nS,nM,nB,nE,nL,nT,nN,iL,iT,iE,iA,iM,iS,iG,iB,iN,iZ,h,hk,entryFault]
 cases hp : noKept q1
 rotate_left
 ·have hp':=hp
  unfold noKept at hp'
  simp only [Bool.and_eq_true] at hp'
  obtain ⟨⟨s1,s2⟩,s3⟩:=hp'
  simp only [go_sem,reduceIte,↓reduceIte,reduceCtorEq,nA,nS,nM,nB,nE,nL,nT,nN,iL,iT,iE,iA,iM,iS,iG,iB,iN,iZ,h,hk,entryFault,hp,s1,s2,s3]
 rcases noKept_f hp with rfl | ⟨s1,rfl⟩ | ⟨s1,s2,rfl⟩
 ·cases w1 : within q12 0 20
  ·simp only [go_sem,reduceIte,↓reduceIte,reduceCtorEq,nA,nS,nM,nB,nE,nL,nT,nN,iL,iT,iE,iA,iM,iS,iG,iB,iN,iZ,h,hk,entryFault,hp,w1]
  by_cases z : headersFault q2 = 0
  rotate_left
  ·have z' : (headersFault q2 != 0) = true:=by simpa using z
   simp only [go_sem,reduceIte,↓reduceIte,reduceCtorEq,nA,nS,nM,nB,nE,nL,nT,nN,iL,iT,iE,iA,iM,iS,iG,iB,iN,iZ,h,hk,entryFault,hp,w1,z']
  have z' : (headersFault q2 != 0) = false:=by simpa using z
  by_cases b1 : 2000 < (q3.length : Int)
  ·simp only [go_sem,reduceIte,↓reduceIte,reduceCtorEq,nA,nS,nM,nB,nE,nL,nT,nN,iL,iT,iE,iA,iM,iS,iG,iB,iN,iZ,h,hk,entryFault,hp,w1,z,b1]
  by_cases b2 : 10 < (q11.length : Int)
  ·simp only [go_sem,reduceIte,↓reduceIte,reduceCtorEq,nA,nS,nM,nB,nE,nL,nT,nN,iL,iT,iE,iA,iM,iS,iG,iB,iN,iZ,h,hk,entryFault,hp,w1,z,b1,b2]
  simp only [go_sem,reduceIte,↓reduceIte,reduceCtorEq,nA,nS,nM,nB,nE,nL,nT,nN,iL,iT,iE,iA,iM,iS,iG,iB,iN,iZ,h,hk,entryFault,hp,w1,z,b1,b2]
 ·cases w1 : within q12 0 20
  ·simp only [go_sem,reduceIte,↓reduceIte,reduceCtorEq,nA,nS,nM,nB,nE,nL,nT,nN,iL,iT,iE,iA,iM,iS,iG,iB,iN,iZ,h,hk,entryFault,hp,w1]
  by_cases z : headersFault q2 = 0
  rotate_left
  ·have z' : (headersFault q2 != 0) = true:=by simpa using z
   simp only [go_sem,reduceIte,↓reduceIte,reduceCtorEq,nA,nS,nM,nB,nE,nL,nT,nN,iL,iT,iE,iA,iM,iS,iG,iB,iN,iZ,h,hk,entryFault,hp,w1,z']
  have z' : (headersFault q2 != 0) = false:=by simpa using z
  by_cases b1 : 2000 < (q3.length : Int)
  ·simp only [go_sem,reduceIte,↓reduceIte,reduceCtorEq,nA,nS,nM,nB,nE,nL,nT,nN,iL,iT,iE,iA,iM,iS,iG,iB,iN,iZ,h,hk,entryFault,hp,w1,z,b1]
  by_cases b2 : 10 < (q11.length : Int)
  ·simp only [go_sem,reduceIte,↓reduceIte,reduceCtorEq,nA,nS,nM,nB,nE,nL,nT,nN,iL,iT,iE,iA,iM,iS,iG,iB,iN,iZ,h,hk,entryFault,hp,w1,z,b1,b2]
  simp only [go_sem,reduceIte,↓reduceIte,reduceCtorEq,nA,nS,nM,nB,nE,nL,nT,nN,iL,iT,iE,iA,iM,iS,iG,iB,iN,iZ,h,hk,entryFault,hp,w1,z,b1,b2]
 ·cases w1 : within q12 0 20
  ·simp only [go_sem,reduceIte,↓reduceIte,reduceCtorEq,nA,nS,nM,nB,nE,nL,nT,nN,iL,iT,iE,iA,iM,iS,iG,iB,iN,iZ,h,hk,entryFault,hp,w1]
  by_cases z : headersFault q2 = 0
  rotate_left
  ·have z' : (headersFault q2 != 0) = true:=by simpa using z
   simp only [go_sem,reduceIte,↓reduceIte,reduceCtorEq,nA,nS,nM,nB,nE,nL,nT,nN,iL,iT,iE,iA,iM,iS,iG,iB,iN,iZ,h,hk,entryFault,hp,w1,z']
  have z' : (headersFault q2 != 0) = false:=by simpa using z
  by_cases b1 : 2000 < (q3.length : Int)
  ·simp only [go_sem,reduceIte,↓reduceIte,reduceCtorEq,nA,nS,nM,nB,nE,nL,nT,nN,iL,iT,iE,iA,iM,iS,iG,iB,iN,iZ,h,hk,entryFault,hp,w1,z,b1]
  by_cases b2 : 10 < (q11.length : Int)
  ·simp only [go_sem,reduceIte,↓reduceIte,reduceCtorEq,nA,nS,nM,nB,nE,nL,nT,nN,iL,iT,iE,iA,iM,iS,iG,iB,iN,iZ,h,hk,entryFault,hp,w1,z,b1,b2]
  simp only [go_sem,reduceIte,↓reduceIte,reduceCtorEq,nA,nS,nM,nB,nE,nL,nT,nN,iL,iT,iE,iA,iM,iS,iG,iB,iN,iZ,h,hk,entryFault,hp,w1,z,b1,b2]) (rfl)
def packH (hs : List Header) : ByteArray:=packS (hs.map fun x=>(x.Name,x.Value))
theorem packOk_sm {hs : List Header} (h : smL smHeader hs) : packOk (hs.map fun x=>(x.Name,x.Value)) = true:=by
 simp only [packOk,Bool.and_eq_true,decide_eq_true_eq,List.all_eq_true,List.length_map,List.mem_map]
 refine ⟨h.1,?_⟩
 rintro p ⟨x,hx,rfl⟩
 exact h.2 x hx
def packLen (hs : List Header) : Int:=(packH hs).size
theorem packS_size (hs : List (ByteArray × ByteArray)) : (packS hs).size = (packL hs).length:=by
 show (packL hs).toArray.size = _
 simp
theorem packLen_le {hs : List Header} (h : smL smHeader hs) : 0 ≤ packLen hs ∧ packLen hs ≤ 2199028498432:=by
 have h1:=packL_len (hs.map fun x=>(x.Name,x.Value)) (by rintro p hp; obtain ⟨x,hx,rfl⟩:=List.mem_map.1 hp; exact h.2 x hx)
 have h2:=h.1
 rw [List.length_map] at h1
 unfold packLen packH
 rw [packS_size]
 omega
def packStep (s : ByteArray) (x : Header) : ByteArray:=s ++ x.Name ++ ⟨#[58,32]⟩ ++ x.Value ++ ⟨#[13,10]⟩
theorem app_list (a b : ByteArray) : (a ++ b).data.toList = a.data.toList ++ b.data.toList:=by simp [ByteArray.data_append]
theorem packFold : ∀ (hs : List Header) (s : ByteArray),(hs.foldl (fun s x=>packStep s x) s).data.toList = s.data.toList ++ packL (hs.map fun x=>(x.Name,x.Value))
 | [],s=>by simp [packL]
 | x :: hs,s=>by
  rw [List.foldl_cons,packFold hs]
  simp only [packStep,packL,List.map_cons,List.flatMap_cons,lineB,app_list,List.append_assoc]
theorem ba_ext {a b : ByteArray} (h : a.data.toList = b.data.toList) : a = b:=by
 cases a; cases b
 congr 1
 exact Array.ext' h
theorem packFold0 (hs : List Header) : hs.foldl (fun s x=>packStep s x) ⟨#[]⟩ = packH hs:=by
 apply ba_ext
 rw [packFold]
 simp [packH,packS]
theorem packStep_size (s : ByteArray) (x : Header) : (packStep s x).size = s.size + x.Name.size + 2 + x.Value.size + 2:=by
 simp only [packStep,ByteArray.size_append]
 rfl
def s359 : SP Tryz.prog:=⟨359,⟨[.ro 1],packF,false⟩,pack_ok Tryz.func359 (by kernel_rfl) rfl Go.Proofs.Tryz.ht_k⟩
@[go_sem] theorem d359 : s359.g = 359 ∧ s359.fs = ⟨[.ro 1],s359.F,false⟩:=⟨nr rfl,nr rfl⟩
@[go_sem] theorem e359 (hs : List Header) (h0 : smL smHeader hs) : s359.F [.sl .ro 2 (hs.map (rHeader .ro))] = some (.s (packH hs),[.u]):=packF_eq (fun x : Header=>x.Name) (fun x=>x.Value) hs (packOk_sm h0)
def costE (e : Entry) : Int:=50 + ((e.Key.size : Int) + ((packH e.Headers).size : Int) + (e.Body.length : Int))
theorem costE_le {e : Entry} (h1 : e.Key.size ≤ 1048576) (h2 : smL smHeader e.Headers) (h3 : e.Body.length ≤ 1048576) : 50 ≤ costE e ∧ costE e ≤ 2199030595634:=by
 have:=packLen_le h2
 unfold packLen at this
 unfold costE
 omega
theorem costE_sm {e : Entry} (h : smEntry e) : 50 ≤ costE e ∧ costE e ≤ 2199030595634:=costE_le h.1 h.2.2.1 h.2.2.2.1.1
def costs (es : List Entry) : Int:=es.foldl (fun s e=>s + costE e) 0
theorem costs_fold : ∀ (es : List Entry) (s : Int),es.foldl (fun s e=>s + costE e) s = s + costs es
 | [],s=>by simp [costs]
 | e :: es,s=>by
  unfold costs
  rw [List.foldl_cons,List.foldl_cons,costs_fold es,costs_fold es (0 + costE e)]
  omega
theorem costs_app (a b : List Entry) : costs (a ++ b) = costs a + costs b:=by
 unfold costs
 rw [List.foldl_append,costs_fold b]
 rfl
theorem costs_le : ∀ {es : List Entry},(∀ e ∈ es,smEntry e) → 0 ≤ costs es ∧ costs es ≤ es.length * 2199030595634
 | [],_=>by simp [costs]
 | e :: es,h=>by
  have h1:=costE_sm (h e (List.mem_cons_self ..))
  have h2:=costs_le (es:=es) (fun x hx=>h x (List.mem_cons_of_mem _ hx))
  have h3 : costs (e :: es) = costE e + costs es:=by
   show (e :: es).foldl _ 0 = _
   rw [List.foldl_cons,costs_fold]; omega
  rw [h3,List.length_cons]
  have h4 : ((es.length + 1 : Nat) : Int) * 2199030595634 = (es.length : Int) * 2199030595634 + 2199030595634:=by rw [Int.natCast_add,Int.add_mul]; rfl
  rw [h4]
  omega
def s312 : SP Tryz.prog:=mkS tyA 312 Tryz.f312 [s359] { md:=[.ro 1],rets:=some ([2],[]),plan:=[(1,(.take 0 (.take 1 (.take 2 (.take 3 (.take 4 (.take 8 (.take 9 (.take 10 (.one 5 (.take 6 (.take 7 (.take 11 (.take 12 (.one 13 .done)))))))))))))))] } Tryz.func312 (by kernel_rfl)
@[go_sem] theorem d312 : s312.g = 312 ∧ s312.fs = ⟨[.ro 1],s312.F,false⟩:=⟨nr rfl,nr rfl⟩
@[go_sem] theorem e312 (q0 : ByteArray) (q1 : Int) (q2 : List Header) (q3 : List UInt8) (q4 q5 q6 q7 q8 : Int) (q9 q10 : Bool) (q11 : List ByteArray) (q12 : Int) (h0 : (smL smHeader (Entry.mk q0 q1 q2 q3 (Meta.mk q4 q5 q6 q7 q8 q9 q10) q11 q12).Headers ∧ (Entry.mk q0 q1 q2 q3 (Meta.mk q4 q5 q6 q7 q8 q9 q10) q11 q12).Key.size ≤ 1048576 ∧ (Entry.mk q0 q1 q2 q3 (Meta.mk q4 q5 q6 q7 q8 q9 q10) q11 q12).Body.length ≤ 1048576)) : s312.F [.agg [.s q0,.i .i64 q1,.sl .ro 2 (q2.map (rHeader .ro)),.sl .ro 1 (q3.map rByte),.i .i64 q4,.i .i64 q5,.i .i64 q6,.i .i64 q7,.i .i64 q8,.b q9,.b q10,.sl .ro 1 (q11.map rStr),.i .i64 q12]] = some (.i .i64 (costE (Entry.mk q0 q1 q2 q3 (Meta.mk q4 q5 q6 q7 q8 q9 q10) q11 q12)),[.u]):=mkS_eq (0) rfl rfl (fun cx h=>by
 obtain ⟨g1,g2,g3⟩:=h0
 simp only at g1 g2 g3
 have hp:=packLen_le g1
 unfold packLen at hp
 have w1 : (IntKind.i64).wrap ((q0.size : Int) + ((packH q2).size : Int)) = (q0.size : Int) + ((packH q2).size : Int):=wrap_id (by omega) (by omega)
 have w2 : (IntKind.i64).wrap ((q0.size : Int) + ((packH q2).size : Int) + (q3.length : Int)) = (q0.size : Int) + ((packH q2).size : Int) + (q3.length : Int):=wrap_id (by omega) (by omega)
 have w3 : (IntKind.i64).wrap (50 + ((q0.size : Int) + ((packH q2).size : Int) + (q3.length : Int))) = 50 + ((q0.size : Int) + ((packH q2).size : Int) + (q3.length : Int)):=wrap_id (by omega) (by omega)
 simp only [go_sem,reduceIte,↓reduceIte,reduceCtorEq,nA,nS,nM,nB,nE,nL,nT,nN,iL,iT,iE,iA,iM,iS,iG,iB,iN,iZ,h,g1,w1,w2,w3,costE]) (rfl)
def s230 : SP Tryz.prog:=mkS tyA 230 Tryz.f230 [s312] { md:=[.ro 1],rg:=[(0,[0],[]),(1,[0,3],[]),(2,[0,3,6,7,8],[]),(3,[0,3,6,7,8,9],[]),(4,[0,3,5,6,7,8],[5]),(5,[0,3,6,7,8],[]),(6,[0,3,6,7,8],[]),(7,[2],[])],lv:=[(0,[0,3,6,7,8],[])],out:=[(0,[3],[])],rets:=some ([2],[]) } Tryz.func230 (by kernel_rfl)
@[go_sem] theorem d230 : s230.g = 230 ∧ s230.fs = ⟨[.ro 1],s230.F,false⟩:=⟨nr rfl,nr rfl⟩
@[go_sem] theorem e230 (xs : List Entry) (h0 : (xs.length ≤ 2097152 ∧ Every smEntry xs)) : s230.F [.sl .ro 13 (xs.map (rEntry .ro))] = some (.i .i64 (costs xs),[.u]):=mkS_eq (xs.length + 1) rfl rfl (fun cx h=>by
 have hx : xs.length ≤ 9223372036854775806:=by have:=h0.1; omega
 have hb0:=loopN_eq Tryz.f230 0 _ _ rfl rfl
 obtain ⟨hI,hr⟩:=loop_fold (cx:=cx) (blk:=0) (body:=loopN Tryz.f230 0) xs (fun k (s : Int)=>⟨E [(0,.sl .ro 13 (xs.map (rEntry .ro))),(3,.i .i64 s),(6,.sl .ro 13 (xs.map (rEntry .ro))),(7,.i .i64 xs.length),(8,.i .i64 k)],B []⟩) (fun s=>⟨E [(3,.i .i64 s)],B []⟩) (fun x s=>s + costE x) (fun k s=>0 ≤ s ∧ s ≤ (k : Int) * 2199030595634)
   (fun s hI G=>by simp only [go_sem,reduceIte,↓reduceIte,reduceCtorEq,nA,nS,nM,nB,nE,nL,nT,nN,iL,iT,iE,iA,iM,iS,iG,iB,iN,iZ,h,Int.lt_irrefl,hb0,hx]) (fun k hk s hI=>by
    have h1 : ((k : Int) < (xs.length : Int)):=Int.ofNat_lt.2 hk
    obtain ⟨i1,i2⟩:=hI
    have hm:=h0.2 _ (List.getElem_mem hk)
    have hc:=costE_sm hm
    have hJ : 0 ≤ s + costE xs[k] ∧ s + costE xs[k] ≤ ((k + 1 : Nat) : Int) * 2199030595634:=by
     rw [Int.natCast_add,Int.add_mul]; constructor <;> omega
    have hb1 : (k : Int) * 2199030595634 ≤ 2097152 * 2199030595634:=Int.mul_le_mul_of_nonneg_right (by omega) (by decide)
    have hw : (IntKind.i64).wrap (s + costE xs[k]) = s + costE xs[k]:=wrap_id (by omega) (by omega)
    have hm1:=hm.2.2.1
    have hm2 : xs[k].Key.size ≤ 1048576:=hm.1
    have hm3:=hm.2.2.2.1.1
    exact ⟨hJ,_,fun G=>by simp only [go_sem,reduceIte,↓reduceIte,reduceCtorEq,nA,nS,nM,nB,nE,nL,nT,nN,iL,iT,iE,iA,iM,iS,iG,iB,iN,iZ,h,hw,hm1,hm2,hm3,map_gd (rEntry .ro) xs k hk,h1,idx_nt _ _ hk,wrap_nat1 (show k < 9223372036854775807 by omega),hb0] <;> with_reducible rfl,by simp only [go_sem,reduceIte,↓reduceIte,reduceCtorEq,nA,nS,nM,nB,nE,nL,nT,nN,iL,iT,iE,iA,iM,iS,iG,iB,iN,iZ,h]⟩) 0 (by simp) (xs.length + 1) (Nat.le_refl _)
 rw [hb0] at hr
 have hcs : costs xs = xs.foldl (fun s x=>s + costE x) 0:=rfl
 rw [← hcs] at hr
 simp only [go_sem,reduceIte,↓reduceIte,reduceCtorEq,nA,nS,nM,nB,nE,nL,nT,nN,iL,iT,iE,iA,iM,iS,iG,iB,iN,iZ,h,hr]) (rfl)
@[go_sem] theorem e230_0 : s230.F [.sl .ro 13 []] = some (.i .i64 0,[.u]):=e230 [] ⟨Nat.zero_le _,fun x hx=>by cases hx⟩
def s152 : SP Tryz.prog:=mkS tyA 152 Tryz.f152 [s230] { md:=[.ro 1],rets:=some ([2],[]),plan:=[(1,(.take 0 (.take 1 (.take 3 (.take 4 (.one 2 (.one 5 (.take 6 (.one 7 .done)))))))))] } Tryz.func152 (by kernel_rfl)
@[go_sem] theorem d152 : s152.g = 152 ∧ s152.fs = ⟨[.ro 1],s152.F,false⟩:=⟨nr rfl,nr rfl⟩
@[go_sem] theorem e152 (q13 q14 : Int) (xTrial xKept : List Entry) (h0 : (smL smEntry (Store.mk q13 q14 xTrial xKept).Trial ∧ smL smEntry (Store.mk q13 q14 xTrial xKept).Kept)) : s152.F [.agg [.i .i64 q13,.i .i64 q14,.sl .ro 13 (xTrial.map (rEntry .ro)),.sl .ro 13 (xKept.map (rEntry .ro))]] = some (.i .i64 (costs (Store.mk q13 q14 xTrial xKept).Trial + costs (Store.mk q13 q14 xTrial xKept).Kept),[.u]):=mkS_eq (0) rfl rfl (fun cx h=>by
 obtain ⟨⟨g1,g2⟩,g3,g4⟩:=h0
 simp only at g1 g2 g3 g4
 have c1:=costs_le g2
 have c2:=costs_le g4
 have m1 : (xTrial.length : Int) * 2199030595634 ≤ 1048576 * 2199030595634:=Int.mul_le_mul_of_nonneg_right (by omega) (by decide)
 have m2 : (xKept.length : Int) * 2199030595634 ≤ 1048576 * 2199030595634:=Int.mul_le_mul_of_nonneg_right (by omega) (by decide)
 have w1 : (IntKind.i64).wrap (costs xTrial + costs xKept) = costs xTrial + costs xKept:=wrap_id (by omega) (by omega)
 have l1 : xTrial.length ≤ 2097152:=by omega
 have l2 : xKept.length ≤ 2097152:=by omega
 have v1 : Every smEntry xTrial:=g2
 have v2 : Every smEntry xKept:=g4
 simp only [go_sem,reduceIte,↓reduceIte,reduceCtorEq,nA,nS,nM,nB,nE,nL,nT,nN,iL,iT,iE,iA,iM,iS,iG,iB,iN,iZ,h,l1,l2,v1,v2,w1]) (rfl)
@[go_sem] theorem e152_0 (b g : Int) : s152.F [.agg [.i .i64 b,.i .i64 g,.sl .ro 13 [],.sl .ro 13 []]] = some (.i .i64 0,[.u]):=e152 b g [] [] ⟨⟨Nat.zero_le _,fun x hx=>by cases hx⟩,⟨Nat.zero_le _,fun x hx=>by cases hx⟩⟩
theorem growOk358 : VSpec Tryz.prog 358 ⟨[.ro 1,.ro 1],growNF 13 152,false⟩:=by
 obtain ⟨i0,zv,h1,h2,h3,h4,h5⟩:=Go.Proofs.Tryz.growInfo
 exact growN_ok Tryz.func358 (by kernel_rfl) rfl h2 h5 h3 Go.Proofs.Tryz.grow0 (fun k w hk hb h6=>Go.Proofs.Tryz.growN i0 zv h1 h2 (by omega) k w hk (by rw [h3]; exact hb) h6)
def s358 : SP Tryz.prog:=⟨358,⟨[.ro 1,.ro 1],growNF 13 152,false⟩,growOk358⟩
@[go_sem] theorem d358 : s358.g = 358 ∧ s358.fs = ⟨[.ro 1,.ro 1],s358.F,false⟩:=⟨nr rfl,nr rfl⟩
@[go_sem] theorem e358 (k : Int) (h0 : 0 ≤ k) (h1 : k ≤ 2097152) : s358.F [.nil,.i .i64 k] = some (.sl .mut 13 [],[.u,.u]):=by
 show growNF 13 152 [.nil,.i .i64 k] = _
 rw [growNF_eq]
 exact if_pos ⟨h0,by omega,by omega⟩
theorem entP (xs : List Entry) : (xs.map (rEntry .ro)).all (·.all plain) = true:=by simp [rEntry,plain]
def s310 : SP Tryz.prog:=mkS tyA 310 Tryz.f310 [s358] { md:=[.ro 1],wk:=true,rg:=[(0,[0],[]),(1,[0,3],[]),(2,[0,3,9,10,11],[]),(3,[0,3,9,10,11,12],[]),(4,[0,3,5,9,10,11],[]),(5,[0,3,9,10,11],[]),(6,[0,3,9,10,11,20],[]),(7,[0,3,9,10,11],[]),(8,[0,3,9,10,11],[]),(9,[0,6],[]),(10,[0,6,25,26,27],[]),(11,[0,6,25,26,27,28],[]),(12,[0,6,8,25,26,27],[]),(13,[0,6,25,26,27],[]),(14,[0,6,25,26,27],[]),(15,[2],[])],lv:=[(0,[0,3,9,10,11],[]),(2,[0,6,25,26,27],[])],out:=[(0,[0,3],[]),(2,[6],[])],rets:=some ([2],[]) } Tryz.func310 (by kernel_rfl)
@[go_sem] theorem d310 : s310.g = 310 ∧ s310.fs = ⟨[.ro 1],s310.F,true⟩:=⟨nr rfl,nr rfl⟩
@[go_sem] theorem e310 (a b : List Entry) (h0 : a.length ≤ 1048576 ∧ b.length ≤ 1048576) : s310.F [.sl .ro 1 [[.sl .ro 13 (a.map (rEntry .ro))],[.sl .ro 13 (b.map (rEntry .ro))]]] = some (.sl .mut 13 ((a ++ b).map (rEntry .ro)),[.u]):=mkS_eq (3) rfl rfl (fun cx h=>by
 obtain ⟨g1,g2⟩:=h0
 have p1:=entP a
 have p2:=entP b
 have w0 : (IntKind.i64).wrap (0 + (a.length : Int)) = (a.length : Int):=by rw [Int.zero_add]; exact wrap_id (by omega) (by omega)
 have w0' : (IntKind.i64).wrap (a.length : Int) = (a.length : Int):=wrap_id (by omega) (by omega)
 have w1 : (IntKind.i64).wrap ((a.length : Int) + (b.length : Int)) = (a.length : Int) + (b.length : Int):=wrap_id (by omega) (by omega)
 have c1 : ¬ ((a.length : Int) < 0):=by omega
 have c2 : ¬ ((a.length : Int) + (b.length : Int) < 0):=by omega
 have c3 : 0 ≤ (a.length : Int) + (b.length : Int):=by omega
 have c4 : (a.length : Int) + (b.length : Int) ≤ 2097152:=by omega
 have t1 : a.length * 152 ≤ 140737488355328:=by omega
 have t2 : (a.length + b.length) * 152 ≤ 140737488355328:=by omega
 have t3 : a.map (rEntry .ro) ++ b.map (rEntry .ro) = (a ++ b).map (rEntry .ro):=List.map_append.symm
 simp only [go_sem,reduceIte,↓reduceIte,reduceCtorEq,nA,nS,nM,nB,nE,nL,nT,nN,iL,iT,iE,iA,iM,iS,iG,iB,iN,iZ,h,loopE_1,loopE_2,loopE_3,wrap_0,wrap_1,wrap_2,wrap_01,wrap_11,p1,p2,w0,w0',w1,c1,c2,c3,c4,t1,t2,t3]) (rfl)
@[go_sem] theorem e310_0 : s310.F [.sl .ro 1 [[.sl .ro 13 []],[.sl .ro 13 []]]] = some (.sl .mut 13 [],[.u]):=e310 [] [] ⟨Nat.zero_le _,Nat.zero_le _⟩
def s227 : SP Tryz.prog:=mkS tyA 227 Tryz.f227 [s310] { md:=[.ro 1],wk:=true,rets:=some ([2],[]) } Tryz.func227 (by kernel_rfl)
@[go_sem] theorem d227 : s227.g = 227 ∧ s227.fs = ⟨[.ro 1],s227.F,true⟩:=⟨nr rfl,nr rfl⟩
@[go_sem] theorem e227 (q13 q14 : Int) (xTrial xKept : List Entry) (h0 : ((Store.mk q13 q14 xTrial xKept).Trial.length ≤ 1048576 ∧ (Store.mk q13 q14 xTrial xKept).Kept.length ≤ 1048576)) : s227.F [.agg [.i .i64 q13,.i .i64 q14,.sl .ro 13 (xTrial.map (rEntry .ro)),.sl .ro 13 (xKept.map (rEntry .ro))]] = some (.sl .mut 13 (((Store.mk q13 q14 xTrial xKept).Trial ++ (Store.mk q13 q14 xTrial xKept).Kept).map (rEntry .ro)),[.u]):=mkS_eq (0) rfl rfl (fun cx h=>by
 simp only [go_sem,reduceIte,↓reduceIte,reduceCtorEq,nA,nS,nM,nB,nE,nL,nT,nN,iL,iT,iE,iA,iM,iS,iG,iB,iN,iZ,h,h0.1,h0.2]) (rfl)
@[go_sem] theorem e227_0 (b g : Int) : s227.F [.agg [.i .i64 b,.i .i64 g,.sl .ro 13 [],.sl .ro 13 []]] = some (.sl .mut 13 [],[.u]):=e227 b g [] [] ⟨Nat.zero_le _,Nat.zero_le _⟩
def s229 : SP Tryz.prog:=mkS tyA 229 Tryz.f229 [] { md:=[.ro 1,.ro 1],rets:=some ([3],[]) } Tryz.func229 (by kernel_rfl)
@[go_sem] theorem d229 : s229.g = 229 ∧ s229.fs = ⟨[.ro 1,.ro 1],s229.F,false⟩:=⟨nr rfl,nr rfl⟩
@[go_sem] theorem e229 (q15 : ByteArray) (q16 : Int) (q17 : List Header) (q18 : List UInt8) (q19 q20 q21 q22 q23 : Int) (q24 q25 : Bool) (q26 : List ByteArray) (q27 : Int) (q28 : ByteArray) (q29 : Int) (q30 : List Header) (q31 : List UInt8) (q32 q33 q34 q35 q36 : Int) (q37 q38 : Bool) (q39 : List ByteArray) (q40 : Int) : s229.F [.agg [.s q15,.i .i64 q16,.sl .ro 2 (q17.map (rHeader .ro)),.sl .ro 1 (q18.map rByte),.i .i64 q19,.i .i64 q20,.i .i64 q21,.i .i64 q22,.i .i64 q23,.b q24,.b q25,.sl .ro 1 (q26.map rStr),.i .i64 q27],.pr [.s q28,.i .i64 q29,.sl .ro 2 (q30.map (rHeader .ro)),.sl .ro 1 (q31.map rByte),.i .i64 q32,.i .i64 q33,.i .i64 q34,.i .i64 q35,.i .i64 q36,.b q37,.b q38,.sl .ro 1 (q39.map rStr),.i .i64 q40]] = some (.b (eqv q15 q28),[.u,.u]):=mkS_eq (0) rfl rfl (fun cx h=>by
 simp only [go_sem,reduceIte,↓reduceIte,reduceCtorEq,nA,nS,nM,nB,nE,nL,nT,nN,iL,iT,iE,iA,iM,iS,iG,iB,iN,iZ,h,eqv_bytes]) (rfl)
def lanesFault (l : Lanes) : Int:=if (within l.Slots 1 8 && within l.Cap 0 8 && within l.Time 0 1000000) = true then 0 else 3
def unsF (fs : List Flight) : Bool:=(fs.zip fs.tail).any fun p=>decide (p.2.Id ≤ p.1.Id)
def leO (x : Flight) : Option Int → Bool
 | none=>false
 | some y=>decide (x.Id ≤ y)
def unsO : Option Int → List Flight → Bool
 | _,[]=>false
 | s,x :: r=>if leO x s = true then true else unsO (some x.Id) r
theorem unsO_some : ∀ (y : Flight) (xs : List Flight),unsO (some y.Id) xs = ((y :: xs).zip xs).any fun p=>decide (p.2.Id ≤ p.1.Id)
 | _,[]=>rfl
 | y,x :: r=>by
  rw [unsO,List.zip_cons_cons,List.any_cons,unsO_some x r]
  show (if decide (x.Id ≤ y.Id) = true then true else _) = _
  cases decide (x.Id ≤ y.Id) <;> rfl
theorem unsO_none (fs : List Flight) : unsO none fs = unsF fs:=by
 cases fs with
 | nil=>rfl
 | cons x r=>exact unsO_some x r
theorem unsO_inl : ∀ {xs : List Flight} {s s' : Option Int},runS (fun x s=>leO x s) (fun x _=>some x.Id) xs s = .inl s' → unsO s xs = false
 | [],_,_,_=>rfl
 | x :: xs,s,s',h=>by
  rw [runS_cons] at h
  split at h
  ·cases h
  ·rename_i hc; rw [unsO,if_neg hc]; exact unsO_inl h
theorem unsO_inr : ∀ {xs : List Flight} {s : Option Int} {q : Flight × Option Int},runS (fun x s=>leO x s) (fun x _=>some x.Id) xs s = .inr q → unsO s xs = true
 | [],_,_,h=>by cases h
 | x :: xs,s,q,h=>by
  rw [runS_cons] at h
  split at h
  ·rename_i hc; rw [unsO,if_pos hc]
  ·rename_i hc; rw [unsO,if_neg hc]; exact unsO_inr h
def dup {α : Type} (q : α → α → Bool) (s : List α) : List α → Bool
 | []=>false
 | x :: r=>if (s.any fun y=>q y x) = true then true else dup q (s ++ [x]) r
theorem dup_inl {α : Type} {p : α → α → Bool} : ∀ {xs s s' : List α},runS (fun x s=>s.any fun y=>p y x) (fun x s=>s ++ [x]) xs s = .inl s' → dup p s xs = false
 | [],_,_,_=>rfl
 | x :: xs,s,s',h=>by
  rw [runS_cons] at h
  split at h
  ·cases h
  ·rename_i hc; rw [dup,if_neg hc]; exact dup_inl h
theorem dup_inr {α : Type} {p : α → α → Bool} : ∀ {xs s : List α} {q : α × List α},runS (fun x s=>s.any fun y=>p y x) (fun x s=>s ++ [x]) xs s = .inr q → dup p s xs = true
 | [],_,_,h=>by cases h
 | x :: xs,s,q,h=>by
  rw [runS_cons] at h
  split at h
  ·rename_i hc; rw [dup,if_pos hc]
  ·rename_i hc; rw [dup,if_neg hc]; exact dup_inr h
def sameKey (y x : Flight) : Bool:=eqv y.Key x.Key
def allW (fs : List Flight) : List Waiter:=fs.flatMap (·.Waiters)
def flightsFault (fs : List Flight) : Int :=
 if 24 < (fs.length : Int) then 2 else if (firstI (fs.map flightFault) != 0) = true then firstI (fs.map flightFault) else if unsF fs = true then 1
 else if dup sameKey [] fs = true then 6 else if tw [] (allW fs) = true then 6 else 0
theorem runS_zero {α : Type} {f : α → Int} {σ : Type} {g : α → σ → σ} : ∀ {xs : List α} {u u' : σ},runS (fun x _=>f x != 0) g xs u = .inl u' → ∀ x ∈ xs,f x = 0
 | [],_,_,_,x,hx=>by cases hx
 | y :: xs,u,u',h,x,hx=>by
  rw [runS_cons] at h
  split at h
  ·cases h
  ·rename_i hc
   rcases List.mem_cons.1 hx with rfl | hx
   ·simpa using hc
   ·exact runS_zero h x hx
theorem runS_hit {α σ : Type} {c : α → σ → Bool} {g : α → σ → σ} : ∀ {xs : List α} {s : σ} {q : α × σ},runS c g xs s = .inr q → c q.1 q.2 = true
 | [],s,q,h=>by cases h
 | x :: xs,s,q,h=>by
  rw [runS_cons] at h
  split at h
  ·rename_i hc; injection h with h; subst h; exact hc
  ·exact runS_hit h
theorem allW_len : ∀ {fs : List Flight},(∀ x ∈ fs,x.Waiters.length ≤ 10) → (allW fs).length ≤ 10 * fs.length
 | [],_=>Nat.zero_le _
 | x :: fs,h=>by
  have h1:=h x (List.mem_cons_self ..)
  have h2:=allW_len (fs:=fs) (fun y hy=>h y (List.mem_cons_of_mem _ hy))
  unfold allW at h2 ⊢
  rw [List.flatMap_cons,List.length_append,List.length_cons]
  omega
theorem allW_snoc (fs : List Flight) (k : Nat) (h : k < fs.length) : allW (fs.take (k + 1)) = allW (fs.take k) ++ fs[k].Waiters:=by
 unfold allW
 rw [take_snoc fs k h,List.flatMap_append]
 simp
theorem wrow_plain (ws : List Waiter) : (ws.map (rWaiter .ro)).all (·.all plain) = true:=by
 simp [rWaiter,plain]
end
end Go.Vm.A
