/- Functions of the program, walked by the evaluator. -/
import Derived.Test.YtnbhkifknleipaaGreatDoorWb
import Derived.Test.YtnbhkifknleipaaGreatDoorWa
import Derived.Test.YtnbhkifknleipaaGreatDoorGa
import Derived.Test.YtnbhkifknleipaaGreatDoorGb
import Derived.Test.YtnbhkifknleipaaGreatDoorGc
import Derived.Test.YtnbhkifknleipaaGreatDoorGd
import Derived.Test.YtnbhkifknleipaaGreatDoorGe
import Derived.Test.YtnbhkifknleipaaGreatDoorGf
import Derived.Test.YtnbhkifknleipaaGreatDoorGg
set_option linter.unusedVariables false
set_option linter.unusedSimpArgs false
set_option autoImplicit false
set_option maxRecDepth 100000
set_option maxHeartbeats 4000000
namespace Go.Vm.A
open Go.Proofs
open Nat renaming reduceAdd → nA, reduceSub → nS, reduceMul → nM, reduceBEq → nB, reduceEqDiff → nE, reduceLeDiff → nL, reduceLT → nT, reduceBneDiff → nN
open Int renaming reduceLE → iL, reduceLT → iT, reduceEq → iE, reduceAdd → iA, reduceMul → iM, reduceSub → iS, reduceNeg → iG, reduceBEq → iB, reduceBNe → iN, reduceToNat → iZ
noncomputable section
theorem lit_sm {b : ByteArray} (h : Nat.ble b.size 1048576 = true) : smStr b:=Nat.le_of_ble_eq_true h
theorem word_sm (code : List UInt8) (a : Int) (xs : List ByteArray) (h : (xs.all fun x=>decide (x.size ≤ 1048576)) = true) : smStr (wordV code a xs):=by
 unfold wordV smStr
 rw [List.getD_eq_getElem?_getD]
 cases hx : xs[(nextV code a xs.length).toNat]? with
 | none=>exact lit_sm (b:=⟨#[]⟩) rfl
 | some x=>exact of_decide_eq_true (List.all_eq_true.1 h x (List.mem_of_getElem? hx))
theorem lineV_sm (code : List UInt8) (a : Int) : smHeader (lineV code a):=by
 unfold lineV lineC
 repeat' split
 all_goals first | exact ⟨word_sm _ _ _ (by decide),word_sm _ _ _ (by decide)⟩ | exact ⟨lit_sm rfl,word_sm _ _ _ (by decide)⟩
theorem lines_sm (code : List UInt8) (s : Int × List Header) (m : Nat) (h : ∀ x ∈ s.2,smHeader x) : ∀ x ∈ ((List.range m).foldl (fun s _=>(lineA code s.1,s.2 ++ [lineV code s.1])) s).2,smHeader x:=by
 induction m with
 | zero=>exact h
 | succ m ih =>
  rw [List.range_succ,List.foldl_append]
  intro x hx
  rcases List.mem_append.1 hx with hx | hx
  ·exact ih x hx
  ·obtain rfl:=List.mem_singleton.1 hx
   exact lineV_sm _ _
theorem app_sm {l : List Header} {y : Header} (h : ∀ x ∈ l,smHeader x) (hy : smHeader y) : ∀ x ∈ l ++ [y],smHeader x:=by
 intro x hx
 rcases List.mem_append.1 hx with hx | hx
 ·exact h x hx
 ·obtain rfl:=List.mem_singleton.1 hx
  exact hy
theorem bentP_sm (code : List UInt8) {a : Int} (ha : dOk a = true) : ∀ x ∈ (bentP code a).2,smHeader x:=by
 simp only [dOk,decide_eq_true_eq] at ha
 have h0 : ∀ x ∈ (bent0 code a).2,smHeader x:=lines_sm code (a + 1,[]) _ (fun x hx=>by simp at hx)
 obtain ⟨i1,i2,i3,_⟩:=bent0_I code (show aOk a = true by simp only [aOk,decide_eq_true_eq]; omega)
 have m1:=pick_in code [200,201] (show aOk ((bent0 code a).1 + 1) = true by simp only [aOk,decide_eq_true_eq]; omega) (by simp)
 simp only [List.mem_cons,List.not_mem_nil,or_false] at m1
 have i4:=longN_le code ((bent0 code a).1 + 1)
 unfold bentP
 simp only
 repeat' split
 ·exact app_sm h0 ⟨word_sm _ _ _ (by decide),lit_sm rfl⟩
 ·exact app_sm h0 ⟨lit_sm rfl,word_sm _ _ _ (by decide)⟩
 ·refine app_sm h0 ⟨lit_sm rfl,?_⟩
  show (_ ++ _ : ByteArray).size ≤ 1048576
  rw [ByteArray.size_append,ByteArray.size_extract,spaces_size]
  have : (ByteArray.mk #[118]).size = 1:=rfl
  rw [this]
  omega
 ·exact lines_sm code _ _ h0
 ·refine app_sm h0 ⟨lit_sm rfl,?_⟩
  show (spaces _ _ _).size ≤ 1048576
  rw [spaces_size]
  have : (ByteArray.mk #[]).size = 0:=rfl
  rw [this]
  omega
 ·exact h0
theorem reqV_sm (code : List UInt8) {a : Int} (h : dOk a = true) : smRequest (reqV code a):=by
 have i:=reqP_le code h
 refine ⟨word_sm _ _ _ (by decide),word_sm _ _ _ (by decide),word_sm _ _ _ (by decide),?_,lines_sm code _ _ (fun x hx=>by simp at hx)⟩
 show (reqP code a).2.length ≤ 1048576
 omega
theorem bendP_sm (code : List UInt8) {a : Int} (h : eOk a = true) : smRequest (bendP code a).2:=by
 simp only [eOk,decide_eq_true_eq] at h
 have p0 : dOk a = true:=by simp only [dOk,decide_eq_true_eq]; omega
 obtain ⟨r1,r2,r3,r4,r5⟩:=reqV_sm code p0
 have i:=reqP_le code p0
 have p1 : dOk ((reqP code a).1 + 1) = true:=by simp only [dOk,decide_eq_true_eq]; omega
 have m1:=pick_in code [100,101] (show aOk ((reqP code a).1 + 1) = true by simp only [aOk,decide_eq_true_eq]; omega) (by simp)
 simp only [List.mem_cons,List.not_mem_nil,or_false] at m1
 have i3 : (reqV code a).Headers.length ≤ 2:=i.2.2
 have i4:=reqV_path code p0
 unfold bendP
 simp only
 repeat' split
 ·exact ⟨word_sm _ _ _ (by decide),r2,r3,r4,r5⟩
 ·exact ⟨r1,word_sm _ _ _ (by decide),r3,r4,r5⟩
 ·exact ⟨r1,r2,word_sm _ _ _ (by decide),r4,r5⟩
 ·exact ⟨r1,r2,r3,by show (_ ++ _ : List Header).length ≤ 1048576; simp only [List.length_append,List.length_cons,List.length_nil]; omega,app_sm r5 ⟨lit_sm rfl,lit_sm rfl⟩⟩
 ·exact ⟨r1,r2,r3,by have:=(bentP_le code p1).2.2; show (bentP code ((reqP code a).1 + 1)).2.length ≤ 1048576; omega,bentP_sm code p1⟩
 ·refine ⟨r1,r2,?_,r4,r5⟩
  show (spaces _ _ _).size ≤ 1048576
  rw [spaces_size]
  unfold bendM
  omega
 ·exact ⟨r1,r2,r3,r4,r5⟩
theorem ws_sm {l : List Waiter} (h : l.length ≤ 100) : smL smWaiter l:=⟨by omega,fun x _=>⟨trivial,trivial,trivial,trivial⟩⟩
theorem fbentP_sm (code : List UInt8) {a : Int} (h : fOk a = true) : smFlight (fbentP code a).2:=by
 have w:=fbentP_le code h
 simp only [fOk,decide_eq_true_eq] at h
 have p0 : eOk a = true:=by simp only [eOk,decide_eq_true_eq]; omega
 have i:=flightP_le code p0
 have p1 : eOk ((flightP code a).1 + 1) = true:=by simp only [eOk,decide_eq_true_eq]; omega
 have hk : smStr (fbentP code a).2.Key:=by show _ ≤ 1048576; omega
 have hw : smL smWaiter (fbentP code a).2.Waiters:=ws_sm (by omega)
 refine ⟨trivial,hk,trivial,trivial,trivial,trivial,?_,hw⟩
 have r : smRequest (flightP code a).2.Get:=reqV_sm code (by simp only [dOk,decide_eq_true_eq]; omega)
 unfold fbentP
 simp only
 repeat' split
 all_goals first | exact r | exact bendP_sm code p1
theorem dig2_sz (n : Int) : (dig2 n).size ≤ 2:=by unfold dig2 dig1; split <;> simp [ByteArray.size]
theorem lst_sm (code : List UInt8) {a : Int} (ha : 0 ≤ a ∧ a ≤ 300000) (m : Nat) (hm : m ≤ 4) : ∀ x ∈ ((List.range m).foldl (fun s _=>lstStep code s) (a + 1,0,[])).2.2,smFlight x:=by
 have H : ∀ m : Nat,m ≤ 4 → LstI (a + 1) m ((List.range m).foldl (fun s _=>lstStep code s) (a + 1,0,[])):=by
  intro m
  induction m with
  | zero=>intro _; unfold LstI; simp
  | succ m ih=>intro hm; rw [List.range_succ,List.foldl_append]; exact lstI code (by omega) m (by omega) _ (ih (by omega))
 induction m with
 | zero=>intro x hx; simp at hx
 | succ m ih =>
  have hI:=H m (by omega)
  have ih:=ih (by omega)
  rw [List.range_succ,List.foldl_append]
  generalize (List.range m).foldl (fun s _=>lstStep code s) (a + 1,0,[]) = s at hI ih ⊢
  unfold LstI at hI
  have hf : fOk s.1 = true:=by simp only [fOk,decide_eq_true_eq]; omega
  have sm:=fbentP_sm code hf
  have le:=fbentP_le code hf
  intro x hx
  simp only [List.foldl_cons,List.foldl_nil,lstStep] at hx
  split at hx
  ·rcases List.mem_append.1 hx with hx | hx
   ·exact ih x hx
   ·obtain rfl:=List.mem_singleton.1 hx
    exact sm
  ·rcases List.mem_append.1 hx with hx | hx
   ·exact ih x hx
   ·obtain rfl:=List.mem_singleton.1 hx
    refine ⟨trivial,?_,trivial,trivial,trivial,trivial,sm.2.2.2.2.2.2.1,ws_sm ?_⟩
    ·show (_ ++ _ : ByteArray).size ≤ 1048576
     rw [ByteArray.size_append]
     have:=dig2_sz (s.2.1 + 1 + nextV code ((fbentP code s.1).1 + 1) 3)
     omega
    ·show (List.map _ _).length ≤ 100
     rw [List.length_map]; omega
theorem padL_sm {l : List Flight} (h : ∀ x ∈ l,smFlight x) (k : Nat) : ∀ x ∈ padL l k,smFlight x:=by
 induction k with
 | zero=>exact h
 | succ k ih =>
  intro x hx
  rcases List.mem_append.1 hx with hx | hx
  ·exact ih x hx
  ·obtain rfl:=List.mem_singleton.1 hx
   refine ⟨trivial,?_,trivial,trivial,trivial,trivial,⟨lit_sm rfl,lit_sm rfl,lit_sm rfl,by show 0 ≤ 1048576; omega,fun x hx=>by cases hx⟩,by show 0 ≤ 1048576; omega,fun x hx=>by cases hx⟩
   show (_ ++ _ : ByteArray).size ≤ 1048576
   rw [ByteArray.size_append]
   have:=dig2_sz ((padL l k).length : Int)
   have e : (ByteArray.mk #[122]).size = 1:=rfl
   rw [e]
   omega
theorem listP_sm (code : List UInt8) : smL smFlight (listP code 0).2:=by
 have i:=listP_le code (a:=0) rfl
 refine ⟨by omega,?_⟩
 have n4:=nextV_in code (a:=0) (n:=4) rfl (by omega)
 have h0 : ∀ x ∈ (lstRun code 0).2.2,smFlight x:=lst_sm code (a:=0) (by omega) (nextV code 0 4).toNat (by omega)
 unfold listP
 simp only
 split
 ·exact padL_sm h0 _
 ·exact h0
theorem ids_up {fs : List Flight} (h : unsF fs = false) : ∀ (i j : Nat) (hj : j < fs.length) (hi : i < j),(fs[i]'(by omega)).Id < fs[j].Id:=by
 have st : ∀ (k : Nat) (hk : k + 1 < fs.length),(fs[k]'(by omega)).Id < fs[k + 1].Id:=fun k hk=>by
  unfold unsF at h
  rw [List.any_eq_false] at h
  have hz : (fs[k]'(by omega),fs[k + 1]) ∈ fs.zip fs.tail:=by
   have hl : k < (fs.zip fs.tail).length:=by rw [List.length_zip,List.length_tail]; omega
   have : (fs.zip fs.tail)[k] = (fs[k]'(by omega),fs[k + 1]):=by simp
   rw [← this]; exact List.getElem_mem hl
  have:=h _ hz
  simp only [decide_eq_true_eq] at this
  omega
 intro i j hj hi
 induction j with
 | zero=>omega
 | succ j ih =>
  by_cases e : i = j
  ·subst e; exact st i hj
  ·have a:=ih (by omega) (by omega)
   have b:=st j hj
   omega
theorem find_same {fs : List Flight} (h : unsF fs = false) {i : Nat} (hi : i < fs.length) : idxP (fun x=>x.Id == fs[i].Id) fs 0 = (i : Int):=by
 have e:=idxP_take0 (fun x : Flight=>x.Id == fs[i].Id) fs i hi (by simp)
 have n : (fs.take i).any (fun x=>x.Id == fs[i].Id) = false:=by
  rw [List.any_eq_false]
  intro x hx
  obtain ⟨j,hj,rfl⟩:=List.mem_iff_getElem.1 hx
  have hj2 : j < i:=by rw [List.length_take] at hj; omega
  have:=ids_up h j i hi hj2
  simp only [List.getElem_take,beq_iff_eq]
  omega
 rw [n] at e
 simpa using e
theorem uns_of {fs : List Flight} (h : flightsFault fs = 0) : unsF fs = false:=by
 unfold flightsFault at h
 split at h
 ·exact absurd h (by decide)
 split at h
 ·rename_i c; rw [h] at c; exact absurd c (by decide)
 split at h
 ·exact absurd h (by decide)
 ·rename_i c; simpa using c
theorem place_ok {fs : List Flight} (h : flightsFault fs = 0) (p : Flight → Bool) : placeR fs (idxP p fs 0) = ⟨4,0⟩ ∨ ∃ (i : Nat) (hi : i < fs.length),p fs[i] = true ∧ placeR fs (idxP p fs 0) = ⟨0,i⟩:=by
 have z : (flightsFault fs != 0) = false:=by simpa using h
 unfold placeR
 rw [z]
 by_cases c : idxP p fs 0 < 0
 ·rw [if_pos c,if_pos c]; exact .inl rfl
 ·rw [if_neg c,if_neg c]
  obtain ⟨i,a1,a2,a3,_⟩:=idxP_pos p fs (by omega)
  exact .inr ⟨i,a2,a3 _ (List.getElem?_eq_getElem a2),by rw [a1]; rfl⟩
theorem place_at {fs : List Flight} (h : flightsFault fs = 0) (i : Nat) (hi : i < fs.length) : placeR fs (idxP (fun x=>x.Id == fs[i].Id) fs 0) = ⟨0,i⟩:=by
 have z : (flightsFault fs != 0) = false:=by simpa using h
 rw [find_same (uns_of h) hi]
 unfold placeR
 rw [z,if_neg (show ¬ ((i : Int) < 0) by omega),if_neg (show ¬ ((i : Int) < 0) by omega)]
 rfl
def s3 : SP Tryz.prog:=mkS tyA 3 Tryz.f3 [s9,s10,s11,s12,s13,s14,s15,s16,s17,s18] { md:=[.ro 1],rg:=[(0,[0],[]),(1,[0,10],[]),(2,[2],[]),(3,[0,3,4],[]),(4,[0,3,4,5],[5]),(5,[3,4,5,6,7],[5]),(6,[3,4,5,6,7,8],[5,8]),(7,[3,4,5,6,7,8,45],[5,8]),(8,[2],[]),(9,[6,7,8,82],[8]),(10,[2],[]),(11,[2],[])],rets:=some ([2],[]),al:=[11,19],plan:=[(7,(.take 0 (.take 1 (.take 2 (.one 3 (.take 4 (.take 5 (.take 6 (.take 7 (.take 8 (.one 9 (.take 10 (.take 11 (.take 12 (.take 13 (.take 15 (.one 14 (.one 16 (.take 17 (.take 18 .done)))))))))))))))))))),(9,(.take 0 (.take 1 (.take 2 (.take 3 (.take 4 (.take 5 (.take 6 (.take 7 (.take 8 (.take 9 (.take 10 (.take 11 (.take 12 (.take 13 (.take 14 (.take 15 (.take 16 (.take 17 (.take 18 (.take 19 (.take 20 (.take 21 (.take 22 (.take 23 (.take 24 (.take 25 (.take 26 (.take 27 (.take 28 (.take 29 (.take 30 (.take 31 (.take 33 (.one 32 (.take 34 (.take 35 (.take 36 .done))))))))))))))))))))))))))))))))))))))] } Tryz.func3 (by kernel_rfl)
@[go_sem] theorem d3 : s3.g = 3 ∧ s3.fs = ⟨[.ro 1],s3.F,false⟩:=⟨nr rfl,nr rfl⟩
theorem e3 (code : List UInt8) (h0 : okL okByte code) : s3.F [.sl .ro 1 (code.map rByte)] = some (.b true,[.u]):=mkS_eq (0) rfl rfl (fun cx h=>by
 by_cases hb : 1048576 < (code.length : Int)
 ·simp only [go_sem,reduceIte,↓reduceIte,reduceCtorEq,nA,nS,nM,nB,nE,nL,nT,nN,iL,iT,iE,iA,iM,iS,iG,iB,iN,iZ,h,hb]
 have hsm:=listP_sm code
 obtain ⟨l,hl⟩ : ∃ l,(listP code 0).2 = l:=⟨_,rfl⟩
 obtain ⟨K,hK⟩ : ∃ K,drawKey code = K:=⟨_,rfl⟩
 obtain ⟨D,hD⟩ : ∃ D,drawId code = D:=⟨_,rfl⟩
 rw [hl] at hsm
 by_cases z : flightsFault l = 0
 rotate_left
 ·have z' : (flightsFault l != 0) = true:=by simpa using z
  have zz : (flightsFault l == 0) = false:=by simpa using z
  have y : ∀ i,placeR l i = ⟨flightsFault l,0⟩:=fun i=>by unfold placeR; rw [z']; rfl
  simp only [go_sem,reduceIte,↓reduceIte,reduceCtorEq,nA,nS,nM,nB,nE,nL,nT,nN,iL,iT,iE,iA,iM,iS,iG,iB,iN,iZ,h,hb,hl,hK,hD,hsm,y,z',zz]
 rcases place_ok z (fun x=>eqv x.Key K) with r1 | ⟨i,hi,ki,r1⟩ <;> rcases place_ok z (fun x=>x.Id == D) with r2 | ⟨j,hj,kj,r2⟩
 ·simp only [go_sem,reduceIte,↓reduceIte,reduceCtorEq,nA,nS,nM,nB,nE,nL,nT,nN,iL,iT,iE,iA,iM,iS,iG,iB,iN,iZ,h,hb,hl,hK,hD,hsm,r1,r2]
 ·have j0 : (0 : Int) ≤ (j : Int):=by omega
  have j1 : (j : Int) < (l.length : Int):=by omega
  have j2 : (l.map (rFlight .ro))[j]? = some (rFlight .ro l[j]):=by rw [List.getElem?_map,List.getElem?_eq_getElem hj]; rfl
  obtain rfl : l[j].Id = D:=by simpa using kj
  simp only [go_sem,reduceIte,↓reduceIte,reduceCtorEq,nA,nS,nM,nB,nE,nL,nT,nN,iL,iT,iE,iA,iM,iS,iG,iB,iN,iZ,h,hb,hl,hK,hD,hsm,r1,r2,j0,j1,j2,idx_nt _ _ hj,map_gd (rFlight .ro) l j hj,stripL,strip,eqv_self]
 ·have i0 : ¬ ((i : Int) < 0):=by omega
  have i1 : ¬ ((l.length : Int) ≤ (i : Int)):=by omega
  have i2 : (l.map (rFlight .ro))[i]? = some (rFlight .ro l[i]):=by rw [List.getElem?_map,List.getElem?_eq_getElem hi]; rfl
  have i3:=place_at z i hi
  obtain rfl : l[i].Key = K:=by simpa [eqv_iff] using ki
  simp only [go_sem,reduceIte,↓reduceIte,reduceCtorEq,nA,nS,nM,nB,nE,nL,nT,nN,iL,iT,iE,iA,iM,iS,iG,iB,iN,iZ,h,hb,hl,hK,hD,hsm,r1,r2,i0,i1,i2,i3,idx_nt _ _ hi,map_gd (rFlight .ro) l i hi,stripL,strip,eqv_self]
 ·have j0 : (0 : Int) ≤ (j : Int):=by omega
  have j1 : (j : Int) < (l.length : Int):=by omega
  have j2 : (l.map (rFlight .ro))[j]? = some (rFlight .ro l[j]):=by rw [List.getElem?_map,List.getElem?_eq_getElem hj]; rfl
  obtain rfl : l[j].Id = D:=by simpa using kj
  have i0 : ¬ ((i : Int) < 0):=by omega
  have i1 : ¬ ((l.length : Int) ≤ (i : Int)):=by omega
  have i2 : (l.map (rFlight .ro))[i]? = some (rFlight .ro l[i]):=by rw [List.getElem?_map,List.getElem?_eq_getElem hi]; rfl
  have i3:=place_at z i hi
  obtain rfl : l[i].Key = K:=by simpa [eqv_iff] using ki
  simp only [go_sem,reduceIte,↓reduceIte,reduceCtorEq,nA,nS,nM,nB,nE,nL,nT,nN,iL,iT,iE,iA,iM,iS,iG,iB,iN,iZ,h,hb,hl,hK,hD,hsm,r1,r2,i0,i1,i2,i3,j0,j1,j2,idx_nt _ _ hi,map_gd (rFlight .ro) l i hi,stripL,strip,idx_nt _ _ hj,map_gd (rFlight .ro) l j hj,stripL,strip,eqv_self]) (rfl)
end
end Go.Vm.A
