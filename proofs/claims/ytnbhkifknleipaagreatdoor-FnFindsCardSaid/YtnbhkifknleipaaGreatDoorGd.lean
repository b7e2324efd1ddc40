/- Functions of the program, walked by the evaluator. -/
import Derived.Test.YtnbhkifknleipaaGreatDoorWb
import Derived.Test.YtnbhkifknleipaaGreatDoorWa
import Derived.Test.YtnbhkifknleipaaGreatDoorGc
set_option linter.unusedVariables false
set_option linter.unusedSimpArgs false
set_option autoImplicit false
set_option maxRecDepth 100000
set_option maxHeartbeats 4000000
namespace Go.Vm.A
open Go.Proofs
open Nat renaming reduceAdd → nA, reduceSub → nS, reduceMul → nM, reduceBEq → nB, reduceEqDiff → nE, reduceLeDiff → nL, reduceLT → nT, reduceBneDiff → nN
open Int renaming reduceLE → iL, reduceLT → iT, reduceEq → iE, reduceAdd → iA, reduceMul → iM, reduceSub → iS, reduceNeg → iG, reduceBEq → iB, reduceBNe → iN, reduceToNat → iZ
noncomputable section
def isWord (t : ByteArray) : Bool:=areB wordB 1 64 t
def s164 : SP Tryz.prog:=mkS tyA 164 Tryz.f164 [s218,s259] { md:=[.ro 1],rets:=some ([2],[]) } Tryz.func164 (by kernel_rfl)
@[go_sem] theorem d164 : s164.g = 164 ∧ s164.fs = ⟨[.ro 1],s164.F,false⟩:=⟨nr rfl,nr rfl⟩
@[go_sem] theorem e164 (t : ByteArray) : s164.F [.s t] = some (.b (isWord t),[.u]):=mkS_eq (0) rfl rfl (fun cx h=>by
 simp only [go_sem,reduceIte,↓reduceIte,reduceCtorEq,nA,nS,nM,nB,nE,nL,nT,nN,iL,iT,iE,iA,iM,iS,iG,iB,iN,iZ,h,isWord]) (rfl)
def areP (t : ByteArray) : Bool:=t.data.toList.all plainB
theorem areP_eq (t : ByteArray) : areB plainB 0 (t.size : Int) t = areP t:=areB_all (by omega) (by omega)
def s297 : SP Tryz.prog:=mkS tyA 297 Tryz.f297 [s218,s344] { md:=[.ro 1],rets:=some ([2],[]) } Tryz.func297 (by kernel_rfl)
@[go_sem] theorem d297 : s297.g = 297 ∧ s297.fs = ⟨[.ro 1],s297.F,false⟩:=⟨nr rfl,nr rfl⟩
@[go_sem] theorem e297 (t : ByteArray) (h0 : (t.size : Int) ≤ 1000000) : s297.F [.s t] = some (.b (areP t),[.u]):=mkS_eq (0) rfl rfl (fun cx h=>by
 simp only [go_sem,reduceIte,↓reduceIte,reduceCtorEq,nA,nS,nM,nB,nE,nL,nT,nN,iL,iT,iE,iA,iM,iS,iG,iB,iN,iZ,h,h0,areP_eq]) (rfl)
def trimB (t : ByteArray) : ByteArray:=⟨(Lib.trimS t.data.toList [32,9]).toArray⟩
def blankB (c : UInt8) : Bool:=((c.toNat : Int) == 32) || ((c.toNat : Int) == 9)
def bl (t : ByteArray) (j : Nat) : Bool:=blankB (t.data[j]?.getD 0)
theorem blankB_c (c : UInt8) : [32,9].contains c = blankB c:=by
 have h32 : (c == 32) = ((c.toNat : Int) == 32):=by
  rw [Bool.eq_iff_iff,beq_iff_eq,beq_iff_eq]
  constructor
  ·rintro rfl; rfl
  ·intro h; exact UInt8.toNat_inj.1 (by have : (32 : UInt8).toNat = 32:=rfl; omega)
 have h9 : (c == 9) = ((c.toNat : Int) == 9):=by
  rw [Bool.eq_iff_iff,beq_iff_eq,beq_iff_eq]
  constructor
  ·rintro rfl; rfl
  ·intro h; exact UInt8.toNat_inj.1 (by have : (9 : UInt8).toNat = 9:=rfl; omega)
 simp only [List.contains_cons,List.contains_nil,Bool.or_false,h32,h9,blankB]
theorem bl_get {t : ByteArray} {j : Nat} {b : UInt8} (h : t.data.toList[j]? = some b) : bl t j = [32,9].contains b:=by
 rw [blankB_c]
 unfold bl
 rw [Array.getElem?_toList] at h
 rw [h]; rfl
theorem trim_cut (t : ByteArray) (f e : Nat) (hf : f ≤ e) (he : e ≤ t.size) (h1 : ∀ j,j < f → bl t j = true) (h2 : f < t.size → bl t f = false) (h3 : ∀ j,e ≤ j → j < t.size → bl t j = true) (h4 : f < e → bl t (e - 1) = false) : trimB t = t.extract f e:=by
 have hn : t.size = t.data.toList.length:=str_size t
 have hext : t.extract f e = ⟨((t.data.toList.take e).drop f).toArray⟩:=by
  have : (t.extract f e).data = t.data.extract f e:=by simp
  cases hx : t.extract f e with
  | mk d =>
   rw [hx] at this
   congr 1
   simp only at this
   rw [this]
   apply Array.ext'
   rw [Array.toList_extract,List.extract_eq_take_drop,List.drop_take]
 rw [hext]
 unfold trimB Lib.trimS
 congr 2
 by_cases hall : f < e
 ·rw [Lib.trimRightS_take t.data.toList [32,9] e (by omega) (fun j b hj hb=>?_) (fun b hk hb=>?_)]
  ·refine Lib.trimLeftS_drop _ _ f (by simp; omega) (fun j b hj hb=>?_) (fun b hb=>?_)
   ·rw [List.getElem?_take] at hb
    split at hb
    ·rw [← bl_get hb]; exact h1 j hj
    ·cases hb
   ·rw [List.getElem?_take,if_pos hall] at hb
    rw [← bl_get hb]; exact h2 (by omega)
  ·rw [← bl_get hb]; exact h3 j hj (by have:=(List.getElem?_eq_some_iff.1 hb).1; omega)
  ·rw [← bl_get hb]; exact h4 hall
 ·obtain rfl : f = e:=by omega
  have hfn : f = t.size:=by
   rcases Nat.lt_or_ge f t.size with h | h
   ·have:=h2 h; rw [h3 f (Nat.le_refl _) h] at this; cases this
   ·omega
  have hr : Lib.trimRightS t.data.toList [32,9] = t.data.toList.take 0:=Lib.trimRightS_take _ _ 0 (by omega) (fun j b _ hb=>by
   rw [← bl_get hb]; exact h1 j (by have:=(List.getElem?_eq_some_iff.1 hb).1; omega)) (fun b hk _=>by omega)
  rw [hr]
  have : (t.data.toList.take f).drop f = []:=by
   apply List.drop_eq_nil_of_le
   simp
   omega
  rw [this]
  rfl
def s298 : SP Tryz.prog:=⟨298,⟨[.ro 1,.ro 1],trimF,false⟩,trim_ok Tryz.func298 (by kernel_rfl) rfl Go.Proofs.Tryz.trimSpTab⟩
@[go_sem] theorem d298 : s298.g = 298 ∧ s298.fs = ⟨[.ro 1,.ro 1],s298.F,false⟩:=⟨nr rfl,nr rfl⟩
@[go_sem] theorem e298 (x : ByteArray) (h0 : x.size ≤ 9223372036854775807) : s298.F [.s x,.s ⟨#[32,9]⟩] = some (.s (trimB x),[.u,.u]):=by
 show trimF [.s x,.s ⟨#[32,9]⟩] = _
 have hc : (⟨#[32,9]⟩ : ByteArray).data.toList = [32,9] ∧ x.size ≤ 9223372036854775807:=⟨rfl,h0⟩
 exact if_pos hc
def headerCode (h : Header) : Int:=if isWord h.Name = false then 5 else if 200 < (h.Value.size : Int) then 2 else if (areP h.Value && eqv (trimB h.Value) h.Value) = true then 0 else 5
def headersFault (hs : List Header) : Int:=if 20 < (hs.length : Int) then 2 else firstI (hs.map headerCode)
theorem firstI_inl {α : Type} {f : α → Int} : ∀ {xs : List α} {u u' : Unit},runS (fun x _=>f x != 0) (fun _ _=>()) xs u = .inl u' → firstI (xs.map f) = 0
 | [],_,_,_=>rfl
 | x :: xs,u,u',h=>by
  rw [runS_cons] at h
  split at h
  ·cases h
  ·rename_i hc; rw [List.map_cons,firstI_cons,if_neg hc]; exact firstI_inl h
theorem firstI_inr {α : Type} {f : α → Int} : ∀ {xs : List α} {u : Unit} {q : α × Unit},runS (fun x _=>f x != 0) (fun _ _=>()) xs u = .inr q → firstI (xs.map f) = f q.1
 | [],_,_,h=>by cases h
 | x :: xs,u,q,h=>by
  rw [runS_cons] at h
  split at h
  ·rename_i hc; injection h with h; subst h; rw [List.map_cons,firstI_cons,if_pos hc]
  ·rename_i hc; rw [List.map_cons,firstI_cons,if_neg hc]; exact firstI_inr h
def s216 : SP Tryz.prog:=mkS tyA 216 Tryz.f216 [s164,s297,s298] { md:=[.ro 1],rg:=[(0,[1],[1]),(1,[1,3],[1]),(2,[2],[]),(3,[1,8],[1]),(4,[2],[]),(5,[13],[]),(6,[2],[]),(7,[2],[])],rets:=some ([2],[]),plan:=[(5,(.take 0 (.take 1 (.one 2 (.take 3 (.take 4 (.take 5 (.take 6 (.take 8 (.take 9 (.one 7 (.take 10 (.take 11 (.one 12 .done))))))))))))))] } Tryz.func216 (by kernel_rfl)
@[go_sem] theorem d216 : s216.g = 216 ∧ s216.fs = ⟨[.ro 1],s216.F,false⟩:=⟨nr rfl,nr rfl⟩
@[go_sem] theorem e216 (q0 q1 : ByteArray) : s216.F [.agg [.s q0,.s q1]] = some (.i .i64 (headerCode (Header.mk q0 q1)),[.u]):=mkS_eq (0) rfl rfl (fun cx h=>by
 cases h1 : isWord q0
 ·simp only [go_sem,reduceIte,↓reduceIte,reduceCtorEq,nA,nS,nM,nB,nE,nL,nT,nN,iL,iT,iE,iA,iM,iS,iG,iB,iN,iZ,h,h1,headerCode]
 by_cases h2 : 200 < (q1.size : Int)
 ·simp only [go_sem,reduceIte,↓reduceIte,reduceCtorEq,nA,nS,nM,nB,nE,nL,nT,nN,iL,iT,iE,iA,iM,iS,iG,iB,iN,iZ,h,h1,h2,headerCode]
 have h3 : (q1.size : Int) ≤ 1000000:=by omega
 have h4 : q1.size ≤ 9223372036854775806:=by omega
 have h5 : q1.size ≤ 9223372036854775807:=by omega
 cases h6 : areP q1
 ·simp only [go_sem,reduceIte,↓reduceIte,reduceCtorEq,nA,nS,nM,nB,nE,nL,nT,nN,iL,iT,iE,iA,iM,iS,iG,iB,iN,iZ,h,h1,h2,h3,h4,h5,h6,headerCode]
 cases h7 : eqv (trimB q1) q1 <;> simp only [go_sem,reduceIte,↓reduceIte,reduceCtorEq,nA,nS,nM,nB,nE,nL,nT,nN,iL,iT,iE,iA,iM,iS,iG,iB,iN,iZ,h,h1,h2,h3,h4,h5,h6,h7,eqv_bytes,eqv_boolne,bne,headerCode]) (rfl)
def s118 : SP Tryz.prog:=mkS tyA 118 Tryz.f118 [s216] { md:=[.ro 1],rg:=[(0,[0],[]),(1,[0,8],[]),(2,[2],[]),(3,[0,9,10,11],[]),(4,[0,9,10,11,12],[]),(5,[0,4,9,10,11],[4]),(6,[0,5,9,10,11],[]),(7,[0,5,9,10,11,18],[]),(8,[2],[]),(9,[0,9,10,11],[]),(10,[2],[])],lv:=[(0,[0,9,10,11],[])],out:=[(0,[],[])],rets:=some ([2],[]) } Tryz.func118 (by kernel_rfl)
@[go_sem] theorem d118 : s118.g = 118 ∧ s118.fs = ⟨[.ro 1],s118.F,false⟩:=⟨nr rfl,nr rfl⟩
@[go_sem] theorem e118 (hs : List Header) : s118.F [.sl .ro 2 (hs.map (rHeader .ro))] = some (.i .i64 (headersFault hs),[.u]):=mkS_eq (hs.length + 1) rfl rfl (fun cx h=>by
 by_cases h1 : 20 < (hs.length : Int)
 ·simp only [go_sem,reduceIte,↓reduceIte,reduceCtorEq,nA,nS,nM,nB,nE,nL,nT,nN,iL,iT,iE,iA,iM,iS,iG,iB,iN,iZ,h,h1,headersFault]
 have hx : hs.length ≤ 9223372036854775806:=by omega
 have hb0:=loopN_eq Tryz.f118 0 _ _ rfl rfl
 obtain ⟨r,hr,hq⟩:=loop_srch (cx:=cx) (blk:=0) (body:=loopN Tryz.f118 0) hs (fun k (s : Unit)=>⟨E [(0,.sl .ro 2 (hs.map (rHeader .ro))),(9,.sl .ro 2 (hs.map (rHeader .ro))),(10,.i .i64 hs.length),(11,.i .i64 k)],B []⟩) (fun s=>⟨E [],B []⟩) (fun x s=>headerCode x != 0) (fun x s=>()) (fun x s=>(.ret,⟨E [(2,.i .i64 (headerCode x))],B []⟩)) (fun k s=>True)
   (fun s hI G=>by simp only [go_sem,reduceIte,↓reduceIte,reduceCtorEq,nA,nS,nM,nB,nE,nL,nT,nN,iL,iT,iE,iA,iM,iS,iG,iB,iN,iZ,h,Int.lt_irrefl,hb0,hx]) (fun k hk s hI=>by
    have h1 : ((k : Int) < (hs.length : Int)):=Int.ofNat_lt.2 hk
    exact ⟨_,_,_,fun G=>by simp only [go_sem,reduceIte,↓reduceIte,reduceCtorEq,nA,nS,nM,nB,nE,nL,nT,nN,iL,iT,iE,iA,iM,iS,iG,iB,iN,iZ,h,map_gd (rHeader .ro) hs _ hk,rHeader,h1,idx_nt _ _ hk,wrap_nat1 (show k < 9223372036854775807 by omega),hb0] <;> with_reducible rfl,Iff.rfl,fun hc=>⟨trivial,by simp only [go_sem,reduceIte,↓reduceIte,reduceCtorEq,nA,nS,nM,nB,nE,nL,nT,nN,iL,iT,iE,iA,iM,iS,iG,iB,iN,iZ,h]⟩⟩) () trivial (hs.length + 1) (Nat.le_refl _)
 rw [hb0] at hr
 rcases hq with ⟨s',e1,_,e3⟩ | ⟨x,s',e1,e3⟩
 ·simp only [go_sem,reduceIte,↓reduceIte,reduceCtorEq,nA,nS,nM,nB,nE,nL,nT,nN,iL,iT,iE,iA,iM,iS,iG,iB,iN,iZ,h,h1,hr,e3,headersFault,firstI_inl e1]
 ·simp only [go_sem,reduceIte,↓reduceIte,reduceCtorEq,nA,nS,nM,nB,nE,nL,nT,nN,iL,iT,iE,iA,iM,iS,iG,iB,iN,iZ,h,h1,hr,e3,headersFault,firstI_inr e1]) (rfl)
@[go_sem] theorem map_byteRow (xs : List UInt8) : xs.map byteRow = xs.map rByte:=nr rfl
def lowB (c : UInt8) : UInt8:=if 65 ≤ (c.toNat : Int) ∧ (c.toNat : Int) ≤ 90 then c + 32 else c
def lowS (t : ByteArray) : ByteArray:=⟨(t.data.toList.map lowB).toArray⟩
def lowUp (xs : List UInt8) (k : Nat) : List UInt8:=(xs.take k).map lowB ++ xs.drop k
theorem lowUp_zero (xs : List UInt8) : lowUp xs 0 = xs:=by simp [lowUp]
theorem lowUp_all (xs : List UInt8) : lowUp xs xs.length = xs.map lowB:=by simp [lowUp]
theorem lowUp_len (xs : List UInt8) (k : Nat) (h : k ≤ xs.length) : (lowUp xs k).length = xs.length:=by simp [lowUp]; omega
theorem lowUp_at (xs : List UInt8) (k : Nat) (h : k < xs.length) : (lowUp xs k)[k]? = some xs[k]:=by
 unfold lowUp
 rw [List.getElem?_append_right (by simp; omega)]
 simp [Nat.min_eq_left (Nat.le_of_lt h),h]
theorem lowUp_succ (xs : List UInt8) (k : Nat) (h : k < xs.length) : (lowUp xs k).set k (lowB xs[k]) = lowUp xs (k + 1):=by
 unfold lowUp
 rw [List.set_append_right _ _ (by simp; omega)]
 rw [List.length_map,List.length_take,Nat.min_eq_left (Nat.le_of_lt h),Nat.sub_self,List.drop_eq_getElem_cons h,List.set_cons_zero]
 have e : (xs.take (k + 1)).map lowB = (xs.take k).map lowB ++ [lowB xs[k]]:=by
  rw [List.take_add_one,List.getElem?_eq_getElem h,Option.toList_some,List.map_append]; rfl
 rw [e]
 simp
theorem lowUp_same (xs : List UInt8) (k : Nat) (h : k < xs.length) (hc : lowB xs[k] = xs[k]) : lowUp xs (k + 1) = lowUp xs k:=by
 rw [← lowUp_succ xs k h,hc]
 have:=lowUp_at xs k h
 obtain ⟨h1,h2⟩:=List.getElem?_eq_some_iff.1 this
 rw [← h2]
 exact List.set_getElem_self h1
theorem lowUp_gd (xs : List UInt8) (k : Nat) (h : k < xs.length) : ((lowUp xs k).map rByte).getD k [] = [.i .u8 xs[k].toNat]:=by
 rw [List.getD_eq_getElem?_getD,List.getElem?_map,lowUp_at xs k h]; rfl
theorem lowUp_g (xs : List UInt8) (k : Nat) (h : k < xs.length) : ((lowUp xs k).map rByte)[k]? = some [.i .u8 xs[k].toNat]:=by
 rw [List.getElem?_map,lowUp_at xs k h]; rfl
theorem low_add {c : UInt8} (h : (c.toNat : Int) ≤ 90) : (c + 32).toNat = c.toNat + 32:=by
 rw [UInt8.toNat_add]
 have : (32 : UInt8).toNat = 32:=rfl
 rw [this]
 omega
theorem lowStep (xs : List UInt8) (k : Nat) (h : k < xs.length) :
  (65 ≤ (xs[k].toNat : Int) ∧ (xs[k].toNat : Int) ≤ 90 ∧ ((IntKind.u8).wrap ((IntKind.u8).wrap ((xs[k].toNat : Int) + 97) - 65) = ((lowB xs[k]).toNat : Int)) ∧ ((IntKind.u8).wrap ((xs[k].toNat : Int) + 32) = ((lowB xs[k]).toNat : Int)) ∧ ((lowUp xs k).map rByte).set k [.i .u8 (lowB xs[k]).toNat] = (lowUp xs (k + 1)).map rByte ∧ True) ∨
  (¬ 65 ≤ (xs[k].toNat : Int) ∧ True ∧ True ∧ True ∧ True ∧ lowUp xs (k + 1) = lowUp xs k) ∨ (65 ≤ (xs[k].toNat : Int) ∧ ¬ (xs[k].toNat : Int) ≤ 90 ∧ True ∧ True ∧ True ∧ lowUp xs (k + 1) = lowUp xs k):=by
 by_cases a1 : 65 ≤ (xs[k].toNat : Int)
 ·by_cases a2 : (xs[k].toNat : Int) ≤ 90
  ·refine .inl ⟨a1,a2,?_,?_,?_,trivial⟩
   ·have hl : lowB xs[k] = xs[k] + 32:=if_pos ⟨a1,a2⟩
    rw [hl,low_add a2]
    simp only [IntKind.wrap,IntKind.bits,IntKind.signed]
    simp
    omega
   ·have hl : lowB xs[k] = xs[k] + 32:=if_pos ⟨a1,a2⟩
    rw [hl,low_add a2]
    simp only [IntKind.wrap,IntKind.bits,IntKind.signed]
    simp
    omega
   ·rw [← lowUp_succ xs k h,List.map_set]; rfl
  ·exact .inr (.inr ⟨a1,a2,trivial,trivial,trivial,lowUp_same xs k h (if_neg fun x=>a2 x.2)⟩)
 ·exact .inr (.inl ⟨a1,trivial,trivial,trivial,trivial,lowUp_same xs k h (if_neg fun x=>a1 x.1)⟩)
def okN (n : ByteArray) : Bool:=decide (n.size ≤ 9223372036854775806)
def valsOf (hs : List Header) (n : ByteArray) : List ByteArray:=(hs.filter fun x=>eqv (lowS x.Name) (lowS n)).map (·.Value)
def hasV (hs : List Header) (n : ByteArray) : Bool:=hs.any fun x=>eqv (lowS x.Name) (lowS n)
theorem valsOf_pos (hs : List Header) (n : ByteArray) : decide (0 < ((valsOf hs n).length : Int)) = hasV hs n:=by
 have : 0 < (valsOf hs n).length ↔ hasV hs n = true:=by
  unfold valsOf hasV
  rw [List.length_map,List.length_pos_iff_exists_mem,List.any_eq_true]
  simp only [List.mem_filter]
 rw [Bool.eq_iff_iff,decide_eq_true_eq,← this]
 omega
def joinStep (n : ByteArray) (s : ByteArray × Bool) (x : Header) : ByteArray × Bool:=if eqv (lowS x.Name) (lowS n) = true then ((if s.2 = true then s.1 ++ ⟨#[44,32]⟩ else s.1) ++ x.Value,true) else s
def joinV (hs : List Header) (n : ByteArray) : ByteArray × Bool:=hs.foldl (fun s x=>joinStep n s x) (⟨#[]⟩,false)
theorem joinFold_2 (n : ByteArray) : ∀ (hs : List Header) (s : ByteArray × Bool),(hs.foldl (fun s x=>joinStep n s x) s).2 = (s.2 || hasV hs n)
 | [],s=>by simp [hasV]
 | x :: hs,s=>by
  rw [List.foldl_cons,joinFold_2 n hs]
  unfold joinStep hasV
  rw [List.any_cons]
  cases eqv (lowS x.Name) (lowS n) <;> simp
theorem joinV_2 (hs : List Header) (n : ByteArray) : (joinV hs n).2 = hasV hs n:=by
 unfold joinV; rw [joinFold_2]; rfl
theorem joinStep_size {n : ByteArray} {s : ByteArray × Bool} {x : Header} {k : Nat} (h : s.1.size ≤ k * 1048578) (hx : x.Value.size ≤ 1048576) : (joinStep n s x).1.size ≤ (k + 1) * 1048578:=by
 have h2 : (⟨#[44,32]⟩ : ByteArray).size = 2:=rfl
 have h3 : (k + 1) * 1048578 = k * 1048578 + 1048578:=Nat.succ_mul _ _
 rw [h3]
 generalize k * 1048578 = K at h ⊢
 unfold joinStep
 split
 ·show (((if s.2 = true then s.1 ++ ⟨#[44,32]⟩ else s.1) ++ x.Value).size) ≤ _
  rw [ByteArray.size_append]
  split
  ·rw [ByteArray.size_append]; omega
  ·omega
 ·omega
def isMethod (t : ByteArray) : Bool:=eqv t ⟨#[71,69,84]⟩ || eqv t ⟨#[72,69,65,68]⟩
theorem eqv_bytesne (a b : ByteArray) : (a.toList != b.toList) = !eqv a b:=by rw [bne,eqv_bytes]
def isHost (t : ByteArray) : Bool:=areB hostB 1 60 t
def isPath (t : ByteArray) : Bool:=areB pathB 1 100 t && (((t.data[0]?.getD 0).toNat : Int) == 47)
def requestFault (r : Request) : Int:=if (isMethod r.Method && isHost r.Host && isPath r.Path) = false then 5 else if (headersFault r.Headers != 0) = true then headersFault r.Headers else if hasV r.Headers ⟨#[72,111,115,116]⟩ = true then 6 else if 20 ≤ (r.Headers.length : Int) then 2 else 0
theorem hasV_host (hs : List Header) : hasV hs ⟨#[104,111,115,116]⟩ = hasV hs ⟨#[72,111,115,116]⟩:=by
 unfold hasV
 have : lowS ⟨#[104,111,115,116]⟩ = lowS ⟨#[72,111,115,116]⟩:=by rfl
 rw [this]
theorem headersFault_ok {hs : List Header} (h : headersFault hs = 0) : hs.length ≤ 20:=by
 unfold headersFault at h
 split at h
 ·cases h
 ·omega
theorem areB_nil {p : UInt8 → Bool} {hi : Int} {t : ByteArray} (h : areB p 1 hi t = true) : 0 < t.size:=by
 unfold areB at h
 simp only [Bool.and_eq_true,decide_eq_true_eq] at h
 omega
def s122 : SP Tryz.prog:=mkS tyA 122 Tryz.f122 [] { md:=[.ro 1],rets:=some ([2],[]) } Tryz.func122 (by kernel_rfl)
@[go_sem] theorem d122 : s122.g = 122 ∧ s122.fs = ⟨[.ro 1],s122.F,false⟩:=⟨nr rfl,nr rfl⟩
@[go_sem] theorem e122 (t : ByteArray) : s122.F [.s t] = some (.b (isMethod t),[.u]):=mkS_eq (0) rfl rfl (fun cx h=>by
 have hu : isMethod t = (eqv t ⟨#[71,69,84]⟩ || eqv t ⟨#[72,69,65,68]⟩):=rfl
 cases h1 : eqv t ⟨#[71,69,84]⟩ <;> cases h2 : eqv t ⟨#[72,69,65,68]⟩ <;> simp only [go_sem,reduceIte,↓reduceIte,reduceCtorEq,nA,nS,nM,nB,nE,nL,nT,nN,iL,iT,iE,iA,iM,iS,iG,iB,iN,iZ,h,eqv_bytes,h1,h2,hu]) (rfl)
def s123 : SP Tryz.prog:=mkS tyA 123 Tryz.f123 [s218,s219] { md:=[.ro 1],rets:=some ([2],[]) } Tryz.func123 (by kernel_rfl)
@[go_sem] theorem d123 : s123.g = 123 ∧ s123.fs = ⟨[.ro 1],s123.F,false⟩:=⟨nr rfl,nr rfl⟩
@[go_sem] theorem e123 (t : ByteArray) : s123.F [.s t] = some (.b (isHost t),[.u]):=mkS_eq (0) rfl rfl (fun cx h=>by
 simp only [go_sem,reduceIte,↓reduceIte,reduceCtorEq,nA,nS,nM,nB,nE,nL,nT,nN,iL,iT,iE,iA,iM,iS,iG,iB,iN,iZ,h,isHost]) (rfl)
def s124 : SP Tryz.prog:=mkS tyA 124 Tryz.f124 [s218,s220] { md:=[.ro 1],rets:=some ([2],[]) } Tryz.func124 (by kernel_rfl)
@[go_sem] theorem d124 : s124.g = 124 ∧ s124.fs = ⟨[.ro 1],s124.F,false⟩:=⟨nr rfl,nr rfl⟩
@[go_sem] theorem e124 (t : ByteArray) : s124.F [.s t] = some (.b (isPath t),[.u]):=mkS_eq (0) rfl rfl (fun cx h=>by
 have hu : isPath t = (areB pathB 1 100 t && (((t.data[0]?.getD 0).toNat : Int) == 47)):=rfl
 cases h1 : areB pathB 1 100 t
 ·simp only [go_sem,reduceIte,↓reduceIte,reduceCtorEq,nA,nS,nM,nB,nE,nL,nT,nN,iL,iT,iE,iA,iM,iS,iG,iB,iN,iZ,h,h1,hu]
 have hi : idx? t.size 0 = some 0:=idx_nt t.size 0 (areB_nil h1)
 cases h2 : (((t.data[0]?.getD 0).toNat : Int) == 47) <;> simp only [go_sem,reduceIte,↓reduceIte,reduceCtorEq,nA,nS,nM,nB,nE,nL,nT,nN,iL,iT,iE,iA,iM,iS,iG,iB,iN,iZ,h,h1,h2,hi,hu]) (rfl)
def s238 : SP Tryz.prog:=mkS tyA 238 Tryz.f238 [] { md:=[.ro 1],rg:=[(0,[0],[]),(1,[3],[]),(2,[3,8,9,10],[]),(3,[3,8,9,10,11],[]),(4,[3,4,5,8,9,10],[]),(5,[3,4,5,8,9,10,20],[]),(6,[3,8,9,10],[]),(7,[3,8,9,10],[]),(8,[2],[])],lv:=[(0,[3,8,9,10],[])],out:=[(0,[3],[])],rets:=some ([2],[]) } Tryz.func238 (by kernel_rfl)
@[go_sem] theorem d238 : s238.g = 238 ∧ s238.fs = ⟨[.ro 1],s238.F,false⟩:=⟨nr rfl,nr rfl⟩
@[go_sem] theorem e238 (t : ByteArray) (h0 : t.size ≤ 9223372036854775806) : s238.F [.s t] = some (.s (lowS t),[.u]):=mkS_eq (t.data.toList.length + 1) rfl rfl (fun cx h=>by
 have hz : t.data.toList.length ≤ 9223372036854775807:=by rw [← str_size]; omega
 have hx : t.data.toList.length ≤ 9223372036854775806:=by rw [← str_size]; exact h0
 have hb0:=loopN_eq Tryz.f238 0 _ _ rfl rfl
 obtain ⟨hI,hr⟩:=loop_fold (cx:=cx) (blk:=0) (body:=loopN Tryz.f238 0) t.data.toList (fun k (s : Unit)=>⟨E [(3,.sl .mut 1 ((lowUp t.data.toList k).map rByte)),(8,.rf ⟨true,3,[],0⟩ 1 0 t.data.toList.length),(9,.i .i64 t.data.toList.length),(10,.i .i64 k)],B []⟩) (fun s=>⟨E [(3,.sl .mut 1 ((t.data.toList.map lowB).map rByte))],B []⟩) (fun x s=>s) (fun k s=>True)
   (fun s hI G=>by simp only [go_sem,reduceIte,↓reduceIte,reduceCtorEq,nA,nS,nM,nB,nE,nL,nT,nN,iL,iT,iE,iA,iM,iS,iG,iB,iN,iZ,h,Int.lt_irrefl,hb0,lowUp_len t.data.toList t.data.toList.length (Nat.le_refl _),lowUp_all t.data.toList,List.length_map]) (fun k hk s hI=>by
    have h1 : ((k : Int) < (t.data.toList.length : Int)):=Int.ofNat_lt.2 hk
    have g1:=lowUp_gd t.data.toList k hk
    have g2:=lowUp_g t.data.toList k hk
    have g3:=lowUp_len t.data.toList k (Nat.le_of_lt hk)
    have g4 : (List.take t.data.toList.length ((lowUp t.data.toList k).map rByte)) = (lowUp t.data.toList k).map rByte:=List.take_of_length_le (by rw [List.length_map,g3]; exact Nat.le_refl _)
    rcases lowStep t.data.toList k hk with ⟨a1,a2,w1,w2,hs,hv⟩ | ⟨a1,a2,w1,w2,hs,hv⟩ | ⟨a1,a2,w1,w2,hs,hv⟩
    all_goals exact ⟨trivial,_,fun G=>by simp only [go_sem,reduceIte,↓reduceIte,reduceCtorEq,nA,nS,nM,nB,nE,nL,nT,nN,iL,iT,iE,iA,iM,iS,iG,iB,iN,iZ,h,g1,g2,g3,g4,a1,a2,w1,w2,hs,List.length_map,h1,idx_nt _ _ hk,wrap_nat1 (show k < 9223372036854775807 by omega),hb0] <;> with_reducible rfl,by simp only [go_sem,reduceIte,↓reduceIte,reduceCtorEq,nA,nS,nM,nB,nE,nL,nT,nN,iL,iT,iE,iA,iM,iS,iG,iB,iN,iZ,h,hv]⟩) () trivial (t.data.toList.length + 1) (Nat.le_refl _)
 rw [hb0] at hr
 rw [lowUp_zero] at hr
 simp only [go_sem,reduceIte,↓reduceIte,reduceCtorEq,nA,nS,nM,nB,nE,nL,nT,nN,iL,iT,iE,iA,iM,iS,iG,iB,iN,iZ,h,hz,hr,str_size t,lowS]) (rfl)
def s212 : SP Tryz.prog:=mkS tyA 212 Tryz.f212 [s238] { md:=[.ro 1,.ro 1],rets:=some ([4],[]) } Tryz.func212 (by kernel_rfl)
@[go_sem] theorem d212 : s212.g = 212 ∧ s212.fs = ⟨[.ro 1,.ro 1],s212.F,false⟩:=⟨nr rfl,nr rfl⟩
@[go_sem] theorem e212 (a b : ByteArray) (h0 : (a.size ≤ 9223372036854775806 ∧ b.size ≤ 9223372036854775806)) : s212.F [.s a,.s b] = some (.b (eqv (lowS a) (lowS b)),[.u,.u]):=mkS_eq (0) rfl rfl (fun cx h=>by
 simp only [go_sem,reduceIte,↓reduceIte,reduceCtorEq,nA,nS,nM,nB,nE,nL,nT,nN,iL,iT,iE,iA,iM,iS,iG,iB,iN,iZ,h,h0.1,h0.2,eqv_bytes]) (rfl)
theorem ffold {α β : Type} (p : α → Bool) (f : α → β) : ∀ (xs : List α) (acc : List β),xs.foldl (fun s x=>if p x = true then s ++ [f x] else s) acc = acc ++ (xs.filter p).map f
 | [],acc=>by simp
 | x :: xs,acc=>by
  rw [List.foldl_cons,ffold p f xs,List.filter_cons]
  cases p x <;> simp
def s125 : SP Tryz.prog:=mkS tyA 125 Tryz.f125 [s212] { md:=[.ro 1,.ro 1],rg:=[(0,[0,1],[]),(1,[0,1,5],[]),(2,[0,1,5,9,10,11],[]),(3,[0,1,5,9,10,11,12],[]),(4,[0,1,5,7,9,10,11],[7]),(5,[0,1,5,7,9,10,11,18],[7]),(6,[0,1,5,9,10,11],[]),(7,[0,1,5,9,10,11],[]),(8,[4],[])],lv:=[(0,[0,1,5,9,10,11],[])],out:=[(0,[5],[])],rets:=some ([4],[]) } Tryz.func125 (by kernel_rfl)
@[go_sem] theorem d125 : s125.g = 125 ∧ s125.fs = ⟨[.ro 1,.ro 1],s125.F,false⟩:=⟨nr rfl,nr rfl⟩
@[go_sem] theorem e125 (hs : List Header) (name : ByteArray) (h0 : (hs.length ≤ 20 ∧ smL smHeader hs ∧ okN name = true)) : s125.F [.sl .ro 2 (hs.map (rHeader .ro)),.s name] = some (.sl .mut 1 ((valsOf hs name).map rStr),[.u,.u]):=mkS_eq (hs.length + 1) rfl rfl (fun cx h=>by
 have hl:=h0.1
 have hx : hs.length ≤ 9223372036854775806:=by omega
 have hb0:=loopN_eq Tryz.f125 0 _ _ rfl rfl
 obtain ⟨hI,hr⟩:=loop_fold (cx:=cx) (blk:=0) (body:=loopN Tryz.f125 0) hs (fun k (s : List ByteArray)=>⟨E [(0,.sl .ro 2 (hs.map (rHeader .ro))),(1,.s name),(5,.sl .mut 1 (s.map rStr)),(9,.sl .ro 2 (hs.map (rHeader .ro))),(10,.i .i64 hs.length),(11,.i .i64 k)],B []⟩) (fun s=>⟨E [(5,.sl .mut 1 (s.map rStr))],B []⟩) (fun x s=>(if eqv (lowS x.Name) (lowS name) = true then s ++ [x.Value] else s)) (fun k s=>s.length ≤ k)
   (fun s hI G=>by simp only [go_sem,reduceIte,↓reduceIte,reduceCtorEq,nA,nS,nM,nB,nE,nL,nT,nN,iL,iT,iE,iA,iM,iS,iG,iB,iN,iZ,h,Int.lt_irrefl,hb0,h0.1]) (fun k hk s hI=>by
    have h1 : ((k : Int) < (hs.length : Int)):=Int.ofNat_lt.2 hk
    have t3 : (s.length + 1) * 16 ≤ 140737488355328:=by omega
    have t4 : s.map rStr ++ [[.s hs[k].Value]] = (s ++ [hs[k].Value]).map rStr:=by simp [rStr]
    obtain ⟨u1,u2⟩:=h0.2.1.2 _ (List.getElem_mem hk)
    have n1 : hs[k].Name.size ≤ 9223372036854775806 ∧ name.size ≤ 9223372036854775806:=⟨by have : hs[k].Name.size ≤ 1048576:=u1; omega,of_decide_eq_true h0.2.2⟩
    cases d1 : eqv (lowS hs[k].Name) (lowS name)
    all_goals exact ⟨by split <;> (try simp only [List.length_append,List.length_cons,List.length_nil]) <;> omega,_,fun G=>by simp only [go_sem,reduceIte,↓reduceIte,reduceCtorEq,nA,nS,nM,nB,nE,nL,nT,nN,iL,iT,iE,iA,iM,iS,iG,iB,iN,iZ,h,t3,t4,map_gd (rHeader .ro) hs k hk,n1,d1,h1,idx_nt _ _ hk,wrap_nat1 (show k < 9223372036854775807 by omega),hb0] <;> with_reducible rfl,by simp only [go_sem,reduceIte,↓reduceIte,reduceCtorEq,nA,nS,nM,nB,nE,nL,nT,nN,iL,iT,iE,iA,iM,iS,iG,iB,iN,iZ,h,d1]⟩) [] (by simp) (hs.length + 1) (Nat.le_refl _)
 rw [hb0] at hr
 have hff:=ffold (fun x : Header=>eqv (lowS x.Name) (lowS name)) (fun x=>x.Value) hs []
 simp only [List.nil_append] at hff
 rw [hff] at hr
 simp only [go_sem,reduceIte,↓reduceIte,reduceCtorEq,nA,nS,nM,nB,nE,nL,nT,nN,iL,iT,iE,iA,iM,iS,iG,iB,iN,iZ,h,hr,valsOf]) (by simp only [go_sem,reduceIte,↓reduceIte,reduceCtorEq,nA,nS,nM,nB,nE,nL,nT,nN,iL,iT,iE,iA,iM,iS,iG,iB,iN,iZ,okRes,hasRo])
def s43 : SP Tryz.prog:=mkS tyA 43 Tryz.f43 [s118,s122,s123,s124,s125] { md:=[.ro 1],rg:=[(0,[1],[1]),(1,[1,19],[1]),(2,[2],[]),(3,[1,3],[1]),(4,[1,3,24],[1]),(5,[2],[]),(6,[1,26],[1]),(7,[2],[]),(8,[32],[]),(9,[2],[]),(10,[2],[])],rets:=some ([2],[]) } Tryz.func43 (by kernel_rfl)
@[go_sem] theorem d43 : s43.g = 43 ∧ s43.fs = ⟨[.ro 1],s43.F,false⟩:=⟨nr rfl,nr rfl⟩
@[go_sem] theorem e43 (q2 q3 q4 : ByteArray) (q5 : List Header) (h0 : smL smHeader (Request.mk q2 q3 q4 q5).Headers) : s43.F [.agg [.s q2,.s q3,.s q4,.sl .ro 2 (q5.map (rHeader .ro))]] = some (.i .i64 (requestFault (Request.mk q2 q3 q4 q5)),[.u]):=mkS_eq (0) rfl rfl (fun cx h=>by
 have key : ∀ m : Bool,isMethod q2 = m → (isMethod q2 && isHost q3 && isPath q4) = (m && isHost q3 && isPath q4):=fun m h=>by rw [h]
 have hn1 : okN ⟨#[72,111,115,116]⟩ = true:=by decide
 have hn2 : okN ⟨#[104,111,115,116]⟩ = true:=by decide
 cases m0 : isMethod q2
 ·simp only [go_sem,reduceIte,↓reduceIte,reduceCtorEq,nA,nS,nM,nB,nE,nL,nT,nN,iL,iT,iE,iA,iM,iS,iG,iB,iN,iZ,h,m0,requestFault]
 cases h2 : isHost q3
 ·simp only [go_sem,reduceIte,↓reduceIte,reduceCtorEq,nA,nS,nM,nB,nE,nL,nT,nN,iL,iT,iE,iA,iM,iS,iG,iB,iN,iZ,h,h2,m0,requestFault]
 cases h3 : isPath q4
 ·simp only [go_sem,reduceIte,↓reduceIte,reduceCtorEq,nA,nS,nM,nB,nE,nL,nT,nN,iL,iT,iE,iA,iM,iS,iG,iB,iN,iZ,h,h2,h3,m0,requestFault]
 by_cases z : headersFault q5 = 0
 rotate_left
 ·have z' : (headersFault q5 != 0) = true:=by simpa using z
  simp only [go_sem,reduceIte,↓reduceIte,reduceCtorEq,nA,nS,nM,nB,nE,nL,nT,nN,iL,iT,iE,iA,iM,iS,iG,iB,iN,iZ,h,h2,h3,z',m0,requestFault]
 have z' : (headersFault q5 != 0) = false:=by simpa using z
 have h4 : q5.length ≤ 20 ∧ smL smHeader q5 ∧ okN ⟨#[72,111,115,116]⟩ = true:=⟨headersFault_ok z,h0,hn1⟩
 have h5 : q5.length ≤ 20 ∧ smL smHeader q5 ∧ okN ⟨#[104,111,115,116]⟩ = true:=⟨headersFault_ok z,h0,hn2⟩
 have h6:=valsOf_pos q5 ⟨#[72,111,115,116]⟩
 have h7:=hasV_host q5
 cases h8 : hasV q5 ⟨#[72,111,115,116]⟩
 ·by_cases h9 : 20 ≤ (q5.length : Int)
  ·have h10 : ((q5.length : Int) == 20) = true:=by have:=h4.1; simp; omega
   simp only [go_sem,reduceIte,↓reduceIte,reduceCtorEq,nA,nS,nM,nB,nE,nL,nT,nN,iL,iT,iE,iA,iM,iS,iG,iB,iN,iZ,h,h2,h3,z,h4,h5,h6,h7,h8,h9,h10,m0,requestFault]
  ·have h10 : ((q5.length : Int) == 20) = false:=by have:=h4.1; simp; omega
   simp only [go_sem,reduceIte,↓reduceIte,reduceCtorEq,nA,nS,nM,nB,nE,nL,nT,nN,iL,iT,iE,iA,iM,iS,iG,iB,iN,iZ,h,h2,h3,z,h4,h5,h6,h7,h8,h9,h10,m0,requestFault]
 ·simp only [go_sem,reduceIte,↓reduceIte,reduceCtorEq,nA,nS,nM,nB,nE,nL,nT,nN,iL,iT,iE,iA,iM,iS,iG,iB,iN,iZ,h,h2,h3,z,h4,h5,h6,h7,h8,m0,requestFault]) (rfl)
def s280 : SP Tryz.prog:=mkS tyA 280 Tryz.f280 [] { md:=[.ro 1,.ro 1],rets:=some ([3],[]) } Tryz.func280 (by kernel_rfl)
@[go_sem] theorem d280 : s280.g = 280 ∧ s280.fs = ⟨[.ro 1,.ro 1],s280.F,false⟩:=⟨nr rfl,nr rfl⟩
@[go_sem] theorem e280 (q6 : Int) (q7 : Bool) (q8 : Int) (q9 : Bool) (req : Int) : s280.F [.agg [.i .i64 q6,.b q7,.i .i64 q8,.b q9],.pr [.i .i64 req]] = some (.b ((Waiter.mk q6 q7 q8 q9).Req == req),[.u,.u]):=mkS_eq (0) rfl rfl (fun cx h=>by
 simp only [go_sem,reduceIte,↓reduceIte,reduceCtorEq,nA,nS,nM,nB,nE,nL,nT,nN,iL,iT,iE,iA,iM,iS,iG,iB,iN,iZ,h]) (rfl)
def within (a b c : Int) : Bool:=decide (b ≤ a) && decide (a ≤ c)
theorem within_t {a b c : Int} : within a b c = true ↔ b ≤ a ∧ a ≤ c:=by simp [within]
theorem within_f {a b c : Int} : within a b c = false ↔ ¬ (b ≤ a ∧ a ≤ c):=by rw [← within_t]; simp
def s115 : SP Tryz.prog:=mkS tyA 115 Tryz.f115 [] { md:=[.ro 1,.ro 1,.ro 1],rets:=some ([6],[]) } Tryz.func115 (by kernel_rfl)
@[go_sem] theorem d115 : s115.g = 115 ∧ s115.fs = ⟨[.ro 1,.ro 1,.ro 1],s115.F,false⟩:=⟨nr rfl,nr rfl⟩
@[go_sem] theorem e115 (a b c : Int) : s115.F [.i .i64 a,.i .i64 b,.i .i64 c] = some (.b (within a b c),[.u,.u,.u]):=mkS_eq (0) rfl rfl (fun cx h=>by
 simp only [go_sem,reduceIte,↓reduceIte,reduceCtorEq,nA,nS,nM,nB,nE,nL,nT,nN,iL,iT,iE,iA,iM,iS,iG,iB,iN,iZ,h,within]
 by_cases h : b ≤ a <;> simp [h]) (rfl)
def isTime (a : Int) : Bool:=within a 0 1000000000000000
theorem isTime_t {a : Int} : isTime a = true ↔ 0 ≤ a ∧ a ≤ 1000000000000000:=within_t
def s136 : SP Tryz.prog:=mkS tyA 136 Tryz.f136 [s115] { md:=[.ro 1],rets:=some ([2],[]) } Tryz.func136 (by kernel_rfl)
@[go_sem] theorem d136 : s136.g = 136 ∧ s136.fs = ⟨[.ro 1],s136.F,false⟩:=⟨nr rfl,nr rfl⟩
@[go_sem] theorem e136 (a : Int) : s136.F [.i .i64 a] = some (.b (isTime a),[.u]):=mkS_eq (0) rfl rfl (fun cx h=>by
 simp only [go_sem,reduceIte,↓reduceIte,reduceCtorEq,nA,nS,nM,nB,nE,nL,nT,nN,iL,iT,iE,iA,iM,iS,iG,iB,iN,iZ,h,isTime]) (rfl)
def isReqW (w : Waiter) : Bool:=isTime w.Req && isTime w.Due
def s187 : SP Tryz.prog:=mkS tyA 187 Tryz.f187 [s136] { md:=[.ro 1],rets:=some ([2],[]) } Tryz.func187 (by kernel_rfl)
@[go_sem] theorem d187 : s187.g = 187 ∧ s187.fs = ⟨[.ro 1],s187.F,false⟩:=⟨nr rfl,nr rfl⟩
@[go_sem] theorem e187 (q6 : Int) (q7 : Bool) (q8 : Int) (q9 : Bool) : s187.F [.agg [.i .i64 q6,.b q7,.i .i64 q8,.b q9]] = some (.b (isReqW (Waiter.mk q6 q7 q8 q9)),[.u]):=mkS_eq (0) rfl rfl (fun cx h=>by
 simp only [go_sem,reduceIte,↓reduceIte,reduceCtorEq,nA,nS,nM,nB,nE,nL,nT,nN,iL,iT,iE,iA,iM,iS,iG,iB,iN,iZ,h]
 simp only [isReqW]
 cases isTime q6 <;> cases isTime q8 <;> rfl) (rfl)
def s186 : SP Tryz.prog:=mkS tyA 186 Tryz.f186 [s187] { md:=[.ro 1],rets:=some ([2],[]) } Tryz.func186 (by kernel_rfl)
@[go_sem] theorem d186 : s186.g = 186 ∧ s186.fs = ⟨[.ro 1],s186.F,false⟩:=⟨nr rfl,nr rfl⟩
@[go_sem] theorem e186 (q6 : Int) (q7 : Bool) (q8 : Int) (q9 : Bool) : s186.F [.agg [.i .i64 q6,.b q7,.i .i64 q8,.b q9]] = some (.b (!isReqW (Waiter.mk q6 q7 q8 q9)),[.u]):=mkS_eq (0) rfl rfl (fun cx h=>by
 simp only [go_sem,reduceIte,↓reduceIte,reduceCtorEq,nA,nS,nM,nB,nE,nL,nT,nN,iL,iT,iE,iA,iM,iS,iG,iB,iN,iZ,h]) (rfl)
def s279 : SP Tryz.prog:=mkS tyA 279 Tryz.f279 [s186,s280] { md:=[.ro 1,.ro 1],rg:=[(0,[0,1],[]),(1,[0,1,7,8],[]),(2,[0,1,7,8,9],[]),(3,[0,1,5,7,8],[]),(4,[0,1,5,7,8,16],[]),(5,[4],[]),(6,[0,1,7,8],[]),(7,[4],[])],lv:=[(0,[0,1,7,8],[])],out:=[(0,[],[])],rets:=some ([4],[]) } Tryz.func279 (by kernel_rfl)
@[go_sem] theorem d279 : s279.g = 279 ∧ s279.fs = ⟨[.ro 1,.ro 1],s279.F,false⟩:=⟨nr rfl,nr rfl⟩
@[go_sem] theorem e279_280 (xs : List Waiter) (req : Int) (hb : xs.length ≤ 9223372036854775806) : s279.F [.sl .ro 4 (xs.map (rWaiter .ro)),.fn 280 [.pr [.i .i64 req]]] = some (.i .i64 (idxP (fun x=>x.Req == req) xs 0),[.u,.u]):=mkS_eq (xs.length + 1) rfl rfl (fun cx h=>by
 have hx:=hb
 have hb0:=loopN_eq Tryz.f279 0 _ _ rfl rfl
 obtain ⟨r,hr,hq⟩:=loop_srch (cx:=cx) (blk:=0) (body:=loopN Tryz.f279 0) xs (fun k (s : Nat)=>⟨E [(0,.sl .ro 4 (xs.map (rWaiter .ro))),(1,.fn 280 [.pr [.i .i64 req]]),(7,.i .i64 xs.length),(8,.i .i64 k)],B []⟩) (fun s=>⟨E [],B []⟩) (fun x s=>x.Req == req) (fun x s=>s + 1) (fun x s=>(.ret,⟨E [(4,.i .i64 s)],B []⟩)) (fun k s=>k = s)
   (fun s hI G=>by simp only [go_sem,reduceIte,↓reduceIte,reduceCtorEq,nA,nS,nM,nB,nE,nL,nT,nN,iL,iT,iE,iA,iM,iS,iG,iB,iN,iZ,h,Int.lt_irrefl,hb0,hI]) (fun k hk s hI=>by
    have h1 : ((k : Int) < (xs.length : Int)):=Int.ofNat_lt.2 hk
    obtain rfl:=hI
    exact ⟨_,_,_,fun G=>by simp only [go_sem,reduceIte,↓reduceIte,reduceCtorEq,nA,nS,nM,nB,nE,nL,nT,nN,iL,iT,iE,iA,iM,iS,iG,iB,iN,iZ,h,map_gd (rWaiter .ro) xs _ hk,decide_eq_true_eq,h1,idx_nt _ _ hk,wrap_nat1 (show k < 9223372036854775807 by omega),hb0] <;> with_reducible rfl,by first | exact Iff.rfl | simp,fun hc=>⟨rfl,by simp only [go_sem,reduceIte,↓reduceIte,reduceCtorEq,nA,nS,nM,nB,nE,nL,nT,nN,iL,iT,iE,iA,iM,iS,iG,iB,iN,iZ,h]⟩⟩) 0 rfl (xs.length + 1) (Nat.le_refl _)
 rw [hb0] at hr
 rcases hq with ⟨s',e1,_,e3⟩ | ⟨x,s',e1,e3⟩
 ·simp only [go_sem,reduceIte,↓reduceIte,reduceCtorEq,nA,nS,nM,nB,nE,nL,nT,nN,iL,iT,iE,iA,iM,iS,iG,iB,iN,iZ,h,hr,e3,runS_idx e1]
 ·simp only [go_sem,reduceIte,↓reduceIte,reduceCtorEq,nA,nS,nM,nB,nE,nL,nT,nN,iL,iT,iE,iA,iM,iS,iG,iB,iN,iZ,h,hr,e3,runS_idx' e1]) (rfl)
@[go_sem] theorem e279_186 (xs : List Waiter)  (hb : xs.length ≤ 9223372036854775806) : s279.F [.sl .ro 4 (xs.map (rWaiter .ro)),.fn 186 []] = some (.i .i64 (idxP (fun x=>!isReqW x) xs 0),[.u,.u]):=mkS_eq (xs.length + 1) rfl rfl (fun cx h=>by
 have hx:=hb
 have hb0:=loopN_eq Tryz.f279 0 _ _ rfl rfl
 obtain ⟨r,hr,hq⟩:=loop_srch (cx:=cx) (blk:=0) (body:=loopN Tryz.f279 0) xs (fun k (s : Nat)=>⟨E [(0,.sl .ro 4 (xs.map (rWaiter .ro))),(1,.fn 186 []),(7,.i .i64 xs.length),(8,.i .i64 k)],B []⟩) (fun s=>⟨E [],B []⟩) (fun x s=>!isReqW x) (fun x s=>s + 1) (fun x s=>(.ret,⟨E [(4,.i .i64 s)],B []⟩)) (fun k s=>k = s)
   (fun s hI G=>by simp only [go_sem,reduceIte,↓reduceIte,reduceCtorEq,nA,nS,nM,nB,nE,nL,nT,nN,iL,iT,iE,iA,iM,iS,iG,iB,iN,iZ,h,Int.lt_irrefl,hb0,hI]) (fun k hk s hI=>by
    have h1 : ((k : Int) < (xs.length : Int)):=Int.ofNat_lt.2 hk
    obtain rfl:=hI
    exact ⟨_,_,_,fun G=>by simp only [go_sem,reduceIte,↓reduceIte,reduceCtorEq,nA,nS,nM,nB,nE,nL,nT,nN,iL,iT,iE,iA,iM,iS,iG,iB,iN,iZ,h,map_gd (rWaiter .ro) xs _ hk,decide_eq_true_eq,h1,idx_nt _ _ hk,wrap_nat1 (show k < 9223372036854775807 by omega),hb0] <;> with_reducible rfl,by first | exact Iff.rfl | simp,fun hc=>⟨rfl,by simp only [go_sem,reduceIte,↓reduceIte,reduceCtorEq,nA,nS,nM,nB,nE,nL,nT,nN,iL,iT,iE,iA,iM,iS,iG,iB,iN,iZ,h]⟩⟩) 0 rfl (xs.length + 1) (Nat.le_refl _)
 rw [hb0] at hr
 rcases hq with ⟨s',e1,_,e3⟩ | ⟨x,s',e1,e3⟩
 ·simp only [go_sem,reduceIte,↓reduceIte,reduceCtorEq,nA,nS,nM,nB,nE,nL,nT,nN,iL,iT,iE,iA,iM,iS,iG,iB,iN,iZ,h,hr,e3,runS_idx e1]
 ·simp only [go_sem,reduceIte,↓reduceIte,reduceCtorEq,nA,nS,nM,nB,nE,nL,nT,nN,iL,iT,iE,iA,iM,iS,iG,iB,iN,iZ,h,hr,e3,runS_idx' e1]) (rfl)
def s185 : SP Tryz.prog:=mkS tyA 185 Tryz.f185 [s279] { md:=[.ro 1,.ro 1],rets:=some ([4],[]) } Tryz.func185 (by kernel_rfl)
@[go_sem] theorem d185 : s185.g = 185 ∧ s185.fs = ⟨[.ro 1,.ro 1],s185.F,false⟩:=⟨nr rfl,nr rfl⟩
@[go_sem] theorem e185_280 (xs : List Waiter) (req : Int) (hb : xs.length ≤ 9223372036854775806) : s185.F [.sl .ro 4 (xs.map (rWaiter .ro)),.fn 280 [.pr [.i .i64 req]]] = some (.b (xs.any (fun x=>x.Req == req)),[.u,.u]):=mkS_eq (0) rfl rfl (fun cx h=>by
 simp only [go_sem,reduceIte,↓reduceIte,reduceCtorEq,nA,nS,nM,nB,nE,nL,nT,nN,iL,iT,iE,iA,iM,iS,iG,iB,iN,iZ,h,hb,idxP_any]) (rfl)
@[go_sem] theorem e185_186 (xs : List Waiter)  (hb : xs.length ≤ 9223372036854775806) : s185.F [.sl .ro 4 (xs.map (rWaiter .ro)),.fn 186 []] = some (.b (xs.any (fun x=>!isReqW x)),[.u,.u]):=mkS_eq (0) rfl rfl (fun cx h=>by
 simp only [go_sem,reduceIte,↓reduceIte,reduceCtorEq,nA,nS,nM,nB,nE,nL,nT,nN,iL,iT,iE,iA,iM,iS,iG,iB,iN,iZ,h,hb,idxP_any]) (rfl)
def s188 : SP Tryz.prog:=mkS tyA 188 Tryz.f188 [s185] { md:=[.ro 1,.ro 1],rets:=some ([4],[]),fz:=[3] } Tryz.func188 (by kernel_rfl)
@[go_sem] theorem d188 : s188.g = 188 ∧ s188.fs = ⟨[.ro 1,.ro 1],s188.F,false⟩:=⟨nr rfl,nr rfl⟩
@[go_sem] theorem e188 (fId : Int) (q10 : ByteArray) (q11 q12 : Bool) (q13 : Int) (q14 : Bool) (q15 q16 q17 : ByteArray) (q18 : List Header) (q19 : List Waiter) (req : Int) (h0 : (Flight.mk fId q10 q11 q12 q13 q14 (Request.mk q15 q16 q17 q18) q19).Waiters.length ≤ 9223372036854775806) : s188.F [.agg [.i .i64 fId,.s q10,.b q11,.b q12,.i .i64 q13,.b q14,.s q15,.s q16,.s q17,.sl .ro 2 (q18.map (rHeader .ro)),.sl .ro 4 (q19.map (rWaiter .ro))],.i .i64 req] = some (.b ((Flight.mk fId q10 q11 q12 q13 q14 (Request.mk q15 q16 q17 q18) q19).Waiters.any fun x=>x.Req == req),[.u,.u]):=mkS_eq (0) rfl rfl (fun cx h=>by
 simp only [go_sem,reduceIte,↓reduceIte,reduceCtorEq,nA,nS,nM,nB,nE,nL,nT,nN,iL,iT,iE,iA,iM,iS,iG,iB,iN,iZ,h,h0]) (rfl)
@[go_sem] theorem e188_0 (fId : Int) (q10 : ByteArray) (q11 q12 : Bool) (q13 : Int) (q14 : Bool) (q15 q16 q17 : ByteArray) (q19 : List Waiter) (req : Int) (h0 : q19.length ≤ 9223372036854775806) : s188.F [.agg [.i .i64 fId,.s q10,.b q11,.b q12,.i .i64 q13,.b q14,.s q15,.s q16,.s q17,.sl .ro 2 [],.sl .ro 4 (q19.map (rWaiter .ro))],.i .i64 req] = some (.b (q19.any fun x=>x.Req == req),[.u,.u]):=e188 fId q10 q11 q12 q13 q14 q15 q16 q17 [] q19 req h0
end
end Go.Vm.A
