/- Functions of the program, walked by the evaluator. -/
import Derived.Test.YtnbhkifknleipaaGreatDoorWb
import Derived.Test.YtnbhkifknleipaaGreatDoorWa
import Derived.Test.YtnbhkifknleipaaGreatDoorFa
import Derived.Test.YtnbhkifknleipaaGreatDoorFb
set_option linter.unusedVariables false
set_option linter.unusedSimpArgs false
set_option autoImplicit false
set_option maxRecDepth 100000
set_option maxHeartbeats 4000000
namespace Go.Vm.A
open Go.Proofs
open Nat renaming reduceAdd → nA, reduceSub → nS, reduceMul → nM, reduceBEq → nB, reduceEqDiff → nE, reduceLeDiff → nL, reduceLT → nT, reduceBneDiff → nN
open Int renaming reduceLE → iL, reduceLT → iT, reduceEq → iE, reduceAdd → iA, reduceMul → iM, reduceSub → iS, reduceNeg → iG, reduceBEq → iB, reduceBNe → iN, reduceToNat → iZ
noncomputable section
def s297 : SP Tryz.prog:=mkS tyA 297 Tryz.f297 [s218,s344] { md:=[.ro 1],rets:=some ([2],[]) } Tryz.func297 (by kernel_rfl)
@[go_sem] theorem d297 : s297.g = 297 ∧ s297.fs = ⟨[.ro 1],s297.F,false⟩:=⟨nr rfl,nr rfl⟩
@[go_sem] theorem e297 (t : ByteArray) (h0 : (t.size : Int) ≤ 1000000) : s297.F [.s t] = some (.b (areP t),[.u]):=mkS_eq (0) rfl rfl (fun cx h=>by
 simp only [go_sem,reduceIte,↓reduceIte,reduceCtorEq,nA,nS,nM,nB,nE,nL,nT,nN,iL,iT,iE,iA,iM,iS,iG,iB,iN,iZ,h,h0,areP_eq]) (rfl)
def trimB (t : ByteArray) : ByteArray:=⟨(Lib.trimS t.data.toList [32,9]).toArray⟩
def blankB (c : UInt8) : Bool:=((c.toNat : Int) == 32) || ((c.toNat : Int) == 9)
def bl (t : ByteArray) (j : Nat) : Bool:=blankB (t.data[j]?.getD 0)
theorem blankB_c (c : UInt8) : [32,9].contains c = blankB c:=by
 have h32 : (c == 32) = ((c.toNat : Int) == 32):=by
  rw [Bool.eq_iff_iff,beq_iff_eq,beq_iff_eq]
  constructor
  ·rintro rfl; rfl
  ·intro h; exact UInt8.toNat_inj.1 (by have : (32 : UInt8).toNat = 32:=rfl; omega)
 have h9 : (c == 9) = ((c.toNat : Int) == 9):=by
  rw [Bool.eq_iff_iff,beq_iff_eq,beq_iff_eq]
  constructor
  ·rintro rfl; rfl
  ·intro h; exact UInt8.toNat_inj.1 (by have : (9 : UInt8).toNat = 9:=rfl; omega)
 simp only [List.contains_cons,List.contains_nil,Bool.or_false,h32,h9,blankB]
theorem bl_get {t : ByteArray} {j : Nat} {b : UInt8} (h : t.data.toList[j]? = some b) : bl t j = [32,9].contains b:=by
 rw [blankB_c]
 unfold bl
 rw [Array.getElem?_toList] at h
 rw [h]; rfl
theorem trim_cut (t : ByteArray) (f e : Nat) (hf : f ≤ e) (he : e ≤ t.size) (h1 : ∀ j,j < f → bl t j = true) (h2 : f < t.size → bl t f = false) (h3 : ∀ j,e ≤ j → j < t.size → bl t j = true) (h4 : f < e → bl t (e - 1) = false) : trimB t = t.extract f e:=by
 have hn : t.size = t.data.toList.length:=str_size t
 have hext : t.extract f e = ⟨((t.data.toList.take e).drop f).toArray⟩:=by
  have : (t.extract f e).data = t.data.extract f e:=by simp
  cases hx : t.extract f e with
  | mk d =>
   rw [hx] at this
   congr 1
   simp only at this
   rw [this]
   apply Array.ext'
   rw [Array.toList_extract,List.extract_eq_take_drop,List.drop_take]
 rw [hext]
 unfold trimB Lib.trimS
 congr 2
 by_cases hall : f < e
 ·rw [Lib.trimRightS_take t.data.toList [32,9] e (by omega) (fun j b hj hb=>?_) (fun b hk hb=>?_)]
  ·refine Lib.trimLeftS_drop _ _ f (by simp; omega) (fun j b hj hb=>?_) (fun b hb=>?_)
   ·rw [List.getElem?_take] at hb
    split at hb
    ·rw [← bl_get hb]; exact h1 j hj
    ·cases hb
   ·rw [List.getElem?_take,if_pos hall] at hb
    rw [← bl_get hb]; exact h2 (by omega)
  ·rw [← bl_get hb]; exact h3 j hj (by have:=(List.getElem?_eq_some_iff.1 hb).1; omega)
  ·rw [← bl_get hb]; exact h4 hall
 ·obtain rfl : f = e:=by omega
  have hfn : f = t.size:=by
   rcases Nat.lt_or_ge f t.size with h | h
   ·have:=h2 h; rw [h3 f (Nat.le_refl _) h] at this; cases this
   ·omega
  have hr : Lib.trimRightS t.data.toList [32,9] = t.data.toList.take 0:=Lib.trimRightS_take _ _ 0 (by omega) (fun j b _ hb=>by
   rw [← bl_get hb]; exact h1 j (by have:=(List.getElem?_eq_some_iff.1 hb).1; omega)) (fun b hk _=>by omega)
  rw [hr]
  have : (t.data.toList.take f).drop f = []:=by
   apply List.drop_eq_nil_of_le
   simp
   omega
  rw [this]
  rfl
def s298 : SP Tryz.prog:=⟨298,⟨[.ro 1,.ro 1],trimF,false⟩,trim_ok Tryz.func298 (by kernel_rfl) rfl Go.Proofs.Tryz.trimSpTab⟩
@[go_sem] theorem d298 : s298.g = 298 ∧ s298.fs = ⟨[.ro 1,.ro 1],s298.F,false⟩:=⟨nr rfl,nr rfl⟩
@[go_sem] theorem e298 (x : ByteArray) (h0 : x.size ≤ 9223372036854775807) : s298.F [.s x,.s ⟨#[32,9]⟩] = some (.s (trimB x),[.u,.u]):=by
 show trimF [.s x,.s ⟨#[32,9]⟩] = _
 have hc : (⟨#[32,9]⟩ : ByteArray).data.toList = [32,9] ∧ x.size ≤ 9223372036854775807:=⟨rfl,h0⟩
 exact if_pos hc
def headerCode (h : Header) : Int:=if isWord h.Name = false then 5 else if 200 < (h.Value.size : Int) then 2 else if (areP h.Value && eqv (trimB h.Value) h.Value) = true then 0 else 5
def headersFault (hs : List Header) : Int:=if 20 < (hs.length : Int) then 2 else firstI (hs.map headerCode)
theorem firstI_inl {α : Type} {f : α → Int} : ∀ {xs : List α} {u u' : Unit},runS (fun x _=>f x != 0) (fun _ _=>()) xs u = .inl u' → firstI (xs.map f) = 0
 | [],_,_,_=>rfl
 | x :: xs,u,u',h=>by
  rw [runS_cons] at h
  split at h
  ·cases h
  ·rename_i hc; rw [List.map_cons,firstI_cons,if_neg hc]; exact firstI_inl h
theorem firstI_inr {α : Type} {f : α → Int} : ∀ {xs : List α} {u : Unit} {q : α × Unit},runS (fun x _=>f x != 0) (fun _ _=>()) xs u = .inr q → firstI (xs.map f) = f q.1
 | [],_,_,h=>by cases h
 | x :: xs,u,q,h=>by
  rw [runS_cons] at h
  split at h
  ·rename_i hc; injection h with h; subst h; rw [List.map_cons,firstI_cons,if_pos hc]
  ·rename_i hc; rw [List.map_cons,firstI_cons,if_neg hc]; exact firstI_inr h
def s216 : SP Tryz.prog:=mkS tyA 216 Tryz.f216 [s164,s297,s298] { md:=[.ro 1],rg:=[(0,[1],[1]),(1,[1,3],[1]),(2,[2],[]),(3,[1,8],[1]),(4,[2],[]),(5,[13],[]),(6,[2],[]),(7,[2],[])],rets:=some ([2],[]),plan:=[(5,(.take 0 (.take 1 (.one 2 (.take 3 (.take 4 (.take 5 (.take 6 (.take 8 (.take 9 (.one 7 (.take 10 (.take 11 (.one 12 .done))))))))))))))] } Tryz.func216 (by kernel_rfl)
@[go_sem] theorem d216 : s216.g = 216 ∧ s216.fs = ⟨[.ro 1],s216.F,false⟩:=⟨nr rfl,nr rfl⟩
@[go_sem] theorem e216 (q0 q1 : ByteArray) : s216.F [.agg [.s q0,.s q1]] = some (.i .i64 (headerCode (Header.mk q0 q1)),[.u]):=mkS_eq (0) rfl rfl (fun cx h=>by
 cases h1 : isWord q0
 ·simp only [go_sem,reduceIte,↓reduceIte,reduceCtorEq,nA,nS,nM,nB,nE,nL,nT,nN,iL,iT,iE,iA,iM,iS,iG,iB,iN,iZ,h,h1,headerCode]
 by_cases h2 : 200 < (q1.size : Int)
 ·simp only [go_sem,reduceIte,↓reduceIte,reduceCtorEq,nA,nS,nM,nB,nE,nL,nT,nN,iL,iT,iE,iA,iM,iS,iG,iB,iN,iZ,h,h1,h2,headerCode]
 have h3 : (q1.size : Int) ≤ 1000000:=by omega
 have h4 : q1.size ≤ 9223372036854775806:=by omega
 have h5 : q1.size ≤ 9223372036854775807:=by omega
 cases h6 : areP q1
 ·simp only [go_sem,reduceIte,↓reduceIte,reduceCtorEq,nA,nS,nM,nB,nE,nL,nT,nN,iL,iT,iE,iA,iM,iS,iG,iB,iN,iZ,h,h1,h2,h3,h4,h5,h6,headerCode]
 cases h7 : eqv (trimB q1) q1 <;> simp only [go_sem,reduceIte,↓reduceIte,reduceCtorEq,nA,nS,nM,nB,nE,nL,nT,nN,iL,iT,iE,iA,iM,iS,iG,iB,iN,iZ,h,h1,h2,h3,h4,h5,h6,h7,eqv_bytes,eqv_boolne,bne,headerCode]) (rfl)
def s118 : SP Tryz.prog:=mkS tyA 118 Tryz.f118 [s216] { md:=[.ro 1],rg:=[(0,[0],[]),(1,[0,8],[]),(2,[2],[]),(3,[0,9,10,11],[]),(4,[0,9,10,11,12],[]),(5,[0,4,9,10,11],[4]),(6,[0,5,9,10,11],[]),(7,[0,5,9,10,11,18],[]),(8,[2],[]),(9,[0,9,10,11],[]),(10,[2],[])],lv:=[(0,[0,9,10,11],[])],out:=[(0,[],[])],rets:=some ([2],[]) } Tryz.func118 (by kernel_rfl)
@[go_sem] theorem d118 : s118.g = 118 ∧ s118.fs = ⟨[.ro 1],s118.F,false⟩:=⟨nr rfl,nr rfl⟩
@[go_sem] theorem e118 (hs : List Header) : s118.F [.sl .ro 2 (hs.map (rHeader .ro))] = some (.i .i64 (headersFault hs),[.u]):=mkS_eq (hs.length + 1) rfl rfl (fun cx h=>by
 by_cases h1 : 20 < (hs.length : Int)
 ·simp only [go_sem,reduceIte,↓reduceIte,reduceCtorEq,nA,nS,nM,nB,nE,nL,nT,nN,iL,iT,iE,iA,iM,iS,iG,iB,iN,iZ,h,h1,headersFault]
 have hx : hs.length ≤ 9223372036854775806:=by omega
 have hb0:=loopN_eq Tryz.f118 0 _ _ rfl rfl
 obtain ⟨r,hr,hq⟩:=loop_srch (cx:=cx) (blk:=0) (body:=loopN Tryz.f118 0) hs (fun k (s : Unit)=>⟨E [(0,.sl .ro 2 (hs.map (rHeader .ro))),(9,.sl .ro 2 (hs.map (rHeader .ro))),(10,.i .i64 hs.length),(11,.i .i64 k)],B []⟩) (fun s=>⟨E [],B []⟩) (fun x s=>headerCode x != 0) (fun x s=>()) (fun x s=>(.ret,⟨E [(2,.i .i64 (headerCode x))],B []⟩)) (fun k s=>True)
   (fun s hI G=>by simp only [go_sem,reduceIte,↓reduceIte,reduceCtorEq,nA,nS,nM,nB,nE,nL,nT,nN,iL,iT,iE,iA,iM,iS,iG,iB,iN,iZ,h,Int.lt_irrefl,hb0,hx]) (fun k hk s hI=>by
    have h1 : ((k : Int) < (hs.length : Int)):=Int.ofNat_lt.2 hk
    exact ⟨_,_,_,fun G=>by simp only [go_sem,reduceIte,↓reduceIte,reduceCtorEq,nA,nS,nM,nB,nE,nL,nT,nN,iL,iT,iE,iA,iM,iS,iG,iB,iN,iZ,h,map_gd (rHeader .ro) hs _ hk,rHeader,h1,idx_nt _ _ hk,wrap_nat1 (show k < 9223372036854775807 by omega),hb0] <;> with_reducible rfl,Iff.rfl,fun hc=>⟨trivial,by simp only [go_sem,reduceIte,↓reduceIte,reduceCtorEq,nA,nS,nM,nB,nE,nL,nT,nN,iL,iT,iE,iA,iM,iS,iG,iB,iN,iZ,h]⟩⟩) () trivial (hs.length + 1) (Nat.le_refl _)
 rw [hb0] at hr
 rcases hq with ⟨s',e1,_,e3⟩ | ⟨x,s',e1,e3⟩
 ·simp only [go_sem,reduceIte,↓reduceIte,reduceCtorEq,nA,nS,nM,nB,nE,nL,nT,nN,iL,iT,iE,iA,iM,iS,iG,iB,iN,iZ,h,h1,hr,e3,headersFault,firstI_inl e1]
 ·simp only [go_sem,reduceIte,↓reduceIte,reduceCtorEq,nA,nS,nM,nB,nE,nL,nT,nN,iL,iT,iE,iA,iM,iS,iG,iB,iN,iZ,h,h1,hr,e3,headersFault,firstI_inr e1]) (rfl)
@[go_sem] theorem map_byteRow (xs : List UInt8) : xs.map byteRow = xs.map rByte:=nr rfl
def lowB (c : UInt8) : UInt8:=if 65 ≤ (c.toNat : Int) ∧ (c.toNat : Int) ≤ 90 then c + 32 else c
def lowS (t : ByteArray) : ByteArray:=⟨(t.data.toList.map lowB).toArray⟩
def lowUp (xs : List UInt8) (k : Nat) : List UInt8:=(xs.take k).map lowB ++ xs.drop k
theorem lowUp_zero (xs : List UInt8) : lowUp xs 0 = xs:=by simp [lowUp]
theorem lowUp_all (xs : List UInt8) : lowUp xs xs.length = xs.map lowB:=by simp [lowUp]
theorem lowUp_len (xs : List UInt8) (k : Nat) (h : k ≤ xs.length) : (lowUp xs k).length = xs.length:=by simp [lowUp]; omega
theorem lowUp_at (xs : List UInt8) (k : Nat) (h : k < xs.length) : (lowUp xs k)[k]? = some xs[k]:=by
 unfold lowUp
 rw [List.getElem?_append_right (by simp; omega)]
 simp [Nat.min_eq_left (Nat.le_of_lt h),h]
theorem lowUp_succ (xs : List UInt8) (k : Nat) (h : k < xs.length) : (lowUp xs k).set k (lowB xs[k]) = lowUp xs (k + 1):=by
 unfold lowUp
 rw [List.set_append_right _ _ (by simp; omega)]
 rw [List.length_map,List.length_take,Nat.min_eq_left (Nat.le_of_lt h),Nat.sub_self,List.drop_eq_getElem_cons h,List.set_cons_zero]
 have e : (xs.take (k + 1)).map lowB = (xs.take k).map lowB ++ [lowB xs[k]]:=by
  rw [List.take_add_one,List.getElem?_eq_getElem h,Option.toList_some,List.map_append]; rfl
 rw [e]
 simp
theorem lowUp_same (xs : List UInt8) (k : Nat) (h : k < xs.length) (hc : lowB xs[k] = xs[k]) : lowUp xs (k + 1) = lowUp xs k:=by
 rw [← lowUp_succ xs k h,hc]
 have:=lowUp_at xs k h
 obtain ⟨h1,h2⟩:=List.getElem?_eq_some_iff.1 this
 rw [← h2]
 exact List.set_getElem_self h1
theorem lowUp_gd (xs : List UInt8) (k : Nat) (h : k < xs.length) : ((lowUp xs k).map rByte).getD k [] = [.i .u8 xs[k].toNat]:=by
 rw [List.getD_eq_getElem?_getD,List.getElem?_map,lowUp_at xs k h]; rfl
theorem lowUp_g (xs : List UInt8) (k : Nat) (h : k < xs.length) : ((lowUp xs k).map rByte)[k]? = some [.i .u8 xs[k].toNat]:=by
 rw [List.getElem?_map,lowUp_at xs k h]; rfl
theorem low_add {c : UInt8} (h : (c.toNat : Int) ≤ 90) : (c + 32).toNat = c.toNat + 32:=by
 rw [UInt8.toNat_add]
 have : (32 : UInt8).toNat = 32:=rfl
 rw [this]
 omega
theorem lowStep (xs : List UInt8) (k : Nat) (h : k < xs.length) :
  (65 ≤ (xs[k].toNat : Int) ∧ (xs[k].toNat : Int) ≤ 90 ∧ ((IntKind.u8).wrap ((IntKind.u8).wrap ((xs[k].toNat : Int) + 97) - 65) = ((lowB xs[k]).toNat : Int)) ∧ ((IntKind.u8).wrap ((xs[k].toNat : Int) + 32) = ((lowB xs[k]).toNat : Int)) ∧ ((lowUp xs k).map rByte).set k [.i .u8 (lowB xs[k]).toNat] = (lowUp xs (k + 1)).map rByte ∧ True) ∨
  (¬ 65 ≤ (xs[k].toNat : Int) ∧ True ∧ True ∧ True ∧ True ∧ lowUp xs (k + 1) = lowUp xs k) ∨ (65 ≤ (xs[k].toNat : Int) ∧ ¬ (xs[k].toNat : Int) ≤ 90 ∧ True ∧ True ∧ True ∧ lowUp xs (k + 1) = lowUp xs k):=by
 by_cases a1 : 65 ≤ (xs[k].toNat : Int)
 ·by_cases a2 : (xs[k].toNat : Int) ≤ 90
  ·refine .inl ⟨a1,a2,?_,?_,?_,trivial⟩
   ·have hl : lowB xs[k] = xs[k] + 32:=if_pos ⟨a1,a2⟩
    rw [hl,low_add a2]
    simp only [IntKind.wrap,IntKind.bits,IntKind.signed]
    simp
    omega
   ·have hl : lowB xs[k] = xs[k] + 32:=if_pos ⟨a1,a2⟩
    rw [hl,low_add a2]
    simp only [IntKind.wrap,IntKind.bits,IntKind.signed]
    simp
    omega
   ·rw [← lowUp_succ xs k h,List.map_set]; rfl
  ·exact .inr (.inr ⟨a1,a2,trivial,trivial,trivial,lowUp_same xs k h (if_neg fun x=>a2 x.2)⟩)
 ·exact .inr (.inl ⟨a1,trivial,trivial,trivial,trivial,lowUp_same xs k h (if_neg fun x=>a1 x.1)⟩)
def okN (n : ByteArray) : Bool:=decide (n.size ≤ 9223372036854775806)
def valsOf (hs : List Header) (n : ByteArray) : List ByteArray:=(hs.filter fun x=>eqv (lowS x.Name) (lowS n)).map (·.Value)
def hasV (hs : List Header) (n : ByteArray) : Bool:=hs.any fun x=>eqv (lowS x.Name) (lowS n)
theorem valsOf_pos (hs : List Header) (n : ByteArray) : decide (0 < ((valsOf hs n).length : Int)) = hasV hs n:=by
 have : 0 < (valsOf hs n).length ↔ hasV hs n = true:=by
  unfold valsOf hasV
  rw [List.length_map,List.length_pos_iff_exists_mem,List.any_eq_true]
  simp only [List.mem_filter]
 rw [Bool.eq_iff_iff,decide_eq_true_eq,← this]
 omega
def isMethod (t : ByteArray) : Bool:=eqv t ⟨#[71,69,84]⟩ || eqv t ⟨#[72,69,65,68]⟩
theorem eqv_bytesne (a b : ByteArray) : (a.toList != b.toList) = !eqv a b:=by rw [bne,eqv_bytes]
def isHost (t : ByteArray) : Bool:=areB hostB 1 60 t
def isPath (t : ByteArray) : Bool:=areB pathB 1 100 t && (((t.data[0]?.getD 0).toNat : Int) == 47)
def requestFault (r : Request) : Int:=if (isMethod r.Method && isHost r.Host && isPath r.Path) = false then 5 else if (headersFault r.Headers != 0) = true then headersFault r.Headers else if hasV r.Headers ⟨#[72,111,115,116]⟩ = true then 6 else if 20 ≤ (r.Headers.length : Int) then 2 else 0
theorem hasV_host (hs : List Header) : hasV hs ⟨#[104,111,115,116]⟩ = hasV hs ⟨#[72,111,115,116]⟩:=by
 unfold hasV
 have : lowS ⟨#[104,111,115,116]⟩ = lowS ⟨#[72,111,115,116]⟩:=by rfl
 rw [this]
theorem headersFault_ok {hs : List Header} (h : headersFault hs = 0) : hs.length ≤ 20:=by
 unfold headersFault at h
 split at h
 ·cases h
 ·omega
theorem areB_nil {p : UInt8 → Bool} {hi : Int} {t : ByteArray} (h : areB p 1 hi t = true) : 0 < t.size:=by
 unfold areB at h
 simp only [Bool.and_eq_true,decide_eq_true_eq] at h
 omega
def isTime (a : Int) : Bool:=within a 0 1000000000000000
theorem isTime_t {a : Int} : isTime a = true ↔ 0 ≤ a ∧ a ≤ 1000000000000000:=within_t
def isReqW (w : Waiter) : Bool:=isTime w.Req && isTime w.Due
def tw (s : List Waiter) : List Waiter → Bool
 | []=>false
 | x :: r=>if (s.any fun y=>y.Req == x.Req) = true then true else tw (s ++ [x]) r
theorem tw_inl : ∀ {xs s s' : List Waiter},runS (fun x s=>s.any fun y=>y.Req == x.Req) (fun x s=>s ++ [x]) xs s = .inl s' → tw s xs = false
 | [],_,_,_=>rfl
 | x :: xs,s,s',h=>by
  rw [runS_cons] at h
  split at h
  ·cases h
  ·rename_i hc; rw [tw,if_neg hc]; exact tw_inl h
theorem tw_inr : ∀ {xs s : List Waiter} {q : Waiter × List Waiter},runS (fun x s=>s.any fun y=>y.Req == x.Req) (fun x s=>s ++ [x]) xs s = .inr q → tw s xs = true
 | [],_,_,h=>by cases h
 | x :: xs,s,q,h=>by
  rw [runS_cons] at h
  split at h
  ·rename_i hc; rw [tw,if_pos hc]
  ·rename_i hc; rw [tw,if_neg hc]; exact tw_inr h
theorem take_snoc {α : Type} (xs : List α) (k : Nat) (h : k < xs.length) : xs.take (k + 1) = xs.take k ++ [xs[k]]:=by
 rw [List.take_add_one,List.getElem?_eq_getElem h]; rfl
theorem runS_any {α : Type} {p : α → Bool} : ∀ {xs : List α} {u u' : Unit},runS (fun x _=>p x) (fun _ _=>()) xs u = .inl u' → xs.any p = false
 | [],_,_,_=>rfl
 | x :: xs,u,u',h=>by
  rw [runS_cons] at h
  split at h
  ·cases h
  ·rename_i hc
   simp only [List.any_cons,runS_any h,Bool.or_false]
   simpa using hc
theorem runS_any' {α : Type} {p : α → Bool} : ∀ {xs : List α} {u : Unit} {q : α × Unit},runS (fun x _=>p x) (fun _ _=>()) xs u = .inr q → xs.any p = true
 | [],_,_,h=>by cases h
 | x :: xs,u,q,h=>by
  rw [runS_cons] at h
  split at h
  ·rename_i hc; simp [hc]
  ·simp only [List.any_cons,runS_any' h,Bool.or_true]
def namesCode (xs : List ByteArray) : Int:=if 4 < (xs.length : Int) then 2 else if (xs.any fun x=>!isWord x) = true then 5 else 0
theorem any_not {α : Type} (p : α → Bool) : ∀ xs : List α,(xs.any fun x=>!p x) = !xs.all p
 | []=>rfl
 | x :: xs=>by rw [List.any_cons,List.all_cons,any_not p xs]; cases p x <;> rfl
def isKey (t : ByteArray) : Bool:=decide (1 ≤ (t.size : Int)) && decide ((t.size : Int) ≤ 500)
def flightFault (f : Flight) : Int :=
 if (isTime f.Id && isTime f.Due) = false then 3 else if isKey f.Key = false then 2 else if (requestFault f.Get != 0) = true then requestFault f.Get else if (!f.Out && f.Due != 0) = true then 8
 else if 10 < (f.Waiters.length : Int) then 2 else if (f.Waiters.any fun x=>!isReqW x) = true then 3 else if tw [] f.Waiters = true then 6 else 0
theorem flightFault_ok {f : Flight} (h : flightFault f = 0) : f.Waiters.length ≤ 10:=by
 unfold flightFault at h
 split at h
 ·cases h
 split at h
 ·cases h
 split at h
 ·rename_i hc; rw [h] at hc; cases hc
 split at h
 ·cases h
 split at h
 ·cases h
 omega
def s184 : SP Tryz.prog:=mkS tyA 184 Tryz.f184 [] { md:=[.ro 1],rets:=some ([2],[]) } Tryz.func184 (by kernel_rfl)
@[go_sem] theorem d184 : s184.g = 184 ∧ s184.fs = ⟨[.ro 1],s184.F,false⟩:=⟨nr rfl,nr rfl⟩
@[go_sem] theorem e184 (t : ByteArray) : s184.F [.s t] = some (.b (isKey t),[.u]):=mkS_eq (0) rfl rfl (fun cx h=>by
 by_cases h1 : 1 ≤ (t.size : Int) <;> by_cases h2 : (t.size : Int) ≤ 500 <;> simp only [go_sem,reduceIte,↓reduceIte,reduceCtorEq,nA,nS,nM,nB,nE,nL,nT,nN,iL,iT,iE,iA,iM,iS,iG,iB,iN,iZ,h,h1,h2,isKey]) (rfl)
def s136 : SP Tryz.prog:=mkS tyA 136 Tryz.f136 [s115] { md:=[.ro 1],rets:=some ([2],[]) } Tryz.func136 (by kernel_rfl)
@[go_sem] theorem d136 : s136.g = 136 ∧ s136.fs = ⟨[.ro 1],s136.F,false⟩:=⟨nr rfl,nr rfl⟩
@[go_sem] theorem e136 (a : Int) : s136.F [.i .i64 a] = some (.b (isTime a),[.u]):=mkS_eq (0) rfl rfl (fun cx h=>by
 simp only [go_sem,reduceIte,↓reduceIte,reduceCtorEq,nA,nS,nM,nB,nE,nL,nT,nN,iL,iT,iE,iA,iM,iS,iG,iB,iN,iZ,h,isTime]) (rfl)
def metaTimes (m : Meta) : List Int:=[m.At,m.Age,m.Life,m.Swr,m.Sie]
theorem viewCells_int (pl : Pl) : ∀ (j : Nat) (xs : List Int),viewCells pl j (xs.map fun a=>AV.i .i64 a) = xs.map fun a=>AV.i .i64 a
 | _,[]=>rfl
 | j,x :: xs=>by
  rw [List.map_cons,viewCells,viewCells_int pl (j + 1) xs]; rfl
theorem filtL_int (kp kr : Pl → Bool) : ∀ xs : List Int,filtL kp kr (xs.map fun a=>AV.i .i64 a) = xs.map fun a=>AV.i .i64 a
 | []=>rfl
 | x :: xs=>by
  rw [List.map_cons,filtL,filtL_int kp kr xs]; rfl
def metaFault (m : Meta) : Int:=if ((metaTimes m).any fun x=>!isTime x) = true then 3 else 0
theorem arrIx_nat {α : Type} {f : α → AV} {xs : List α} {n k : Nat} (hn : n = xs.length) (h : k < xs.length) : arrIx n (xs.map f) (k : Int) = some (f xs[k]):=by
 subst hn
 unfold arrIx idx?
 rw [if_pos (by simp),if_pos (by omega)]
 simp [h]
def s200 : SP Tryz.prog:=mkS tyA 200 Tryz.f200 [s136] { md:=[.ro 1],rg:=[(0,[1],[1]),(1,[15,16],[]),(2,[15,16,17],[]),(3,[4,15,16],[]),(4,[15,16,21],[]),(5,[2],[]),(6,[15,16],[]),(7,[2],[])],lv:=[(0,[15,16],[])],out:=[(0,[],[])],rets:=some ([2],[]) } Tryz.func200 (by kernel_rfl)
@[go_sem] theorem d200 : s200.g = 200 ∧ s200.fs = ⟨[.ro 1],s200.F,false⟩:=⟨nr rfl,nr rfl⟩
@[go_sem] theorem e200 (mAt q2 q3 q4 q5 : Int) (q6 q7 : Bool) : s200.F [.agg [.i .i64 mAt,.i .i64 q2,.i .i64 q3,.i .i64 q4,.i .i64 q5,.b q6,.b q7]] = some (.i .i64 (metaFault (Meta.mk mAt q2 q3 q4 q5 q6 q7)),[.u]):=mkS_eq (6) rfl rfl (fun cx h=>by
 obtain ⟨xs,hxs⟩ : ∃ xs : List Int,xs = [mAt,q2,q3,q4,q5]:=⟨_,rfl⟩
 have hxl : xs.length = 5:=by rw [hxs]; rfl
 have hm : metaTimes (Meta.mk mAt q2 q3 q4 q5 q6 q7) = xs:=by rw [hxs]; rfl
 have hz : [AV.i .i64 mAt,.i .i64 q2,.i .i64 q3,.i .i64 q4,.i .i64 q5] = xs.map fun a=>AV.i .i64 a:=by rw [hxs]; rfl
 have hb0:=loopN_eq Tryz.f200 0 _ _ rfl rfl
 obtain ⟨r,hr,hq⟩:=loop_srch (cx:=cx) (blk:=0) (body:=loopN Tryz.f200 0) xs (fun k (s : Unit)=>⟨E [(15,.agg (xs.map fun a=>.i .i64 a)),(16,.i .i64 k)],B []⟩) (fun s=>⟨E [],B []⟩) (fun x s=>!isTime x) (fun x s=>()) (fun x s=>(.ret,⟨E [(2,.i .i64 3)],B []⟩)) (fun k s=>True)
   (fun s hI G=>by simp only [go_sem,reduceIte,↓reduceIte,reduceCtorEq,nA,nS,nM,nB,nE,nL,nT,nN,iL,iT,iE,iA,iM,iS,iG,iB,iN,iZ,h,Int.lt_irrefl,hb0,hxl,viewCells_int,filtL_int]) (fun k hk s hI=>by
    have h1 : ((k : Int) < (xs.length : Int)):=Int.ofNat_lt.2 hk
    have h1' : (k : Int) < 5:=by rw [hxl] at h1; exact h1
    have hA:=arrIx_nat (f:=fun a=>AV.i .i64 a) hxl.symm hk
    exact ⟨_,_,_,fun G=>by simp only [go_sem,reduceIte,↓reduceIte,reduceCtorEq,nA,nS,nM,nB,nE,nL,nT,nN,iL,iT,iE,iA,iM,iS,iG,iB,iN,iZ,h,h1',hA,viewCells_int,filtL_int,h1,idx_nt _ _ hk,wrap_nat1 (show k < 9223372036854775807 by omega),hb0] <;> with_reducible rfl,Iff.rfl,fun hc=>⟨trivial,by simp only [go_sem,reduceIte,↓reduceIte,reduceCtorEq,nA,nS,nM,nB,nE,nL,nT,nN,iL,iT,iE,iA,iM,iS,iG,iB,iN,iZ,h,filtL_int]⟩⟩) () trivial 6 (by rw [hxl]; exact Nat.le_refl _)
 rw [hb0] at hr
 rcases hq with ⟨s',e1,_,e3⟩ | ⟨x,s',e1,e3⟩
 ·simp only [go_sem,reduceIte,↓reduceIte,reduceCtorEq,nA,nS,nM,nB,nE,nL,nT,nN,iL,iT,iE,iA,iM,iS,iG,iB,iN,iZ,h,hz,hr,e3,filtL_int,metaFault,hm,runS_any e1]
 ·simp only [go_sem,reduceIte,↓reduceIte,reduceCtorEq,nA,nS,nM,nB,nE,nL,nT,nN,iL,iT,iE,iA,iM,iS,iG,iB,iN,iZ,h,hz,hr,e3,filtL_int,metaFault,hm,runS_any' e1]) (rfl)
def noKept (s : Int) : Bool:=s != 200 && s != 404 && s != 410
def entryFault (e : Entry) : Int :=
 if isKey e.Key = false then 2 else if (noKept e.Status || !within e.Pins 0 20) = true then 3 else if (headersFault e.Headers != 0) = true then headersFault e.Headers
 else if (decide (2000 < (e.Body.length : Int)) || decide (10 < (e.Tags.length : Int))) = true then 2 else metaFault e.Meta
theorem noKept_f {s : Int} (h : noKept s = false) : s = 200 ∨ (s ≠ 200 ∧ s = 404) ∨ (s ≠ 200 ∧ s ≠ 404 ∧ s = 410):=by
 unfold noKept at h
 simp only [Bool.and_eq_false_iff,bne_eq_false_iff_eq] at h
 omega
end
end Go.Vm.A
