/- Functions of the program, walked by the evaluator. -/
import Derived.Test.YtnbhkifknleipaaGreatDoorWb
import Derived.Test.YtnbhkifknleipaaGreatDoorWa
import Derived.Test.YtnbhkifknleipaaGreatDoorFa
set_option linter.unusedVariables false
set_option linter.unusedSimpArgs false
set_option autoImplicit false
set_option maxRecDepth 100000
set_option maxHeartbeats 4000000
namespace Go.Vm.A
open Go.Proofs
open Nat renaming reduceAdd → nA, reduceSub → nS, reduceMul → nM, reduceBEq → nB, reduceEqDiff → nE, reduceLeDiff → nL, reduceLT → nT, reduceBneDiff → nN
open Int renaming reduceLE → iL, reduceLT → iT, reduceEq → iE, reduceAdd → iA, reduceMul → iM, reduceSub → iS, reduceNeg → iG, reduceBEq → iB, reduceBNe → iN, reduceToNat → iZ
noncomputable section
def s115 : SP Tryz.prog:=mkS tyA 115 Tryz.f115 [] { md:=[.ro 1,.ro 1,.ro 1],rets:=some ([6],[]) } Tryz.func115 (by kernel_rfl)
@[go_sem] theorem d115 : s115.g = 115 ∧ s115.fs = ⟨[.ro 1,.ro 1,.ro 1],s115.F,false⟩:=⟨nr rfl,nr rfl⟩
@[go_sem] theorem e115 (a b c : Int) : s115.F [.i .i64 a,.i .i64 b,.i .i64 c] = some (.b (within a b c),[.u,.u,.u]):=mkS_eq (0) rfl rfl (fun cx h=>by
 simp only [go_sem,reduceIte,↓reduceIte,reduceCtorEq,nA,nS,nM,nB,nE,nL,nT,nN,iL,iT,iE,iA,iM,iS,iG,iB,iN,iZ,h,within]
 by_cases h : b ≤ a <;> simp [h]) (rfl)
def s231 : SP Tryz.prog:=mkS tyA 231 Tryz.f231 [] { md:=[.ro 1,.ro 1],rg:=[(0,[0,1],[]),(1,[1,3],[]),(2,[2],[]),(3,[2],[])],rets:=some ([2],[]) } Tryz.func231 (by kernel_rfl)
@[go_sem] theorem d231 : s231.g = 231 ∧ s231.fs = ⟨[.ro 1,.ro 1],s231.F,false⟩:=⟨nr rfl,nr rfl⟩
@[go_sem] theorem e231 (x : Bool) (c : Int) : s231.F [.pr [.b x],.pr [.i .i64 c]] = some (.i .i64 (if x = true then c else 0),[.u,.u]):=mkS_eq (0) rfl rfl (fun cx h=>by
 simp only [go_sem,reduceIte,↓reduceIte,reduceCtorEq,nA,nS,nM,nB,nE,nL,nT,nN,iL,iT,iE,iA,iM,iS,iG,iB,iN,iZ,h,if_i]) (rfl)
theorem byne {c v : UInt8} (h : c ≠ v) : ((c.toNat : Int) == (v.toNat : Int)) = false:=by
 simp only [beq_eq_false_iff_ne,ne_eq,Int.ofNat_inj]
 exact fun e=>h (UInt8.toNat_inj.1 e)
def letterB (c : UInt8) : Bool:=(decide (97 ≤ (c.toNat : Int)) && decide ((c.toNat : Int) ≤ 122)) || (decide (65 ≤ (c.toNat : Int)) && decide ((c.toNat : Int) ≤ 90))
def digitB (c : UInt8) : Bool:=decide (48 ≤ (c.toNat : Int)) && decide ((c.toNat : Int) ≤ 57)
theorem index_ge (l : List UInt8) (c : UInt8) : 0 ≤ Lib.indexByte l c ↔ c ∈ l:=by
 induction l with
 | nil=>simp [Lib.indexByte]
 | cons b l ih =>
  have:=Lib.indexByte_ge l c
  unfold Lib.indexByte
  by_cases hb : b = c
  ·simp [hb]
  ·by_cases hx : Lib.indexByte l c = -1
   ·have hn : ¬ c ∈ l:=fun h=>by have:=ih.2 h; omega
    simp [hx,hn,hb,Ne.symm hb]
   ·have h2 : 0 ≤ Lib.indexByte l c:=by omega
    simp [hb,hx,ih.1 h2]; omega
def ixB (s : ByteArray) (c : UInt8) : Int:=Lib.indexByte s.data.toList c
theorem ixB_ge (l : List UInt8) (c : UInt8) : decide (0 ≤ ixB ⟨l.toArray⟩ c) = l.contains c:=by
 rw [Bool.eq_iff_iff,decide_eq_true_eq,List.contains_iff_mem]
 exact index_ge l c
theorem int_u8 (c : UInt8) : ((c.toNat : Int)).toNat.toUInt8 = c:=by simp
def s302 : SP Tryz.prog:=mkS tyA 302 Tryz.f302 [] { md:=[.ro 1],rets:=some ([2],[]) } Tryz.func302 (by kernel_rfl)
@[go_sem] theorem d302 : s302.g = 302 ∧ s302.fs = ⟨[.ro 1],s302.F,false⟩:=⟨nr rfl,nr rfl⟩
@[go_sem] theorem e302 (c : UInt8) : s302.F [.i .u8 c.toNat] = some (.b (letterB c),[.u]):=mkS_eq (0) rfl rfl (fun cx h=>by
 by_cases h1 : 97 ≤ (c.toNat : Int) <;> by_cases h2 : (c.toNat : Int) ≤ 122 <;> by_cases h3 : 65 ≤ (c.toNat : Int) <;> by_cases h4 : (c.toNat : Int) ≤ 90 <;> simp only [go_sem,reduceIte,↓reduceIte,reduceCtorEq,nA,nS,nM,nB,nE,nL,nT,nN,iL,iT,iE,iA,iM,iS,iG,iB,iN,iZ,h,h1,h2,h3,h4,letterB]) (rfl)
def s303 : SP Tryz.prog:=mkS tyA 303 Tryz.f303 [] { md:=[.ro 1],rets:=some ([2],[]) } Tryz.func303 (by kernel_rfl)
@[go_sem] theorem d303 : s303.g = 303 ∧ s303.fs = ⟨[.ro 1],s303.F,false⟩:=⟨nr rfl,nr rfl⟩
@[go_sem] theorem e303 (c : UInt8) : s303.F [.i .u8 c.toNat] = some (.b (digitB c),[.u]):=mkS_eq (0) rfl rfl (fun cx h=>by
 by_cases h1 : 48 ≤ (c.toNat : Int) <;> by_cases h2 : (c.toNat : Int) ≤ 57 <;> simp only [go_sem,reduceIte,↓reduceIte,reduceCtorEq,nA,nS,nM,nB,nE,nL,nT,nN,iL,iT,iE,iA,iM,iS,iG,iB,iN,iZ,h,h1,h2,digitB]) (rfl)
def s378 : SP Tryz.prog:=⟨378,⟨[.ro 1,.ro 1],idxF,false⟩,idx_ok Tryz.func378 (by kernel_rfl) (by kernel_rfl) (by kernel_rfl) (by kernel_rfl)⟩
@[go_sem] theorem d378 : s378.g = 378 ∧ s378.fs = ⟨[.ro 1,.ro 1],s378.F,false⟩:=⟨nr rfl,nr rfl⟩
@[go_sem] theorem e378 (s : ByteArray) (c : UInt8) : s378.F [.s s,.i .u8 c.toNat] = some (.i .i64 (ixB s c),[.u,.u]):=by
 show idxF [.s s,.i .u8 c.toNat] = _
 rw [idxF_eq,int_u8]
 rfl
def s354 : SP Tryz.prog:=mkS tyA 354 Tryz.f354 [s378] { md:=[.ro 1,.ro 1],rets:=some ([4],[]) } Tryz.func354 (by kernel_rfl)
@[go_sem] theorem d354 : s354.g = 354 ∧ s354.fs = ⟨[.ro 1,.ro 1],s354.F,false⟩:=⟨nr rfl,nr rfl⟩
@[go_sem] theorem e354 (s : ByteArray) (c : UInt8) : s354.F [.s s,.i .u8 c.toNat] = some (.i .i64 (ixB s c),[.u,.u]):=mkS_eq (0) rfl rfl (fun cx h=>by
 simp only [go_sem,reduceIte,↓reduceIte,reduceCtorEq,nA,nS,nM,nB,nE,nL,nT,nN,iL,iT,iE,iA,iM,iS,iG,iB,iN,iZ,h]) (rfl)
def s304 : SP Tryz.prog:=mkS tyA 304 Tryz.f304 [s354] { md:=[.ro 1,.ro 1],rets:=some ([4],[]) } Tryz.func304 (by kernel_rfl)
@[go_sem] theorem d304 : s304.g = 304 ∧ s304.fs = ⟨[.ro 1,.ro 1],s304.F,false⟩:=⟨nr rfl,nr rfl⟩
@[go_sem] theorem e304 (s : ByteArray) (c : UInt8) : s304.F [.s s,.i .u8 c.toNat] = some (.i .i64 (ixB s c),[.u,.u]):=mkS_eq (0) rfl rfl (fun cx h=>by
 simp only [go_sem,reduceIte,↓reduceIte,reduceCtorEq,nA,nS,nM,nB,nE,nL,nT,nN,iL,iT,iE,iA,iM,iS,iG,iB,iN,iZ,h]) (rfl)
def symB : List UInt8:=[33,35,36,37,38,39,42,43,45,46,94,95,124,126]
def wordB (c : UInt8) : Bool:=letterB c || digitB c || symB.contains c
theorem wordB_sym {c : UInt8} (h : c ∈ symB) : wordB c = true:=by
 have : symB.contains c = true:=List.contains_iff_mem.2 h
 simp [wordB,this,-List.contains_eq_mem]
theorem wordB_not {c : UInt8} (h : ¬ c ∈ symB) : wordB c = (letterB c || digitB c):=by
 have : symB.contains c = false:=by rw [Bool.eq_false_iff]; exact fun e=>h (List.contains_iff_mem.1 e)
 simp [wordB,this,-List.contains_eq_mem]
theorem ixB_sym (c : UInt8) : decide (0 ≤ ixB ⟨#[33,35,36,37,38,39,42,43,45,46,94,95,124,126]⟩ c) = symB.contains c:=ixB_ge symB c
@[go_sem] theorem ixB_symI (c : UInt8) : decide (ixB ⟨#[33,35,36,37,38,39,42,43,45,46,94,95,124,126]⟩ c ≥ 0) = symB.contains c:=ixB_ge symB c
def s259 : SP Tryz.prog:=mkS tyA 259 Tryz.f259 [s302,s303,s304] { md:=[.ro 1],rets:=some ([2],[]) } Tryz.func259 (by kernel_rfl)
@[go_sem] theorem d259 : s259.g = 259 ∧ s259.fs = ⟨[.ro 1],s259.F,false⟩:=⟨nr rfl,nr rfl⟩
@[go_sem] theorem e259 (c : UInt8) : s259.F [.i .u8 c.toNat] = some (.b (wordB c),[.u]):=mkS_eq (0) rfl rfl (fun cx h=>by
 have hix:=ixB_sym c
 have hu : wordB c = (letterB c || digitB c || symB.contains c):=rfl
 cases h1 : letterB c <;> cases h2 : digitB c <;> cases h3 : symB.contains c <;> simp only [go_sem,reduceIte,↓reduceIte,reduceCtorEq,nA,nS,nM,nB,nE,nL,nT,nN,iL,iT,iE,iA,iM,iS,iG,iB,iN,iZ,h,h1,h2,h3,hu,hix]) (rfl)
def plainB (c : UInt8) : Bool:=((c.toNat : Int) == 9) || (decide (32 ≤ (c.toNat : Int)) && decide ((c.toNat : Int) ≤ 126))
def s344 : SP Tryz.prog:=mkS tyA 344 Tryz.f344 [] { md:=[.ro 1],rets:=some ([2],[]) } Tryz.func344 (by kernel_rfl)
@[go_sem] theorem d344 : s344.g = 344 ∧ s344.fs = ⟨[.ro 1],s344.F,false⟩:=⟨nr rfl,nr rfl⟩
@[go_sem] theorem e344 (c : UInt8) : s344.F [.i .u8 c.toNat] = some (.b (plainB c),[.u]):=mkS_eq (0) rfl rfl (fun cx h=>by
 cases h1 : ((c.toNat : Int) == 9) <;> by_cases h2 : 32 ≤ (c.toNat : Int) <;> by_cases h3 : (c.toNat : Int) ≤ 126 <;> simp only [go_sem,reduceIte,↓reduceIte,reduceCtorEq,nA,nS,nM,nB,nE,nL,nT,nN,iL,iT,iE,iA,iM,iS,iG,iB,iN,iZ,h,h1,h2,h3,plainB]) (rfl)
def hostB (c : UInt8) : Bool:=letterB c || digitB c || ((c.toNat : Int) == 46) || ((c.toNat : Int) == 45)
def s219 : SP Tryz.prog:=mkS tyA 219 Tryz.f219 [s302,s303] { md:=[.ro 1],rets:=some ([2],[]) } Tryz.func219 (by kernel_rfl)
@[go_sem] theorem d219 : s219.g = 219 ∧ s219.fs = ⟨[.ro 1],s219.F,false⟩:=⟨nr rfl,nr rfl⟩
@[go_sem] theorem e219 (c : UInt8) : s219.F [.i .u8 c.toNat] = some (.b (hostB c),[.u]):=mkS_eq (0) rfl rfl (fun cx h=>by
 cases h1 : letterB c <;> cases h2 : digitB c <;> cases h3 : ((c.toNat : Int) == 46) <;> cases h4 : ((c.toNat : Int) == 45) <;> simp only [go_sem,reduceIte,↓reduceIte,reduceCtorEq,nA,nS,nM,nB,nE,nL,nT,nN,iL,iT,iE,iA,iM,iS,iG,iB,iN,iZ,h,h1,h2,h3,h4,hostB]) (rfl)
def pSymB : List UInt8:=[47,63,61,38,58,64,44,59,40,41]
def pathB (c : UInt8) : Bool:=wordB c || pSymB.contains c
theorem ixB_psym (c : UInt8) : decide (0 ≤ ixB ⟨#[47,63,61,38,58,64,44,59,40,41]⟩ c) = pSymB.contains c:=ixB_ge pSymB c
def s220 : SP Tryz.prog:=mkS tyA 220 Tryz.f220 [s259,s304] { md:=[.ro 1],rets:=some ([2],[]) } Tryz.func220 (by kernel_rfl)
@[go_sem] theorem d220 : s220.g = 220 ∧ s220.fs = ⟨[.ro 1],s220.F,false⟩:=⟨nr rfl,nr rfl⟩
@[go_sem] theorem e220 (c : UInt8) : s220.F [.i .u8 c.toNat] = some (.b (pathB c),[.u]):=mkS_eq (0) rfl rfl (fun cx h=>by
 have hix:=ixB_psym c
 have hu : pathB c = (wordB c || pSymB.contains c):=rfl
 cases h1 : wordB c <;> cases h3 : pSymB.contains c <;> simp only [go_sem,reduceIte,↓reduceIte,reduceCtorEq,nA,nS,nM,nB,nE,nL,nT,nN,iL,iT,iE,iA,iM,iS,iG,iB,iN,iZ,h,h1,h3,hu,hix]) (rfl)
def areB (p : UInt8 → Bool) (lo hi : Int) (t : ByteArray) : Bool:=decide (lo ≤ (t.size : Int)) && decide ((t.size : Int) ≤ hi) && t.data.toList.all p
theorem areB_short {p : UInt8 → Bool} {lo hi : Int} {t : ByteArray} (h : (t.size : Int) < lo) : areB p lo hi t = false:=by
 have : ¬ lo ≤ (t.size : Int):=by omega
 simp [areB,this]
theorem areB_long {p : UInt8 → Bool} {lo hi : Int} {t : ByteArray} (h : hi < (t.size : Int)) : areB p lo hi t = false:=by
 have : ¬ (t.size : Int) ≤ hi:=by omega
 simp [areB,this]
theorem areB_all {p : UInt8 → Bool} {lo hi : Int} {t : ByteArray} (h : ¬ (t.size : Int) < lo) (h' : ¬ hi < (t.size : Int)) : areB p lo hi t = t.data.toList.all p:=by
 have h1 : lo ≤ (t.size : Int):=by omega
 have h2 : (t.size : Int) ≤ hi:=by omega
 simp [areB,h1,h2]
theorem runS_all {α : Type} {p : α → Bool} : ∀ {xs : List α} {u u' : Unit},runS (fun x _=>!p x) (fun _ _=>()) xs u = .inl u' → xs.all p = true
 | [],_,_,_=>rfl
 | x :: xs,u,u',h=>by
  rw [runS_cons] at h
  split at h
  ·cases h
  ·rename_i hc
   simp only [List.all_cons,runS_all h,Bool.and_true]
   simpa using hc
theorem runS_all' {α : Type} {p : α → Bool} : ∀ {xs : List α} {u : Unit} {q : α × Unit},runS (fun x _=>!p x) (fun _ _=>()) xs u = .inr q → xs.all p = false
 | [],_,_,h=>by cases h
 | x :: xs,u,q,h=>by
  rw [runS_cons] at h
  split at h
  ·rename_i hc
   have : p x = false:=by simpa using hc
   simp [this]
  ·simp only [List.all_cons,runS_all' h,Bool.and_false]
theorem str_at (t : ByteArray) (k : Nat) (h : k < t.data.toList.length) : t.data[k]?.getD 0 = t.data.toList[k]:=by
 have h' : k < t.data.size:=by simpa using h
 rw [Array.getElem?_eq_getElem h']
 simp
theorem str_size (t : ByteArray) : t.size = t.data.toList.length:=by
 show t.data.size = _
 simp
def s218 : SP Tryz.prog:=mkS tyA 218 Tryz.f218 [s219,s220,s259,s303,s344] { md:=[.ro 1,.ro 1,.ro 1,.ro 1],rg:=[(0,[0,1,2,3],[]),(1,[0,3,19],[]),(2,[8],[]),(3,[0,3,21,22],[]),(4,[0,3,21,22,23],[]),(5,[0,3,9,21,22],[]),(6,[0,3,21,22,30],[]),(7,[8],[]),(8,[0,3,21,22],[]),(9,[8],[])],lv:=[(0,[0,3,21,22],[])],out:=[(0,[],[])],rets:=some ([8],[]) } Tryz.func218 (by kernel_rfl)
@[go_sem] theorem d218 : s218.g = 218 ∧ s218.fs = ⟨[.ro 1,.ro 1,.ro 1,.ro 1],s218.F,false⟩:=⟨nr rfl,nr rfl⟩
@[go_sem] theorem e218_259 (t : ByteArray) (lo hi : Int) (hb : hi ≤ 1000000) : s218.F [.s t,.i .i64 lo,.i .i64 hi,.fn 259 []] = some (.b (areB wordB lo hi t),[.u,.u,.u,.u]):=mkS_eq (t.data.toList.length + 1) rfl rfl (fun cx h=>by
 by_cases h1 : (t.size : Int) < lo
 ·simp only [go_sem,reduceIte,↓reduceIte,reduceCtorEq,nA,nS,nM,nB,nE,nL,nT,nN,iL,iT,iE,iA,iM,iS,iG,iB,iN,iZ,h,h1,areB_short h1]
 by_cases h2 : hi < (t.size : Int)
 ·simp only [go_sem,reduceIte,↓reduceIte,reduceCtorEq,nA,nS,nM,nB,nE,nL,nT,nN,iL,iT,iE,iA,iM,iS,iG,iB,iN,iZ,h,h1,h2,areB_long h2]
 have hx : t.data.toList.length ≤ 9223372036854775806:=by rw [← str_size]; omega
 have ha:=areB_all (p:=wordB) h1 h2
 rw [str_size t] at h1 h2
 ·have hb0:=loopN_eq Tryz.f218 0 _ _ rfl rfl
  obtain ⟨r,hr,hq⟩:=loop_srch (cx:=cx) (blk:=0) (body:=loopN Tryz.f218 0) t.data.toList (fun k (s : Unit)=>⟨E [(0,.s t),(3,.fn 259 []),(21,.i .i64 t.size),(22,.i .i64 k)],B []⟩) (fun s=>⟨E [],B []⟩) (fun x s=>!wordB x) (fun x s=>()) (fun x s=>(.ret,⟨E [(8,.b false)],B []⟩)) (fun k s=>True)
    (fun s hI G=>by simp only [go_sem,reduceIte,↓reduceIte,reduceCtorEq,nA,nS,nM,nB,nE,nL,nT,nN,iL,iT,iE,iA,iM,iS,iG,iB,iN,iZ,h,Int.lt_irrefl,hb0,str_size t]) (fun k hk s hI=>by
     have h1 : ((k : Int) < (t.data.toList.length : Int)):=Int.ofNat_lt.2 hk
     have hz:=str_at t k hk
     exact ⟨_,_,_,fun G=>by simp only [go_sem,reduceIte,↓reduceIte,reduceCtorEq,nA,nS,nM,nB,nE,nL,nT,nN,iL,iT,iE,iA,iM,iS,iG,iB,iN,iZ,h,hz,str_size t,h1,idx_nt _ _ hk,wrap_nat1 (show k < 9223372036854775807 by omega),hb0] <;> with_reducible rfl,Iff.rfl,fun hc=>⟨trivial,by simp only [go_sem,reduceIte,↓reduceIte,reduceCtorEq,nA,nS,nM,nB,nE,nL,nT,nN,iL,iT,iE,iA,iM,iS,iG,iB,iN,iZ,h,str_size t]⟩⟩) () trivial (t.data.toList.length + 1) (Nat.le_refl _)
  rw [hb0] at hr
  rcases hq with ⟨s',e1,_,e3⟩ | ⟨x,s',e1,e3⟩
  ·simp only [go_sem,reduceIte,↓reduceIte,reduceCtorEq,nA,nS,nM,nB,nE,nL,nT,nN,iL,iT,iE,iA,iM,iS,iG,iB,iN,iZ,h,h1,h2,str_size t,hr,e3,ha,runS_all e1]
  ·simp only [go_sem,reduceIte,↓reduceIte,reduceCtorEq,nA,nS,nM,nB,nE,nL,nT,nN,iL,iT,iE,iA,iM,iS,iG,iB,iN,iZ,h,h1,h2,str_size t,hr,e3,ha,runS_all' e1]) (rfl)
@[go_sem] theorem e218_344 (t : ByteArray) (lo hi : Int) (hb : hi ≤ 1000000) : s218.F [.s t,.i .i64 lo,.i .i64 hi,.fn 344 []] = some (.b (areB plainB lo hi t),[.u,.u,.u,.u]):=mkS_eq (t.data.toList.length + 1) rfl rfl (fun cx h=>by
 by_cases h1 : (t.size : Int) < lo
 ·simp only [go_sem,reduceIte,↓reduceIte,reduceCtorEq,nA,nS,nM,nB,nE,nL,nT,nN,iL,iT,iE,iA,iM,iS,iG,iB,iN,iZ,h,h1,areB_short h1]
 by_cases h2 : hi < (t.size : Int)
 ·simp only [go_sem,reduceIte,↓reduceIte,reduceCtorEq,nA,nS,nM,nB,nE,nL,nT,nN,iL,iT,iE,iA,iM,iS,iG,iB,iN,iZ,h,h1,h2,areB_long h2]
 have hx : t.data.toList.length ≤ 9223372036854775806:=by rw [← str_size]; omega
 have ha:=areB_all (p:=plainB) h1 h2
 rw [str_size t] at h1 h2
 ·have hb0:=loopN_eq Tryz.f218 0 _ _ rfl rfl
  obtain ⟨r,hr,hq⟩:=loop_srch (cx:=cx) (blk:=0) (body:=loopN Tryz.f218 0) t.data.toList (fun k (s : Unit)=>⟨E [(0,.s t),(3,.fn 344 []),(21,.i .i64 t.size),(22,.i .i64 k)],B []⟩) (fun s=>⟨E [],B []⟩) (fun x s=>!plainB x) (fun x s=>()) (fun x s=>(.ret,⟨E [(8,.b false)],B []⟩)) (fun k s=>True)
    (fun s hI G=>by simp only [go_sem,reduceIte,↓reduceIte,reduceCtorEq,nA,nS,nM,nB,nE,nL,nT,nN,iL,iT,iE,iA,iM,iS,iG,iB,iN,iZ,h,Int.lt_irrefl,hb0,str_size t]) (fun k hk s hI=>by
     have h1 : ((k : Int) < (t.data.toList.length : Int)):=Int.ofNat_lt.2 hk
     have hz:=str_at t k hk
     exact ⟨_,_,_,fun G=>by simp only [go_sem,reduceIte,↓reduceIte,reduceCtorEq,nA,nS,nM,nB,nE,nL,nT,nN,iL,iT,iE,iA,iM,iS,iG,iB,iN,iZ,h,hz,str_size t,h1,idx_nt _ _ hk,wrap_nat1 (show k < 9223372036854775807 by omega),hb0] <;> with_reducible rfl,Iff.rfl,fun hc=>⟨trivial,by simp only [go_sem,reduceIte,↓reduceIte,reduceCtorEq,nA,nS,nM,nB,nE,nL,nT,nN,iL,iT,iE,iA,iM,iS,iG,iB,iN,iZ,h,str_size t]⟩⟩) () trivial (t.data.toList.length + 1) (Nat.le_refl _)
  rw [hb0] at hr
  rcases hq with ⟨s',e1,_,e3⟩ | ⟨x,s',e1,e3⟩
  ·simp only [go_sem,reduceIte,↓reduceIte,reduceCtorEq,nA,nS,nM,nB,nE,nL,nT,nN,iL,iT,iE,iA,iM,iS,iG,iB,iN,iZ,h,h1,h2,str_size t,hr,e3,ha,runS_all e1]
  ·simp only [go_sem,reduceIte,↓reduceIte,reduceCtorEq,nA,nS,nM,nB,nE,nL,nT,nN,iL,iT,iE,iA,iM,iS,iG,iB,iN,iZ,h,h1,h2,str_size t,hr,e3,ha,runS_all' e1]) (rfl)
@[go_sem] theorem e218_219 (t : ByteArray) (lo hi : Int) (hb : hi ≤ 1000000) : s218.F [.s t,.i .i64 lo,.i .i64 hi,.fn 219 []] = some (.b (areB hostB lo hi t),[.u,.u,.u,.u]):=mkS_eq (t.data.toList.length + 1) rfl rfl (fun cx h=>by
 by_cases h1 : (t.size : Int) < lo
 ·simp only [go_sem,reduceIte,↓reduceIte,reduceCtorEq,nA,nS,nM,nB,nE,nL,nT,nN,iL,iT,iE,iA,iM,iS,iG,iB,iN,iZ,h,h1,areB_short h1]
 by_cases h2 : hi < (t.size : Int)
 ·simp only [go_sem,reduceIte,↓reduceIte,reduceCtorEq,nA,nS,nM,nB,nE,nL,nT,nN,iL,iT,iE,iA,iM,iS,iG,iB,iN,iZ,h,h1,h2,areB_long h2]
 have hx : t.data.toList.length ≤ 9223372036854775806:=by rw [← str_size]; omega
 have ha:=areB_all (p:=hostB) h1 h2
 rw [str_size t] at h1 h2
 ·have hb0:=loopN_eq Tryz.f218 0 _ _ rfl rfl
  obtain ⟨r,hr,hq⟩:=loop_srch (cx:=cx) (blk:=0) (body:=loopN Tryz.f218 0) t.data.toList (fun k (s : Unit)=>⟨E [(0,.s t),(3,.fn 219 []),(21,.i .i64 t.size),(22,.i .i64 k)],B []⟩) (fun s=>⟨E [],B []⟩) (fun x s=>!hostB x) (fun x s=>()) (fun x s=>(.ret,⟨E [(8,.b false)],B []⟩)) (fun k s=>True)
    (fun s hI G=>by simp only [go_sem,reduceIte,↓reduceIte,reduceCtorEq,nA,nS,nM,nB,nE,nL,nT,nN,iL,iT,iE,iA,iM,iS,iG,iB,iN,iZ,h,Int.lt_irrefl,hb0,str_size t]) (fun k hk s hI=>by
     have h1 : ((k : Int) < (t.data.toList.length : Int)):=Int.ofNat_lt.2 hk
     have hz:=str_at t k hk
     exact ⟨_,_,_,fun G=>by simp only [go_sem,reduceIte,↓reduceIte,reduceCtorEq,nA,nS,nM,nB,nE,nL,nT,nN,iL,iT,iE,iA,iM,iS,iG,iB,iN,iZ,h,hz,str_size t,h1,idx_nt _ _ hk,wrap_nat1 (show k < 9223372036854775807 by omega),hb0] <;> with_reducible rfl,Iff.rfl,fun hc=>⟨trivial,by simp only [go_sem,reduceIte,↓reduceIte,reduceCtorEq,nA,nS,nM,nB,nE,nL,nT,nN,iL,iT,iE,iA,iM,iS,iG,iB,iN,iZ,h,str_size t]⟩⟩) () trivial (t.data.toList.length + 1) (Nat.le_refl _)
  rw [hb0] at hr
  rcases hq with ⟨s',e1,_,e3⟩ | ⟨x,s',e1,e3⟩
  ·simp only [go_sem,reduceIte,↓reduceIte,reduceCtorEq,nA,nS,nM,nB,nE,nL,nT,nN,iL,iT,iE,iA,iM,iS,iG,iB,iN,iZ,h,h1,h2,str_size t,hr,e3,ha,runS_all e1]
  ·simp only [go_sem,reduceIte,↓reduceIte,reduceCtorEq,nA,nS,nM,nB,nE,nL,nT,nN,iL,iT,iE,iA,iM,iS,iG,iB,iN,iZ,h,h1,h2,str_size t,hr,e3,ha,runS_all' e1]) (rfl)
@[go_sem] theorem e218_220 (t : ByteArray) (lo hi : Int) (hb : hi ≤ 1000000) : s218.F [.s t,.i .i64 lo,.i .i64 hi,.fn 220 []] = some (.b (areB pathB lo hi t),[.u,.u,.u,.u]):=mkS_eq (t.data.toList.length + 1) rfl rfl (fun cx h=>by
 by_cases h1 : (t.size : Int) < lo
 ·simp only [go_sem,reduceIte,↓reduceIte,reduceCtorEq,nA,nS,nM,nB,nE,nL,nT,nN,iL,iT,iE,iA,iM,iS,iG,iB,iN,iZ,h,h1,areB_short h1]
 by_cases h2 : hi < (t.size : Int)
 ·simp only [go_sem,reduceIte,↓reduceIte,reduceCtorEq,nA,nS,nM,nB,nE,nL,nT,nN,iL,iT,iE,iA,iM,iS,iG,iB,iN,iZ,h,h1,h2,areB_long h2]
 have hx : t.data.toList.length ≤ 9223372036854775806:=by rw [← str_size]; omega
 have ha:=areB_all (p:=pathB) h1 h2
 rw [str_size t] at h1 h2
 ·have hb0:=loopN_eq Tryz.f218 0 _ _ rfl rfl
  obtain ⟨r,hr,hq⟩:=loop_srch (cx:=cx) (blk:=0) (body:=loopN Tryz.f218 0) t.data.toList (fun k (s : Unit)=>⟨E [(0,.s t),(3,.fn 220 []),(21,.i .i64 t.size),(22,.i .i64 k)],B []⟩) (fun s=>⟨E [],B []⟩) (fun x s=>!pathB x) (fun x s=>()) (fun x s=>(.ret,⟨E [(8,.b false)],B []⟩)) (fun k s=>True)
    (fun s hI G=>by simp only [go_sem,reduceIte,↓reduceIte,reduceCtorEq,nA,nS,nM,nB,nE,nL,nT,nN,iL,iT,iE,iA,iM,iS,iG,iB,iN,iZ,h,Int.lt_irrefl,hb0,str_size t]) (fun k hk s hI=>by
     have h1 : ((k : Int) < (t.data.toList.length : Int)):=Int.ofNat_lt.2 hk
     have hz:=str_at t k hk
     exact ⟨_,_,_,fun G=>by simp only [go_sem,reduceIte,↓reduceIte,reduceCtorEq,nA,nS,nM,nB,nE,nL,nT,nN,iL,iT,iE,iA,iM,iS,iG,iB,iN,iZ,h,hz,str_size t,h1,idx_nt _ _ hk,wrap_nat1 (show k < 9223372036854775807 by omega),hb0] <;> with_reducible rfl,Iff.rfl,fun hc=>⟨trivial,by simp only [go_sem,reduceIte,↓reduceIte,reduceCtorEq,nA,nS,nM,nB,nE,nL,nT,nN,iL,iT,iE,iA,iM,iS,iG,iB,iN,iZ,h,str_size t]⟩⟩) () trivial (t.data.toList.length + 1) (Nat.le_refl _)
  rw [hb0] at hr
  rcases hq with ⟨s',e1,_,e3⟩ | ⟨x,s',e1,e3⟩
  ·simp only [go_sem,reduceIte,↓reduceIte,reduceCtorEq,nA,nS,nM,nB,nE,nL,nT,nN,iL,iT,iE,iA,iM,iS,iG,iB,iN,iZ,h,h1,h2,str_size t,hr,e3,ha,runS_all e1]
  ·simp only [go_sem,reduceIte,↓reduceIte,reduceCtorEq,nA,nS,nM,nB,nE,nL,nT,nN,iL,iT,iE,iA,iM,iS,iG,iB,iN,iZ,h,h1,h2,str_size t,hr,e3,ha,runS_all' e1]) (rfl)
@[go_sem] theorem e218_303 (t : ByteArray) (lo hi : Int) (hb : hi ≤ 1000000) : s218.F [.s t,.i .i64 lo,.i .i64 hi,.fn 303 []] = some (.b (areB digitB lo hi t),[.u,.u,.u,.u]):=mkS_eq (t.data.toList.length + 1) rfl rfl (fun cx h=>by
 by_cases h1 : (t.size : Int) < lo
 ·simp only [go_sem,reduceIte,↓reduceIte,reduceCtorEq,nA,nS,nM,nB,nE,nL,nT,nN,iL,iT,iE,iA,iM,iS,iG,iB,iN,iZ,h,h1,areB_short h1]
 by_cases h2 : hi < (t.size : Int)
 ·simp only [go_sem,reduceIte,↓reduceIte,reduceCtorEq,nA,nS,nM,nB,nE,nL,nT,nN,iL,iT,iE,iA,iM,iS,iG,iB,iN,iZ,h,h1,h2,areB_long h2]
 have hx : t.data.toList.length ≤ 9223372036854775806:=by rw [← str_size]; omega
 have ha:=areB_all (p:=digitB) h1 h2
 rw [str_size t] at h1 h2
 ·have hb0:=loopN_eq Tryz.f218 0 _ _ rfl rfl
  obtain ⟨r,hr,hq⟩:=loop_srch (cx:=cx) (blk:=0) (body:=loopN Tryz.f218 0) t.data.toList (fun k (s : Unit)=>⟨E [(0,.s t),(3,.fn 303 []),(21,.i .i64 t.size),(22,.i .i64 k)],B []⟩) (fun s=>⟨E [],B []⟩) (fun x s=>!digitB x) (fun x s=>()) (fun x s=>(.ret,⟨E [(8,.b false)],B []⟩)) (fun k s=>True)
    (fun s hI G=>by simp only [go_sem,reduceIte,↓reduceIte,reduceCtorEq,nA,nS,nM,nB,nE,nL,nT,nN,iL,iT,iE,iA,iM,iS,iG,iB,iN,iZ,h,Int.lt_irrefl,hb0,str_size t]) (fun k hk s hI=>by
     have h1 : ((k : Int) < (t.data.toList.length : Int)):=Int.ofNat_lt.2 hk
     have hz:=str_at t k hk
     exact ⟨_,_,_,fun G=>by simp only [go_sem,reduceIte,↓reduceIte,reduceCtorEq,nA,nS,nM,nB,nE,nL,nT,nN,iL,iT,iE,iA,iM,iS,iG,iB,iN,iZ,h,hz,str_size t,h1,idx_nt _ _ hk,wrap_nat1 (show k < 9223372036854775807 by omega),hb0] <;> with_reducible rfl,Iff.rfl,fun hc=>⟨trivial,by simp only [go_sem,reduceIte,↓reduceIte,reduceCtorEq,nA,nS,nM,nB,nE,nL,nT,nN,iL,iT,iE,iA,iM,iS,iG,iB,iN,iZ,h,str_size t]⟩⟩) () trivial (t.data.toList.length + 1) (Nat.le_refl _)
  rw [hb0] at hr
  rcases hq with ⟨s',e1,_,e3⟩ | ⟨x,s',e1,e3⟩
  ·simp only [go_sem,reduceIte,↓reduceIte,reduceCtorEq,nA,nS,nM,nB,nE,nL,nT,nN,iL,iT,iE,iA,iM,iS,iG,iB,iN,iZ,h,h1,h2,str_size t,hr,e3,ha,runS_all e1]
  ·simp only [go_sem,reduceIte,↓reduceIte,reduceCtorEq,nA,nS,nM,nB,nE,nL,nT,nN,iL,iT,iE,iA,iM,iS,iG,iB,iN,iZ,h,h1,h2,str_size t,hr,e3,ha,runS_all' e1]) (rfl)
def isWord (t : ByteArray) : Bool:=areB wordB 1 64 t
def s164 : SP Tryz.prog:=mkS tyA 164 Tryz.f164 [s218,s259] { md:=[.ro 1],rets:=some ([2],[]) } Tryz.func164 (by kernel_rfl)
@[go_sem] theorem d164 : s164.g = 164 ∧ s164.fs = ⟨[.ro 1],s164.F,false⟩:=⟨nr rfl,nr rfl⟩
@[go_sem] theorem e164 (t : ByteArray) : s164.F [.s t] = some (.b (isWord t),[.u]):=mkS_eq (0) rfl rfl (fun cx h=>by
 simp only [go_sem,reduceIte,↓reduceIte,reduceCtorEq,nA,nS,nM,nB,nE,nL,nT,nN,iL,iT,iE,iA,iM,iS,iG,iB,iN,iZ,h,isWord]) (rfl)
def areP (t : ByteArray) : Bool:=t.data.toList.all plainB
theorem areP_eq (t : ByteArray) : areB plainB 0 (t.size : Int) t = areP t:=areB_all (by omega) (by omega)
end
end Go.Vm.A
