/- Functions of the program, walked by the evaluator. -/
import Derived.Test.YtnbhkifknleipaaGreatDoorWb
import Derived.Test.YtnbhkifknleipaaGreatDoorWa
import Derived.Test.YtnbhkifknleipaaGreatDoorGc
import Derived.Test.YtnbhkifknleipaaGreatDoorGd
import Derived.Test.YtnbhkifknleipaaGreatDoorGe
set_option linter.unusedVariables false
set_option linter.unusedSimpArgs false
set_option autoImplicit false
set_option maxRecDepth 100000
set_option maxHeartbeats 4000000
namespace Go.Vm.A
open Go.Proofs
open Nat renaming reduceAdd → nA, reduceSub → nS, reduceMul → nM, reduceBEq → nB, reduceEqDiff → nE, reduceLeDiff → nL, reduceLT → nT, reduceBneDiff → nN
open Int renaming reduceLE → iL, reduceLT → iT, reduceEq → iE, reduceAdd → iA, reduceMul → iM, reduceSub → iS, reduceNeg → iG, reduceBEq → iB, reduceBNe → iN, reduceToNat → iZ
noncomputable section
def s342 : SP Tryz.prog:=mkS tyA 342 Tryz.f342 [] { md:=[.ro 1],rets:=some ([2],[]) } Tryz.func342 (by kernel_rfl)
@[go_sem] theorem d342 : s342.g = 342 ∧ s342.fs = ⟨[.ro 1],s342.F,false⟩:=⟨nr rfl,nr rfl⟩
@[go_sem] theorem e342 (c : UInt8) : s342.F [.i .u8 c.toNat] = some (.b (plainB c),[.u]):=mkS_eq (0) rfl rfl (fun cx h=>by
 cases h1 : ((c.toNat : Int) == 9) <;> by_cases h2 : 32 ≤ (c.toNat : Int) <;> by_cases h3 : (c.toNat : Int) ≤ 126 <;> simp only [go_sem,reduceIte,↓reduceIte,reduceCtorEq,nA,nS,nM,nB,nE,nL,nT,nN,iL,iT,iE,iA,iM,iS,iG,iB,iN,iZ,h,h1,h2,h3,plainB]) (rfl)
def s295 : SP Tryz.prog:=mkS tyA 295 Tryz.f295 [s342] { md:=[.ro 1],rg:=[(0,[0],[]),(1,[0,3],[]),(2,[0,3,7],[]),(3,[0,3],[]),(4,[0,3,14],[]),(5,[2],[]),(6,[2],[])],lv:=[(0,[0,3],[])],out:=[(0,[],[])],rets:=some ([2],[]) } Tryz.func295 (by kernel_rfl)
@[go_sem] theorem d295 : s295.g = 295 ∧ s295.fs = ⟨[.ro 1],s295.F,false⟩:=⟨nr rfl,nr rfl⟩
@[go_sem] theorem e295 (t : ByteArray) (h0 : (t.size : Int) ≤ 1000000) : s295.F [.s t] = some (.b (areP t),[.u]):=mkS_eq (t.data.toList.length + 1) rfl rfl (fun cx h=>by
 have hx : t.data.toList.length ≤ 9223372036854775806:=by rw [← str_size]; omega
 have hb0:=loopN_eq Tryz.f295 0 _ _ rfl rfl
 obtain ⟨r,hr,hq⟩:=loop_srch (cx:=cx) (blk:=0) (body:=loopN Tryz.f295 0) t.data.toList (fun k (s : Unit)=>⟨E [(0,.s t),(3,.i .i64 k)],B []⟩) (fun s=>⟨E [],B []⟩) (fun x s=>!plainB x) (fun x s=>()) (fun x s=>(.ret,⟨E [(2,.b false)],B []⟩)) (fun k s=>True)
   (fun s hI G=>by simp only [go_sem,reduceIte,↓reduceIte,reduceCtorEq,nA,nS,nM,nB,nE,nL,nT,nN,iL,iT,iE,iA,iM,iS,iG,iB,iN,iZ,h,Int.lt_irrefl,hb0,str_size t]) (fun k hk s hI=>by
    have h1 : ((k : Int) < (t.data.toList.length : Int)):=Int.ofNat_lt.2 hk
    have hz:=str_at t k hk
    exact ⟨_,_,_,fun G=>by simp only [go_sem,reduceIte,↓reduceIte,reduceCtorEq,nA,nS,nM,nB,nE,nL,nT,nN,iL,iT,iE,iA,iM,iS,iG,iB,iN,iZ,h,hz,str_size t,h1,idx_nt _ _ hk,wrap_nat1 (show k < 9223372036854775807 by omega),hb0] <;> with_reducible rfl,Iff.rfl,fun hc=>⟨trivial,by simp only [go_sem,reduceIte,↓reduceIte,reduceCtorEq,nA,nS,nM,nB,nE,nL,nT,nN,iL,iT,iE,iA,iM,iS,iG,iB,iN,iZ,h,str_size t]⟩⟩) () trivial (t.data.toList.length + 1) (Nat.le_refl _)
 rw [hb0] at hr
 rcases hq with ⟨s',e1,_,e3⟩ | ⟨x,s',e1,e3⟩
 ·simp only [go_sem,reduceIte,↓reduceIte,reduceCtorEq,nA,nS,nM,nB,nE,nL,nT,nN,iL,iT,iE,iA,iM,iS,iG,iB,iN,iZ,h,hr,e3,areP,runS_all e1]
 ·simp only [go_sem,reduceIte,↓reduceIte,reduceCtorEq,nA,nS,nM,nB,nE,nL,nT,nN,iL,iT,iE,iA,iM,iS,iG,iB,iN,iZ,h,hr,e3,areP,runS_all' e1]) (rfl)
def s343 : SP Tryz.prog:=mkS tyA 343 Tryz.f343 [] { md:=[.ro 1],rets:=some ([2],[]) } Tryz.func343 (by kernel_rfl)
@[go_sem] theorem d343 : s343.g = 343 ∧ s343.fs = ⟨[.ro 1],s343.F,false⟩:=⟨nr rfl,nr rfl⟩
@[go_sem] theorem e343 (c : UInt8) : s343.F [.i .u8 c.toNat] = some (.b (blankB c),[.u]):=mkS_eq (0) rfl rfl (fun cx h=>by
 cases h1 : ((c.toNat : Int) == 32) <;> cases h2 : ((c.toNat : Int) == 9) <;> simp only [go_sem,reduceIte,↓reduceIte,reduceCtorEq,nA,nS,nM,nB,nE,nL,nT,nN,iL,iT,iE,iA,iM,iS,iG,iB,iN,iZ,h,h1,h2,blankB]) (rfl)
def s296 : SP Tryz.prog:=mkS tyA 296 Tryz.f296 [s343] { md:=[.ro 1],rg:=[(0,[0],[]),(1,[0,3],[]),(2,[0,3,4],[]),(3,[0,3,4,15],[]),(4,[0,3,4],[]),(5,[0,3,4,27],[]),(6,[0,3,4],[]),(7,[2],[])],lv:=[(0,[0,3,4],[]),(2,[0,3,4],[])],out:=[(0,[0,3,4],[]),(2,[0,3,4],[])],rets:=some ([2],[]) } Tryz.func296 (by kernel_rfl)
@[go_sem] theorem d296 : s296.g = 296 ∧ s296.fs = ⟨[.ro 1],s296.F,false⟩:=⟨nr rfl,nr rfl⟩
@[go_sem] theorem e296 (t : ByteArray) (h0 : t.size ≤ 9223372036854775806) : s296.F [.s t] = some (.s (trimB t),[.u]):=mkS_eq (t.size + 1) rfl rfl (fun cx h=>by
 have hb:=loopN_eq Tryz.f296 0 _ _ rfl rfl
 have hb1:=loopN_eq Tryz.f296 1 _ _ rfl rfl
 have lp:=loop_gen (cx:=cx) (blk:=0) (body:=loopN Tryz.f296 0) (fun (k : Nat)=>⟨E [(0,.s t),(3,.i .i64 k),(4,.i .i64 t.size)],B []⟩) (fun k=>k ≤ t.size) (fun k=>t.size - k)
  (fun k r=>∃ f : Nat,k ≤ f ∧ f ≤ t.size ∧ (∀ j,k ≤ j → j < f → bl t j = true) ∧ (f < t.size → bl t f = false) ∧ r = some (.ex 0,⟨E [(0,.s t),(3,.i .i64 f),(4,.i .i64 t.size)],B []⟩)) (fun k hk=>by
  by_cases h1 : (k : Int) < (t.size : Int)
  ·have i1:=idx_nt t.size k (by omega)
   have w1:=wrap_nat1 (show k < 9223372036854775807 by omega)
   cases h2 : bl t k
   ·have h3 : blankB (t.data[k]?.getD 0) = false:=h2
    exact .inl fun G=>⟨k,Nat.le_refl _,hk,fun j a b=>by omega,fun _=>h2,by simp only [go_sem,reduceIte,↓reduceIte,reduceCtorEq,nA,nS,nM,nB,nE,nL,nT,nN,iL,iT,iE,iA,iM,iS,iG,iB,iN,iZ,h,hb,h1,h3,i1]⟩
   ·have h3 : blankB (t.data[k]?.getD 0) = true:=h2
    refine .inr ⟨_,k + 1,?_,by omega,by omega,fun r ⟨f,a,b,c,d,e⟩=>⟨f,by omega,b,fun j x y=>?_,d,e⟩,fun G=>by simp only [go_sem,reduceIte,↓reduceIte,reduceCtorEq,nA,nS,nM,nB,nE,nL,nT,nN,iL,iT,iE,iA,iM,iS,iG,iB,iN,iZ,h,hb,h1,h3,i1,w1]; rfl⟩
    ·simp only [go_sem,reduceIte,↓reduceIte,reduceCtorEq,nA,nS,nM,nB,nE,nL,nT,nN,iL,iT,iE,iA,iM,iS,iG,iB,iN,iZ,h]
    ·rcases Nat.eq_or_lt_of_le x with rfl | x
     ·exact h2
     ·exact c j x y
  ·exact .inl fun G=>⟨k,Nat.le_refl _,hk,fun j a b=>by omega,fun x=>by omega,by simp only [go_sem,reduceIte,↓reduceIte,reduceCtorEq,nA,nS,nM,nB,nE,nL,nT,nN,iL,iT,iE,iA,iM,iS,iG,iB,iN,iZ,h,hb,h1]⟩)
 rw [hb] at lp
 obtain ⟨f,_,f2,f3,f4,l1⟩:=lp (t.size + 1) 0 (Nat.zero_le _) (by omega) ⟨E [(0,.s t),(3,.i .i64 0),(4,.i .i64 t.size)],B []⟩ (by simp only [go_sem,reduceIte,↓reduceIte,reduceCtorEq,nA,nS,nM,nB,nE,nL,nT,nN,iL,iT,iE,iA,iM,iS,iG,iB,iN,iZ,h])
 have lp2:=loop_gen (cx:=cx) (blk:=2) (body:=loopN Tryz.f296 1) (fun (k : Nat)=>⟨E [(0,.s t),(3,.i .i64 f),(4,.i .i64 k)],B []⟩) (fun k=>f ≤ k ∧ k ≤ t.size) (fun k=>k)
  (fun k r=>∃ e : Nat,f ≤ e ∧ e ≤ k ∧ (∀ j,e ≤ j → j < k → bl t j = true) ∧ (f < e → bl t (e - 1) = false) ∧ r = some (.ex 2,⟨E [(0,.s t),(3,.i .i64 f),(4,.i .i64 e)],B []⟩)) (fun k hk=>by
  by_cases h1 : (f : Int) < (k : Int)
  ·obtain ⟨m,rfl⟩ : ∃ m,k = m + 1:=⟨k - 1,by omega⟩
   have i1:=idx_nt t.size m (by omega)
   have w1 : (IntKind.i64).wrap (((m + 1 : Nat) : Int) - 1) = (m : Int):=by rw [wrap_id (by omega) (by omega)]; omega
   cases h2 : bl t m
   ·have h3 : blankB (t.data[m]?.getD 0) = false:=h2
    exact .inl fun G=>⟨m + 1,hk.1,Nat.le_refl _,fun j a b=>by omega,fun _=>by simpa using h2,by simp only [go_sem,reduceIte,↓reduceIte,reduceCtorEq,nA,nS,nM,nB,nE,nL,nT,nN,iL,iT,iE,iA,iM,iS,iG,iB,iN,iZ,h,hb1,h1,h3,i1,w1]⟩
   ·have h3 : blankB (t.data[m]?.getD 0) = true:=h2
    refine .inr ⟨_,m,?_,⟨by omega,by omega⟩,by omega,fun r ⟨e,a,b,c,d,g⟩=>⟨e,a,by omega,fun j x y=>?_,d,g⟩,fun G=>by simp only [go_sem,reduceIte,↓reduceIte,reduceCtorEq,nA,nS,nM,nB,nE,nL,nT,nN,iL,iT,iE,iA,iM,iS,iG,iB,iN,iZ,h,hb1,h1,h3,i1,w1]; rfl⟩
    ·simp only [go_sem,reduceIte,↓reduceIte,reduceCtorEq,nA,nS,nM,nB,nE,nL,nT,nN,iL,iT,iE,iA,iM,iS,iG,iB,iN,iZ,h]
    ·rcases Nat.lt_or_ge j m with y' | y'
     ·exact c j x y'
     ·obtain rfl : j = m:=by omega
      exact h2
  ·exact .inl fun G=>⟨k,hk.1,Nat.le_refl _,fun j a b=>by omega,fun x=>by omega,by simp only [go_sem,reduceIte,↓reduceIte,reduceCtorEq,nA,nS,nM,nB,nE,nL,nT,nN,iL,iT,iE,iA,iM,iS,iG,iB,iN,iZ,h,hb1,h1]⟩)
 rw [hb1] at lp2
 obtain ⟨e,e1,e2,e3,e4,l2⟩:=lp2 (t.size + 1) t.size ⟨f2,Nat.le_refl _⟩ (by omega) ⟨E [(0,.s t),(3,.i .i64 f),(4,.i .i64 t.size)],B []⟩ (by simp only [go_sem,reduceIte,↓reduceIte,reduceCtorEq,nA,nS,nM,nB,nE,nL,nT,nN,iL,iT,iE,iA,iM,iS,iG,iB,iN,iZ,h])
 have hc:=trim_cut t f e e1 e2 (fun j hj=>f3 j (Nat.zero_le _) hj) f4 e3 e4
 have c1 : (0 : Int) ≤ (e : Int):=by omega
 have c2 : (e : Int) ≤ (t.size : Int):=by omega
 have c3 : (0 : Int) ≤ (f : Int):=by omega
 have c4 : (f : Int) ≤ (e : Int):=by omega
 simp only [go_sem,reduceIte,↓reduceIte,reduceCtorEq,nA,nS,nM,nB,nE,nL,nT,nN,iL,iT,iE,iA,iM,iS,iG,iB,iN,iZ,h,l1,l2,c1,c2,c3,c4,Int.toNat_natCast,hc]) (rfl)
def s215 : SP Tryz.prog:=mkS tyA 215 Tryz.f215 [s161,s295,s296] { md:=[.ro 1],rg:=[(0,[1],[1]),(1,[1,3],[1]),(2,[3,6],[]),(3,[2],[]),(4,[3,11],[]),(5,[2],[]),(6,[15],[]),(7,[2],[]),(8,[2],[])],rets:=some ([2],[]) } Tryz.func215 (by kernel_rfl)
@[go_sem] theorem d215 : s215.g = 215 ∧ s215.fs = ⟨[.ro 1],s215.F,false⟩:=⟨nr rfl,nr rfl⟩
@[go_sem] theorem e215 (z0 z1 : ByteArray) : s215.F [.agg [.s z0,.s z1]] = some (.i .i64 (headerCode (Header.mk z0 z1)),[.u]):=mkS_eq (0) rfl rfl (fun cx h=>by
 cases h1 : isWord z0
 ·simp only [go_sem,reduceIte,↓reduceIte,reduceCtorEq,nA,nS,nM,nB,nE,nL,nT,nN,iL,iT,iE,iA,iM,iS,iG,iB,iN,iZ,h,h1,headerCode]
 by_cases h2 : 200 < (z1.size : Int)
 ·simp only [go_sem,reduceIte,↓reduceIte,reduceCtorEq,nA,nS,nM,nB,nE,nL,nT,nN,iL,iT,iE,iA,iM,iS,iG,iB,iN,iZ,h,h1,h2,headerCode]
 have h3 : (z1.size : Int) ≤ 1000000:=by omega
 have h4 : z1.size ≤ 9223372036854775806:=by omega
 have h5 : z1.size ≤ 9223372036854775807:=by omega
 cases h6 : areP z1
 ·simp only [go_sem,reduceIte,↓reduceIte,reduceCtorEq,nA,nS,nM,nB,nE,nL,nT,nN,iL,iT,iE,iA,iM,iS,iG,iB,iN,iZ,h,h1,h2,h3,h4,h5,h6,headerCode]
 cases h7 : eqv (trimB z1) z1 <;> simp only [go_sem,reduceIte,↓reduceIte,reduceCtorEq,nA,nS,nM,nB,nE,nL,nT,nN,iL,iT,iE,iA,iM,iS,iG,iB,iN,iZ,h,h1,h2,h3,h4,h5,h6,h7,eqv_bytes,eqv_boolne,bne,headerCode]) (rfl)
def s114 : SP Tryz.prog:=mkS tyA 114 Tryz.f114 [s215] { md:=[.ro 1],rg:=[(0,[0],[]),(1,[0,7],[]),(2,[2],[]),(3,[0,3],[]),(4,[0,3,11],[]),(5,[0,3],[]),(6,[0,3,4],[]),(7,[0,3,4,20],[]),(8,[2],[]),(9,[2],[])],lv:=[(0,[0,3],[])],out:=[(0,[],[])],rets:=some ([2],[]) } Tryz.func114 (by kernel_rfl)
@[go_sem] theorem d114 : s114.g = 114 ∧ s114.fs = ⟨[.ro 1],s114.F,false⟩:=⟨nr rfl,nr rfl⟩
@[go_sem] theorem e114 (hs : List Header) : s114.F [.sl .ro 2 (hs.map (rHeader .ro))] = some (.i .i64 (headersFault hs),[.u]):=mkS_eq (hs.length + 1) rfl rfl (fun cx h=>by
 by_cases h1 : 20 < (hs.length : Int)
 ·simp only [go_sem,reduceIte,↓reduceIte,reduceCtorEq,nA,nS,nM,nB,nE,nL,nT,nN,iL,iT,iE,iA,iM,iS,iG,iB,iN,iZ,h,h1,headersFault]
 have hx : hs.length ≤ 9223372036854775806:=by omega
 have hb0:=loopN_eq Tryz.f114 0 _ _ rfl rfl
 obtain ⟨r,hr,hq⟩:=loop_srch (cx:=cx) (blk:=0) (body:=loopN Tryz.f114 0) hs (fun k (s : Unit)=>⟨E [(0,.sl .ro 2 (hs.map (rHeader .ro))),(3,.i .i64 k)],B []⟩) (fun s=>⟨E [],B []⟩) (fun x s=>headerCode x != 0) (fun x s=>()) (fun x s=>(.ret,⟨E [(2,.i .i64 (headerCode x))],B []⟩)) (fun k s=>True)
   (fun s hI G=>by simp only [go_sem,reduceIte,↓reduceIte,reduceCtorEq,nA,nS,nM,nB,nE,nL,nT,nN,iL,iT,iE,iA,iM,iS,iG,iB,iN,iZ,h,Int.lt_irrefl,hb0,hx]) (fun k hk s hI=>by
    have h1 : ((k : Int) < (hs.length : Int)):=Int.ofNat_lt.2 hk
    exact ⟨_,_,_,fun G=>by simp only [go_sem,reduceIte,↓reduceIte,reduceCtorEq,nA,nS,nM,nB,nE,nL,nT,nN,iL,iT,iE,iA,iM,iS,iG,iB,iN,iZ,h,map_gd (rHeader .ro) hs _ hk,rHeader,h1,idx_nt _ _ hk,wrap_nat1 (show k < 9223372036854775807 by omega),hb0] <;> with_reducible rfl,Iff.rfl,fun hc=>⟨trivial,by simp only [go_sem,reduceIte,↓reduceIte,reduceCtorEq,nA,nS,nM,nB,nE,nL,nT,nN,iL,iT,iE,iA,iM,iS,iG,iB,iN,iZ,h]⟩⟩) () trivial (hs.length + 1) (Nat.le_refl _)
 rw [hb0] at hr
 rcases hq with ⟨s',e1,_,e3⟩ | ⟨x,s',e1,e3⟩
 ·simp only [go_sem,reduceIte,↓reduceIte,reduceCtorEq,nA,nS,nM,nB,nE,nL,nT,nN,iL,iT,iE,iA,iM,iS,iG,iB,iN,iZ,h,h1,hr,e3,headersFault,firstI_inl e1]
 ·simp only [go_sem,reduceIte,↓reduceIte,reduceCtorEq,nA,nS,nM,nB,nE,nL,nT,nN,iL,iT,iE,iA,iM,iS,iG,iB,iN,iZ,h,h1,hr,e3,headersFault,firstI_inr e1]) (rfl)
def s192 : SP Tryz.prog:=mkS tyA 192 Tryz.f192 [s282,s283] { md:=[.ro 1],rg:=[(0,[0],[]),(1,[0,11],[]),(2,[2],[]),(3,[0,3],[]),(4,[0,3,15],[]),(5,[0,3],[]),(6,[0,3,41],[]),(7,[2],[]),(8,[2],[])],lv:=[(0,[0,3],[])],out:=[(0,[],[])],rets:=some ([2],[]) } Tryz.func192 (by kernel_rfl)
@[go_sem] theorem d192 : s192.g = 192 ∧ s192.fs = ⟨[.ro 1],s192.F,false⟩:=⟨nr rfl,nr rfl⟩
@[go_sem] theorem e192 (t : ByteArray) : s192.F [.s t] = some (.b (isHost t),[.u]):=mkS_eq (t.data.toList.length + 1) rfl rfl (fun cx h=>by
 have hu : isHost t = areB hostB 1 60 t:=rfl
 by_cases h1 : (t.size : Int) < 1
 ·simp only [go_sem,reduceIte,↓reduceIte,reduceCtorEq,nA,nS,nM,nB,nE,nL,nT,nN,iL,iT,iE,iA,iM,iS,iG,iB,iN,iZ,h,h1,hu,areB_short h1]
 by_cases h2 : 60 < (t.size : Int)
 ·simp only [go_sem,reduceIte,↓reduceIte,reduceCtorEq,nA,nS,nM,nB,nE,nL,nT,nN,iL,iT,iE,iA,iM,iS,iG,iB,iN,iZ,h,h1,h2,hu,areB_long h2]
 have hx : t.data.toList.length ≤ 9223372036854775806:=by rw [← str_size]; omega
 have ha:=areB_all (p:=hostB) h1 h2
 rw [str_size t] at h1 h2
 ·have hb0:=loopN_eq Tryz.f192 0 _ _ rfl rfl
  obtain ⟨r,hr,hq⟩:=loop_list (cx:=cx) (blk:=0) (body:=loopN Tryz.f192 0) t.data.toList (fun k (s : Unit)=>⟨E [(0,.s t),(3,.i .i64 k)],B []⟩) (fun s=>⟨E [],B []⟩) (fun x s=>!hostB x) (fun x s=>()) (fun x s=>(.ret,⟨E [(2,.b false)],B []⟩)) (fun k s=>True)
    (fun s hI G=>by simp only [go_sem,reduceIte,↓reduceIte,reduceCtorEq,nA,nS,nM,nB,nE,nL,nT,nN,iL,iT,iE,iA,iM,iS,iG,iB,iN,iZ,h,Int.lt_irrefl,hb0,str_size t]) (fun k hk s hI=>by
     have h1 : ((k : Int) < (t.data.toList.length : Int)):=Int.ofNat_lt.2 hk
     have hz:=str_at t k hk
     have hu : hostB t.data.toList[k] = (letterB t.data.toList[k] || digitB t.data.toList[k] || ((t.data.toList[k].toNat : Int) == 46) || ((t.data.toList[k].toNat : Int) == 45)):=rfl
     by_cases c0 : hostB t.data.toList[k] = true
     ·skip
      have c9:=c0
      rw [hu] at c0
      cases a1 : letterB t.data.toList[k] <;> cases a2 : digitB t.data.toList[k] <;> cases a3 : ((t.data.toList[k].toNat : Int) == 46) <;> cases a4 : ((t.data.toList[k].toNat : Int) == 45) <;> first | (exfalso; rw [a1,a2,a3,a4] at c0; exact absurd c0 (by decide)) | skip
      all_goals exact .inr ⟨by rw [c9]; rfl,trivial,_,fun G=>by simp only [go_sem,reduceIte,↓reduceIte,reduceCtorEq,nA,nS,nM,nB,nE,nL,nT,nN,iL,iT,iE,iA,iM,iS,iG,iB,iN,iZ,h,hz,str_size t,bne,a1,a2,a3,a4,h1,idx_nt _ _ hk,wrap_nat1 (show k < 9223372036854775807 by omega),hb0] <;> with_reducible rfl,by simp only [go_sem,reduceIte,↓reduceIte,reduceCtorEq,nA,nS,nM,nB,nE,nL,nT,nN,iL,iT,iE,iA,iM,iS,iG,iB,iN,iZ,h,str_size t]⟩
     ·have c1 : hostB t.data.toList[k] = false:=by simpa using c0
      have c2:=c1
      rw [hu] at c2
      simp only [Bool.or_eq_false_iff] at c2
      obtain ⟨⟨⟨b1,b2⟩,b3⟩,b4⟩:=c2
      all_goals exact .inl ⟨by rw [c1]; rfl,fun G=>by simp only [go_sem,reduceIte,↓reduceIte,reduceCtorEq,nA,nS,nM,nB,nE,nL,nT,nN,iL,iT,iE,iA,iM,iS,iG,iB,iN,iZ,h,hz,str_size t,bne,b1,b2,b3,b4,h1,idx_nt _ _ hk,wrap_nat1 (show k < 9223372036854775807 by omega),hb0]⟩) () trivial (t.data.toList.length + 1) (Nat.le_refl _)
  rw [hb0] at hr
  rcases hq with ⟨s',e1,_,e3⟩ | ⟨x,s',e1,e3⟩
  ·simp only [go_sem,reduceIte,↓reduceIte,reduceCtorEq,nA,nS,nM,nB,nE,nL,nT,nN,iL,iT,iE,iA,iM,iS,iG,iB,iN,iZ,h,h1,h2,str_size t,hr,e3,hu,ha,runS_all e1]
  ·simp only [go_sem,reduceIte,↓reduceIte,reduceCtorEq,nA,nS,nM,nB,nE,nL,nT,nN,iL,iT,iE,iA,iM,iS,iG,iB,iN,iZ,h,h1,h2,str_size t,hr,e3,hu,ha,runS_all' e1]) (rfl)
def s284 : SP Tryz.prog:=mkS tyA 284 Tryz.f284 [s254] { md:=[.ro 1],rg:=[(0,[0],[]),(1,[0,3],[]),(2,[0,3,4],[]),(3,[0,3,4],[]),(4,[0,3,4],[]),(5,[0,3,4],[]),(6,[0,3,4],[]),(7,[0,3,4],[]),(8,[0,3,4],[]),(9,[0,3,4],[]),(10,[0,3,4],[]),(11,[0,4],[]),(12,[2],[]),(13,[2],[])],rets:=some ([2],[]) } Tryz.func284 (by kernel_rfl)
@[go_sem] theorem d284 : s284.g = 284 ∧ s284.fs = ⟨[.ro 1],s284.F,false⟩:=⟨nr rfl,nr rfl⟩
@[go_sem] theorem e284 (c : UInt8) : s284.F [.i .u8 c.toNat] = some (.b (pathB c),[.u]):=mkS_eq (0) rfl rfl (fun cx h=>by
 by_cases m : c ∈ pSymB
 ·have hw:=pathB_sym m
  simp only [pSymB,List.mem_cons,List.not_mem_nil,or_false] at m
  have u47 : (((47 : UInt8).toNat : Nat) : Int) = 47:=rfl
  have u63 : (((63 : UInt8).toNat : Nat) : Int) = 63:=rfl
  have u61 : (((61 : UInt8).toNat : Nat) : Int) = 61:=rfl
  have u38 : (((38 : UInt8).toNat : Nat) : Int) = 38:=rfl
  have u58 : (((58 : UInt8).toNat : Nat) : Int) = 58:=rfl
  have u64 : (((64 : UInt8).toNat : Nat) : Int) = 64:=rfl
  have u44 : (((44 : UInt8).toNat : Nat) : Int) = 44:=rfl
  have u59 : (((59 : UInt8).toNat : Nat) : Int) = 59:=rfl
  have u40 : (((40 : UInt8).toNat : Nat) : Int) = 40:=rfl
  have u41 : (((41 : UInt8).toNat : Nat) : Int) = 41:=rfl
  rcases m with rfl | rfl | rfl | rfl | rfl | rfl | rfl | rfl | rfl | rfl <;> simp only [go_sem,reduceIte,↓reduceIte,reduceCtorEq,nA,nS,nM,nB,nE,nL,nT,nN,iL,iT,iE,iA,iM,iS,iG,iB,iN,iZ,h,hw,wx,u47,u63,u61,u38,u58,u64,u44,u59,u40,u41]
 ·have hw:=pathB_not m
  have q47 : ((c.toNat : Int) == 47) = false:=byne (v:=47) (fun e=>m (by subst e; decide))
  have q63 : ((c.toNat : Int) == 63) = false:=byne (v:=63) (fun e=>m (by subst e; decide))
  have q61 : ((c.toNat : Int) == 61) = false:=byne (v:=61) (fun e=>m (by subst e; decide))
  have q38 : ((c.toNat : Int) == 38) = false:=byne (v:=38) (fun e=>m (by subst e; decide))
  have q58 : ((c.toNat : Int) == 58) = false:=byne (v:=58) (fun e=>m (by subst e; decide))
  have q64 : ((c.toNat : Int) == 64) = false:=byne (v:=64) (fun e=>m (by subst e; decide))
  have q44 : ((c.toNat : Int) == 44) = false:=byne (v:=44) (fun e=>m (by subst e; decide))
  have q59 : ((c.toNat : Int) == 59) = false:=byne (v:=59) (fun e=>m (by subst e; decide))
  have q40 : ((c.toNat : Int) == 40) = false:=byne (v:=40) (fun e=>m (by subst e; decide))
  have q41 : ((c.toNat : Int) == 41) = false:=byne (v:=41) (fun e=>m (by subst e; decide))
  cases h1 : wordB c <;> simp only [go_sem,reduceIte,↓reduceIte,reduceCtorEq,nA,nS,nM,nB,nE,nL,nT,nN,iL,iT,iE,iA,iM,iS,iG,iB,iN,iZ,h,hw,h1,q47,q63,q61,q38,q58,q64,q44,q59,q40,q41]) (rfl)
def s193 : SP Tryz.prog:=mkS tyA 193 Tryz.f193 [s284] { md:=[.ro 1],rg:=[(0,[0],[]),(1,[0,16],[]),(2,[2],[]),(3,[0,3],[]),(4,[0,3,20],[]),(5,[0,3],[]),(6,[0,3,27],[]),(7,[2],[]),(8,[2],[])],lv:=[(0,[0,3],[])],out:=[(0,[],[])],rets:=some ([2],[]) } Tryz.func193 (by kernel_rfl)
@[go_sem] theorem d193 : s193.g = 193 ∧ s193.fs = ⟨[.ro 1],s193.F,false⟩:=⟨nr rfl,nr rfl⟩
@[go_sem] theorem e193 (t : ByteArray) : s193.F [.s t] = some (.b (isPath t),[.u]):=mkS_eq (t.data.toList.length + 1) rfl rfl (fun cx h=>by
 have hu : isPath t = (areB pathB 1 100 t && (((t.data[0]?.getD 0).toNat : Int) == 47)):=rfl
 by_cases h1 : (t.size : Int) < 1
 ·simp only [go_sem,reduceIte,↓reduceIte,reduceCtorEq,nA,nS,nM,nB,nE,nL,nT,nN,iL,iT,iE,iA,iM,iS,iG,iB,iN,iZ,h,h1,hu,areB_short h1]
 by_cases h2 : 100 < (t.size : Int)
 ·simp only [go_sem,reduceIte,↓reduceIte,reduceCtorEq,nA,nS,nM,nB,nE,nL,nT,nN,iL,iT,iE,iA,iM,iS,iG,iB,iN,iZ,h,h1,h2,hu,areB_long h2]
 have hi : idx? t.size 0 = some 0:=idx_nt t.size 0 (by omega)
 have hi' : idx? t.data.toList.length 0 = some 0:=by rw [← str_size]; exact hi
 cases h3 : (((t.data[0]?.getD 0).toNat : Int) == 47)
 ·simp only [go_sem,reduceIte,↓reduceIte,reduceCtorEq,nA,nS,nM,nB,nE,nL,nT,nN,iL,iT,iE,iA,iM,iS,iG,iB,iN,iZ,h,h1,h2,h3,hi,hu,bne]
 have hx : t.data.toList.length ≤ 9223372036854775806:=by rw [← str_size]; omega
 have ha:=areB_all (p:=pathB) h1 h2
 rw [str_size t] at h1 h2
 ·have hb0:=loopN_eq Tryz.f193 0 _ _ rfl rfl
  obtain ⟨r,hr,hq⟩:=loop_srch (cx:=cx) (blk:=0) (body:=loopN Tryz.f193 0) t.data.toList (fun k (s : Unit)=>⟨E [(0,.s t),(3,.i .i64 k)],B []⟩) (fun s=>⟨E [],B []⟩) (fun x s=>!pathB x) (fun x s=>()) (fun x s=>(.ret,⟨E [(2,.b false)],B []⟩)) (fun k s=>True)
    (fun s hI G=>by simp only [go_sem,reduceIte,↓reduceIte,reduceCtorEq,nA,nS,nM,nB,nE,nL,nT,nN,iL,iT,iE,iA,iM,iS,iG,iB,iN,iZ,h,Int.lt_irrefl,hb0,str_size t]) (fun k hk s hI=>by
     have h1 : ((k : Int) < (t.data.toList.length : Int)):=Int.ofNat_lt.2 hk
     have hz:=str_at t k hk
     exact ⟨_,_,_,fun G=>by simp only [go_sem,reduceIte,↓reduceIte,reduceCtorEq,nA,nS,nM,nB,nE,nL,nT,nN,iL,iT,iE,iA,iM,iS,iG,iB,iN,iZ,h,hz,str_size t,h1,idx_nt _ _ hk,wrap_nat1 (show k < 9223372036854775807 by omega),hb0] <;> with_reducible rfl,Iff.rfl,fun hc=>⟨trivial,by simp only [go_sem,reduceIte,↓reduceIte,reduceCtorEq,nA,nS,nM,nB,nE,nL,nT,nN,iL,iT,iE,iA,iM,iS,iG,iB,iN,iZ,h,str_size t]⟩⟩) () trivial (t.data.toList.length + 1) (Nat.le_refl _)
  rw [hb0] at hr
  rcases hq with ⟨s',e1,_,e3⟩ | ⟨x,s',e1,e3⟩
  ·simp only [go_sem,reduceIte,↓reduceIte,reduceCtorEq,nA,nS,nM,nB,nE,nL,nT,nN,iL,iT,iE,iA,iM,iS,iG,iB,iN,iZ,h,h1,h2,h3,hi',bne,str_size t,hr,e3,hu,ha,runS_all e1]
  ·simp only [go_sem,reduceIte,↓reduceIte,reduceCtorEq,nA,nS,nM,nB,nE,nL,nT,nN,iL,iT,iE,iA,iM,iS,iG,iB,iN,iZ,h,h1,h2,h3,hi',bne,str_size t,hr,e3,hu,ha,runS_all' e1]) (rfl)
def s339 : SP Tryz.prog:=mkS tyA 339 Tryz.f339 [] { md:=[.ro 1],rg:=[(0,[0],[]),(1,[3],[]),(2,[3,4],[]),(3,[3,4,10],[]),(4,[3,4],[]),(5,[3,4,24],[]),(6,[3,4],[]),(7,[2],[])],lv:=[(0,[3,4],[])],out:=[(0,[3],[])],rets:=some ([2],[]) } Tryz.func339 (by kernel_rfl)
@[go_sem] theorem d339 : s339.g = 339 ∧ s339.fs = ⟨[.ro 1],s339.F,false⟩:=⟨nr rfl,nr rfl⟩
@[go_sem] theorem e339 (t : ByteArray) (h0 : t.size ≤ 9223372036854775806) : s339.F [.s t] = some (.s (lowS t),[.u]):=mkS_eq (t.data.toList.length + 1) rfl rfl (fun cx h=>by
 have hz : t.data.toList.length ≤ 9223372036854775807:=by rw [← str_size]; omega
 have hx : t.data.toList.length ≤ 9223372036854775806:=by rw [← str_size]; exact h0
 have hb0:=loopN_eq Tryz.f339 0 _ _ rfl rfl
 obtain ⟨hI,hr⟩:=loop_fold (cx:=cx) (blk:=0) (body:=loopN Tryz.f339 0) t.data.toList (fun k (s : Unit)=>⟨E [(3,.sl .mut 1 ((lowUp t.data.toList k).map rByte)),(4,.i .i64 k)],B []⟩) (fun s=>⟨E [(3,.sl .mut 1 ((t.data.toList.map lowB).map rByte))],B []⟩) (fun x s=>s) (fun k s=>True)
   (fun s hI G=>by simp only [go_sem,reduceIte,↓reduceIte,reduceCtorEq,nA,nS,nM,nB,nE,nL,nT,nN,iL,iT,iE,iA,iM,iS,iG,iB,iN,iZ,h,Int.lt_irrefl,hb0,lowUp_len t.data.toList t.data.toList.length (Nat.le_refl _),lowUp_all t.data.toList,List.length_map]) (fun k hk s hI=>by
    have h1 : ((k : Int) < (t.data.toList.length : Int)):=Int.ofNat_lt.2 hk
    have g1:=lowUp_gd t.data.toList k hk
    have g2:=lowUp_g t.data.toList k hk
    have g3:=lowUp_len t.data.toList k (Nat.le_of_lt hk)
    have g4 : (List.take t.data.toList.length ((lowUp t.data.toList k).map rByte)) = (lowUp t.data.toList k).map rByte:=List.take_of_length_le (by rw [List.length_map,g3]; exact Nat.le_refl _)
    rcases lowStep t.data.toList k hk with ⟨a1,a2,w1,w2,hs,hv⟩ | ⟨a1,a2,w1,w2,hs,hv⟩ | ⟨a1,a2,w1,w2,hs,hv⟩
    all_goals exact ⟨trivial,_,fun G=>by simp only [go_sem,reduceIte,↓reduceIte,reduceCtorEq,nA,nS,nM,nB,nE,nL,nT,nN,iL,iT,iE,iA,iM,iS,iG,iB,iN,iZ,h,g1,g2,g3,g4,a1,a2,w1,w2,hs,List.length_map,h1,idx_nt _ _ hk,wrap_nat1 (show k < 9223372036854775807 by omega),hb0] <;> with_reducible rfl,by simp only [go_sem,reduceIte,↓reduceIte,reduceCtorEq,nA,nS,nM,nB,nE,nL,nT,nN,iL,iT,iE,iA,iM,iS,iG,iB,iN,iZ,h,hv]⟩) () trivial (t.data.toList.length + 1) (Nat.le_refl _)
 rw [hb0] at hr
 rw [lowUp_zero] at hr
 simp only [go_sem,reduceIte,↓reduceIte,reduceCtorEq,nA,nS,nM,nB,nE,nL,nT,nN,iL,iT,iE,iA,iM,iS,iG,iB,iN,iZ,h,hz,hr,str_size t,lowS]) (rfl)
def s285 : SP Tryz.prog:=mkS tyA 285 Tryz.f285 [s339] { md:=[.ro 1,.ro 1],rets:=some ([4],[]) } Tryz.func285 (by kernel_rfl)
@[go_sem] theorem d285 : s285.g = 285 ∧ s285.fs = ⟨[.ro 1,.ro 1],s285.F,false⟩:=⟨nr rfl,nr rfl⟩
@[go_sem] theorem e285 (a b : ByteArray) (h0 : (a.size ≤ 9223372036854775806 ∧ b.size ≤ 9223372036854775806)) : s285.F [.s a,.s b] = some (.b (eqv (lowS a) (lowS b)),[.u,.u]):=mkS_eq (0) rfl rfl (fun cx h=>by
 simp only [go_sem,reduceIte,↓reduceIte,reduceCtorEq,nA,nS,nM,nB,nE,nL,nT,nN,iL,iT,iE,iA,iM,iS,iG,iB,iN,iZ,h,h0.1,h0.2,eqv_bytes]) (rfl)
def s194 : SP Tryz.prog:=mkS tyA 194 Tryz.f194 [s285] { md:=[.ro 1,.ro 1],rg:=[(0,[0,1],[]),(1,[0,1,6],[]),(2,[0,1,6,7],[]),(3,[0,1,6,7,8],[]),(4,[0,1,6,7,8,12],[]),(5,[0,1,6,7,8],[]),(6,[0,1,6,7,8,22],[]),(7,[0,1,6,8,23],[]),(8,[0,1,6,8],[]),(9,[0,1,6,8],[]),(10,[0,1,6,7,8],[]),(11,[4,5],[])],lv:=[(0,[0,1,6,7,8],[])],out:=[(0,[6,7],[])],rets:=some ([4,5],[]) } Tryz.func194 (by kernel_rfl)
@[go_sem] theorem d194 : s194.g = 194 ∧ s194.fs = ⟨[.ro 1,.ro 1],s194.F,false⟩:=⟨nr rfl,nr rfl⟩
@[go_sem] theorem e194 (hs : List Header) (name : ByteArray) (h0 : (hs.length ≤ 20 ∧ smL smHeader hs ∧ okN name = true)) : s194.F [.sl .ro 2 (hs.map (rHeader .ro)),.s name] = some (.tup [.s (joinV hs name).1,.b (hasV hs name)],[.u,.u]):=mkS_eq (hs.length + 1) rfl rfl (fun cx h=>by
 have hl:=h0.1
 have hx : hs.length ≤ 9223372036854775806:=by omega
 have hj:=joinV_2 hs name
 have hb0:=loopN_eq Tryz.f194 0 _ _ rfl rfl
 obtain ⟨hI,hr⟩:=loop_fold (cx:=cx) (blk:=0) (body:=loopN Tryz.f194 0) hs (fun k (s : ByteArray × Bool)=>⟨E [(0,.sl .ro 2 (hs.map (rHeader .ro))),(1,.s name),(6,.s s.1),(7,.b s.2),(8,.i .i64 k)],B []⟩) (fun s=>⟨E [(6,.s s.1),(7,.b s.2)],B []⟩) (fun x s=>joinStep name s x) (fun k s=>s.1.size ≤ k * 1048578)
   (fun s hI G=>by simp only [go_sem,reduceIte,↓reduceIte,reduceCtorEq,nA,nS,nM,nB,nE,nL,nT,nN,iL,iT,iE,iA,iM,iS,iG,iB,iN,iZ,h,Int.lt_irrefl,hb0,h0.1]) (fun k hk s hI=>by
    have h1 : ((k : Int) < (hs.length : Int)):=Int.ofNat_lt.2 hk
    obtain ⟨u1,u2⟩:=h0.2.1.2 _ (List.getElem_mem hk)
    have u2' : hs[k].Value.size ≤ 1048576:=u2
    have hJ:=joinStep_size (n:=name) hI u2'
    have hl:=h0.1
    have e0 : (⟨#[44,32]⟩ : ByteArray).size = 2:=rfl
    have e1 : s.1.size + 2 ≤ 9223372036854775807:=by omega
    have e1' : s.1.size + (⟨#[44,32]⟩ : ByteArray).size ≤ 9223372036854775807:=e1
    have e2 : s.1.size + hs[k].Value.size ≤ 9223372036854775807:=by omega
    have e3 : s.1.size + 2 + hs[k].Value.size ≤ 9223372036854775807:=by omega
    have n1 : hs[k].Name.size ≤ 9223372036854775806 ∧ name.size ≤ 9223372036854775806:=⟨by have : hs[k].Name.size ≤ 1048576:=u1; omega,of_decide_eq_true h0.2.2⟩
    cases d1 : eqv (lowS hs[k].Name) (lowS name) <;> cases d2 : s.2
    all_goals exact ⟨hJ,_,fun G=>by simp only [go_sem,reduceIte,↓reduceIte,reduceCtorEq,nA,nS,nM,nB,nE,nL,nT,nN,iL,iT,iE,iA,iM,iS,iG,iB,iN,iZ,h,e0,e1,e2,e3,map_gd (rHeader .ro) hs k hk,n1,d1,d2,ByteArray.size_append,h1,idx_nt _ _ hk,wrap_nat1 (show k < 9223372036854775807 by omega),hb0] <;> with_reducible rfl,by simp only [go_sem,reduceIte,↓reduceIte,reduceCtorEq,nA,nS,nM,nB,nE,nL,nT,nN,iL,iT,iE,iA,iM,iS,iG,iB,iN,iZ,h,d1,d2,joinStep]⟩) (⟨#[]⟩,false) (by show 0 ≤ _; omega) (hs.length + 1) (Nat.le_refl _)
 rw [hb0] at hr
 unfold joinV at hj
 simp only [go_sem,reduceIte,↓reduceIte,reduceCtorEq,nA,nS,nM,nB,nE,nL,nT,nN,iL,iT,iE,iA,iM,iS,iG,iB,iN,iZ,h,hr,joinV,hj]) (rfl)
def s88 : SP Tryz.prog:=mkS tyA 88 Tryz.f88 [s114,s192,s193,s194] { md:=[.ro 1],rg:=[(0,[1],[1]),(1,[1,25],[1]),(2,[2],[]),(3,[1,3],[1]),(4,[1,3,30],[1]),(5,[2],[]),(6,[1,5],[1]),(7,[1,38],[1]),(8,[2],[]),(9,[42],[]),(10,[2],[]),(11,[2],[])],rets:=some ([2],[]),al:=[32] } Tryz.func88 (by kernel_rfl)
@[go_sem] theorem d88 : s88.g = 88 ∧ s88.fs = ⟨[.ro 1],s88.F,false⟩:=⟨nr rfl,nr rfl⟩
@[go_sem] theorem e88 (z2 z3 z4 : ByteArray) (z5 : List Header) (h0 : smL smHeader (Request.mk z2 z3 z4 z5).Headers) : s88.F [.agg [.s z2,.s z3,.s z4,.sl .ro 2 (z5.map (rHeader .ro))]] = some (.i .i64 (requestFault (Request.mk z2 z3 z4 z5)),[.u]):=mkS_eq (0) rfl rfl (fun cx h=>by
 have hm : isMethod z2 = (eqv z2 ⟨#[71,69,84]⟩ || eqv z2 ⟨#[72,69,65,68]⟩):=rfl
 have key : ∀ m : Bool,isMethod z2 = m → (isMethod z2 && isHost z3 && isPath z4) = (m && isHost z3 && isPath z4):=fun m h=>by rw [h]
 have hn1 : okN ⟨#[72,111,115,116]⟩ = true:=by decide
 have hn2 : okN ⟨#[104,111,115,116]⟩ = true:=by decide
 rcases (show (isMethod z2 = false ∧ eqv z2 ⟨#[71,69,84]⟩ = false ∧ eqv z2 ⟨#[72,69,65,68]⟩ = false) ∨ (isMethod z2 = true ∧ eqv z2 ⟨#[71,69,84]⟩ = true) ∨ (isMethod z2 = true ∧ eqv z2 ⟨#[71,69,84]⟩ = false ∧ eqv z2 ⟨#[72,69,65,68]⟩ = true) from by
  rw [hm]; cases eqv z2 ⟨#[71,69,84]⟩ <;> cases eqv z2 ⟨#[72,69,65,68]⟩ <;> simp) with ⟨m0,m1,m2⟩ | ⟨m0,m1⟩ | ⟨m0,m1,m2⟩
 ·simp only [go_sem,reduceIte,↓reduceIte,reduceCtorEq,nA,nS,nM,nB,nE,nL,nT,nN,iL,iT,iE,iA,iM,iS,iG,iB,iN,iZ,h,m0,m1,m2,eqv_bytesne,eqv_bytes,requestFault]
 ·cases h2 : isHost z3
  ·simp only [go_sem,reduceIte,↓reduceIte,reduceCtorEq,nA,nS,nM,nB,nE,nL,nT,nN,iL,iT,iE,iA,iM,iS,iG,iB,iN,iZ,h,h2,m0,m1,eqv_bytesne,eqv_bytes,requestFault]
  cases h3 : isPath z4
  ·simp only [go_sem,reduceIte,↓reduceIte,reduceCtorEq,nA,nS,nM,nB,nE,nL,nT,nN,iL,iT,iE,iA,iM,iS,iG,iB,iN,iZ,h,h2,h3,m0,m1,eqv_bytesne,eqv_bytes,requestFault]
  by_cases z : headersFault z5 = 0
  rotate_left
  ·have z' : (headersFault z5 != 0) = true:=by simpa using z
   simp only [go_sem,reduceIte,↓reduceIte,reduceCtorEq,nA,nS,nM,nB,nE,nL,nT,nN,iL,iT,iE,iA,iM,iS,iG,iB,iN,iZ,h,h2,h3,z',m0,m1,eqv_bytesne,eqv_bytes,requestFault]
  have z' : (headersFault z5 != 0) = false:=by simpa using z
  have h4 : z5.length ≤ 20 ∧ smL smHeader z5 ∧ okN ⟨#[72,111,115,116]⟩ = true:=⟨headersFault_ok z,h0,hn1⟩
  have h5 : z5.length ≤ 20 ∧ smL smHeader z5 ∧ okN ⟨#[104,111,115,116]⟩ = true:=⟨headersFault_ok z,h0,hn2⟩
  have h6:=valsOf_pos z5 ⟨#[72,111,115,116]⟩
  have h7:=hasV_host z5
  cases h8 : hasV z5 ⟨#[72,111,115,116]⟩
  ·by_cases h9 : 20 ≤ (z5.length : Int)
   ·have h10 : ((z5.length : Int) == 20) = true:=by have:=h4.1; simp; omega
    simp only [go_sem,reduceIte,↓reduceIte,reduceCtorEq,nA,nS,nM,nB,nE,nL,nT,nN,iL,iT,iE,iA,iM,iS,iG,iB,iN,iZ,h,h2,h3,z,h4,h5,h6,h7,h8,h9,h10,m0,m1,eqv_bytesne,eqv_bytes,requestFault]
   ·have h10 : ((z5.length : Int) == 20) = false:=by have:=h4.1; simp; omega
    simp only [go_sem,reduceIte,↓reduceIte,reduceCtorEq,nA,nS,nM,nB,nE,nL,nT,nN,iL,iT,iE,iA,iM,iS,iG,iB,iN,iZ,h,h2,h3,z,h4,h5,h6,h7,h8,h9,h10,m0,m1,eqv_bytesne,eqv_bytes,requestFault]
  ·simp only [go_sem,reduceIte,↓reduceIte,reduceCtorEq,nA,nS,nM,nB,nE,nL,nT,nN,iL,iT,iE,iA,iM,iS,iG,iB,iN,iZ,h,h2,h3,z,h4,h5,h6,h7,h8,m0,m1,eqv_bytesne,eqv_bytes,requestFault]
 ·cases h2 : isHost z3
  ·simp only [go_sem,reduceIte,↓reduceIte,reduceCtorEq,nA,nS,nM,nB,nE,nL,nT,nN,iL,iT,iE,iA,iM,iS,iG,iB,iN,iZ,h,h2,m0,m1,m2,eqv_bytesne,eqv_bytes,requestFault]
  cases h3 : isPath z4
  ·simp only [go_sem,reduceIte,↓reduceIte,reduceCtorEq,nA,nS,nM,nB,nE,nL,nT,nN,iL,iT,iE,iA,iM,iS,iG,iB,iN,iZ,h,h2,h3,m0,m1,m2,eqv_bytesne,eqv_bytes,requestFault]
  by_cases z : headersFault z5 = 0
  rotate_left
  ·have z' : (headersFault z5 != 0) = true:=by simpa using z
   simp only [go_sem,reduceIte,↓reduceIte,reduceCtorEq,nA,nS,nM,nB,nE,nL,nT,nN,iL,iT,iE,iA,iM,iS,iG,iB,iN,iZ,h,h2,h3,z',m0,m1,m2,eqv_bytesne,eqv_bytes,requestFault]
  have z' : (headersFault z5 != 0) = false:=by simpa using z
  have h4 : z5.length ≤ 20 ∧ smL smHeader z5 ∧ okN ⟨#[72,111,115,116]⟩ = true:=⟨headersFault_ok z,h0,hn1⟩
  have h5 : z5.length ≤ 20 ∧ smL smHeader z5 ∧ okN ⟨#[104,111,115,116]⟩ = true:=⟨headersFault_ok z,h0,hn2⟩
  have h6:=valsOf_pos z5 ⟨#[72,111,115,116]⟩
  have h7:=hasV_host z5
  cases h8 : hasV z5 ⟨#[72,111,115,116]⟩
  ·by_cases h9 : 20 ≤ (z5.length : Int)
   ·have h10 : ((z5.length : Int) == 20) = true:=by have:=h4.1; simp; omega
    simp only [go_sem,reduceIte,↓reduceIte,reduceCtorEq,nA,nS,nM,nB,nE,nL,nT,nN,iL,iT,iE,iA,iM,iS,iG,iB,iN,iZ,h,h2,h3,z,h4,h5,h6,h7,h8,h9,h10,m0,m1,m2,eqv_bytesne,eqv_bytes,requestFault]
   ·have h10 : ((z5.length : Int) == 20) = false:=by have:=h4.1; simp; omega
    simp only [go_sem,reduceIte,↓reduceIte,reduceCtorEq,nA,nS,nM,nB,nE,nL,nT,nN,iL,iT,iE,iA,iM,iS,iG,iB,iN,iZ,h,h2,h3,z,h4,h5,h6,h7,h8,h9,h10,m0,m1,m2,eqv_bytesne,eqv_bytes,requestFault]
  ·simp only [go_sem,reduceIte,↓reduceIte,reduceCtorEq,nA,nS,nM,nB,nE,nL,nT,nN,iL,iT,iE,iA,iM,iS,iG,iB,iN,iZ,h,h2,h3,z,h4,h5,h6,h7,h8,m0,m1,m2,eqv_bytesne,eqv_bytes,requestFault]) (rfl)
def s113 : SP Tryz.prog:=mkS tyA 113 Tryz.f113 [] { md:=[.ro 1,.ro 1,.ro 1],rets:=some ([6],[]) } Tryz.func113 (by kernel_rfl)
@[go_sem] theorem d113 : s113.g = 113 ∧ s113.fs = ⟨[.ro 1,.ro 1,.ro 1],s113.F,false⟩:=⟨nr rfl,nr rfl⟩
@[go_sem] theorem e113 (a b c : Int) : s113.F [.i .i64 a,.i .i64 b,.i .i64 c] = some (.b (within a b c),[.u,.u,.u]):=mkS_eq (0) rfl rfl (fun cx h=>by
 simp only [go_sem,reduceIte,↓reduceIte,reduceCtorEq,nA,nS,nM,nB,nE,nL,nT,nN,iL,iT,iE,iA,iM,iS,iG,iB,iN,iZ,h,within]
 by_cases h : b ≤ a <;> simp [h]) (rfl)
def s129 : SP Tryz.prog:=mkS tyA 129 Tryz.f129 [s113] { md:=[.ro 1],rets:=some ([2],[]) } Tryz.func129 (by kernel_rfl)
@[go_sem] theorem d129 : s129.g = 129 ∧ s129.fs = ⟨[.ro 1],s129.F,false⟩:=⟨nr rfl,nr rfl⟩
@[go_sem] theorem e129 (a : Int) : s129.F [.i .i64 a] = some (.b (isTime a),[.u]):=mkS_eq (0) rfl rfl (fun cx h=>by
 simp only [go_sem,reduceIte,↓reduceIte,reduceCtorEq,nA,nS,nM,nB,nE,nL,nT,nN,iL,iT,iE,iA,iM,iS,iG,iB,iN,iZ,h,isTime]) (rfl)
def s81 : SP Tryz.prog:=mkS tyA 81 Tryz.f81 [s82,s88,s129] { md:=[.ro 1],rg:=[(0,[1],[1]),(1,[1,14],[1]),(2,[2],[]),(3,[1,24],[1]),(4,[2],[]),(5,[1,3],[1]),(6,[1,3,29],[1]),(7,[2],[]),(8,[1,38],[1]),(9,[2],[]),(10,[1,42],[1]),(11,[2],[]),(12,[1,4],[1]),(13,[1,4,47],[1]),(14,[1,4],[1]),(15,[1,4,67],[1]),(16,[2],[]),(17,[70],[]),(18,[2],[]),(19,[2],[])],lv:=[(0,[1,4],[1])],out:=[(0,[1],[1])],rets:=some ([2],[]) } Tryz.func81 (by kernel_rfl)
@[go_sem] theorem d81 : s81.g = 81 ∧ s81.fs = ⟨[.ro 1],s81.F,false⟩:=⟨nr rfl,nr rfl⟩
@[go_sem] theorem e81 (fId : Int) (z6 : ByteArray) (z7 z8 : Bool) (z9 : Int) (z10 : Bool) (z11 z12 z13 : ByteArray) (fGetHeaders : List Header) (z14 : List Waiter) (h0 : smL smHeader (Flight.mk fId z6 z7 z8 z9 z10 (Request.mk z11 z12 z13 fGetHeaders) z14).Get.Headers) : s81.F [.agg [.i .i64 fId,.s z6,.b z7,.b z8,.i .i64 z9,.b z10,.s z11,.s z12,.s z13,.sl .ro 2 (fGetHeaders.map (rHeader .ro)),.sl .ro 4 (z14.map (rWaiter .ro))]] = some (.i .i64 (flightFault (Flight.mk fId z6 z7 z8 z9 z10 (Request.mk z11 z12 z13 fGetHeaders) z14)),[.u]):=mkS_eq (z14.length + 1) rfl rfl (fun cx h=>by
 have hH : smL smHeader fGetHeaders:=h0
 cases t1 : isTime fId
 ·simp only [go_sem,reduceIte,↓reduceIte,reduceCtorEq,nA,nS,nM,nB,nE,nL,nT,nN,iL,iT,iE,iA,iM,iS,iG,iB,iN,iZ,h,t1,flightFault]
 cases t2 : isTime z9
 ·simp only [go_sem,reduceIte,↓reduceIte,reduceCtorEq,nA,nS,nM,nB,nE,nL,nT,nN,iL,iT,iE,iA,iM,iS,iG,iB,iN,iZ,h,t1,t2,flightFault]
 have hku : isKey z6 = (decide (1 ≤ (z6.size : Int)) && decide ((z6.size : Int) ≤ 500)):=rfl
 by_cases k1 : (z6.size : Int) < 1
 ·have hk : isKey z6 = false:=by rw [hku]; simp; omega
  simp only [go_sem,reduceIte,↓reduceIte,reduceCtorEq,nA,nS,nM,nB,nE,nL,nT,nN,iL,iT,iE,iA,iM,iS,iG,iB,iN,iZ,h,t1,t2,k1,hk,flightFault]
 by_cases k2 : 500 < (z6.size : Int)
 ·have hk : isKey z6 = false:=by rw [hku]; simp; omega
  simp only [go_sem,reduceIte,↓reduceIte,reduceCtorEq,nA,nS,nM,nB,nE,nL,nT,nN,iL,iT,iE,iA,iM,iS,iG,iB,iN,iZ,h,t1,t2,k1,k2,hk,flightFault]
 have hk : isKey z6 = true:=by rw [hku]; simp; omega
 by_cases z : requestFault (Request.mk z11 z12 z13 fGetHeaders) = 0
 rotate_left
 ·have z' : (requestFault (Request.mk z11 z12 z13 fGetHeaders) != 0) = true:=by simpa using z
  simp only [go_sem,reduceIte,↓reduceIte,reduceCtorEq,nA,nS,nM,nB,nE,nL,nT,nN,iL,iT,iE,iA,iM,iS,iG,iB,iN,iZ,h,t1,t2,k1,k2,hk,hH,z',flightFault]
 rcases (show (z8 = true ∧ True) ∨ (z8 = false ∧ (z9 != 0) = false) ∨ (z8 = false ∧ (z9 != 0) = true) from by cases z8 <;> cases (z9 != 0) <;> simp) with ⟨o1,o2⟩ | ⟨o1,o2⟩ | ⟨o1,o2⟩
 rotate_left
 rotate_left
 ·simp only [go_sem,reduceIte,↓reduceIte,reduceCtorEq,nA,nS,nM,nB,nE,nL,nT,nN,iL,iT,iE,iA,iM,iS,iG,iB,iN,iZ,h,t1,t2,k1,k2,hk,hH,z,o1,o2,flightFault]
 all_goals
  by_cases w1 : 10 < (z14.length : Int)
  ·simp only [go_sem,reduceIte,↓reduceIte,reduceCtorEq,nA,nS,nM,nB,nE,nL,nT,nN,iL,iT,iE,iA,iM,iS,iG,iB,iN,iZ,h,t1,t2,k1,k2,hk,hH,z,o1,o2,w1,flightFault]
  have hx : z14.length ≤ 9223372036854775806:=by omega
  have hb0:=loopN_eq Tryz.f81 0 _ _ rfl rfl
  obtain ⟨r,hr,hq⟩:=loop_list (cx:=cx) (blk:=0) (body:=loopN Tryz.f81 0) z14 (fun k (s : Unit)=>⟨E [(1,.p ⟨false,1,[],0⟩),(4,.i .i64 k)],B [(1,[.i .i64 fId,.s z6,.b z7,.b z8,.i .i64 z9,.b z10,.s z11,.s z12,.s z13,.sl .ro 2 (fGetHeaders.map (rHeader .ro)),.sl .ro 4 (z14.map (rWaiter .ro))])]⟩) (fun s=>⟨E [(1,.p ⟨false,1,[],0⟩)],B [(1,[.i .i64 fId,.s z6,.b z7,.b z8,.i .i64 z9,.b z10,.s z11,.s z12,.s z13,.sl .ro 2 (fGetHeaders.map (rHeader .ro)),.sl .ro 4 (z14.map (rWaiter .ro))])]⟩) (fun x s=>!isReqW x) (fun x s=>()) (fun x s=>(.ret,⟨E [(2,.i .i64 3)],B []⟩)) (fun k s=>True)
    (fun s hI G=>by simp only [go_sem,reduceIte,↓reduceIte,reduceCtorEq,nA,nS,nM,nB,nE,nL,nT,nN,iL,iT,iE,iA,iM,iS,iG,iB,iN,iZ,h,Int.lt_irrefl,hb0,hx,o1]) (fun k hk s hI=>by
     have h1 : ((k : Int) < (z14.length : Int)):=Int.ofNat_lt.2 hk
     have hu : isReqW z14[k] = (isTime z14[k].Req && isTime z14[k].Due):=rfl
     by_cases c0 : isReqW z14[k] = true
     ·skip
      have c2:=c0
      rw [hu,Bool.and_eq_true] at c2
      obtain ⟨a1,a2⟩:=c2
      all_goals exact .inr ⟨by rw [c0]; rfl,trivial,_,fun G=>by simp only [go_sem,reduceIte,↓reduceIte,reduceCtorEq,nA,nS,nM,nB,nE,nL,nT,nN,iL,iT,iE,iA,iM,iS,iG,iB,iN,iZ,h,map_gd (rWaiter .ro) z14 _ hk,o1,a1,a2,h1,idx_nt _ _ hk,wrap_nat1 (show k < 9223372036854775807 by omega),hb0] <;> with_reducible rfl,by simp only [go_sem,reduceIte,↓reduceIte,reduceCtorEq,nA,nS,nM,nB,nE,nL,nT,nN,iL,iT,iE,iA,iM,iS,iG,iB,iN,iZ,h,o1]⟩
     ·have c1 : isReqW z14[k] = false:=by simpa using c0
      have c2:=c1
      rw [hu] at c2
      rcases (show (isTime z14[k].Req = false ∧ True) ∨ (isTime z14[k].Req = true ∧ isTime z14[k].Due = false) from by cases h3 : isTime z14[k].Req <;> simp [h3] at c2 ⊢; exact c2) with ⟨a1,a2⟩ | ⟨a1,a2⟩
      all_goals exact .inl ⟨by rw [c1]; rfl,fun G=>by simp only [go_sem,reduceIte,↓reduceIte,reduceCtorEq,nA,nS,nM,nB,nE,nL,nT,nN,iL,iT,iE,iA,iM,iS,iG,iB,iN,iZ,h,map_gd (rWaiter .ro) z14 _ hk,o1,a1,a2,h1,idx_nt _ _ hk,wrap_nat1 (show k < 9223372036854775807 by omega),hb0]⟩) () trivial (z14.length + 1) (Nat.le_refl _)
  rw [hb0] at hr
  simp only [o1] at hr
  have hn:=any_not isReqW z14
  rcases hq with ⟨s',e1,_,e3⟩ | ⟨x,s',e1,e3⟩
  ·have e2:=runS_all e1
   cases w3 : tw [] z14 <;> simp only [go_sem,reduceIte,↓reduceIte,reduceCtorEq,nA,nS,nM,nB,nE,nL,nT,nN,iL,iT,iE,iA,iM,iS,iG,iB,iN,iZ,h,t1,t2,k1,k2,hk,hH,z,o1,o2,w1,hx,hr,e3,hn,e2,w3,flightFault]
  ·have e2:=runS_all' e1
   simp only [go_sem,reduceIte,↓reduceIte,reduceCtorEq,nA,nS,nM,nB,nE,nL,nT,nN,iL,iT,iE,iA,iM,iS,iG,iB,iN,iZ,h,t1,t2,k1,k2,hk,hH,z,o1,o2,w1,hx,hr,e3,hn,e2,flightFault]) (rfl)
end
end Go.Vm.A
