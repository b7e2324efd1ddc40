/- Functions of the program, walked by the evaluator. -/
import Derived.Test.YtnbhkifknleipaaGreatDoorWb
import Derived.Test.YtnbhkifknleipaaGreatDoorWa
import Derived.Test.YtnbhkifknleipaaGreatDoorFa
import Derived.Test.YtnbhkifknleipaaGreatDoorFb
import Derived.Test.YtnbhkifknleipaaGreatDoorFc
import Derived.Test.YtnbhkifknleipaaGreatDoorFg
import Derived.Test.YtnbhkifknleipaaGreatDoorFh
set_option linter.unusedVariables false
set_option linter.unusedSimpArgs false
set_option autoImplicit false
set_option maxRecDepth 100000
set_option maxHeartbeats 4000000
namespace Go.Vm.A
open Go.Proofs
open Nat renaming reduceAdd → nA, reduceSub → nS, reduceMul → nM, reduceBEq → nB, reduceEqDiff → nE, reduceLeDiff → nL, reduceLT → nT, reduceBneDiff → nN
open Int renaming reduceLE → iL, reduceLT → iT, reduceEq → iE, reduceAdd → iA, reduceMul → iM, reduceSub → iS, reduceNeg → iG, reduceBEq → iB, reduceBNe → iN, reduceToNat → iZ
noncomputable section
def zConfig : Config:=⟨0,0,0,0,0,0,0,0,[],⟨0,0,0⟩,⟨0,0,0,0,0⟩⟩
def zShield : Shield:=⟨zConfig,0,0,⟨0,0,[],[]⟩,[],[]⟩
def freshShield (c : Config) : Shield:=⟨c,0,0,⟨c.Budget,c.Guard,[],[]⟩,[],[]⟩
def newShield (c : Config) : ShieldResult:=if (configFault c != 0) = true then ⟨configFault c,zShield⟩ else ⟨0,freshShield c⟩
theorem smL_nil {α : Type} (p : α → Prop) : smL p []:=⟨Nat.zero_le _,fun x hx=>by cases hx⟩
theorem freshShield_sm {c : Config} (h : smConfig c) : smShield (freshShield c):=⟨h,trivial,trivial,⟨trivial,trivial,smL_nil _,smL_nil _⟩,smL_nil _,smL_nil _⟩
@[go_sem] theorem e127_0 (z0 z1 z2 z3 z4 z5 z6 z7 : Int) (z8 : List ByteArray) (z9 z10 z11 z12 z13 z14 z15 z16 : Int) (h0 : smConfig (Config.mk z0 z1 z2 z3 z4 z5 z6 z7 z8 (Lanes.mk z9 z10 z11) (Rules.mk z12 z13 z14 z15 z16))) : s127.F [.agg [.i .i64 z0,.i .i64 z1,.i .i64 z2,.i .i64 z3,.i .i64 z4,.i .i64 z5,.i .i64 z6,.i .i64 z7,.sl .ro 1 (z8.map rStr),.i .i64 z9,.i .i64 z10,.i .i64 z11,.i .i64 z12,.i .i64 z13,.i .i64 z14,.i .i64 z15,.i .i64 z16,.i .i64 0,.i .i64 0,.i .i64 z0,.i .i64 z1,.sl .ro 13 [],.sl .ro 13 [],.sl .ro 7 [],.sl .ro 11 []]] = some (.agg [.i .i64 z0,.i .i64 z1,.i .i64 z2,.i .i64 z3,.i .i64 z4,.i .i64 z5,.i .i64 z6,.i .i64 z7,.sl .mut 1 (z8.map rStr),.i .i64 z9,.i .i64 z10,.i .i64 z11,.i .i64 z12,.i .i64 z13,.i .i64 z14,.i .i64 z15,.i .i64 z16,.i .i64 0,.i .i64 0,.i .i64 z0,.i .i64 z1,.sl .mut 13 [],.sl .mut 13 [],.sl .mut 7 [],.sl .mut 11 []],[.u]):=e127 z0 z1 z2 z3 z4 z5 z6 z7 z8 z9 z10 z11 z12 z13 z14 z15 z16 0 0 z0 z1 [] [] [] [] (freshShield_sm h0)
def s45 : SP Tryz.prog:=mkS tyA 45 Tryz.f45 [s49,s127] { md:=[.ro 1],rg:=[(0,[1,2,17],[1,2]),(1,[1,2,3,17],[1,2]),(2,[1,2,3,7,17],[1,2]),(3,[2,17],[2]),(4,[2,17],[2])],rets:=some ([2,17],[2]) } Tryz.func45 (by kernel_rfl)
@[go_sem] theorem d45 : s45.g = 45 ∧ s45.fs = ⟨[.ro 1],s45.F,false⟩:=⟨nr rfl,nr rfl⟩
@[go_sem] theorem e45 (z0 z1 z2 z3 z4 z5 z6 z7 : Int) (z8 : List ByteArray) (z9 z10 z11 z12 z13 z14 z15 z16 : Int) (h0 : smConfig (Config.mk z0 z1 z2 z3 z4 z5 z6 z7 z8 (Lanes.mk z9 z10 z11) (Rules.mk z12 z13 z14 z15 z16))) : s45.F [.agg [.i .i64 z0,.i .i64 z1,.i .i64 z2,.i .i64 z3,.i .i64 z4,.i .i64 z5,.i .i64 z6,.i .i64 z7,.sl .ro 1 (z8.map rStr),.i .i64 z9,.i .i64 z10,.i .i64 z11,.i .i64 z12,.i .i64 z13,.i .i64 z14,.i .i64 z15,.i .i64 z16]] = some (.agg (rShieldResult .mut (newShield (Config.mk z0 z1 z2 z3 z4 z5 z6 z7 z8 (Lanes.mk z9 z10 z11) (Rules.mk z12 z13 z14 z15 z16)))),[.u]):=mkS_eq (0) rfl rfl (fun cx h=>by
 have hN:=h0.2.2.2.2.2.2.2.2.1
 simp only at hN
 by_cases z : configFault (Config.mk z0 z1 z2 z3 z4 z5 z6 z7 z8 (Lanes.mk z9 z10 z11) (Rules.mk z12 z13 z14 z15 z16)) = 0
 rotate_left
 ·have z' : (configFault (Config.mk z0 z1 z2 z3 z4 z5 z6 z7 z8 (Lanes.mk z9 z10 z11) (Rules.mk z12 z13 z14 z15 z16)) != 0) = true:=by simpa using z
  simp only [go_sem,reduceIte,↓reduceIte,reduceCtorEq,nA,nS,nM,nB,nE,nL,nT,nN,iL,iT,iE,iA,iM,iS,iG,iB,iN,iZ,h,z',newShield,zShield,zConfig]
 simp only [go_sem,reduceIte,↓reduceIte,reduceCtorEq,nA,nS,nM,nB,nE,nL,nT,nN,iL,iT,iE,iA,iM,iS,iG,iB,iN,iZ,h,z,hN,h0,newShield,freshShield]) (by simp only [go_sem,reduceIte,↓reduceIte,reduceCtorEq,nA,nS,nM,nB,nE,nL,nT,nN,iL,iT,iE,iA,iM,iS,iG,iB,iN,iZ,okRes,hasRo,hasRoL,hasRoLL])
def s46 : SP Tryz.prog:=mkS tyA 46 Tryz.f46 [s67,s74] { md:=[.ro 1],rg:=[(0,[0],[]),(1,[4],[6]),(2,[2,3],[])],rets:=some ([2,3],[]) } Tryz.func46 (by kernel_rfl)
@[go_sem] theorem d46 : s46.g = 46 ∧ s46.fs = ⟨[.ro 1],s46.F,false⟩:=⟨nr rfl,nr rfl⟩
@[go_sem] theorem e46 (code : List UInt8) : s46.F [.sl .ro 1 (code.map rByte)] = some (.tup [.i .i64 (pickV code 0 [0,1000,1000000,1000001,-1]),.i .i64 (pickV code 1 [0,500,1000,1001,-1])],[.u]):=mkS_eq (0) rfl rfl (fun cx h=>by
 have f0 : aOk 0 = true:=rfl
 have f1 : aOk 1 = true:=rfl
 simp only [go_sem,reduceIte,↓reduceIte,reduceCtorEq,nA,nS,nM,nB,nE,nL,nT,nN,iL,iT,iE,iA,iM,iS,iG,iB,iN,iZ,h,f0,f1]) (rfl)
def s113 : SP Tryz.prog:=mkS tyA 113 Tryz.f113 [] { md:=[.ro 1,.ro 1,.ro 1],rets:=some ([6],[]) } Tryz.func113 (by kernel_rfl)
@[go_sem] theorem d113 : s113.g = 113 ∧ s113.fs = ⟨[.ro 1,.ro 1,.ro 1],s113.F,false⟩:=⟨nr rfl,nr rfl⟩
@[go_sem] theorem e113 (a b c : Int) : s113.F [.i .i64 a,.i .i64 b,.i .i64 c] = some (.b (within a b c),[.u,.u,.u]):=mkS_eq (0) rfl rfl (fun cx h=>by
 simp only [go_sem,reduceIte,↓reduceIte,reduceCtorEq,nA,nS,nM,nB,nE,nL,nT,nN,iL,iT,iE,iA,iM,iS,iG,iB,iN,iZ,h,within]
 by_cases h : b ≤ a <;> simp [h]) (rfl)
def s282 : SP Tryz.prog:=mkS tyA 282 Tryz.f282 [] { md:=[.ro 1],rets:=some ([2],[]) } Tryz.func282 (by kernel_rfl)
@[go_sem] theorem d282 : s282.g = 282 ∧ s282.fs = ⟨[.ro 1],s282.F,false⟩:=⟨nr rfl,nr rfl⟩
@[go_sem] theorem e282 (c : UInt8) : s282.F [.i .u8 c.toNat] = some (.b (letterB c),[.u]):=mkS_eq (0) rfl rfl (fun cx h=>by
 by_cases h1 : 97 ≤ (c.toNat : Int) <;> by_cases h2 : (c.toNat : Int) ≤ 122 <;> by_cases h3 : 65 ≤ (c.toNat : Int) <;> by_cases h4 : (c.toNat : Int) ≤ 90 <;> simp only [go_sem,reduceIte,↓reduceIte,reduceCtorEq,nA,nS,nM,nB,nE,nL,nT,nN,iL,iT,iE,iA,iM,iS,iG,iB,iN,iZ,h,h1,h2,h3,h4,letterB]) (rfl)
def s283 : SP Tryz.prog:=mkS tyA 283 Tryz.f283 [] { md:=[.ro 1],rets:=some ([2],[]) } Tryz.func283 (by kernel_rfl)
@[go_sem] theorem d283 : s283.g = 283 ∧ s283.fs = ⟨[.ro 1],s283.F,false⟩:=⟨nr rfl,nr rfl⟩
@[go_sem] theorem e283 (c : UInt8) : s283.F [.i .u8 c.toNat] = some (.b (digitB c),[.u]):=mkS_eq (0) rfl rfl (fun cx h=>by
 by_cases h1 : 48 ≤ (c.toNat : Int) <;> by_cases h2 : (c.toNat : Int) ≤ 57 <;> simp only [go_sem,reduceIte,↓reduceIte,reduceCtorEq,nA,nS,nM,nB,nE,nL,nT,nN,iL,iT,iE,iA,iM,iS,iG,iB,iN,iZ,h,h1,h2,digitB]) (rfl)
theorem wx : (1 : Int) = 1:=rfl
def s254 : SP Tryz.prog:=mkS tyA 254 Tryz.f254 [s282,s283] { md:=[.ro 1],rg:=[(0,[0],[]),(1,[0,3],[]),(2,[0,3,4],[]),(3,[0,3,4],[]),(4,[0,3,4],[]),(5,[0,3,4],[]),(6,[0,3,4],[]),(7,[0,3,4],[]),(8,[0,3,4],[]),(9,[0,3,4],[]),(10,[0,3,4],[]),(11,[0,3,4],[]),(12,[0,3,4],[]),(13,[0,3,4],[]),(14,[0,3,4],[]),(15,[0,4],[]),(16,[2],[]),(17,[2],[])],rets:=some ([2],[]) } Tryz.func254 (by kernel_rfl)
@[go_sem] theorem d254 : s254.g = 254 ∧ s254.fs = ⟨[.ro 1],s254.F,false⟩:=⟨nr rfl,nr rfl⟩
@[go_sem] theorem e254 (c : UInt8) : s254.F [.i .u8 c.toNat] = some (.b (wordB c),[.u]):=mkS_eq (0) rfl rfl (fun cx h=>by
 by_cases m : c ∈ symB
 ·have hw:=wordB_sym m
  simp only [symB,List.mem_cons,List.not_mem_nil,or_false] at m
  have u33 : (((33 : UInt8).toNat : Nat) : Int) = 33:=rfl
  have u35 : (((35 : UInt8).toNat : Nat) : Int) = 35:=rfl
  have u36 : (((36 : UInt8).toNat : Nat) : Int) = 36:=rfl
  have u37 : (((37 : UInt8).toNat : Nat) : Int) = 37:=rfl
  have u38 : (((38 : UInt8).toNat : Nat) : Int) = 38:=rfl
  have u39 : (((39 : UInt8).toNat : Nat) : Int) = 39:=rfl
  have u42 : (((42 : UInt8).toNat : Nat) : Int) = 42:=rfl
  have u43 : (((43 : UInt8).toNat : Nat) : Int) = 43:=rfl
  have u45 : (((45 : UInt8).toNat : Nat) : Int) = 45:=rfl
  have u46 : (((46 : UInt8).toNat : Nat) : Int) = 46:=rfl
  have u94 : (((94 : UInt8).toNat : Nat) : Int) = 94:=rfl
  have u95 : (((95 : UInt8).toNat : Nat) : Int) = 95:=rfl
  have u124 : (((124 : UInt8).toNat : Nat) : Int) = 124:=rfl
  have u126 : (((126 : UInt8).toNat : Nat) : Int) = 126:=rfl
  rcases m with rfl | rfl | rfl | rfl | rfl | rfl | rfl | rfl | rfl | rfl | rfl | rfl | rfl | rfl <;> simp only [go_sem,reduceIte,↓reduceIte,reduceCtorEq,nA,nS,nM,nB,nE,nL,nT,nN,iL,iT,iE,iA,iM,iS,iG,iB,iN,iZ,h,hw,wx,u33,u35,u36,u37,u38,u39,u42,u43,u45,u46,u94,u95,u124,u126]
 ·have hw:=wordB_not m
  have q33 : ((c.toNat : Int) == 33) = false:=byne (v:=33) (fun e=>m (by subst e; decide))
  have q35 : ((c.toNat : Int) == 35) = false:=byne (v:=35) (fun e=>m (by subst e; decide))
  have q36 : ((c.toNat : Int) == 36) = false:=byne (v:=36) (fun e=>m (by subst e; decide))
  have q37 : ((c.toNat : Int) == 37) = false:=byne (v:=37) (fun e=>m (by subst e; decide))
  have q38 : ((c.toNat : Int) == 38) = false:=byne (v:=38) (fun e=>m (by subst e; decide))
  have q39 : ((c.toNat : Int) == 39) = false:=byne (v:=39) (fun e=>m (by subst e; decide))
  have q42 : ((c.toNat : Int) == 42) = false:=byne (v:=42) (fun e=>m (by subst e; decide))
  have q43 : ((c.toNat : Int) == 43) = false:=byne (v:=43) (fun e=>m (by subst e; decide))
  have q45 : ((c.toNat : Int) == 45) = false:=byne (v:=45) (fun e=>m (by subst e; decide))
  have q46 : ((c.toNat : Int) == 46) = false:=byne (v:=46) (fun e=>m (by subst e; decide))
  have q94 : ((c.toNat : Int) == 94) = false:=byne (v:=94) (fun e=>m (by subst e; decide))
  have q95 : ((c.toNat : Int) == 95) = false:=byne (v:=95) (fun e=>m (by subst e; decide))
  have q124 : ((c.toNat : Int) == 124) = false:=byne (v:=124) (fun e=>m (by subst e; decide))
  have q126 : ((c.toNat : Int) == 126) = false:=byne (v:=126) (fun e=>m (by subst e; decide))
  cases h1 : letterB c <;> cases h2 : digitB c <;> simp only [go_sem,reduceIte,↓reduceIte,reduceCtorEq,nA,nS,nM,nB,nE,nL,nT,nN,iL,iT,iE,iA,iM,iS,iG,iB,iN,iZ,h,hw,h1,h2,q33,q35,q36,q37,q38,q39,q42,q43,q45,q46,q94,q95,q124,q126]) (rfl)
def s161 : SP Tryz.prog:=mkS tyA 161 Tryz.f161 [s254] { md:=[.ro 1],rg:=[(0,[0],[]),(1,[0,11],[]),(2,[2],[]),(3,[0,3],[]),(4,[0,3,15],[]),(5,[0,3],[]),(6,[0,3,22],[]),(7,[2],[]),(8,[2],[])],lv:=[(0,[0,3],[])],out:=[(0,[],[])],rets:=some ([2],[]) } Tryz.func161 (by kernel_rfl)
@[go_sem] theorem d161 : s161.g = 161 ∧ s161.fs = ⟨[.ro 1],s161.F,false⟩:=⟨nr rfl,nr rfl⟩
@[go_sem] theorem e161 (t : ByteArray) : s161.F [.s t] = some (.b (isWord t),[.u]):=mkS_eq (t.data.toList.length + 1) rfl rfl (fun cx h=>by
 have hu : isWord t = areB wordB 1 64 t:=rfl
 by_cases h1 : (t.size : Int) < 1
 ·simp only [go_sem,reduceIte,↓reduceIte,reduceCtorEq,nA,nS,nM,nB,nE,nL,nT,nN,iL,iT,iE,iA,iM,iS,iG,iB,iN,iZ,h,h1,hu,areB_short h1]
 by_cases h2 : 64 < (t.size : Int)
 ·simp only [go_sem,reduceIte,↓reduceIte,reduceCtorEq,nA,nS,nM,nB,nE,nL,nT,nN,iL,iT,iE,iA,iM,iS,iG,iB,iN,iZ,h,h1,h2,hu,areB_long h2]
 have hx : t.data.toList.length ≤ 9223372036854775806:=by rw [← str_size]; omega
 have ha:=areB_all (p:=wordB) h1 h2
 rw [str_size t] at h1 h2
 ·have hb0:=loopN_eq Tryz.f161 0 _ _ rfl rfl
  obtain ⟨r,hr,hq⟩:=loop_srch (cx:=cx) (blk:=0) (body:=loopN Tryz.f161 0) t.data.toList (fun k (s : Unit)=>⟨E [(0,.s t),(3,.i .i64 k)],B []⟩) (fun s=>⟨E [],B []⟩) (fun x s=>!wordB x) (fun x s=>()) (fun x s=>(.ret,⟨E [(2,.b false)],B []⟩)) (fun k s=>True)
    (fun s hI G=>by simp only [go_sem,reduceIte,↓reduceIte,reduceCtorEq,nA,nS,nM,nB,nE,nL,nT,nN,iL,iT,iE,iA,iM,iS,iG,iB,iN,iZ,h,Int.lt_irrefl,hb0,str_size t]) (fun k hk s hI=>by
     have h1 : ((k : Int) < (t.data.toList.length : Int)):=Int.ofNat_lt.2 hk
     have hz:=str_at t k hk
     exact ⟨_,_,_,fun G=>by simp only [go_sem,reduceIte,↓reduceIte,reduceCtorEq,nA,nS,nM,nB,nE,nL,nT,nN,iL,iT,iE,iA,iM,iS,iG,iB,iN,iZ,h,hz,str_size t,h1,idx_nt _ _ hk,wrap_nat1 (show k < 9223372036854775807 by omega),hb0] <;> with_reducible rfl,Iff.rfl,fun hc=>⟨trivial,by simp only [go_sem,reduceIte,↓reduceIte,reduceCtorEq,nA,nS,nM,nB,nE,nL,nT,nN,iL,iT,iE,iA,iM,iS,iG,iB,iN,iZ,h,str_size t]⟩⟩) () trivial (t.data.toList.length + 1) (Nat.le_refl _)
  rw [hb0] at hr
  rcases hq with ⟨s',e1,_,e3⟩ | ⟨x,s',e1,e3⟩
  ·simp only [go_sem,reduceIte,↓reduceIte,reduceCtorEq,nA,nS,nM,nB,nE,nL,nT,nN,iL,iT,iE,iA,iM,iS,iG,iB,iN,iZ,h,h1,h2,str_size t,hr,e3,hu,ha,runS_all e1]
  ·simp only [go_sem,reduceIte,↓reduceIte,reduceCtorEq,nA,nS,nM,nB,nE,nL,nT,nN,iL,iT,iE,iA,iM,iS,iG,iB,iN,iZ,h,h1,h2,str_size t,hr,e3,hu,ha,runS_all' e1]) (rfl)
def s342 : SP Tryz.prog:=mkS tyA 342 Tryz.f342 [] { md:=[.ro 1],rets:=some ([2],[]) } Tryz.func342 (by kernel_rfl)
@[go_sem] theorem d342 : s342.g = 342 ∧ s342.fs = ⟨[.ro 1],s342.F,false⟩:=⟨nr rfl,nr rfl⟩
@[go_sem] theorem e342 (c : UInt8) : s342.F [.i .u8 c.toNat] = some (.b (plainB c),[.u]):=mkS_eq (0) rfl rfl (fun cx h=>by
 cases h1 : ((c.toNat : Int) == 9) <;> by_cases h2 : 32 ≤ (c.toNat : Int) <;> by_cases h3 : (c.toNat : Int) ≤ 126 <;> simp only [go_sem,reduceIte,↓reduceIte,reduceCtorEq,nA,nS,nM,nB,nE,nL,nT,nN,iL,iT,iE,iA,iM,iS,iG,iB,iN,iZ,h,h1,h2,h3,plainB]) (rfl)
def s295 : SP Tryz.prog:=mkS tyA 295 Tryz.f295 [s342] { md:=[.ro 1],rg:=[(0,[0],[]),(1,[0,3],[]),(2,[0,3,7],[]),(3,[0,3],[]),(4,[0,3,14],[]),(5,[2],[]),(6,[2],[])],lv:=[(0,[0,3],[])],out:=[(0,[],[])],rets:=some ([2],[]) } Tryz.func295 (by kernel_rfl)
@[go_sem] theorem d295 : s295.g = 295 ∧ s295.fs = ⟨[.ro 1],s295.F,false⟩:=⟨nr rfl,nr rfl⟩
@[go_sem] theorem e295 (t : ByteArray) (h0 : (t.size : Int) ≤ 1000000) : s295.F [.s t] = some (.b (areP t),[.u]):=mkS_eq (t.data.toList.length + 1) rfl rfl (fun cx h=>by
 have hx : t.data.toList.length ≤ 9223372036854775806:=by rw [← str_size]; omega
 have hb0:=loopN_eq Tryz.f295 0 _ _ rfl rfl
 obtain ⟨r,hr,hq⟩:=loop_srch (cx:=cx) (blk:=0) (body:=loopN Tryz.f295 0) t.data.toList (fun k (s : Unit)=>⟨E [(0,.s t),(3,.i .i64 k)],B []⟩) (fun s=>⟨E [],B []⟩) (fun x s=>!plainB x) (fun x s=>()) (fun x s=>(.ret,⟨E [(2,.b false)],B []⟩)) (fun k s=>True)
   (fun s hI G=>by simp only [go_sem,reduceIte,↓reduceIte,reduceCtorEq,nA,nS,nM,nB,nE,nL,nT,nN,iL,iT,iE,iA,iM,iS,iG,iB,iN,iZ,h,Int.lt_irrefl,hb0,str_size t]) (fun k hk s hI=>by
    have h1 : ((k : Int) < (t.data.toList.length : Int)):=Int.ofNat_lt.2 hk
    have hz:=str_at t k hk
    exact ⟨_,_,_,fun G=>by simp only [go_sem,reduceIte,↓reduceIte,reduceCtorEq,nA,nS,nM,nB,nE,nL,nT,nN,iL,iT,iE,iA,iM,iS,iG,iB,iN,iZ,h,hz,str_size t,h1,idx_nt _ _ hk,wrap_nat1 (show k < 9223372036854775807 by omega),hb0] <;> with_reducible rfl,Iff.rfl,fun hc=>⟨trivial,by simp only [go_sem,reduceIte,↓reduceIte,reduceCtorEq,nA,nS,nM,nB,nE,nL,nT,nN,iL,iT,iE,iA,iM,iS,iG,iB,iN,iZ,h,str_size t]⟩⟩) () trivial (t.data.toList.length + 1) (Nat.le_refl _)
 rw [hb0] at hr
 rcases hq with ⟨s',e1,_,e3⟩ | ⟨x,s',e1,e3⟩
 ·simp only [go_sem,reduceIte,↓reduceIte,reduceCtorEq,nA,nS,nM,nB,nE,nL,nT,nN,iL,iT,iE,iA,iM,iS,iG,iB,iN,iZ,h,hr,e3,areP,runS_all e1]
 ·simp only [go_sem,reduceIte,↓reduceIte,reduceCtorEq,nA,nS,nM,nB,nE,nL,nT,nN,iL,iT,iE,iA,iM,iS,iG,iB,iN,iZ,h,hr,e3,areP,runS_all' e1]) (rfl)
def s343 : SP Tryz.prog:=mkS tyA 343 Tryz.f343 [] { md:=[.ro 1],rets:=some ([2],[]) } Tryz.func343 (by kernel_rfl)
@[go_sem] theorem d343 : s343.g = 343 ∧ s343.fs = ⟨[.ro 1],s343.F,false⟩:=⟨nr rfl,nr rfl⟩
@[go_sem] theorem e343 (c : UInt8) : s343.F [.i .u8 c.toNat] = some (.b (blankB c),[.u]):=mkS_eq (0) rfl rfl (fun cx h=>by
 cases h1 : ((c.toNat : Int) == 32) <;> cases h2 : ((c.toNat : Int) == 9) <;> simp only [go_sem,reduceIte,↓reduceIte,reduceCtorEq,nA,nS,nM,nB,nE,nL,nT,nN,iL,iT,iE,iA,iM,iS,iG,iB,iN,iZ,h,h1,h2,blankB]) (rfl)
def s296 : SP Tryz.prog:=mkS tyA 296 Tryz.f296 [s343] { md:=[.ro 1],rg:=[(0,[0],[]),(1,[0,3],[]),(2,[0,3,4],[]),(3,[0,3,4,15],[]),(4,[0,3,4],[]),(5,[0,3,4,27],[]),(6,[0,3,4],[]),(7,[2],[])],lv:=[(0,[0,3,4],[]),(2,[0,3,4],[])],out:=[(0,[0,3,4],[]),(2,[0,3,4],[])],rets:=some ([2],[]) } Tryz.func296 (by kernel_rfl)
@[go_sem] theorem d296 : s296.g = 296 ∧ s296.fs = ⟨[.ro 1],s296.F,false⟩:=⟨nr rfl,nr rfl⟩
@[go_sem] theorem e296 (t : ByteArray) (h0 : t.size ≤ 9223372036854775806) : s296.F [.s t] = some (.s (trimB t),[.u]):=mkS_eq (t.size + 1) rfl rfl (fun cx h=>by
 have hb:=loopN_eq Tryz.f296 0 _ _ rfl rfl
 have hb1:=loopN_eq Tryz.f296 1 _ _ rfl rfl
 have lp:=loop_gen (cx:=cx) (blk:=0) (body:=loopN Tryz.f296 0) (fun (k : Nat)=>⟨E [(0,.s t),(3,.i .i64 k),(4,.i .i64 t.size)],B []⟩) (fun k=>k ≤ t.size) (fun k=>t.size - k)
  (fun k r=>∃ f : Nat,k ≤ f ∧ f ≤ t.size ∧ (∀ j,k ≤ j → j < f → bl t j = true) ∧ (f < t.size → bl t f = false) ∧ r = some (.ex 0,⟨E [(0,.s t),(3,.i .i64 f),(4,.i .i64 t.size)],B []⟩)) (fun k hk=>by
  by_cases h1 : (k : Int) < (t.size : Int)
  ·have i1:=idx_nt t.size k (by omega)
   have w1:=wrap_nat1 (show k < 9223372036854775807 by omega)
   cases h2 : bl t k
   ·have h3 : blankB (t.data[k]?.getD 0) = false:=h2
    exact .inl fun G=>⟨k,Nat.le_refl _,hk,fun j a b=>by omega,fun _=>h2,by simp only [go_sem,reduceIte,↓reduceIte,reduceCtorEq,nA,nS,nM,nB,nE,nL,nT,nN,iL,iT,iE,iA,iM,iS,iG,iB,iN,iZ,h,hb,h1,h3,i1]⟩
   ·have h3 : blankB (t.data[k]?.getD 0) = true:=h2
    refine .inr ⟨_,k + 1,?_,by omega,by omega,fun r ⟨f,a,b,c,d,e⟩=>⟨f,by omega,b,fun j x y=>?_,d,e⟩,fun G=>by simp only [go_sem,reduceIte,↓reduceIte,reduceCtorEq,nA,nS,nM,nB,nE,nL,nT,nN,iL,iT,iE,iA,iM,iS,iG,iB,iN,iZ,h,hb,h1,h3,i1,w1]; rfl⟩
    ·simp only [go_sem,reduceIte,↓reduceIte,reduceCtorEq,nA,nS,nM,nB,nE,nL,nT,nN,iL,iT,iE,iA,iM,iS,iG,iB,iN,iZ,h]
    ·rcases Nat.eq_or_lt_of_le x with rfl | x
     ·exact h2
     ·exact c j x y
  ·exact .inl fun G=>⟨k,Nat.le_refl _,hk,fun j a b=>by omega,fun x=>by omega,by simp only [go_sem,reduceIte,↓reduceIte,reduceCtorEq,nA,nS,nM,nB,nE,nL,nT,nN,iL,iT,iE,iA,iM,iS,iG,iB,iN,iZ,h,hb,h1]⟩)
 rw [hb] at lp
 obtain ⟨f,_,f2,f3,f4,l1⟩:=lp (t.size + 1) 0 (Nat.zero_le _) (by omega) ⟨E [(0,.s t),(3,.i .i64 0),(4,.i .i64 t.size)],B []⟩ (by simp only [go_sem,reduceIte,↓reduceIte,reduceCtorEq,nA,nS,nM,nB,nE,nL,nT,nN,iL,iT,iE,iA,iM,iS,iG,iB,iN,iZ,h])
 have lp2:=loop_gen (cx:=cx) (blk:=2) (body:=loopN Tryz.f296 1) (fun (k : Nat)=>⟨E [(0,.s t),(3,.i .i64 f),(4,.i .i64 k)],B []⟩) (fun k=>f ≤ k ∧ k ≤ t.size) (fun k=>k)
  (fun k r=>∃ e : Nat,f ≤ e ∧ e ≤ k ∧ (∀ j,e ≤ j → j < k → bl t j = true) ∧ (f < e → bl t (e - 1) = false) ∧ r = some (.ex 2,⟨E [(0,.s t),(3,.i .i64 f),(4,.i .i64 e)],B []⟩)) (fun k hk=>by
  by_cases h1 : (f : Int) < (k : Int)
  ·obtain ⟨m,rfl⟩ : ∃ m,k = m + 1:=⟨k - 1,by omega⟩
   have i1:=idx_nt t.size m (by omega)
   have w1 : (IntKind.i64).wrap (((m + 1 : Nat) : Int) - 1) = (m : Int):=by rw [wrap_id (by omega) (by omega)]; omega
   cases h2 : bl t m
   ·have h3 : blankB (t.data[m]?.getD 0) = false:=h2
    exact .inl fun G=>⟨m + 1,hk.1,Nat.le_refl _,fun j a b=>by omega,fun _=>by simpa using h2,by simp only [go_sem,reduceIte,↓reduceIte,reduceCtorEq,nA,nS,nM,nB,nE,nL,nT,nN,iL,iT,iE,iA,iM,iS,iG,iB,iN,iZ,h,hb1,h1,h3,i1,w1]⟩
   ·have h3 : blankB (t.data[m]?.getD 0) = true:=h2
    refine .inr ⟨_,m,?_,⟨by omega,by omega⟩,by omega,fun r ⟨e,a,b,c,d,g⟩=>⟨e,a,by omega,fun j x y=>?_,d,g⟩,fun G=>by simp only [go_sem,reduceIte,↓reduceIte,reduceCtorEq,nA,nS,nM,nB,nE,nL,nT,nN,iL,iT,iE,iA,iM,iS,iG,iB,iN,iZ,h,hb1,h1,h3,i1,w1]; rfl⟩
    ·simp only [go_sem,reduceIte,↓reduceIte,reduceCtorEq,nA,nS,nM,nB,nE,nL,nT,nN,iL,iT,iE,iA,iM,iS,iG,iB,iN,iZ,h]
    ·rcases Nat.lt_or_ge j m with y' | y'
     ·exact c j x y'
     ·obtain rfl : j = m:=by omega
      exact h2
  ·exact .inl fun G=>⟨k,hk.1,Nat.le_refl _,fun j a b=>by omega,fun x=>by omega,by simp only [go_sem,reduceIte,↓reduceIte,reduceCtorEq,nA,nS,nM,nB,nE,nL,nT,nN,iL,iT,iE,iA,iM,iS,iG,iB,iN,iZ,h,hb1,h1]⟩)
 rw [hb1] at lp2
 obtain ⟨e,e1,e2,e3,e4,l2⟩:=lp2 (t.size + 1) t.size ⟨f2,Nat.le_refl _⟩ (by omega) ⟨E [(0,.s t),(3,.i .i64 f),(4,.i .i64 t.size)],B []⟩ (by simp only [go_sem,reduceIte,↓reduceIte,reduceCtorEq,nA,nS,nM,nB,nE,nL,nT,nN,iL,iT,iE,iA,iM,iS,iG,iB,iN,iZ,h])
 have hc:=trim_cut t f e e1 e2 (fun j hj=>f3 j (Nat.zero_le _) hj) f4 e3 e4
 have c1 : (0 : Int) ≤ (e : Int):=by omega
 have c2 : (e : Int) ≤ (t.size : Int):=by omega
 have c3 : (0 : Int) ≤ (f : Int):=by omega
 have c4 : (f : Int) ≤ (e : Int):=by omega
 simp only [go_sem,reduceIte,↓reduceIte,reduceCtorEq,nA,nS,nM,nB,nE,nL,nT,nN,iL,iT,iE,iA,iM,iS,iG,iB,iN,iZ,h,l1,l2,c1,c2,c3,c4,Int.toNat_natCast,hc]) (rfl)
def s215 : SP Tryz.prog:=mkS tyA 215 Tryz.f215 [s161,s295,s296] { md:=[.ro 1],rg:=[(0,[1],[1]),(1,[1,3],[1]),(2,[3,6],[]),(3,[2],[]),(4,[3,11],[]),(5,[2],[]),(6,[15],[]),(7,[2],[]),(8,[2],[])],rets:=some ([2],[]) } Tryz.func215 (by kernel_rfl)
@[go_sem] theorem d215 : s215.g = 215 ∧ s215.fs = ⟨[.ro 1],s215.F,false⟩:=⟨nr rfl,nr rfl⟩
@[go_sem] theorem e215 (z17 z18 : ByteArray) : s215.F [.agg [.s z17,.s z18]] = some (.i .i64 (headerCode (Header.mk z17 z18)),[.u]):=mkS_eq (0) rfl rfl (fun cx h=>by
 cases h1 : isWord z17
 ·simp only [go_sem,reduceIte,↓reduceIte,reduceCtorEq,nA,nS,nM,nB,nE,nL,nT,nN,iL,iT,iE,iA,iM,iS,iG,iB,iN,iZ,h,h1,headerCode]
 by_cases h2 : 200 < (z18.size : Int)
 ·simp only [go_sem,reduceIte,↓reduceIte,reduceCtorEq,nA,nS,nM,nB,nE,nL,nT,nN,iL,iT,iE,iA,iM,iS,iG,iB,iN,iZ,h,h1,h2,headerCode]
 have h3 : (z18.size : Int) ≤ 1000000:=by omega
 have h4 : z18.size ≤ 9223372036854775806:=by omega
 have h5 : z18.size ≤ 9223372036854775807:=by omega
 cases h6 : areP z18
 ·simp only [go_sem,reduceIte,↓reduceIte,reduceCtorEq,nA,nS,nM,nB,nE,nL,nT,nN,iL,iT,iE,iA,iM,iS,iG,iB,iN,iZ,h,h1,h2,h3,h4,h5,h6,headerCode]
 cases h7 : eqv (trimB z18) z18 <;> simp only [go_sem,reduceIte,↓reduceIte,reduceCtorEq,nA,nS,nM,nB,nE,nL,nT,nN,iL,iT,iE,iA,iM,iS,iG,iB,iN,iZ,h,h1,h2,h3,h4,h5,h6,h7,eqv_bytes,eqv_boolne,bne,headerCode]) (rfl)
end
end Go.Vm.A
