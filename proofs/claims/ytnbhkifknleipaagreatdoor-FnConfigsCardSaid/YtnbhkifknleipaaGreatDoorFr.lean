/- Functions of the program, walked by the evaluator. -/
import Derived.Test.YtnbhkifknleipaaGreatDoorWb
import Derived.Test.YtnbhkifknleipaaGreatDoorWa
import Derived.Test.YtnbhkifknleipaaGreatDoorFq
set_option linter.unusedVariables false
set_option linter.unusedSimpArgs false
set_option autoImplicit false
set_option maxRecDepth 100000
set_option maxHeartbeats 4000000
namespace Go.Vm.A
open Go.Proofs
open Nat renaming reduceAdd → nA, reduceSub → nS, reduceMul → nM, reduceBEq → nB, reduceEqDiff → nE, reduceLeDiff → nL, reduceLT → nT, reduceBneDiff → nN
open Int renaming reduceLE → iL, reduceLT → iT, reduceEq → iE, reduceAdd → iA, reduceMul → iM, reduceSub → iS, reduceNeg → iG, reduceBEq → iB, reduceBNe → iN, reduceToNat → iZ
noncomputable section
def s83 : SP Tryz.prog:=mkS tyA 83 Tryz.f83 [s84] { md:=[.ro 1,.ro 1,.ro 1],rg:=[(0,[0,1,2],[]),(1,[0,1,2,14],[]),(2,[6],[]),(3,[0,1,2,15,16,17],[]),(4,[0,1,2,15,16,17,18],[]),(5,[0,1,2,7,8,15,16,17],[8]),(6,[0,1,2,8,9,15,16,17,22],[8,9]),(7,[0,1,2,15,16,17,30],[]),(8,[6],[]),(9,[0,1,2,15,16,17],[]),(10,[6],[])],lv:=[(0,[0,1,2,15,16,17],[])],out:=[(0,[],[])],rets:=some ([6],[]) } Tryz.func83 (by kernel_rfl)
@[go_sem] theorem d83 : s83.g = 83 ∧ s83.fs = ⟨[.ro 1,.ro 1,.ro 1],s83.F,false⟩:=⟨nr rfl,nr rfl⟩
@[go_sem] theorem e83 (xs ys : List Flight) (h0 : smL smFlight xs) : s83.F [.sl .ro 11 (xs.map (rFlight .ro)),.sl .ro 11 (ys.map (rFlight .ro)),.fn 84 []] = some (.b (eqv xs ys),[.u,.u,.u]):=mkS_eq (xs.length + 1) rfl rfl (fun cx h=>by
 have hx:=h0.1
 by_cases hl : xs.length = ys.length
 ·have hb0:=loopN_eq Tryz.f83 0 _ _ rfl rfl
  obtain ⟨r,hr,hq⟩:=loop_srch (cx:=cx) (blk:=0) (body:=loopN Tryz.f83 0) (xs.zip ys) (fun k (s : Unit)=>⟨E [(0,.sl .ro 11 (xs.map (rFlight .ro))),(1,.sl .ro 11 (ys.map (rFlight .ro))),(2,.fn 84 []),(15,.sl .ro 11 (xs.map (rFlight .ro))),(16,.i .i64 xs.length),(17,.i .i64 k)],B []⟩) (fun s=>⟨E [],B []⟩) (fun x s=>!eqv x.1 x.2) (fun x s=>s) (fun x s=>(.ret,⟨E [(6,.b false)],B []⟩)) (fun k s=>True)
    (fun s hI G=>by simp only [go_sem,reduceIte,↓reduceIte,reduceCtorEq,nA,nS,nM,nB,nE,nL,nT,nN,iL,iT,iE,iA,iM,iS,iG,iB,iN,iZ,h,Int.lt_irrefl,hb0,zip_len hl,hl]) (fun k hk s hI=>by
     have h1 : ((k : Int) < ((xs.zip ys).length : Int)):=Int.ofNat_lt.2 hk
     have hk' : k < xs.length:=by rwa [zip_len hl] at hk
     have h1' : ((k : Int) < (xs.length : Int)):=Int.ofNat_lt.2 hk'
     have h2:=h0.2 _ (List.getElem_mem hk')
     have h3 : (xs.zip ys)[k] = (xs[k],ys[k]'(by omega)):=by simp
     rw [h3]
     have h4:=h2
     obtain ⟨u0,u1,u2,u3,u4,u5,u6,u7⟩:=h2
     exact ⟨_,_,_,fun G=>by simp only [go_sem,reduceIte,↓reduceIte,reduceCtorEq,nA,nS,nM,nB,nE,nL,nT,nN,iL,iT,iE,iA,iM,iS,iG,iB,iN,iZ,h,h1',idx_nt _ _ hk',idx_nt ys.length k (by omega),map_gd (rFlight .ro) xs k hk',map_gd (rFlight .ro) ys k (by omega),wrap_nat1 (show k < 9223372036854775807 by omega),h4,if_oret,Flight.eqv xs[k] (ys[k]'(by omega)),u0,u1,u2,u3,u4,u5,u6,u7,eqv_byte,eqv_intne,eqv_int,eqv_bytes,eqv_boolne,h1,idx_nt _ _ hk,wrap_nat1 (show k < 9223372036854775807 by omega),hb0] <;> with_reducible rfl,by first | exact Iff.rfl | ((simp only [Flight.eqv xs[k] (ys[k]'(by omega))] <;> simp) <;> done) | ((simp only [Flight.eqv xs[k] (ys[k]'(by omega))] <;> simp [eqv]) <;> done) | (simp only [Flight.eqv xs[k] (ys[k]'(by omega))] <;> simp [eqv] <;> (by_cases g : xs[k].Get = (ys[k]'(by omega)).Get <;> simp [g])),fun hc=>⟨trivial,by simp only [go_sem,reduceIte,↓reduceIte,reduceCtorEq,nA,nS,nM,nB,nE,nL,nT,nN,iL,iT,iE,iA,iM,iS,iG,iB,iN,iZ,h]⟩⟩) () trivial (xs.length + 1) (by rw [zip_len hl]; exact Nat.le_refl _)
  rw [hb0] at hr
  have hl2 : ((xs.length : Int) != (ys.length : Int)) = false:=by simp [hl]
  rcases hq with ⟨s',e1,_,e3⟩ | ⟨x,s',e1,e3⟩
  ·simp only [go_sem,reduceIte,↓reduceIte,reduceCtorEq,nA,nS,nM,nB,nE,nL,nT,nN,iL,iT,iE,iA,iM,iS,iG,iB,iN,iZ,h,hl2,hr,e3,zip_eqv hl e1]
  ·simp only [go_sem,reduceIte,↓reduceIte,reduceCtorEq,nA,nS,nM,nB,nE,nL,nT,nN,iL,iT,iE,iA,iM,iS,iG,iB,iN,iZ,h,hl2,hr,e3,zip_nev hl e1]
 ·have hl2 : ((xs.length : Int) != (ys.length : Int)) = true:=by simpa using fun h=>hl (Int.ofNat_inj.1 h)
  simp only [go_sem,reduceIte,↓reduceIte,reduceCtorEq,nA,nS,nM,nB,nE,nL,nT,nN,iL,iT,iE,iA,iM,iS,iG,iB,iN,iZ,h,hl2,len_nev hl]) (rfl)
def s18 : SP Tryz.prog:=mkS tyA 18 Tryz.f18 [s83,s84] { md:=[.ro 1,.ro 1],rets:=some ([4],[]) } Tryz.func18 (by kernel_rfl)
@[go_sem] theorem d18 : s18.g = 18 ∧ s18.fs = ⟨[.ro 1,.ro 1],s18.F,false⟩:=⟨nr rfl,nr rfl⟩
@[go_sem] theorem e18 (xs ys : List Flight) (h0 : smL smFlight xs) : s18.F [.sl .ro 11 (xs.map (rFlight .ro)),.sl .ro 11 (ys.map (rFlight .ro))] = some (.b (eqv xs ys),[.u,.u]):=mkS_eq (0) rfl rfl (fun cx h=>by
 simp only [go_sem,reduceIte,↓reduceIte,reduceCtorEq,nA,nS,nM,nB,nE,nL,nT,nN,iL,iT,iE,iA,iM,iS,iG,iB,iN,iZ,h,h0]) (rfl)
def s248 : SP Tryz.prog:=mkS tyA 248 Tryz.f248 [] { md:=[.ro 1,.ro 1],rg:=[(0,[0,1],[]),(1,[0,1,10],[]),(2,[4],[]),(3,[0,1,12,13],[]),(4,[0,1,12,13,14],[]),(5,[0,1,5,12,13],[]),(6,[0,1,12,13,24],[]),(7,[4],[]),(8,[0,1,12,13],[]),(9,[4],[])],lv:=[(0,[0,1,12,13],[])],out:=[(0,[],[])],rets:=some ([4],[]),plan:=[(6,(.take 0 (.take 1 (.take 2 (.take 3 (.take 4 (.take 5 (.take 6 (.take 7 (.take 8 .done))))))))))] } Tryz.func248 (by kernel_rfl)
@[go_sem] theorem d248 : s248.g = 248 ∧ s248.fs = ⟨[.ro 1,.ro 1],s248.F,false⟩:=⟨nr rfl,nr rfl⟩
@[go_sem] theorem e248 (xs ys : List ByteArray) (h0 : smL smStr xs) : s248.F [.sl .ro 1 (xs.map rStr),.sl .ro 1 (ys.map rStr)] = some (.b (eqv xs ys),[.u,.u]):=mkS_eq (xs.length + 1) rfl rfl (fun cx h=>by
 have hx:=h0.1
 by_cases hl : xs.length = ys.length
 ·have hb0:=loopN_eq Tryz.f248 0 _ _ rfl rfl
  obtain ⟨r,hr,hq⟩:=loop_srch (cx:=cx) (blk:=0) (body:=loopN Tryz.f248 0) (xs.zip ys) (fun k (s : Unit)=>⟨E [(0,.sl .ro 1 (xs.map rStr)),(1,.sl .ro 1 (ys.map rStr)),(12,.i .i64 xs.length),(13,.i .i64 k)],B []⟩) (fun s=>⟨E [],B []⟩) (fun x s=>!eqv x.1 x.2) (fun x s=>s) (fun x s=>(.ret,⟨E [(4,.b false)],B []⟩)) (fun k s=>True)
    (fun s hI G=>by simp only [go_sem,reduceIte,↓reduceIte,reduceCtorEq,nA,nS,nM,nB,nE,nL,nT,nN,iL,iT,iE,iA,iM,iS,iG,iB,iN,iZ,h,Int.lt_irrefl,hb0,zip_len hl,hl]) (fun k hk s hI=>by
     have h1 : ((k : Int) < ((xs.zip ys).length : Int)):=Int.ofNat_lt.2 hk
     have hk' : k < xs.length:=by rwa [zip_len hl] at hk
     have h1' : ((k : Int) < (xs.length : Int)):=Int.ofNat_lt.2 hk'
     have h2:=h0.2 _ (List.getElem_mem hk')
     have h3 : (xs.zip ys)[k] = (xs[k],ys[k]'(by omega)):=by simp
     rw [h3]
     exact ⟨_,_,_,fun G=>by simp only [go_sem,reduceIte,↓reduceIte,reduceCtorEq,nA,nS,nM,nB,nE,nL,nT,nN,iL,iT,iE,iA,iM,iS,iG,iB,iN,iZ,h,h1',idx_nt _ _ hk',idx_nt ys.length k (by omega),map_gd rStr xs k hk',map_gd rStr ys k (by omega),wrap_nat1 (show k < 9223372036854775807 by omega),eqv_byte,eqv_intne,eqv_int,eqv_bytes,eqv_boolne,h1,idx_nt _ _ hk,wrap_nat1 (show k < 9223372036854775807 by omega),hb0] <;> with_reducible rfl,Iff.rfl,fun hc=>⟨trivial,by simp only [go_sem,reduceIte,↓reduceIte,reduceCtorEq,nA,nS,nM,nB,nE,nL,nT,nN,iL,iT,iE,iA,iM,iS,iG,iB,iN,iZ,h]⟩⟩) () trivial (xs.length + 1) (by rw [zip_len hl]; exact Nat.le_refl _)
  rw [hb0] at hr
  have hl2 : ((xs.length : Int) != (ys.length : Int)) = false:=by simp [hl]
  rcases hq with ⟨s',e1,_,e3⟩ | ⟨x,s',e1,e3⟩
  ·simp only [go_sem,reduceIte,↓reduceIte,reduceCtorEq,nA,nS,nM,nB,nE,nL,nT,nN,iL,iT,iE,iA,iM,iS,iG,iB,iN,iZ,h,hl2,hr,e3,zip_eqv hl e1]
  ·simp only [go_sem,reduceIte,↓reduceIte,reduceCtorEq,nA,nS,nM,nB,nE,nL,nT,nN,iL,iT,iE,iA,iM,iS,iG,iB,iN,iZ,h,hl2,hr,e3,zip_nev hl e1]
 ·have hl2 : ((xs.length : Int) != (ys.length : Int)) = true:=by simpa using fun h=>hl (Int.ofNat_inj.1 h)
  simp only [go_sem,reduceIte,↓reduceIte,reduceCtorEq,nA,nS,nM,nB,nE,nL,nT,nN,iL,iT,iE,iA,iM,iS,iG,iB,iN,iZ,h,hl2,len_nev hl]) (rfl)
def s155 : SP Tryz.prog:=mkS tyA 155 Tryz.f155 [s248] { md:=[.ro 1,.ro 1],rets:=some ([4],[]) } Tryz.func155 (by kernel_rfl)
@[go_sem] theorem d155 : s155.g = 155 ∧ s155.fs = ⟨[.ro 1,.ro 1],s155.F,false⟩:=⟨nr rfl,nr rfl⟩
@[go_sem] theorem e155 (w0 w1 w2 w3 w4 w5 w6 w7 : Int) (w8 : List ByteArray) (w9 w10 w11 w12 w13 w14 w15 w16 w17 w18 w19 w20 w21 w22 w23 w24 : Int) (w25 : List ByteArray) (w26 w27 w28 w29 w30 w31 w32 w33 : Int) (h0 : smConfig (Config.mk w0 w1 w2 w3 w4 w5 w6 w7 w8 (Lanes.mk w9 w10 w11) (Rules.mk w12 w13 w14 w15 w16))) : s155.F [.agg [.i .i64 w0,.i .i64 w1,.i .i64 w2,.i .i64 w3,.i .i64 w4,.i .i64 w5,.i .i64 w6,.i .i64 w7,.sl .ro 1 (w8.map rStr),.i .i64 w9,.i .i64 w10,.i .i64 w11,.i .i64 w12,.i .i64 w13,.i .i64 w14,.i .i64 w15,.i .i64 w16],.agg [.i .i64 w17,.i .i64 w18,.i .i64 w19,.i .i64 w20,.i .i64 w21,.i .i64 w22,.i .i64 w23,.i .i64 w24,.sl .ro 1 (w25.map rStr),.i .i64 w26,.i .i64 w27,.i .i64 w28,.i .i64 w29,.i .i64 w30,.i .i64 w31,.i .i64 w32,.i .i64 w33]] = some (.b (eqv (Config.mk w0 w1 w2 w3 w4 w5 w6 w7 w8 (Lanes.mk w9 w10 w11) (Rules.mk w12 w13 w14 w15 w16)) (Config.mk w17 w18 w19 w20 w21 w22 w23 w24 w25 (Lanes.mk w26 w27 w28) (Rules.mk w29 w30 w31 w32 w33))),[.u,.u]):=mkS_eq (0) rfl rfl (fun cx h=>by
 obtain ⟨q0,q1,q2,q3,q4,q5,q6,q7,q8,q9,q10⟩:=h0
 simp only [go_sem,reduceIte,↓reduceIte,reduceCtorEq,nA,nS,nM,nB,nE,nL,nT,nN,iL,iT,iE,iA,iM,iS,iG,iB,iN,iZ,h,eqv_intne,eqv_int,eqv_bytes,eqv_boolne,eqv_bool,eqv_mk,q0,q1,q2,q3,q4,q5,q6,q7,q8,q9,q10]
 simp only [Config.eqv (Config.mk w0 w1 w2 w3 w4 w5 w6 w7 w8 (Lanes.mk w9 w10 w11) (Rules.mk w12 w13 w14 w15 w16)) (Config.mk w17 w18 w19 w20 w21 w22 w23 w24 w25 (Lanes.mk w26 w27 w28) (Rules.mk w29 w30 w31 w32 w33)),Lanes.eqv,Rules.eqv,if_sb,if_and',if_or',Bool.and_true,Bool.and_assoc]) (rfl)
def s323 : SP Tryz.prog:=mkS tyA 323 Tryz.f323 [] { md:=[.ro 1,.ro 1],rets:=some ([4],[]) } Tryz.func323 (by kernel_rfl)
@[go_sem] theorem d323 : s323.g = 323 ∧ s323.fs = ⟨[.ro 1,.ro 1],s323.F,false⟩:=⟨nr rfl,nr rfl⟩
@[go_sem] theorem e323 (x y : List UInt8) : s323.F [.sl .ro 1 (x.map rByte),.sl .ro 1 (y.map rByte)] = some (.b (eqv x y),[.u,.u]):=mkS_eq (0) rfl rfl (fun cx h=>by
 simp only [go_sem,reduceIte,↓reduceIte,reduceCtorEq,nA,nS,nM,nB,nE,nL,nT,nN,iL,iT,iE,iA,iM,iS,iG,iB,iN,iZ,h,eqv_bytes,eqv_mk]) (rfl)
def s250 : SP Tryz.prog:=mkS tyA 250 Tryz.f250 [s248,s281,s323] { md:=[.ro 1,.ro 1],rets:=some ([4],[]) } Tryz.func250 (by kernel_rfl)
@[go_sem] theorem d250 : s250.g = 250 ∧ s250.fs = ⟨[.ro 1,.ro 1],s250.F,false⟩:=⟨nr rfl,nr rfl⟩
@[go_sem] theorem e250 (w34 : ByteArray) (w35 : Int) (w36 : List Header) (w37 : List UInt8) (w38 w39 w40 w41 w42 : Int) (w43 w44 : Bool) (w45 : List ByteArray) (w46 : Int) (w47 : ByteArray) (w48 : Int) (w49 : List Header) (w50 : List UInt8) (w51 w52 w53 w54 w55 : Int) (w56 w57 : Bool) (w58 : List ByteArray) (w59 : Int) (h0 : smEntry (Entry.mk w34 w35 w36 w37 (Meta.mk w38 w39 w40 w41 w42 w43 w44) w45 w46)) : s250.F [.agg [.s w34,.i .i64 w35,.sl .ro 2 (w36.map (rHeader .ro)),.sl .ro 1 (w37.map rByte),.i .i64 w38,.i .i64 w39,.i .i64 w40,.i .i64 w41,.i .i64 w42,.b w43,.b w44,.sl .ro 1 (w45.map rStr),.i .i64 w46],.agg [.s w47,.i .i64 w48,.sl .ro 2 (w49.map (rHeader .ro)),.sl .ro 1 (w50.map rByte),.i .i64 w51,.i .i64 w52,.i .i64 w53,.i .i64 w54,.i .i64 w55,.b w56,.b w57,.sl .ro 1 (w58.map rStr),.i .i64 w59]] = some (.b (eqv (Entry.mk w34 w35 w36 w37 (Meta.mk w38 w39 w40 w41 w42 w43 w44) w45 w46) (Entry.mk w47 w48 w49 w50 (Meta.mk w51 w52 w53 w54 w55 w56 w57) w58 w59)),[.u,.u]):=mkS_eq (0) rfl rfl (fun cx h=>by
 obtain ⟨q0,q1,q2,q3,q4,q5,q6⟩:=h0
 simp only [go_sem,reduceIte,↓reduceIte,reduceCtorEq,nA,nS,nM,nB,nE,nL,nT,nN,iL,iT,iE,iA,iM,iS,iG,iB,iN,iZ,h,eqv_intne,eqv_int,eqv_bytes,eqv_boolne,eqv_bool,eqv_mk,q0,q1,q2,q3,q4,q5,q6]
 simp only [Entry.eqv (Entry.mk w34 w35 w36 w37 (Meta.mk w38 w39 w40 w41 w42 w43 w44) w45 w46) (Entry.mk w47 w48 w49 w50 (Meta.mk w51 w52 w53 w54 w55 w56 w57) w58 w59),Meta.eqv,if_sb,if_and',if_or',Bool.and_true,Bool.and_assoc]) (rfl)
def s249 : SP Tryz.prog:=mkS tyA 249 Tryz.f249 [s250] { md:=[.ro 1,.ro 1,.ro 1],rg:=[(0,[0,1,2],[]),(1,[0,1,2,14],[]),(2,[6],[]),(3,[0,1,2,15,16,17],[]),(4,[0,1,2,15,16,17,18],[]),(5,[0,1,2,7,8,15,16,17],[8]),(6,[0,1,2,8,9,15,16,17,22],[8,9]),(7,[0,1,2,15,16,17,30],[]),(8,[6],[]),(9,[0,1,2,15,16,17],[]),(10,[6],[])],lv:=[(0,[0,1,2,15,16,17],[])],out:=[(0,[],[])],rets:=some ([6],[]) } Tryz.func249 (by kernel_rfl)
@[go_sem] theorem d249 : s249.g = 249 ∧ s249.fs = ⟨[.ro 1,.ro 1,.ro 1],s249.F,false⟩:=⟨nr rfl,nr rfl⟩
@[go_sem] theorem e249 (xs ys : List Entry) (h0 : smL smEntry xs) : s249.F [.sl .ro 13 (xs.map (rEntry .ro)),.sl .ro 13 (ys.map (rEntry .ro)),.fn 250 []] = some (.b (eqv xs ys),[.u,.u,.u]):=mkS_eq (xs.length + 1) rfl rfl (fun cx h=>by
 have hx:=h0.1
 by_cases hl : xs.length = ys.length
 ·have hb0:=loopN_eq Tryz.f249 0 _ _ rfl rfl
  obtain ⟨r,hr,hq⟩:=loop_srch (cx:=cx) (blk:=0) (body:=loopN Tryz.f249 0) (xs.zip ys) (fun k (s : Unit)=>⟨E [(0,.sl .ro 13 (xs.map (rEntry .ro))),(1,.sl .ro 13 (ys.map (rEntry .ro))),(2,.fn 250 []),(15,.sl .ro 13 (xs.map (rEntry .ro))),(16,.i .i64 xs.length),(17,.i .i64 k)],B []⟩) (fun s=>⟨E [],B []⟩) (fun x s=>!eqv x.1 x.2) (fun x s=>s) (fun x s=>(.ret,⟨E [(6,.b false)],B []⟩)) (fun k s=>True)
    (fun s hI G=>by simp only [go_sem,reduceIte,↓reduceIte,reduceCtorEq,nA,nS,nM,nB,nE,nL,nT,nN,iL,iT,iE,iA,iM,iS,iG,iB,iN,iZ,h,Int.lt_irrefl,hb0,zip_len hl,hl]) (fun k hk s hI=>by
     have h1 : ((k : Int) < ((xs.zip ys).length : Int)):=Int.ofNat_lt.2 hk
     have hk' : k < xs.length:=by rwa [zip_len hl] at hk
     have h1' : ((k : Int) < (xs.length : Int)):=Int.ofNat_lt.2 hk'
     have h2:=h0.2 _ (List.getElem_mem hk')
     have h3 : (xs.zip ys)[k] = (xs[k],ys[k]'(by omega)):=by simp
     rw [h3]
     have h4:=h2
     obtain ⟨u0,u1,u2,u3,u4,u5,u6⟩:=h2
     exact ⟨_,_,_,fun G=>by simp only [go_sem,reduceIte,↓reduceIte,reduceCtorEq,nA,nS,nM,nB,nE,nL,nT,nN,iL,iT,iE,iA,iM,iS,iG,iB,iN,iZ,h,h1',idx_nt _ _ hk',idx_nt ys.length k (by omega),map_gd (rEntry .ro) xs k hk',map_gd (rEntry .ro) ys k (by omega),wrap_nat1 (show k < 9223372036854775807 by omega),h4,if_oret,Entry.eqv xs[k] (ys[k]'(by omega)),u0,u1,u2,u3,u4,u5,u6,eqv_byte,eqv_intne,eqv_int,eqv_bytes,eqv_boolne,h1,idx_nt _ _ hk,wrap_nat1 (show k < 9223372036854775807 by omega),hb0] <;> with_reducible rfl,by first | exact Iff.rfl | ((simp only [Entry.eqv xs[k] (ys[k]'(by omega))] <;> simp) <;> done) | ((simp only [Entry.eqv xs[k] (ys[k]'(by omega))] <;> simp [eqv]) <;> done) | (simp only [Entry.eqv xs[k] (ys[k]'(by omega))] <;> simp [eqv] <;> (by_cases g : xs[k].Get = (ys[k]'(by omega)).Get <;> simp [g])),fun hc=>⟨trivial,by simp only [go_sem,reduceIte,↓reduceIte,reduceCtorEq,nA,nS,nM,nB,nE,nL,nT,nN,iL,iT,iE,iA,iM,iS,iG,iB,iN,iZ,h]⟩⟩) () trivial (xs.length + 1) (by rw [zip_len hl]; exact Nat.le_refl _)
  rw [hb0] at hr
  have hl2 : ((xs.length : Int) != (ys.length : Int)) = false:=by simp [hl]
  rcases hq with ⟨s',e1,_,e3⟩ | ⟨x,s',e1,e3⟩
  ·simp only [go_sem,reduceIte,↓reduceIte,reduceCtorEq,nA,nS,nM,nB,nE,nL,nT,nN,iL,iT,iE,iA,iM,iS,iG,iB,iN,iZ,h,hl2,hr,e3,zip_eqv hl e1]
  ·simp only [go_sem,reduceIte,↓reduceIte,reduceCtorEq,nA,nS,nM,nB,nE,nL,nT,nN,iL,iT,iE,iA,iM,iS,iG,iB,iN,iZ,h,hl2,hr,e3,zip_nev hl e1]
 ·have hl2 : ((xs.length : Int) != (ys.length : Int)) = true:=by simpa using fun h=>hl (Int.ofNat_inj.1 h)
  simp only [go_sem,reduceIte,↓reduceIte,reduceCtorEq,nA,nS,nM,nB,nE,nL,nT,nN,iL,iT,iE,iA,iM,iS,iG,iB,iN,iZ,h,hl2,len_nev hl]) (rfl)
def s156 : SP Tryz.prog:=mkS tyA 156 Tryz.f156 [s249,s250] { md:=[.ro 1,.ro 1],rets:=some ([4],[]) } Tryz.func156 (by kernel_rfl)
@[go_sem] theorem d156 : s156.g = 156 ∧ s156.fs = ⟨[.ro 1,.ro 1],s156.F,false⟩:=⟨nr rfl,nr rfl⟩
@[go_sem] theorem e156 (w0 w1 : Int) (w60 w61 : List Entry) (w17 w18 : Int) (w62 w63 : List Entry) (h0 : smStore (Store.mk w0 w1 w60 w61)) : s156.F [.agg [.i .i64 w0,.i .i64 w1,.sl .ro 13 (w60.map (rEntry .ro)),.sl .ro 13 (w61.map (rEntry .ro))],.agg [.i .i64 w17,.i .i64 w18,.sl .ro 13 (w62.map (rEntry .ro)),.sl .ro 13 (w63.map (rEntry .ro))]] = some (.b (eqv (Store.mk w0 w1 w60 w61) (Store.mk w17 w18 w62 w63)),[.u,.u]):=mkS_eq (0) rfl rfl (fun cx h=>by
 obtain ⟨q0,q1,q2,q3⟩:=h0
 simp only [go_sem,reduceIte,↓reduceIte,reduceCtorEq,nA,nS,nM,nB,nE,nL,nT,nN,iL,iT,iE,iA,iM,iS,iG,iB,iN,iZ,h,eqv_intne,eqv_int,eqv_bytes,eqv_boolne,eqv_bool,eqv_mk,q0,q1,q2,q3]
 simp only [Store.eqv (Store.mk w0 w1 w60 w61) (Store.mk w17 w18 w62 w63),if_sb,if_and',if_or',Bool.and_true,Bool.and_assoc]) (rfl)
def s324 : SP Tryz.prog:=mkS tyA 324 Tryz.f324 [] { md:=[.ro 1,.ro 1],rg:=[(0,[0,1],[]),(1,[0,1,10],[]),(2,[4],[]),(3,[0,1,12,13],[]),(4,[0,1,12,13,14],[]),(5,[0,1,5,12,13],[]),(6,[0,1,12,13,24],[]),(7,[4],[]),(8,[0,1,12,13],[]),(9,[4],[])],lv:=[(0,[0,1,12,13],[])],out:=[(0,[],[])],rets:=some ([4],[]),plan:=[(6,(.take 0 (.take 1 (.take 2 (.take 3 (.take 4 (.take 5 (.take 6 (.take 7 (.take 8 .done))))))))))] } Tryz.func324 (by kernel_rfl)
@[go_sem] theorem d324 : s324.g = 324 ∧ s324.fs = ⟨[.ro 1,.ro 1],s324.F,false⟩:=⟨nr rfl,nr rfl⟩
@[go_sem] theorem e324 (xs ys : List Wait) (h0 : smL smWait xs) : s324.F [.sl .ro 2 (xs.map (rWait .ro)),.sl .ro 2 (ys.map (rWait .ro))] = some (.b (eqv xs ys),[.u,.u]):=mkS_eq (xs.length + 1) rfl rfl (fun cx h=>by
 have hx:=h0.1
 by_cases hl : xs.length = ys.length
 ·have hb0:=loopN_eq Tryz.f324 0 _ _ rfl rfl
  obtain ⟨r,hr,hq⟩:=loop_srch (cx:=cx) (blk:=0) (body:=loopN Tryz.f324 0) (xs.zip ys) (fun k (s : Unit)=>⟨E [(0,.sl .ro 2 (xs.map (rWait .ro))),(1,.sl .ro 2 (ys.map (rWait .ro))),(12,.i .i64 xs.length),(13,.i .i64 k)],B []⟩) (fun s=>⟨E [],B []⟩) (fun x s=>!eqv x.1 x.2) (fun x s=>s) (fun x s=>(.ret,⟨E [(4,.b false)],B []⟩)) (fun k s=>True)
    (fun s hI G=>by simp only [go_sem,reduceIte,↓reduceIte,reduceCtorEq,nA,nS,nM,nB,nE,nL,nT,nN,iL,iT,iE,iA,iM,iS,iG,iB,iN,iZ,h,Int.lt_irrefl,hb0,zip_len hl,hl]) (fun k hk s hI=>by
     have h1 : ((k : Int) < ((xs.zip ys).length : Int)):=Int.ofNat_lt.2 hk
     have hk' : k < xs.length:=by rwa [zip_len hl] at hk
     have h1' : ((k : Int) < (xs.length : Int)):=Int.ofNat_lt.2 hk'
     have h2:=h0.2 _ (List.getElem_mem hk')
     have h3 : (xs.zip ys)[k] = (xs[k],ys[k]'(by omega)):=by simp
     rw [h3]
     have h4:=h2
     obtain ⟨u0,u1⟩:=h2
     exact ⟨_,_,_,fun G=>by simp only [go_sem,reduceIte,↓reduceIte,reduceCtorEq,nA,nS,nM,nB,nE,nL,nT,nN,iL,iT,iE,iA,iM,iS,iG,iB,iN,iZ,h,h1',idx_nt _ _ hk',idx_nt ys.length k (by omega),map_gd (rWait .ro) xs k hk',map_gd (rWait .ro) ys k (by omega),wrap_nat1 (show k < 9223372036854775807 by omega),h4,if_oret,Wait.eqv xs[k] (ys[k]'(by omega)),u0,u1,eqv_byte,eqv_intne,eqv_int,eqv_bytes,eqv_boolne,h1,idx_nt _ _ hk,wrap_nat1 (show k < 9223372036854775807 by omega),hb0] <;> with_reducible rfl,by first | exact Iff.rfl | ((simp only [Wait.eqv xs[k] (ys[k]'(by omega))] <;> simp) <;> done) | ((simp only [Wait.eqv xs[k] (ys[k]'(by omega))] <;> simp [eqv]) <;> done) | (simp only [Wait.eqv xs[k] (ys[k]'(by omega))] <;> simp [eqv] <;> (by_cases g : xs[k].Get = (ys[k]'(by omega)).Get <;> simp [g])),fun hc=>⟨trivial,by simp only [go_sem,reduceIte,↓reduceIte,reduceCtorEq,nA,nS,nM,nB,nE,nL,nT,nN,iL,iT,iE,iA,iM,iS,iG,iB,iN,iZ,h]⟩⟩) () trivial (xs.length + 1) (by rw [zip_len hl]; exact Nat.le_refl _)
  rw [hb0] at hr
  have hl2 : ((xs.length : Int) != (ys.length : Int)) = false:=by simp [hl]
  rcases hq with ⟨s',e1,_,e3⟩ | ⟨x,s',e1,e3⟩
  ·simp only [go_sem,reduceIte,↓reduceIte,reduceCtorEq,nA,nS,nM,nB,nE,nL,nT,nN,iL,iT,iE,iA,iM,iS,iG,iB,iN,iZ,h,hl2,hr,e3,zip_eqv hl e1]
  ·simp only [go_sem,reduceIte,↓reduceIte,reduceCtorEq,nA,nS,nM,nB,nE,nL,nT,nN,iL,iT,iE,iA,iM,iS,iG,iB,iN,iZ,h,hl2,hr,e3,zip_nev hl e1]
 ·have hl2 : ((xs.length : Int) != (ys.length : Int)) = true:=by simpa using fun h=>hl (Int.ofNat_inj.1 h)
  simp only [go_sem,reduceIte,↓reduceIte,reduceCtorEq,nA,nS,nM,nB,nE,nL,nT,nN,iL,iT,iE,iA,iM,iS,iG,iB,iN,iZ,h,hl2,len_nev hl]) (rfl)
def s251 : SP Tryz.prog:=mkS tyA 251 Tryz.f251 [s324] { md:=[.ro 1,.ro 1],rets:=some ([4],[]) } Tryz.func251 (by kernel_rfl)
@[go_sem] theorem d251 : s251.g = 251 ∧ s251.fs = ⟨[.ro 1,.ro 1],s251.F,false⟩:=⟨nr rfl,nr rfl⟩
@[go_sem] theorem e251 (w64 : Int) (w65 : List Wait) (w66 : Int) (w67 : List Wait) (h0 : smBulk (Bulk.mk w64 w65)) : s251.F [.agg [.i .i64 w64,.sl .ro 2 (w65.map (rWait .ro))],.agg [.i .i64 w66,.sl .ro 2 (w67.map (rWait .ro))]] = some (.b (eqv (Bulk.mk w64 w65) (Bulk.mk w66 w67)),[.u,.u]):=mkS_eq (0) rfl rfl (fun cx h=>by
 obtain ⟨q0,q1⟩:=h0
 simp only [go_sem,reduceIte,↓reduceIte,reduceCtorEq,nA,nS,nM,nB,nE,nL,nT,nN,iL,iT,iE,iA,iM,iS,iG,iB,iN,iZ,h,eqv_intne,eqv_int,eqv_bytes,eqv_boolne,eqv_bool,eqv_mk,q0,q1]
 simp only [Bulk.eqv (Bulk.mk w64 w65) (Bulk.mk w66 w67),if_sb,if_and',if_or',Bool.and_true,Bool.and_assoc]) (rfl)
def s325 : SP Tryz.prog:=mkS tyA 325 Tryz.f325 [] { md:=[.ro 1,.ro 1],rg:=[(0,[0,1],[]),(1,[0,1,10],[]),(2,[4],[]),(3,[0,1,12,13],[]),(4,[0,1,12,13,14],[]),(5,[0,1,5,12,13],[]),(6,[0,1,12,13,24],[]),(7,[4],[]),(8,[0,1,12,13],[]),(9,[4],[])],lv:=[(0,[0,1,12,13],[])],out:=[(0,[],[])],rets:=some ([4],[]),plan:=[(6,(.take 0 (.take 1 (.take 2 (.take 3 (.take 4 (.take 5 (.take 6 (.take 7 (.take 8 .done))))))))))] } Tryz.func325 (by kernel_rfl)
@[go_sem] theorem d325 : s325.g = 325 ∧ s325.fs = ⟨[.ro 1,.ro 1],s325.F,false⟩:=⟨nr rfl,nr rfl⟩
@[go_sem] theorem e325 (xs ys : List Mark) (h0 : smL smMark xs) : s325.F [.sl .ro 2 (xs.map (rMark .ro)),.sl .ro 2 (ys.map (rMark .ro))] = some (.b (eqv xs ys),[.u,.u]):=mkS_eq (xs.length + 1) rfl rfl (fun cx h=>by
 have hx:=h0.1
 by_cases hl : xs.length = ys.length
 ·have hb0:=loopN_eq Tryz.f325 0 _ _ rfl rfl
  obtain ⟨r,hr,hq⟩:=loop_srch (cx:=cx) (blk:=0) (body:=loopN Tryz.f325 0) (xs.zip ys) (fun k (s : Unit)=>⟨E [(0,.sl .ro 2 (xs.map (rMark .ro))),(1,.sl .ro 2 (ys.map (rMark .ro))),(12,.i .i64 xs.length),(13,.i .i64 k)],B []⟩) (fun s=>⟨E [],B []⟩) (fun x s=>!eqv x.1 x.2) (fun x s=>s) (fun x s=>(.ret,⟨E [(4,.b false)],B []⟩)) (fun k s=>True)
    (fun s hI G=>by simp only [go_sem,reduceIte,↓reduceIte,reduceCtorEq,nA,nS,nM,nB,nE,nL,nT,nN,iL,iT,iE,iA,iM,iS,iG,iB,iN,iZ,h,Int.lt_irrefl,hb0,zip_len hl,hl]) (fun k hk s hI=>by
     have h1 : ((k : Int) < ((xs.zip ys).length : Int)):=Int.ofNat_lt.2 hk
     have hk' : k < xs.length:=by rwa [zip_len hl] at hk
     have h1' : ((k : Int) < (xs.length : Int)):=Int.ofNat_lt.2 hk'
     have h2:=h0.2 _ (List.getElem_mem hk')
     have h3 : (xs.zip ys)[k] = (xs[k],ys[k]'(by omega)):=by simp
     rw [h3]
     have h4:=h2
     obtain ⟨u0,u1⟩:=h2
     exact ⟨_,_,_,fun G=>by simp only [go_sem,reduceIte,↓reduceIte,reduceCtorEq,nA,nS,nM,nB,nE,nL,nT,nN,iL,iT,iE,iA,iM,iS,iG,iB,iN,iZ,h,h1',idx_nt _ _ hk',idx_nt ys.length k (by omega),map_gd (rMark .ro) xs k hk',map_gd (rMark .ro) ys k (by omega),wrap_nat1 (show k < 9223372036854775807 by omega),h4,if_oret,Mark.eqv xs[k] (ys[k]'(by omega)),u0,u1,eqv_byte,eqv_intne,eqv_int,eqv_bytes,eqv_boolne,h1,idx_nt _ _ hk,wrap_nat1 (show k < 9223372036854775807 by omega),hb0] <;> with_reducible rfl,by first | exact Iff.rfl | ((simp only [Mark.eqv xs[k] (ys[k]'(by omega))] <;> simp) <;> done) | ((simp only [Mark.eqv xs[k] (ys[k]'(by omega))] <;> simp [eqv]) <;> done) | (simp only [Mark.eqv xs[k] (ys[k]'(by omega))] <;> simp [eqv] <;> (by_cases g : xs[k].Get = (ys[k]'(by omega)).Get <;> simp [g])),fun hc=>⟨trivial,by simp only [go_sem,reduceIte,↓reduceIte,reduceCtorEq,nA,nS,nM,nB,nE,nL,nT,nN,iL,iT,iE,iA,iM,iS,iG,iB,iN,iZ,h]⟩⟩) () trivial (xs.length + 1) (by rw [zip_len hl]; exact Nat.le_refl _)
  rw [hb0] at hr
  have hl2 : ((xs.length : Int) != (ys.length : Int)) = false:=by simp [hl]
  rcases hq with ⟨s',e1,_,e3⟩ | ⟨x,s',e1,e3⟩
  ·simp only [go_sem,reduceIte,↓reduceIte,reduceCtorEq,nA,nS,nM,nB,nE,nL,nT,nN,iL,iT,iE,iA,iM,iS,iG,iB,iN,iZ,h,hl2,hr,e3,zip_eqv hl e1]
  ·simp only [go_sem,reduceIte,↓reduceIte,reduceCtorEq,nA,nS,nM,nB,nE,nL,nT,nN,iL,iT,iE,iA,iM,iS,iG,iB,iN,iZ,h,hl2,hr,e3,zip_nev hl e1]
 ·have hl2 : ((xs.length : Int) != (ys.length : Int)) = true:=by simpa using fun h=>hl (Int.ofNat_inj.1 h)
  simp only [go_sem,reduceIte,↓reduceIte,reduceCtorEq,nA,nS,nM,nB,nE,nL,nT,nN,iL,iT,iE,iA,iM,iS,iG,iB,iN,iZ,h,hl2,len_nev hl]) (rfl)
end
end Go.Vm.A
