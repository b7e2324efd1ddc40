/- Functions of the program, walked by the evaluator. -/
import Derived.Test.YtnbhkifknleipaaGreatDoorWb
import Derived.Test.YtnbhkifknleipaaGreatDoorWa
import Derived.Test.YtnbhkifknleipaaGreatDoorFa
import Derived.Test.YtnbhkifknleipaaGreatDoorFb
import Derived.Test.YtnbhkifknleipaaGreatDoorFc
import Derived.Test.YtnbhkifknleipaaGreatDoorFd
import Derived.Test.YtnbhkifknleipaaGreatDoorFe
import Derived.Test.YtnbhkifknleipaaGreatDoorFf
import Derived.Test.YtnbhkifknleipaaGreatDoorFg
import Derived.Test.YtnbhkifknleipaaGreatDoorFh
import Derived.Test.YtnbhkifknleipaaGreatDoorFi
import Derived.Test.YtnbhkifknleipaaGreatDoorFj
import Derived.Test.YtnbhkifknleipaaGreatDoorFk
import Derived.Test.YtnbhkifknleipaaGreatDoorFl
import Derived.Test.YtnbhkifknleipaaGreatDoorFm
import Derived.Test.YtnbhkifknleipaaGreatDoorFn
import Derived.Test.YtnbhkifknleipaaGreatDoorFo
import Derived.Test.YtnbhkifknleipaaGreatDoorFp
import Derived.Test.YtnbhkifknleipaaGreatDoorFq
import Derived.Test.YtnbhkifknleipaaGreatDoorFr
set_option linter.unusedVariables false
set_option linter.unusedSimpArgs false
set_option autoImplicit false
set_option maxRecDepth 100000
set_option maxHeartbeats 4000000
namespace Go.Vm.A
open Go.Proofs
open Nat renaming reduceAdd → nA, reduceSub → nS, reduceMul → nM, reduceBEq → nB, reduceEqDiff → nE, reduceLeDiff → nL, reduceLT → nT, reduceBneDiff → nN
open Int renaming reduceLE → iL, reduceLT → iT, reduceEq → iE, reduceAdd → iA, reduceMul → iM, reduceSub → iS, reduceNeg → iG, reduceBEq → iB, reduceBNe → iN, reduceToNat → iZ
noncomputable section
def s252 : SP Tryz.prog:=mkS tyA 252 Tryz.f252 [s325] { md:=[.ro 1,.ro 1],rets:=some ([4],[]) } Tryz.func252 (by kernel_rfl)
@[go_sem] theorem d252 : s252.g = 252 ∧ s252.fs = ⟨[.ro 1,.ro 1],s252.F,false⟩:=⟨nr rfl,nr rfl⟩
@[go_sem] theorem e252 (w0 w1 w2 : Int) (w3 : List Mark) (w4 w5 w6 : Int) (w7 : List Mark) (h0 : smBreaker (Breaker.mk w0 w1 w2 w3)) : s252.F [.agg [.i .i64 w0,.i .i64 w1,.i .i64 w2,.sl .ro 2 (w3.map (rMark .ro))],.agg [.i .i64 w4,.i .i64 w5,.i .i64 w6,.sl .ro 2 (w7.map (rMark .ro))]] = some (.b (eqv (Breaker.mk w0 w1 w2 w3) (Breaker.mk w4 w5 w6 w7)),[.u,.u]):=mkS_eq (0) rfl rfl (fun cx h=>by
 obtain ⟨q0,q1,q2,q3⟩:=h0
 simp only [go_sem,reduceIte,↓reduceIte,reduceCtorEq,nA,nS,nM,nB,nE,nL,nT,nN,iL,iT,iE,iA,iM,iS,iG,iB,iN,iZ,h,eqv_intne,eqv_int,eqv_bytes,eqv_boolne,eqv_bool,eqv_mk,q0,q1,q2,q3]
 simp only [Breaker.eqv (Breaker.mk w0 w1 w2 w3) (Breaker.mk w4 w5 w6 w7),if_sb,if_and',if_or',Bool.and_true,Bool.and_assoc]) (rfl)
def s158 : SP Tryz.prog:=mkS tyA 158 Tryz.f158 [s251,s252] { md:=[.ro 1,.ro 1],rets:=some ([4],[]) } Tryz.func158 (by kernel_rfl)
@[go_sem] theorem d158 : s158.g = 158 ∧ s158.fs = ⟨[.ro 1,.ro 1],s158.F,false⟩:=⟨nr rfl,nr rfl⟩
@[go_sem] theorem e158 (w8 : ByteArray) (w9 : Int) (w10 : List Wait) (w11 w12 w13 : Int) (w14 : List Mark) (w15 : ByteArray) (w16 : Int) (w17 : List Wait) (w18 w19 w20 : Int) (w21 : List Mark) (h0 : smOrigin (Origin.mk w8 (Bulk.mk w9 w10) (Breaker.mk w11 w12 w13 w14))) : s158.F [.agg [.s w8,.i .i64 w9,.sl .ro 2 (w10.map (rWait .ro)),.i .i64 w11,.i .i64 w12,.i .i64 w13,.sl .ro 2 (w14.map (rMark .ro))],.agg [.s w15,.i .i64 w16,.sl .ro 2 (w17.map (rWait .ro)),.i .i64 w18,.i .i64 w19,.i .i64 w20,.sl .ro 2 (w21.map (rMark .ro))]] = some (.b (eqv (Origin.mk w8 (Bulk.mk w9 w10) (Breaker.mk w11 w12 w13 w14)) (Origin.mk w15 (Bulk.mk w16 w17) (Breaker.mk w18 w19 w20 w21))),[.u,.u]):=mkS_eq (0) rfl rfl (fun cx h=>by
 obtain ⟨q0,q1,q2⟩:=h0
 simp only [go_sem,reduceIte,↓reduceIte,reduceCtorEq,nA,nS,nM,nB,nE,nL,nT,nN,iL,iT,iE,iA,iM,iS,iG,iB,iN,iZ,h,eqv_intne,eqv_int,eqv_bytes,eqv_boolne,eqv_bool,eqv_mk,q0,q1,q2]
 simp only [Origin.eqv (Origin.mk w8 (Bulk.mk w9 w10) (Breaker.mk w11 w12 w13 w14)) (Origin.mk w15 (Bulk.mk w16 w17) (Breaker.mk w18 w19 w20 w21)),if_sb,if_and',if_or',Bool.and_true,Bool.and_assoc]) (rfl)
def s157 : SP Tryz.prog:=mkS tyA 157 Tryz.f157 [s158] { md:=[.ro 1,.ro 1,.ro 1],rg:=[(0,[0,1,2],[]),(1,[0,1,2,14],[]),(2,[6],[]),(3,[0,1,2,15,16,17],[]),(4,[0,1,2,15,16,17,18],[]),(5,[0,1,2,7,8,15,16,17],[8]),(6,[0,1,2,8,9,15,16,17,22],[8,9]),(7,[0,1,2,15,16,17,30],[]),(8,[6],[]),(9,[0,1,2,15,16,17],[]),(10,[6],[])],lv:=[(0,[0,1,2,15,16,17],[])],out:=[(0,[],[])],rets:=some ([6],[]) } Tryz.func157 (by kernel_rfl)
@[go_sem] theorem d157 : s157.g = 157 ∧ s157.fs = ⟨[.ro 1,.ro 1,.ro 1],s157.F,false⟩:=⟨nr rfl,nr rfl⟩
@[go_sem] theorem e157 (xs ys : List Origin) (h0 : smL smOrigin xs) : s157.F [.sl .ro 7 (xs.map (rOrigin .ro)),.sl .ro 7 (ys.map (rOrigin .ro)),.fn 158 []] = some (.b (eqv xs ys),[.u,.u,.u]):=mkS_eq (xs.length + 1) rfl rfl (fun cx h=>by
 have hx:=h0.1
 by_cases hl : xs.length = ys.length
 ·have hb0:=loopN_eq Tryz.f157 0 _ _ rfl rfl
  obtain ⟨r,hr,hq⟩:=loop_srch (cx:=cx) (blk:=0) (body:=loopN Tryz.f157 0) (xs.zip ys) (fun k (s : Unit)=>⟨E [(0,.sl .ro 7 (xs.map (rOrigin .ro))),(1,.sl .ro 7 (ys.map (rOrigin .ro))),(2,.fn 158 []),(15,.sl .ro 7 (xs.map (rOrigin .ro))),(16,.i .i64 xs.length),(17,.i .i64 k)],B []⟩) (fun s=>⟨E [],B []⟩) (fun x s=>!eqv x.1 x.2) (fun x s=>s) (fun x s=>(.ret,⟨E [(6,.b false)],B []⟩)) (fun k s=>True)
    (fun s hI G=>by simp only [go_sem,reduceIte,↓reduceIte,reduceCtorEq,nA,nS,nM,nB,nE,nL,nT,nN,iL,iT,iE,iA,iM,iS,iG,iB,iN,iZ,h,Int.lt_irrefl,hb0,zip_len hl,hl]) (fun k hk s hI=>by
     have h1 : ((k : Int) < ((xs.zip ys).length : Int)):=Int.ofNat_lt.2 hk
     have hk' : k < xs.length:=by rwa [zip_len hl] at hk
     have h1' : ((k : Int) < (xs.length : Int)):=Int.ofNat_lt.2 hk'
     have h2:=h0.2 _ (List.getElem_mem hk')
     have h3 : (xs.zip ys)[k] = (xs[k],ys[k]'(by omega)):=by simp
     rw [h3]
     have h4:=h2
     obtain ⟨u0,u1,u2⟩:=h2
     exact ⟨_,_,_,fun G=>by simp only [go_sem,reduceIte,↓reduceIte,reduceCtorEq,nA,nS,nM,nB,nE,nL,nT,nN,iL,iT,iE,iA,iM,iS,iG,iB,iN,iZ,h,h1',idx_nt _ _ hk',idx_nt ys.length k (by omega),map_gd (rOrigin .ro) xs k hk',map_gd (rOrigin .ro) ys k (by omega),wrap_nat1 (show k < 9223372036854775807 by omega),h4,if_oret,Origin.eqv xs[k] (ys[k]'(by omega)),u0,u1,u2,eqv_byte,eqv_intne,eqv_int,eqv_bytes,eqv_boolne,h1,idx_nt _ _ hk,wrap_nat1 (show k < 9223372036854775807 by omega),hb0] <;> with_reducible rfl,by first | exact Iff.rfl | ((simp only [Origin.eqv xs[k] (ys[k]'(by omega))] <;> simp) <;> done) | ((simp only [Origin.eqv xs[k] (ys[k]'(by omega))] <;> simp [eqv]) <;> done) | (simp only [Origin.eqv xs[k] (ys[k]'(by omega))] <;> simp [eqv] <;> (by_cases g : xs[k].Get = (ys[k]'(by omega)).Get <;> simp [g])),fun hc=>⟨trivial,by simp only [go_sem,reduceIte,↓reduceIte,reduceCtorEq,nA,nS,nM,nB,nE,nL,nT,nN,iL,iT,iE,iA,iM,iS,iG,iB,iN,iZ,h]⟩⟩) () trivial (xs.length + 1) (by rw [zip_len hl]; exact Nat.le_refl _)
  rw [hb0] at hr
  have hl2 : ((xs.length : Int) != (ys.length : Int)) = false:=by simp [hl]
  rcases hq with ⟨s',e1,_,e3⟩ | ⟨x,s',e1,e3⟩
  ·simp only [go_sem,reduceIte,↓reduceIte,reduceCtorEq,nA,nS,nM,nB,nE,nL,nT,nN,iL,iT,iE,iA,iM,iS,iG,iB,iN,iZ,h,hl2,hr,e3,zip_eqv hl e1]
  ·simp only [go_sem,reduceIte,↓reduceIte,reduceCtorEq,nA,nS,nM,nB,nE,nL,nT,nN,iL,iT,iE,iA,iM,iS,iG,iB,iN,iZ,h,hl2,hr,e3,zip_nev hl e1]
 ·have hl2 : ((xs.length : Int) != (ys.length : Int)) = true:=by simpa using fun h=>hl (Int.ofNat_inj.1 h)
  simp only [go_sem,reduceIte,↓reduceIte,reduceCtorEq,nA,nS,nM,nB,nE,nL,nT,nN,iL,iT,iE,iA,iM,iS,iG,iB,iN,iZ,h,hl2,len_nev hl]) (rfl)
def s55 : SP Tryz.prog:=mkS tyA 55 Tryz.f55 [s18,s155,s156,s157,s158] { md:=[.ro 1,.ro 1],rets:=some ([4],[]) } Tryz.func55 (by kernel_rfl)
@[go_sem] theorem d55 : s55.g = 55 ∧ s55.fs = ⟨[.ro 1,.ro 1],s55.F,false⟩:=⟨nr rfl,nr rfl⟩
@[go_sem] theorem e55 (w22 w23 w24 w25 w26 w27 w28 w29 : Int) (w30 : List ByteArray) (w31 w32 w33 w34 w35 w36 w37 w38 w39 w40 w41 w42 : Int) (w43 w44 : List Entry) (w45 : List Origin) (w46 : List Flight) (w47 w48 w49 w50 w51 w52 w53 w54 : Int) (w55 : List ByteArray) (w56 w57 w58 w59 w60 w61 w62 w63 w64 w65 w66 w67 : Int) (w68 w69 : List Entry) (w70 : List Origin) (w71 : List Flight) (h0 : smShield (Shield.mk (Config.mk w22 w23 w24 w25 w26 w27 w28 w29 w30 (Lanes.mk w31 w32 w33) (Rules.mk w34 w35 w36 w37 w38)) w39 w40 (Store.mk w41 w42 w43 w44) w45 w46)) : s55.F [.agg [.i .i64 w22,.i .i64 w23,.i .i64 w24,.i .i64 w25,.i .i64 w26,.i .i64 w27,.i .i64 w28,.i .i64 w29,.sl .ro 1 (w30.map rStr),.i .i64 w31,.i .i64 w32,.i .i64 w33,.i .i64 w34,.i .i64 w35,.i .i64 w36,.i .i64 w37,.i .i64 w38,.i .i64 w39,.i .i64 w40,.i .i64 w41,.i .i64 w42,.sl .ro 13 (w43.map (rEntry .ro)),.sl .ro 13 (w44.map (rEntry .ro)),.sl .ro 7 (w45.map (rOrigin .ro)),.sl .ro 11 (w46.map (rFlight .ro))],.agg [.i .i64 w47,.i .i64 w48,.i .i64 w49,.i .i64 w50,.i .i64 w51,.i .i64 w52,.i .i64 w53,.i .i64 w54,.sl .ro 1 (w55.map rStr),.i .i64 w56,.i .i64 w57,.i .i64 w58,.i .i64 w59,.i .i64 w60,.i .i64 w61,.i .i64 w62,.i .i64 w63,.i .i64 w64,.i .i64 w65,.i .i64 w66,.i .i64 w67,.sl .ro 13 (w68.map (rEntry .ro)),.sl .ro 13 (w69.map (rEntry .ro)),.sl .ro 7 (w70.map (rOrigin .ro)),.sl .ro 11 (w71.map (rFlight .ro))]] = some (.b (eqv (Shield.mk (Config.mk w22 w23 w24 w25 w26 w27 w28 w29 w30 (Lanes.mk w31 w32 w33) (Rules.mk w34 w35 w36 w37 w38)) w39 w40 (Store.mk w41 w42 w43 w44) w45 w46) (Shield.mk (Config.mk w47 w48 w49 w50 w51 w52 w53 w54 w55 (Lanes.mk w56 w57 w58) (Rules.mk w59 w60 w61 w62 w63)) w64 w65 (Store.mk w66 w67 w68 w69) w70 w71)),[.u,.u]):=mkS_eq (0) rfl rfl (fun cx h=>by
 obtain ⟨q0,q1,q2,q3,q4,q5⟩:=h0
 simp only [go_sem,reduceIte,↓reduceIte,reduceCtorEq,nA,nS,nM,nB,nE,nL,nT,nN,iL,iT,iE,iA,iM,iS,iG,iB,iN,iZ,h,eqv_intne,eqv_int,eqv_bytes,eqv_boolne,eqv_bool,eqv_mk,q0,q1,q2,q3,q4,q5]
 simp only [Shield.eqv (Shield.mk (Config.mk w22 w23 w24 w25 w26 w27 w28 w29 w30 (Lanes.mk w31 w32 w33) (Rules.mk w34 w35 w36 w37 w38)) w39 w40 (Store.mk w41 w42 w43 w44) w45 w46) (Shield.mk (Config.mk w47 w48 w49 w50 w51 w52 w53 w54 w55 (Lanes.mk w56 w57 w58) (Rules.mk w59 w60 w61 w62 w63)) w64 w65 (Store.mk w66 w67 w68 w69) w70 w71),if_sb,if_and',if_or',Bool.and_true,Bool.and_assoc]) (rfl)
def s253 : SP Tryz.prog:=mkS tyA 253 Tryz.f253 [] { md:=[.ro 1],rets:=some ([2],[]) } Tryz.func253 (by kernel_rfl)
@[go_sem] theorem d253 : s253.g = 253 ∧ s253.fs = ⟨[.ro 1],s253.F,false⟩:=⟨nr rfl,nr rfl⟩
@[go_sem] theorem e253 (xs : List ByteArray) (h0 : smL smStr xs) : s253.F [.sl .ro 1 (xs.map rStr)] = some (.sl .mut 1 (xs.map rStr),[.u]):=mkS_eq (0) rfl rfl (fun cx h=>by
 have h1 : (xs.map rStr).all (·.all plain) = true:=by simp [rStr,plain]
 have h2 : xs.length * 16 ≤ 140737488355328:=by have:=h0.1; omega
 simp only [go_sem,reduceIte,↓reduceIte,reduceCtorEq,nA,nS,nM,nB,nE,nL,nT,nN,iL,iT,iE,iA,iM,iS,iG,iB,iN,iZ,h,h1,h2]) (by simp only [go_sem,reduceIte,↓reduceIte,reduceCtorEq,nA,nS,nM,nB,nE,nL,nT,nN,iL,iT,iE,iA,iM,iS,iG,iB,iN,iZ,okRes,hasRo])
def s159 : SP Tryz.prog:=mkS tyA 159 Tryz.f159 [s253] { md:=[.ro 1],rg:=[(0,[0,2],[2,3]),(1,[0,2,3],[2,3]),(2,[2,3],[2,3]),(3,[2],[2,3])],rets:=some ([2],[2,3]) } Tryz.func159 (by kernel_rfl)
@[go_sem] theorem d159 : s159.g = 159 ∧ s159.fs = ⟨[.ro 1],s159.F,false⟩:=⟨nr rfl,nr rfl⟩
@[go_sem] theorem e159 (w72 w73 w74 w75 w76 w77 w78 w79 : Int) (w80 : List ByteArray) (w81 w82 w83 w84 w85 w86 w87 w88 : Int) (h0 : smL smStr (Config.mk w72 w73 w74 w75 w76 w77 w78 w79 w80 (Lanes.mk w81 w82 w83) (Rules.mk w84 w85 w86 w87 w88)).Names) : s159.F [.pr [.i .i64 w72,.i .i64 w73,.i .i64 w74,.i .i64 w75,.i .i64 w76,.i .i64 w77,.i .i64 w78,.i .i64 w79,.sl .ro 1 (w80.map rStr),.i .i64 w81,.i .i64 w82,.i .i64 w83,.i .i64 w84,.i .i64 w85,.i .i64 w86,.i .i64 w87,.i .i64 w88]] = some (.agg (rConfig .mut (Config.mk w72 w73 w74 w75 w76 w77 w78 w79 w80 (Lanes.mk w81 w82 w83) (Rules.mk w84 w85 w86 w87 w88))),[.u]):=mkS_eq (0) rfl rfl (fun cx h=>by
 simp only [go_sem,reduceIte,↓reduceIte,reduceCtorEq,nA,nS,nM,nB,nE,nL,nT,nN,iL,iT,iE,iA,iM,iS,iG,iB,iN,iZ,h,h0]) (by simp only [go_sem,reduceIte,↓reduceIte,reduceCtorEq,nA,nS,nM,nB,nE,nL,nT,nN,iL,iT,iE,iA,iM,iS,iG,iB,iN,iZ,okRes,hasRo,hasRoL,hasRoLL])
def s56 : SP Tryz.prog:=mkS tyA 56 Tryz.f56 [s48,s159] { md:=[.ro 1],rg:=[(0,[1,2,10,15,16],[1,2]),(1,[1,2,3,10,15,16],[1,2]),(2,[1,2,3,7,10,15,16],[1,2]),(3,[2,10,15,16],[2]),(4,[2,10,15,16],[2])],rets:=some ([2,10,15,16],[2]),plan:=[(4,(.take 1 (.take 2 (.take 3 (.take 4 (.take 5 (.one 0 (.take 6 (.take 7 (.one 8 .done))))))))))] } Tryz.func56 (by kernel_rfl)
@[go_sem] theorem d56 : s56.g = 56 ∧ s56.fs = ⟨[.ro 1],s56.F,false⟩:=⟨nr rfl,nr rfl⟩
@[go_sem] theorem e56 (w72 w73 w74 w75 w76 w77 w78 w79 : Int) (w80 : List ByteArray) (w81 w82 w83 w84 w85 w86 w87 w88 : Int) (h0 : smConfig (Config.mk w72 w73 w74 w75 w76 w77 w78 w79 w80 (Lanes.mk w81 w82 w83) (Rules.mk w84 w85 w86 w87 w88))) : s56.F [.agg [.i .i64 w72,.i .i64 w73,.i .i64 w74,.i .i64 w75,.i .i64 w76,.i .i64 w77,.i .i64 w78,.i .i64 w79,.sl .ro 1 (w80.map rStr),.i .i64 w81,.i .i64 w82,.i .i64 w83,.i .i64 w84,.i .i64 w85,.i .i64 w86,.i .i64 w87,.i .i64 w88]] = some (.agg (rShieldResult .mut (newShield (Config.mk w72 w73 w74 w75 w76 w77 w78 w79 w80 (Lanes.mk w81 w82 w83) (Rules.mk w84 w85 w86 w87 w88)))),[.u]):=mkS_eq (0) rfl rfl (fun cx h=>by
 have hN:=h0.2.2.2.2.2.2.2.2.1
 simp only at hN
 by_cases z : configFault (Config.mk w72 w73 w74 w75 w76 w77 w78 w79 w80 (Lanes.mk w81 w82 w83) (Rules.mk w84 w85 w86 w87 w88)) = 0
 rotate_left
 ·have z' : (configFault (Config.mk w72 w73 w74 w75 w76 w77 w78 w79 w80 (Lanes.mk w81 w82 w83) (Rules.mk w84 w85 w86 w87 w88)) != 0) = true:=by simpa using z
  simp only [go_sem,reduceIte,↓reduceIte,reduceCtorEq,nA,nS,nM,nB,nE,nL,nT,nN,iL,iT,iE,iA,iM,iS,iG,iB,iN,iZ,h,z',newShield,zShield,zConfig]
 simp only [go_sem,reduceIte,↓reduceIte,reduceCtorEq,nA,nS,nM,nB,nE,nL,nT,nN,iL,iT,iE,iA,iM,iS,iG,iB,iN,iZ,h,z,hN,h0,newShield,freshShield]) (by simp only [go_sem,reduceIte,↓reduceIte,reduceCtorEq,nA,nS,nM,nB,nE,nL,nT,nN,iL,iT,iE,iA,iM,iS,iG,iB,iN,iZ,okRes,hasRo,hasRoL,hasRoLL])
theorem fresh_fault {c : Config} (h : configFault c = 0) : shieldFault (freshShield c) = 0:=by
 have h0:=h
 unfold configFault at h0
 rw [firstI_cons] at h0
 have hs : storeCode c.Budget c.Guard = 0:=by
  split at h0
  ·rename_i hc; rw [h0] at hc; exact absurd hc (by decide)
  ·rename_i hc; simpa using hc
 unfold shieldFault
 have e1 : storeFault (freshShield c).Store = 0:=by show storeFault ⟨c.Budget,c.Guard,[],[]⟩ = 0; rw [storeFault_nil]; exact hs
 have e2 : (freshShield c).Config = c:=rfl
 have e3 : isTime (freshShield c).Now = true:=rfl
 have e4 : isTime (freshShield c).Next = true:=rfl
 have e5 : originsFault (freshShield c) = 0:=by unfold originsFault; rfl
 have e6 : flightsFault (freshShield c).Flights = 0:=by unfold flightsFault; rfl
 have e7 : fitsV (freshShield c) = true:=by unfold fitsV; rfl
 have e8 : ((freshShield c).Store.Budget != (freshShield c).Config.Budget || (freshShield c).Store.Guard != (freshShield c).Config.Guard) = false:=by show (c.Budget != c.Budget || c.Guard != c.Guard) = false; simp
 have e9 : decide (6 < ((freshShield c).Origins.length : Int)) = false:=rfl
 rw [e1,e2,e3,e4,e5,e6,e7,h]
 rw [e2] at e8
 rw [e8,e9]
 rfl
theorem store_of {c : Config} (h : configFault c = 0) : storeFault ⟨c.Budget,c.Guard,[],[]⟩ = 0:=by
 have h0:=h
 unfold configFault at h0
 rw [firstI_cons] at h0
 rw [storeFault_nil]
 split at h0
 ·rename_i hc; rw [h0] at hc; exact absurd hc (by decide)
 ·rename_i hc; simpa using hc
theorem costIn_fresh {c : Config} (h : configFault c = 0) : costIn ⟨c.Budget,c.Guard,[],[]⟩ = ⟨0,0⟩:=by
 unfold costIn
 rw [store_of h]
 rfl
theorem waitingIn_fresh {c : Config} (h : configFault c = 0) : waitingIn (freshShield c) = ⟨0,0⟩:=by
 unfold waitingIn
 rw [fresh_fault h]
 rfl
theorem outTo_fresh {c : Config} (h : configFault c = 0) (t : ByteArray) : outTo (freshShield c) t = ⟨0,0⟩:=by
 unfold outTo
 rw [fresh_fault h]
 rfl
@[go_sem] theorem e51_0 (w72 w73 w74 w75 w76 w77 w78 w79 : Int) (w80 : List ByteArray) (w81 w82 w83 w84 w85 w86 w87 w88 : Int) (h0 : smConfig (Config.mk w72 w73 w74 w75 w76 w77 w78 w79 w80 (Lanes.mk w81 w82 w83) (Rules.mk w84 w85 w86 w87 w88))) : s51.F [.agg [.i .i64 w72,.i .i64 w73,.i .i64 w74,.i .i64 w75,.i .i64 w76,.i .i64 w77,.i .i64 w78,.i .i64 w79,.sl .ro 1 (w80.map rStr),.i .i64 w81,.i .i64 w82,.i .i64 w83,.i .i64 w84,.i .i64 w85,.i .i64 w86,.i .i64 w87,.i .i64 w88,.i .i64 0,.i .i64 0,.i .i64 w72,.i .i64 w73,.sl .ro 13 [],.sl .ro 13 [],.sl .ro 7 [],.sl .ro 11 []]] = some (.i .i64 (shieldFault (freshShield (Config.mk w72 w73 w74 w75 w76 w77 w78 w79 w80 (Lanes.mk w81 w82 w83) (Rules.mk w84 w85 w86 w87 w88)))),[.u]):=e51 w72 w73 w74 w75 w76 w77 w78 w79 w80 w81 w82 w83 w84 w85 w86 w87 w88 0 0 w72 w73 [] [] [] [] (freshShield_sm h0)
@[go_sem] theorem e53_0 (w72 w73 w74 w75 w76 w77 w78 w79 : Int) (w80 : List ByteArray) (w81 w82 w83 w84 w85 w86 w87 w88 : Int) (h0 : smConfig (Config.mk w72 w73 w74 w75 w76 w77 w78 w79 w80 (Lanes.mk w81 w82 w83) (Rules.mk w84 w85 w86 w87 w88))) : s53.F [.agg [.i .i64 w72,.i .i64 w73,.i .i64 w74,.i .i64 w75,.i .i64 w76,.i .i64 w77,.i .i64 w78,.i .i64 w79,.sl .ro 1 (w80.map rStr),.i .i64 w81,.i .i64 w82,.i .i64 w83,.i .i64 w84,.i .i64 w85,.i .i64 w86,.i .i64 w87,.i .i64 w88,.i .i64 0,.i .i64 0,.i .i64 w72,.i .i64 w73,.sl .ro 13 [],.sl .ro 13 [],.sl .ro 7 [],.sl .ro 11 []]] = some (.agg (rIntResult .ro (waitingIn (freshShield (Config.mk w72 w73 w74 w75 w76 w77 w78 w79 w80 (Lanes.mk w81 w82 w83) (Rules.mk w84 w85 w86 w87 w88))))),[.u]):=e53 w72 w73 w74 w75 w76 w77 w78 w79 w80 w81 w82 w83 w84 w85 w86 w87 w88 0 0 w72 w73 [] [] [] [] (freshShield_sm h0)
@[go_sem] theorem e54_0 (w72 w73 w74 w75 w76 w77 w78 w79 : Int) (w80 : List ByteArray) (w81 w82 w83 w84 w85 w86 w87 w88 : Int) (t : ByteArray) (h0 : smConfig (Config.mk w72 w73 w74 w75 w76 w77 w78 w79 w80 (Lanes.mk w81 w82 w83) (Rules.mk w84 w85 w86 w87 w88))) : s54.F [.agg [.i .i64 w72,.i .i64 w73,.i .i64 w74,.i .i64 w75,.i .i64 w76,.i .i64 w77,.i .i64 w78,.i .i64 w79,.sl .ro 1 (w80.map rStr),.i .i64 w81,.i .i64 w82,.i .i64 w83,.i .i64 w84,.i .i64 w85,.i .i64 w86,.i .i64 w87,.i .i64 w88,.i .i64 0,.i .i64 0,.i .i64 w72,.i .i64 w73,.sl .ro 13 [],.sl .ro 13 [],.sl .ro 7 [],.sl .ro 11 []],.s t] = some (.agg (rIntResult .ro (outTo (freshShield (Config.mk w72 w73 w74 w75 w76 w77 w78 w79 w80 (Lanes.mk w81 w82 w83) (Rules.mk w84 w85 w86 w87 w88))) t)),[.u,.u]):=e54 w72 w73 w74 w75 w76 w77 w78 w79 w80 w81 w82 w83 w84 w85 w86 w87 w88 0 0 w72 w73 [] [] [] [] t (freshShield_sm h0)
@[go_sem] theorem e55_0 (w72 w73 w74 w75 w76 w77 w78 w79 : Int) (w80 : List ByteArray) (w81 w82 w83 w84 w85 w86 w87 w88 : Int) (h0 : smConfig (Config.mk w72 w73 w74 w75 w76 w77 w78 w79 w80 (Lanes.mk w81 w82 w83) (Rules.mk w84 w85 w86 w87 w88))) : s55.F [.agg [.i .i64 w72,.i .i64 w73,.i .i64 w74,.i .i64 w75,.i .i64 w76,.i .i64 w77,.i .i64 w78,.i .i64 w79,.sl .ro 1 (w80.map rStr),.i .i64 w81,.i .i64 w82,.i .i64 w83,.i .i64 w84,.i .i64 w85,.i .i64 w86,.i .i64 w87,.i .i64 w88,.i .i64 0,.i .i64 0,.i .i64 w72,.i .i64 w73,.sl .ro 13 [],.sl .ro 13 [],.sl .ro 7 [],.sl .ro 11 []],.agg [.i .i64 w72,.i .i64 w73,.i .i64 w74,.i .i64 w75,.i .i64 w76,.i .i64 w77,.i .i64 w78,.i .i64 w79,.sl .ro 1 (w80.map rStr),.i .i64 w81,.i .i64 w82,.i .i64 w83,.i .i64 w84,.i .i64 w85,.i .i64 w86,.i .i64 w87,.i .i64 w88,.i .i64 0,.i .i64 0,.i .i64 w72,.i .i64 w73,.sl .ro 13 [],.sl .ro 13 [],.sl .ro 7 [],.sl .ro 11 []]] = some (.b true,[.u,.u]):=(e55 w72 w73 w74 w75 w76 w77 w78 w79 w80 w81 w82 w83 w84 w85 w86 w87 w88 0 0 w72 w73 [] [] [] [] w72 w73 w74 w75 w76 w77 w78 w79 w80 w81 w82 w83 w84 w85 w86 w87 w88 0 0 w72 w73 [] [] [] [] (freshShield_sm h0)).trans (by rw [eqv_self])
def s6 : SP Tryz.prog:=mkS tyA 6 Tryz.f6 [s9,s44,s45,s46,s47,s48,s49,s50,s51,s52,s53,s54,s55,s56] { md:=[.ro 1],rg:=[(0,[0],[]),(1,[0,9],[]),(2,[2],[]),(3,[0,3],[3]),(4,[0,3,4],[3,4]),(5,[3,4,5,6],[3,4]),(6,[3,4,5,6,7],[3,4,7]),(7,[3,4,42],[3,4]),(8,[2],[]),(9,[3,4,45],[3,4]),(10,[2],[]),(11,[2],[])],rets:=some ([2],[]),al:=[14],plan:=[(7,(.take 0 (.take 1 (.take 2 (.one 3 (.take 4 (.take 5 (.take 6 (.take 8 (.take 9 (.one 7 (.take 10 (.take 11 (.take 12 (.take 13 (.take 14 (.take 15 (.take 16 (.one 17 (.take 18 (.take 19 (.take 20 .done)))))))))))))))))))))),(11,(.take 0 (.take 1 (.one 2 (.take 3 (.take 4 (.take 5 (.take 6 (.take 7 (.take 9 (.one 8 (.take 10 (.take 11 (.take 12 (.take 13 (.take 14 (.take 16 (.one 15 (.take 17 (.take 18 (.take 19 (.take 20 (.take 21 (.take 22 (.take 23 (.take 24 (.take 25 (.take 26 (.take 27 (.take 28 (.take 30 (.one 29 (.take 31 (.take 32 (.take 33 (.take 34 (.take 35 (.take 36 (.take 37 (.take 38 (.take 39 (.take 40 (.take 41 (.take 42 (.take 43 (.take 44 (.take 45 (.one 46 (.take 47 (.one 48 (.take 49 (.one 50 .done))))))))))))))))))))))))))))))))))))))))))))))))))))] } Tryz.func6 (by kernel_rfl)
@[go_sem] theorem d6 : s6.g = 6 ∧ s6.fs = ⟨[.ro 1],s6.F,false⟩:=⟨nr rfl,nr rfl⟩
theorem e6 (code : List UInt8) (h0 : okL okByte code) : s6.F [.sl .ro 1 (code.map rByte)] = some (.b true,[.u]):=mkS_eq (0) rfl rfl (fun cx h=>by
 by_cases hb : 1048576 < (code.length : Int)
 ·simp only [go_sem,reduceIte,↓reduceIte,reduceCtorEq,nA,nS,nM,nB,nE,nL,nT,nN,iL,iT,iE,iA,iM,iS,iG,iB,iN,iZ,h,hb]
 have hsm:=drawConfig_sm code
 obtain ⟨C,hC⟩ : ∃ C,drawConfig code = C:=⟨_,rfl⟩
 rw [hC] at hsm
 rcases C with ⟨w72,w73,w74,w75,w76,w77,w78,w79,w80,⟨w81,w82,w83⟩,⟨w84,w85,w86,w87,w88⟩⟩
 obtain ⟨B,hB⟩ : ∃ B,pickV code 0 [0,1000,1000000,1000001,-1] = B:=⟨_,rfl⟩
 obtain ⟨G,hG⟩ : ∃ G,pickV code 1 [0,500,1000,1001,-1] = G:=⟨_,rfl⟩
 by_cases z : configFault (Config.mk w72 w73 w74 w75 w76 w77 w78 w79 w80 (Lanes.mk w81 w82 w83) (Rules.mk w84 w85 w86 w87 w88)) = 0
 rotate_left
 ·have z' : (configFault (Config.mk w72 w73 w74 w75 w76 w77 w78 w79 w80 (Lanes.mk w81 w82 w83) (Rules.mk w84 w85 w86 w87 w88)) != 0) = true:=by simpa using z
  simp only [go_sem,reduceIte,↓reduceIte,reduceCtorEq,nA,nS,nM,nB,nE,nL,nT,nN,iL,iT,iE,iA,iM,iS,iG,iB,iN,iZ,h,hb,hC,hsm,hB,hG,z',newShield,zShield,zConfig]
 have z' : (configFault (Config.mk w72 w73 w74 w75 w76 w77 w78 w79 w80 (Lanes.mk w81 w82 w83) (Rules.mk w84 w85 w86 w87 w88)) != 0) = false:=by simpa using z
 have hn : newShield (Config.mk w72 w73 w74 w75 w76 w77 w78 w79 w80 (Lanes.mk w81 w82 w83) (Rules.mk w84 w85 w86 w87 w88)) = ⟨0,freshShield (Config.mk w72 w73 w74 w75 w76 w77 w78 w79 w80 (Lanes.mk w81 w82 w83) (Rules.mk w84 w85 w86 w87 w88))⟩:=by unfold newShield; rw [z']; rfl
 have q1:=fresh_fault z
 have q2:=costIn_fresh z
 have q3:=waitingIn_fresh z
 have q4:=outTo_fresh z ⟨#[97,46,99,111,109]⟩
 simp only at q2
 simp only [freshShield] at q1 q3 q4
 simp only [go_sem,reduceIte,↓reduceIte,reduceCtorEq,nA,nS,nM,nB,nE,nL,nT,nN,iL,iT,iE,iA,iM,iS,iG,iB,iN,iZ,h,hb,hC,hsm,hB,hG,z,hn,q1,q2,q3,q4,freshShield]) (rfl)
end
end Go.Vm.A
