/- Functions of the program, walked by the evaluator. -/
import Derived.Test.YtnbhkifknleipaaGreatDoorWb
import Derived.Test.YtnbhkifknleipaaGreatDoorWa
import Derived.Test.YtnbhkifknleipaaGreatDoorFc
import Derived.Test.YtnbhkifknleipaaGreatDoorFg
import Derived.Test.YtnbhkifknleipaaGreatDoorFk
import Derived.Test.YtnbhkifknleipaaGreatDoorFm
import Derived.Test.YtnbhkifknleipaaGreatDoorFo
set_option linter.unusedVariables false
set_option linter.unusedSimpArgs false
set_option autoImplicit false
set_option maxRecDepth 100000
set_option maxHeartbeats 4000000
namespace Go.Vm.A
open Go.Proofs
open Nat renaming reduceAdd → nA, reduceSub → nS, reduceMul → nM, reduceBEq → nB, reduceEqDiff → nE, reduceLeDiff → nL, reduceLT → nT, reduceBneDiff → nN
open Int renaming reduceLE → iL, reduceLT → iT, reduceEq → iE, reduceAdd → iA, reduceMul → iM, reduceSub → iS, reduceNeg → iG, reduceBEq → iB, reduceBNe → iN, reduceToNat → iZ
noncomputable section
def s150 : SP Tryz.prog:=mkS tyA 150 Tryz.f150 [s135,s151,s231] { md:=[.ro 1],rets:=some ([1],[]) } Tryz.func150 (by kernel_rfl)
@[go_sem] theorem d150 : s150.g = 150 ∧ s150.fs = ⟨[.ro 1],s150.F,false⟩:=⟨nr rfl,nr rfl⟩
@[go_sem] theorem e150 (w0 w1 w2 w3 w4 w5 w6 w7 : Int) (w8 : List ByteArray) (w9 w10 w11 w12 w13 w14 w15 w16 w17 w18 w19 w20 : Int) (w21 w22 : List Entry) (w23 : List Origin) (w24 : List Flight) (h0 : smShield (Shield.mk (Config.mk w0 w1 w2 w3 w4 w5 w6 w7 w8 (Lanes.mk w9 w10 w11) (Rules.mk w12 w13 w14 w15 w16)) w17 w18 (Store.mk w19 w20 w21 w22) w23 w24)) : s150.F [.pr [.i .i64 w0,.i .i64 w1,.i .i64 w2,.i .i64 w3,.i .i64 w4,.i .i64 w5,.i .i64 w6,.i .i64 w7,.sl .ro 1 (w8.map rStr),.i .i64 w9,.i .i64 w10,.i .i64 w11,.i .i64 w12,.i .i64 w13,.i .i64 w14,.i .i64 w15,.i .i64 w16,.i .i64 w17,.i .i64 w18,.i .i64 w19,.i .i64 w20,.sl .ro 13 (w21.map (rEntry .ro)),.sl .ro 13 (w22.map (rEntry .ro)),.sl .ro 7 (w23.map (rOrigin .ro)),.sl .ro 11 (w24.map (rFlight .ro))]] = some (.i .i64 (if (!fitsV (Shield.mk (Config.mk w0 w1 w2 w3 w4 w5 w6 w7 w8 (Lanes.mk w9 w10 w11) (Rules.mk w12 w13 w14 w15 w16)) w17 w18 (Store.mk w19 w20 w21 w22) w23 w24)) = true then 8 else 0),[.u]):=mkS_eq (0) rfl rfl (fun cx h=>by
 simp only [go_sem,reduceIte,↓reduceIte,reduceCtorEq,nA,nS,nM,nB,nE,nL,nT,nN,iL,iT,iE,iA,iM,iS,iG,iB,iN,iZ,h,h0,if_i]) (rfl)
theorem loopE_8 (cx : Cx) (blk : Nat) (c : Code) (st : St) : loopE cx blk c 8 st = seqE (evCode cx blk c (keep (cx.live blk) st)) (fun s=>loopE cx blk c 7 s):=loopE_succ cx blk c 7 st
theorem loopE_9 (cx : Cx) (blk : Nat) (c : Code) (st : St) : loopE cx blk c 9 st = seqE (evCode cx blk c (keep (cx.live blk) st)) (fun s=>loopE cx blk c 8 s):=loopE_succ cx blk c 8 st
def s133_s : SP Tryz.prog:=mkS tyA 133 Tryz.f133 [s144,s145,s146,s149,s150,s231] { md:=[.ro 1],rg:=[(0,[0],[]),(1,[0,6,7,8],[]),(2,[0,6,7,8,9],[]),(3,[0,4,6,7,8],[]),(4,[0,5,6,7,8],[]),(5,[0,5,6,7,8,15],[]),(6,[2],[]),(7,[0,6,7,8],[]),(8,[2],[])],lv:=[(0,[0,6,7,8],[])],out:=[(0,[],[])],rets:=some ([2],[]) } Tryz.func133 (by kernel_rfl)
@[go_sem] theorem d133_s : s133_s.g = 133 ∧ s133_s.fs = ⟨[.ro 1],s133_s.F,false⟩:=⟨nr rfl,nr rfl⟩
@[go_sem] theorem e133_sh (w0 w1 w2 w3 w4 w5 w6 w7 : Int) (w8 : List ByteArray) (w9 w10 w11 w12 w13 w14 w15 w16 w17 w18 w19 w20 : Int) (w21 w22 : List Entry) (w23 : List Origin) (w24 : List Flight) (q1 q2 q3 : Bool) (x1 x2 x3 : Int) (h0 : smShield (Shield.mk (Config.mk w0 w1 w2 w3 w4 w5 w6 w7 w8 (Lanes.mk w9 w10 w11) (Rules.mk w12 w13 w14 w15 w16)) w17 w18 (Store.mk w19 w20 w21 w22) w23 w24)) : s133_s.F [.fs [.fn 144 [.pr [.i .i64 w0,.i .i64 w1,.i .i64 w2,.i .i64 w3,.i .i64 w4,.i .i64 w5,.i .i64 w6,.i .i64 w7,.sl .ro 1 (w8.map rStr),.i .i64 w9,.i .i64 w10,.i .i64 w11,.i .i64 w12,.i .i64 w13,.i .i64 w14,.i .i64 w15,.i .i64 w16,.i .i64 w17,.i .i64 w18,.i .i64 w19,.i .i64 w20,.sl .ro 13 (w21.map (rEntry .ro)),.sl .ro 13 (w22.map (rEntry .ro)),.sl .ro 7 (w23.map (rOrigin .ro)),.sl .ro 11 (w24.map (rFlight .ro))]],.fn 231 [.pr [.b q1],.pr [.i .i64 x1]],.fn 145 [.pr [.i .i64 w0,.i .i64 w1,.i .i64 w2,.i .i64 w3,.i .i64 w4,.i .i64 w5,.i .i64 w6,.i .i64 w7,.sl .ro 1 (w8.map rStr),.i .i64 w9,.i .i64 w10,.i .i64 w11,.i .i64 w12,.i .i64 w13,.i .i64 w14,.i .i64 w15,.i .i64 w16,.i .i64 w17,.i .i64 w18,.i .i64 w19,.i .i64 w20,.sl .ro 13 (w21.map (rEntry .ro)),.sl .ro 13 (w22.map (rEntry .ro)),.sl .ro 7 (w23.map (rOrigin .ro)),.sl .ro 11 (w24.map (rFlight .ro))]],.fn 231 [.pr [.b q2],.pr [.i .i64 x2]],.fn 231 [.pr [.b q3],.pr [.i .i64 x3]],.fn 146 [.pr [.i .i64 w0,.i .i64 w1,.i .i64 w2,.i .i64 w3,.i .i64 w4,.i .i64 w5,.i .i64 w6,.i .i64 w7,.sl .ro 1 (w8.map rStr),.i .i64 w9,.i .i64 w10,.i .i64 w11,.i .i64 w12,.i .i64 w13,.i .i64 w14,.i .i64 w15,.i .i64 w16,.i .i64 w17,.i .i64 w18,.i .i64 w19,.i .i64 w20,.sl .ro 13 (w21.map (rEntry .ro)),.sl .ro 13 (w22.map (rEntry .ro)),.sl .ro 7 (w23.map (rOrigin .ro)),.sl .ro 11 (w24.map (rFlight .ro))]],.fn 149 [.pr [.i .i64 w0,.i .i64 w1,.i .i64 w2,.i .i64 w3,.i .i64 w4,.i .i64 w5,.i .i64 w6,.i .i64 w7,.sl .ro 1 (w8.map rStr),.i .i64 w9,.i .i64 w10,.i .i64 w11,.i .i64 w12,.i .i64 w13,.i .i64 w14,.i .i64 w15,.i .i64 w16,.i .i64 w17,.i .i64 w18,.i .i64 w19,.i .i64 w20,.sl .ro 13 (w21.map (rEntry .ro)),.sl .ro 13 (w22.map (rEntry .ro)),.sl .ro 7 (w23.map (rOrigin .ro)),.sl .ro 11 (w24.map (rFlight .ro))]],.fn 150 [.pr [.i .i64 w0,.i .i64 w1,.i .i64 w2,.i .i64 w3,.i .i64 w4,.i .i64 w5,.i .i64 w6,.i .i64 w7,.sl .ro 1 (w8.map rStr),.i .i64 w9,.i .i64 w10,.i .i64 w11,.i .i64 w12,.i .i64 w13,.i .i64 w14,.i .i64 w15,.i .i64 w16,.i .i64 w17,.i .i64 w18,.i .i64 w19,.i .i64 w20,.sl .ro 13 (w21.map (rEntry .ro)),.sl .ro 13 (w22.map (rEntry .ro)),.sl .ro 7 (w23.map (rOrigin .ro)),.sl .ro 11 (w24.map (rFlight .ro))]]]] = some (.i .i64 (firstI [configFault (Config.mk w0 w1 w2 w3 w4 w5 w6 w7 w8 (Lanes.mk w9 w10 w11) (Rules.mk w12 w13 w14 w15 w16)),(if q1 = true then x1 else 0),storeFault (Store.mk w19 w20 w21 w22),(if q2 = true then x2 else 0),(if q3 = true then x3 else 0),originsFault (Shield.mk (Config.mk w0 w1 w2 w3 w4 w5 w6 w7 w8 (Lanes.mk w9 w10 w11) (Rules.mk w12 w13 w14 w15 w16)) w17 w18 (Store.mk w19 w20 w21 w22) w23 w24),flightsFault w24,(if (!fitsV (Shield.mk (Config.mk w0 w1 w2 w3 w4 w5 w6 w7 w8 (Lanes.mk w9 w10 w11) (Rules.mk w12 w13 w14 w15 w16)) w17 w18 (Store.mk w19 w20 w21 w22) w23 w24)) = true then (8 : Int) else 0)]),[.u]):=mkS_eq (9) rfl rfl (fun cx h=>by
 have hM:=h0
 by_cases z0 : configFault (Config.mk w0 w1 w2 w3 w4 w5 w6 w7 w8 (Lanes.mk w9 w10 w11) (Rules.mk w12 w13 w14 w15 w16)) = 0
 rotate_left
 ·have y0 : (configFault (Config.mk w0 w1 w2 w3 w4 w5 w6 w7 w8 (Lanes.mk w9 w10 w11) (Rules.mk w12 w13 w14 w15 w16)) != 0) = true:=by simpa using z0
  simp only [go_sem,reduceIte,↓reduceIte,reduceCtorEq,nA,nS,nM,nB,nE,nL,nT,nN,iL,iT,iE,iA,iM,iS,iG,iB,iN,iZ,h,hM,loopE_8,loopE_9,y0,firstI_cons,if_i,wrap_0,wrap_1,wrap_2,wrap_3,wrap_4,wrap_5,wrap_6,wrap_7,wrap_8,loopE_1,loopE_2,loopE_3,loopE_4,loopE_5,loopE_6,loopE_7]
 have y0 : (configFault (Config.mk w0 w1 w2 w3 w4 w5 w6 w7 w8 (Lanes.mk w9 w10 w11) (Rules.mk w12 w13 w14 w15 w16)) != 0) = false:=by simpa using z0
 by_cases z1 : (if q1 = true then x1 else 0) = 0
 rotate_left
 ·have y1 : ((if q1 = true then x1 else 0) != 0) = true:=by simpa using z1
  simp only [go_sem,reduceIte,↓reduceIte,reduceCtorEq,nA,nS,nM,nB,nE,nL,nT,nN,iL,iT,iE,iA,iM,iS,iG,iB,iN,iZ,h,hM,loopE_8,loopE_9,y0,y1,firstI_cons,if_i,wrap_0,wrap_1,wrap_2,wrap_3,wrap_4,wrap_5,wrap_6,wrap_7,wrap_8,loopE_1,loopE_2,loopE_3,loopE_4,loopE_5,loopE_6,loopE_7]
 have y1 : ((if q1 = true then x1 else 0) != 0) = false:=by simpa using z1
 by_cases z2 : storeFault (Store.mk w19 w20 w21 w22) = 0
 rotate_left
 ·have y2 : (storeFault (Store.mk w19 w20 w21 w22) != 0) = true:=by simpa using z2
  simp only [go_sem,reduceIte,↓reduceIte,reduceCtorEq,nA,nS,nM,nB,nE,nL,nT,nN,iL,iT,iE,iA,iM,iS,iG,iB,iN,iZ,h,hM,loopE_8,loopE_9,y0,y1,y2,firstI_cons,if_i,wrap_0,wrap_1,wrap_2,wrap_3,wrap_4,wrap_5,wrap_6,wrap_7,wrap_8,loopE_1,loopE_2,loopE_3,loopE_4,loopE_5,loopE_6,loopE_7]
 have y2 : (storeFault (Store.mk w19 w20 w21 w22) != 0) = false:=by simpa using z2
 by_cases z3 : (if q2 = true then x2 else 0) = 0
 rotate_left
 ·have y3 : ((if q2 = true then x2 else 0) != 0) = true:=by simpa using z3
  simp only [go_sem,reduceIte,↓reduceIte,reduceCtorEq,nA,nS,nM,nB,nE,nL,nT,nN,iL,iT,iE,iA,iM,iS,iG,iB,iN,iZ,h,hM,loopE_8,loopE_9,y0,y1,y2,y3,firstI_cons,if_i,wrap_0,wrap_1,wrap_2,wrap_3,wrap_4,wrap_5,wrap_6,wrap_7,wrap_8,loopE_1,loopE_2,loopE_3,loopE_4,loopE_5,loopE_6,loopE_7]
 have y3 : ((if q2 = true then x2 else 0) != 0) = false:=by simpa using z3
 by_cases z4 : (if q3 = true then x3 else 0) = 0
 rotate_left
 ·have y4 : ((if q3 = true then x3 else 0) != 0) = true:=by simpa using z4
  simp only [go_sem,reduceIte,↓reduceIte,reduceCtorEq,nA,nS,nM,nB,nE,nL,nT,nN,iL,iT,iE,iA,iM,iS,iG,iB,iN,iZ,h,hM,loopE_8,loopE_9,y0,y1,y2,y3,y4,firstI_cons,if_i,wrap_0,wrap_1,wrap_2,wrap_3,wrap_4,wrap_5,wrap_6,wrap_7,wrap_8,loopE_1,loopE_2,loopE_3,loopE_4,loopE_5,loopE_6,loopE_7]
 have y4 : ((if q3 = true then x3 else 0) != 0) = false:=by simpa using z4
 by_cases z5 : originsFault (Shield.mk (Config.mk w0 w1 w2 w3 w4 w5 w6 w7 w8 (Lanes.mk w9 w10 w11) (Rules.mk w12 w13 w14 w15 w16)) w17 w18 (Store.mk w19 w20 w21 w22) w23 w24) = 0
 rotate_left
 ·have y5 : (originsFault (Shield.mk (Config.mk w0 w1 w2 w3 w4 w5 w6 w7 w8 (Lanes.mk w9 w10 w11) (Rules.mk w12 w13 w14 w15 w16)) w17 w18 (Store.mk w19 w20 w21 w22) w23 w24) != 0) = true:=by simpa using z5
  simp only [go_sem,reduceIte,↓reduceIte,reduceCtorEq,nA,nS,nM,nB,nE,nL,nT,nN,iL,iT,iE,iA,iM,iS,iG,iB,iN,iZ,h,hM,loopE_8,loopE_9,y0,y1,y2,y3,y4,y5,firstI_cons,if_i,wrap_0,wrap_1,wrap_2,wrap_3,wrap_4,wrap_5,wrap_6,wrap_7,wrap_8,loopE_1,loopE_2,loopE_3,loopE_4,loopE_5,loopE_6,loopE_7]
 have y5 : (originsFault (Shield.mk (Config.mk w0 w1 w2 w3 w4 w5 w6 w7 w8 (Lanes.mk w9 w10 w11) (Rules.mk w12 w13 w14 w15 w16)) w17 w18 (Store.mk w19 w20 w21 w22) w23 w24) != 0) = false:=by simpa using z5
 by_cases z6 : flightsFault w24 = 0
 rotate_left
 ·have y6 : (flightsFault w24 != 0) = true:=by simpa using z6
  simp only [go_sem,reduceIte,↓reduceIte,reduceCtorEq,nA,nS,nM,nB,nE,nL,nT,nN,iL,iT,iE,iA,iM,iS,iG,iB,iN,iZ,h,hM,loopE_8,loopE_9,y0,y1,y2,y3,y4,y5,y6,firstI_cons,if_i,wrap_0,wrap_1,wrap_2,wrap_3,wrap_4,wrap_5,wrap_6,wrap_7,wrap_8,loopE_1,loopE_2,loopE_3,loopE_4,loopE_5,loopE_6,loopE_7]
 have y6 : (flightsFault w24 != 0) = false:=by simpa using z6
 by_cases z7 : (if (!fitsV (Shield.mk (Config.mk w0 w1 w2 w3 w4 w5 w6 w7 w8 (Lanes.mk w9 w10 w11) (Rules.mk w12 w13 w14 w15 w16)) w17 w18 (Store.mk w19 w20 w21 w22) w23 w24)) = true then (8 : Int) else 0) = 0
 rotate_left
 ·have y7 : ((if (!fitsV (Shield.mk (Config.mk w0 w1 w2 w3 w4 w5 w6 w7 w8 (Lanes.mk w9 w10 w11) (Rules.mk w12 w13 w14 w15 w16)) w17 w18 (Store.mk w19 w20 w21 w22) w23 w24)) = true then (8 : Int) else 0) != 0) = true:=by simpa using z7
  simp only [go_sem,reduceIte,↓reduceIte,reduceCtorEq,nA,nS,nM,nB,nE,nL,nT,nN,iL,iT,iE,iA,iM,iS,iG,iB,iN,iZ,h,hM,loopE_8,loopE_9,y0,y1,y2,y3,y4,y5,y6,y7,firstI_cons,if_i,wrap_0,wrap_1,wrap_2,wrap_3,wrap_4,wrap_5,wrap_6,wrap_7,wrap_8,loopE_1,loopE_2,loopE_3,loopE_4,loopE_5,loopE_6,loopE_7]
 have y7 : ((if (!fitsV (Shield.mk (Config.mk w0 w1 w2 w3 w4 w5 w6 w7 w8 (Lanes.mk w9 w10 w11) (Rules.mk w12 w13 w14 w15 w16)) w17 w18 (Store.mk w19 w20 w21 w22) w23 w24)) = true then (8 : Int) else 0) != 0) = false:=by simpa using z7
 simp only [go_sem,reduceIte,↓reduceIte,reduceCtorEq,nA,nS,nM,nB,nE,nL,nT,nN,iL,iT,iE,iA,iM,iS,iG,iB,iN,iZ,h,hM,loopE_8,loopE_9,y0,y1,y2,y3,y4,y5,y6,y7,firstI_cons,firstI_nil,if_i,wrap_0,wrap_1,wrap_2,wrap_3,wrap_4,wrap_5,wrap_6,wrap_7,wrap_8,loopE_1,loopE_2,loopE_3,loopE_4,loopE_5,loopE_6,loopE_7]) (rfl)
def s51 : SP Tryz.prog:=mkS tyA 51 Tryz.f51 [s133_s,s135,s136] { md:=[.ro 1],rets:=some ([2],[]),plan:=[(1,(.take 0 (.take 1 (.take 2 (.take 12 (.take 13 (.take 14 (.take 15 (.take 16 (.take 17 (.take 18 (.take 19 (.take 30 (.take 31 (.take 32 (.take 33 (.take 35 (.take 36 (.take 37 (.one 3 (.take 4 (.take 5 (.take 6 (.take 7 (.one 8 (.take 9 (.take 10 (.one 11 (.take 20 (.take 21 (.take 22 (.take 23 (.take 24 (.take 25 (.take 26 (.take 27 (.take 28 (.one 29 (.one 34 (.one 38 (.one 39 (.one 40 .done))))))))))))))))))))))))))))))))))))))))))],fz:=[1] } Tryz.func51 (by kernel_rfl)
@[go_sem] theorem d51 : s51.g = 51 ∧ s51.fs = ⟨[.ro 1],s51.F,false⟩:=⟨nr rfl,nr rfl⟩
@[go_sem] theorem e51 (w0 w1 w2 w3 w4 w5 w6 w7 : Int) (w8 : List ByteArray) (w9 w10 w11 w12 w13 w14 w15 w16 w17 w18 w19 w20 : Int) (w21 w22 : List Entry) (w23 : List Origin) (w24 : List Flight) (h0 : smShield (Shield.mk (Config.mk w0 w1 w2 w3 w4 w5 w6 w7 w8 (Lanes.mk w9 w10 w11) (Rules.mk w12 w13 w14 w15 w16)) w17 w18 (Store.mk w19 w20 w21 w22) w23 w24)) : s51.F [.agg [.i .i64 w0,.i .i64 w1,.i .i64 w2,.i .i64 w3,.i .i64 w4,.i .i64 w5,.i .i64 w6,.i .i64 w7,.sl .ro 1 (w8.map rStr),.i .i64 w9,.i .i64 w10,.i .i64 w11,.i .i64 w12,.i .i64 w13,.i .i64 w14,.i .i64 w15,.i .i64 w16,.i .i64 w17,.i .i64 w18,.i .i64 w19,.i .i64 w20,.sl .ro 13 (w21.map (rEntry .ro)),.sl .ro 13 (w22.map (rEntry .ro)),.sl .ro 7 (w23.map (rOrigin .ro)),.sl .ro 11 (w24.map (rFlight .ro))]] = some (.i .i64 (shieldFault (Shield.mk (Config.mk w0 w1 w2 w3 w4 w5 w6 w7 w8 (Lanes.mk w9 w10 w11) (Rules.mk w12 w13 w14 w15 w16)) w17 w18 (Store.mk w19 w20 w21 w22) w23 w24)),[.u]):=mkS_eq (0) rfl rfl (fun cx h=>by
 have hM:=h0
 have hu : shieldFault (Shield.mk (Config.mk w0 w1 w2 w3 w4 w5 w6 w7 w8 (Lanes.mk w9 w10 w11) (Rules.mk w12 w13 w14 w15 w16)) w17 w18 (Store.mk w19 w20 w21 w22) w23 w24) = firstI [configFault (Config.mk w0 w1 w2 w3 w4 w5 w6 w7 w8 (Lanes.mk w9 w10 w11) (Rules.mk w12 w13 w14 w15 w16)),if (!(isTime w17 && isTime w18)) = true then 3 else 0,storeFault (Store.mk w19 w20 w21 w22),if (w19 != w0 || w20 != w1) = true then 1 else 0,if decide (6 < (w23.length : Int)) = true then 2 else 0,originsFault (Shield.mk (Config.mk w0 w1 w2 w3 w4 w5 w6 w7 w8 (Lanes.mk w9 w10 w11) (Rules.mk w12 w13 w14 w15 w16)) w17 w18 (Store.mk w19 w20 w21 w22) w23 w24),flightsFault w24,if (!fitsV (Shield.mk (Config.mk w0 w1 w2 w3 w4 w5 w6 w7 w8 (Lanes.mk w9 w10 w11) (Rules.mk w12 w13 w14 w15 w16)) w17 w18 (Store.mk w19 w20 w21 w22) w23 w24)) = true then 8 else 0]:=rfl
 generalize hB1 : configFault (Config.mk w0 w1 w2 w3 w4 w5 w6 w7 w8 (Lanes.mk w9 w10 w11) (Rules.mk w12 w13 w14 w15 w16)) = B1 at hu
 generalize hB2 : storeFault (Store.mk w19 w20 w21 w22) = B2 at hu
 generalize hB3 : originsFault (Shield.mk (Config.mk w0 w1 w2 w3 w4 w5 w6 w7 w8 (Lanes.mk w9 w10 w11) (Rules.mk w12 w13 w14 w15 w16)) w17 w18 (Store.mk w19 w20 w21 w22) w23 w24) = B3 at hu
 generalize hB4 : flightsFault w24 = B4 at hu
 generalize hB5 : (if (!fitsV (Shield.mk (Config.mk w0 w1 w2 w3 w4 w5 w6 w7 w8 (Lanes.mk w9 w10 w11) (Rules.mk w12 w13 w14 w15 w16)) w17 w18 (Store.mk w19 w20 w21 w22) w23 w24)) = true then (8 : Int) else 0) = B5 at hu
 cases a1 : isTime w17 <;> cases a3 : (w19 != w0)
 all_goals first
  | (simp only [go_sem,reduceIte,↓reduceIte,reduceCtorEq,nA,nS,nM,nB,nE,nL,nT,nN,iL,iT,iE,iA,iM,iS,iG,iB,iN,iZ,h,hM,hB1,hB2,hB3,hB4,hB5,a1,a3,hu]; done)
  | (cases a2 : isTime w18 <;> simp only [go_sem,reduceIte,↓reduceIte,reduceCtorEq,nA,nS,nM,nB,nE,nL,nT,nN,iL,iT,iE,iA,iM,iS,iG,iB,iN,iZ,h,hM,hB1,hB2,hB3,hB4,hB5,a1,a2,a3,hu]; done)
  | (cases a4 : (w20 != w1) <;> simp only [go_sem,reduceIte,↓reduceIte,reduceCtorEq,nA,nS,nM,nB,nE,nL,nT,nN,iL,iT,iE,iA,iM,iS,iG,iB,iN,iZ,h,hM,hB1,hB2,hB3,hB4,hB5,a1,a3,a4,hu]; done)
  | (cases a2 : isTime w18 <;> cases a4 : (w20 != w1) <;> simp only [go_sem,reduceIte,↓reduceIte,reduceCtorEq,nA,nS,nM,nB,nE,nL,nT,nN,iL,iT,iE,iA,iM,iS,iG,iB,iN,iZ,h,hM,hB1,hB2,hB3,hB4,hB5,a1,a2,a3,a4,hu])) (rfl)
def costIn (s : Store) : IntResult:=if (storeFault s != 0) = true then ⟨storeFault s,0⟩ else ⟨0,costs s.Trial + costs s.Kept⟩
def waitingV (fs : List Flight) : Int:=fs.foldl (fun s f=>s + (f.Waiters.length : Int)) 0
def waitingIn (v : Shield) : IntResult:=if (shieldFault v != 0) = true then ⟨shieldFault v,0⟩ else ⟨0,waitingV v.Flights⟩
def outTo (v : Shield) (host : ByteArray) : IntResult:=if (shieldFault v != 0) = true then ⟨shieldFault v,0⟩ else if originAt v.Origins host < 0 then ⟨0,0⟩ else ⟨0,(countsV v.Origins v.Flights (originAt v.Origins host)).1⟩
end
end Go.Vm.A
