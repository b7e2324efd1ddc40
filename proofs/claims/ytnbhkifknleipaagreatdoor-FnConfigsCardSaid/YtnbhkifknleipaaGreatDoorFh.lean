/- Functions of the program, walked by the evaluator. -/
import Derived.Test.YtnbhkifknleipaaGreatDoorWb
import Derived.Test.YtnbhkifknleipaaGreatDoorWa
import Derived.Test.YtnbhkifknleipaaGreatDoorFc
import Derived.Test.YtnbhkifknleipaaGreatDoorFg
set_option linter.unusedVariables false
set_option linter.unusedSimpArgs false
set_option autoImplicit false
set_option maxRecDepth 100000
set_option maxHeartbeats 4000000
namespace Go.Vm.A
open Go.Proofs
open Nat renaming reduceAdd → nA, reduceSub → nS, reduceMul → nM, reduceBEq → nB, reduceEqDiff → nE, reduceLeDiff → nL, reduceLT → nT, reduceBneDiff → nN
open Int renaming reduceLE → iL, reduceLT → iT, reduceEq → iE, reduceAdd → iA, reduceMul → iM, reduceSub → iS, reduceNeg → iG, reduceBEq → iB, reduceBNe → iN, reduceToNat → iZ
noncomputable section
def s111 : SP Tryz.prog:=mkS tyA 111 Tryz.f111 [] { md:=[.ro 1],rg:=[(0,[0],[]),(1,[0,4],[]),(2,[2],[]),(3,[2],[])],rets:=some ([2],[]),nz:=true } Tryz.func111 (by kernel_rfl)
@[go_sem] theorem d111 : s111.g = 111 ∧ s111.fs = ⟨[.ro 1],s111.F,false⟩:=⟨nr rfl,nr rfl⟩
@[go_sem] theorem e111 (xs : List Header) (h0 : smL smHeader xs) : s111.F [.sl .ro 2 (xs.map (rHeader .ro))] = some (.sl .mut 2 (xs.map (rHeader .mut)),[.u]):=mkS_eqN (0) rfl rfl (fun cx h=>by
 have h0:=h0.1
 have h1 : (xs.map (rHeader .ro)).all (·.all plain) = true:=by simp [rHeader,plain]
 have h2 : xs.length * 32 ≤ 140737488355328:=by omega
 have h3 : xs.map (rHeader .ro) = xs.map (rHeader .mut):=rfl
 rcases Nat.eq_zero_or_pos xs.length with hp | hp
 ·obtain rfl:=List.length_eq_zero_iff.1 hp
  simp only [go_sem,reduceIte,↓reduceIte,reduceCtorEq,nA,nS,nM,nB,nE,nL,nT,nN,iL,iT,iE,iA,iM,iS,iG,iB,iN,iZ,h]
 ·simp only [go_sem,reduceIte,↓reduceIte,reduceCtorEq,nA,nS,nM,nB,nE,nL,nT,nN,iL,iT,iE,iA,iM,iS,iG,iB,iN,iZ,h,h1,h2,hp]
  rw [h3]) (by simp only [go_sem,reduceIte,↓reduceIte,reduceCtorEq,nA,nS,nM,nB,nE,nL,nT,nN,iL,iT,iE,iA,iM,iS,iG,iB,iN,iZ,okRes,hasRo])
def s214 : SP Tryz.prog:=mkS tyA 214 Tryz.f214 [] { md:=[.ro 1],rg:=[(0,[0],[]),(1,[0,4],[]),(2,[2],[]),(3,[2],[])],rets:=some ([2],[]),nz:=true } Tryz.func214 (by kernel_rfl)
@[go_sem] theorem d214 : s214.g = 214 ∧ s214.fs = ⟨[.ro 1],s214.F,false⟩:=⟨nr rfl,nr rfl⟩
@[go_sem] theorem e214 (xs : List UInt8) (h0 : smL smByte xs) : s214.F [.sl .ro 1 (xs.map rByte)] = some (.sl .mut 1 (xs.map rByte),[.u]):=mkS_eqN (0) rfl rfl (fun cx h=>by
 have h0:=h0.1
 have h1 : (xs.map rByte).all (·.all plain) = true:=by simp [rByte,plain]
 have h2 : xs.length * 1 ≤ 140737488355328:=by omega
 rcases Nat.eq_zero_or_pos xs.length with hp | hp
 ·obtain rfl:=List.length_eq_zero_iff.1 hp
  simp only [go_sem,reduceIte,↓reduceIte,reduceCtorEq,nA,nS,nM,nB,nE,nL,nT,nN,iL,iT,iE,iA,iM,iS,iG,iB,iN,iZ,h]
 ·simp only [go_sem,reduceIte,↓reduceIte,reduceCtorEq,nA,nS,nM,nB,nE,nL,nT,nN,iL,iT,iE,iA,iM,iS,iG,iB,iN,iZ,h,h1,h2,hp]) (by simp only [go_sem,reduceIte,↓reduceIte,reduceCtorEq,nA,nS,nM,nB,nE,nL,nT,nN,iL,iT,iE,iA,iM,iS,iG,iB,iN,iZ,okRes,hasRo])
def s355 : SP Tryz.prog:=mkS tyA 355 Tryz.f355 [s111,s214,s223] { md:=[.ro 1],rg:=[(0,[1,2],[1,2]),(1,[1,2],[1,2]),(2,[2],[1,2])],rets:=some ([2],[1,2]),plan:=[(1,(.take 0 (.take 1 (.take 3 (.take 4 (.take 6 (.take 7 (.one 2 (.take 9 (.one 5 (.one 8 (.one 10 (.take 11 (.one 12 (.take 13 (.one 14 .done))))))))))))))))] } Tryz.func355 (by kernel_rfl)
@[go_sem] theorem d355 : s355.g = 355 ∧ s355.fs = ⟨[.ro 1],s355.F,false⟩:=⟨nr rfl,nr rfl⟩
@[go_sem] theorem e355 (w0 : ByteArray) (w1 : Int) (w2 : List Header) (w3 : List UInt8) (w4 w5 w6 w7 w8 : Int) (w9 w10 : Bool) (w11 : List ByteArray) (w12 : Int) (h0 : (smL smHeader (Entry.mk w0 w1 w2 w3 (Meta.mk w4 w5 w6 w7 w8 w9 w10) w11 w12).Headers ∧ smL smByte (Entry.mk w0 w1 w2 w3 (Meta.mk w4 w5 w6 w7 w8 w9 w10) w11 w12).Body ∧ smL smStr (Entry.mk w0 w1 w2 w3 (Meta.mk w4 w5 w6 w7 w8 w9 w10) w11 w12).Tags)) : s355.F [.agg [.s w0,.i .i64 w1,.sl .ro 2 (w2.map (rHeader .ro)),.sl .ro 1 (w3.map rByte),.i .i64 w4,.i .i64 w5,.i .i64 w6,.i .i64 w7,.i .i64 w8,.b w9,.b w10,.sl .ro 1 (w11.map rStr),.i .i64 w12]] = some (.agg (rEntry .mut (Entry.mk w0 w1 w2 w3 (Meta.mk w4 w5 w6 w7 w8 w9 w10) w11 w12)),[.u]):=mkS_eq (0) rfl rfl (fun cx h=>by
 simp only [go_sem,reduceIte,↓reduceIte,reduceCtorEq,nA,nS,nM,nB,nE,nL,nT,nN,iL,iT,iE,iA,iM,iS,iG,iB,iN,iZ,h,h0.1,h0.2.1,h0.2.2]) (by simp only [go_sem,reduceIte,↓reduceIte,reduceCtorEq,nA,nS,nM,nB,nE,nL,nT,nN,iL,iT,iE,iA,iM,iS,iG,iB,iN,iZ,okRes,hasRo,hasRoL,hasRoLL])
theorem fold_id {α : Type} : ∀ (xs acc : List α),xs.foldl (fun s x=>s ++ [x]) acc = acc ++ xs
 | [],acc=>by simp
 | x :: xs,acc=>by rw [List.foldl_cons,fold_id xs]; simp
def s305 : SP Tryz.prog:=mkS tyA 305 Tryz.f305 [s355] { md:=[.ro 1],rg:=[(0,[0],[]),(1,[0,3],[]),(2,[0,3,7,8,9],[]),(3,[0,3,7,8,9,10],[]),(4,[0,3,5,7,8,9],[5]),(5,[0,3,7,8,9],[]),(6,[0,3,7,8,9],[]),(7,[2],[])],lv:=[(0,[0,3,7,8,9],[])],out:=[(0,[3],[])],rets:=some ([2],[]) } Tryz.func305 (by kernel_rfl)
@[go_sem] theorem d305 : s305.g = 305 ∧ s305.fs = ⟨[.ro 1],s305.F,false⟩:=⟨nr rfl,nr rfl⟩
@[go_sem] theorem e305 (xs : List Entry) (h0 : smL smEntry xs) : s305.F [.sl .ro 13 (xs.map (rEntry .ro))] = some (.sl .mut 13 (xs.map (rEntry .mut)),[.u]):=mkS_eq (xs.length + 1) rfl rfl (fun cx h=>by
 have hx:=h0.1
 have hb0:=loopN_eq Tryz.f305 0 _ _ rfl rfl
 obtain ⟨hI,hr⟩:=loop_fold (cx:=cx) (blk:=0) (body:=loopN Tryz.f305 0) xs (fun k (s : List Entry)=>⟨E [(0,.sl .ro 13 (xs.map (rEntry .ro))),(3,.sl .mut 13 (s.map (rEntry .mut))),(7,.sl .ro 13 (xs.map (rEntry .ro))),(8,.i .i64 xs.length),(9,.i .i64 k)],B []⟩) (fun s=>⟨E [(3,.sl .mut 13 (s.map (rEntry .mut)))],B []⟩) (fun x s=>s ++ [x]) (fun k s=>s = xs.take k)
   (fun s hI G=>by simp only [go_sem,reduceIte,↓reduceIte,reduceCtorEq,nA,nS,nM,nB,nE,nL,nT,nN,iL,iT,iE,iA,iM,iS,iG,iB,iN,iZ,h,Int.lt_irrefl,hb0,hx]) (fun k hk s hI=>by
    have h1 : ((k : Int) < (xs.length : Int)):=Int.ofNat_lt.2 hk
    have hm:=h0.2 _ (List.getElem_mem hk)
    have hl : s.length ≤ 1048576:=by rw [hI,List.length_take]; omega
    have t3 : (s.length + 1) * 152 ≤ 140737488355328:=by omega
    have t4 : s.map (rEntry .mut) ++ [rEntry .mut xs[k]] = (s ++ [xs[k]]).map (rEntry .mut):=by simp
    simp only [rEntry] at t4
    have hm' : smL smHeader xs[k].Headers ∧ smL smByte xs[k].Body ∧ smL smStr xs[k].Tags:=⟨hm.2.2.1,hm.2.2.2.1,hm.2.2.2.2.2.1⟩
    exact ⟨by rw [hI]; exact (take_snoc xs k hk).symm,_,fun G=>by simp only [go_sem,reduceIte,↓reduceIte,reduceCtorEq,nA,nS,nM,nB,nE,nL,nT,nN,iL,iT,iE,iA,iM,iS,iG,iB,iN,iZ,h,t3,t4,map_gd (rEntry .ro) xs k hk,hm',h1,idx_nt _ _ hk,wrap_nat1 (show k < 9223372036854775807 by omega),hb0] <;> with_reducible rfl,by simp only [go_sem,reduceIte,↓reduceIte,reduceCtorEq,nA,nS,nM,nB,nE,nL,nT,nN,iL,iT,iE,iA,iM,iS,iG,iB,iN,iZ,h]⟩) [] rfl (xs.length + 1) (Nat.le_refl _)
 rw [hb0] at hr
 rw [fold_id,List.nil_append] at hr
 simp only [go_sem,reduceIte,↓reduceIte,reduceCtorEq,nA,nS,nM,nB,nE,nL,nT,nN,iL,iT,iE,iA,iM,iS,iG,iB,iN,iZ,h,hr]) (by simp only [go_sem,reduceIte,↓reduceIte,reduceCtorEq,nA,nS,nM,nB,nE,nL,nT,nN,iL,iT,iE,iA,iM,iS,iG,iB,iN,iZ,okRes,hasRo])
@[go_sem] theorem e305_0 : s305.F [.sl .ro 13 []] = some (.sl .mut 13 [],[.u]):=e305 [] ⟨Nat.zero_le _,fun x hx=>by cases hx⟩
def s224 : SP Tryz.prog:=mkS tyA 224 Tryz.f224 [s305] { md:=[.ro 1],rg:=[(0,[1,2],[1,2]),(1,[1,2],[1,2]),(2,[2],[1,2])],rets:=some ([2],[1,2]),plan:=[(1,(.take 0 (.take 1 (.take 3 (.take 4 (.one 2 (.take 6 (.one 5 (.one 7 (.take 8 (.one 9 .done)))))))))))] } Tryz.func224 (by kernel_rfl)
@[go_sem] theorem d224 : s224.g = 224 ∧ s224.fs = ⟨[.ro 1],s224.F,false⟩:=⟨nr rfl,nr rfl⟩
@[go_sem] theorem e224 (w13 w14 : Int) (w15 w16 : List Entry) (h0 : (smL smEntry (Store.mk w13 w14 w15 w16).Trial ∧ smL smEntry (Store.mk w13 w14 w15 w16).Kept)) : s224.F [.agg [.i .i64 w13,.i .i64 w14,.sl .ro 13 (w15.map (rEntry .ro)),.sl .ro 13 (w16.map (rEntry .ro))]] = some (.agg (rStore .mut (Store.mk w13 w14 w15 w16)),[.u]):=mkS_eq (0) rfl rfl (fun cx h=>by
 simp only [go_sem,reduceIte,↓reduceIte,reduceCtorEq,nA,nS,nM,nB,nE,nL,nT,nN,iL,iT,iE,iA,iM,iS,iG,iB,iN,iZ,h,h0.1,h0.2]) (by simp only [go_sem,reduceIte,↓reduceIte,reduceCtorEq,nA,nS,nM,nB,nE,nL,nT,nN,iL,iT,iE,iA,iM,iS,iG,iB,iN,iZ,okRes,hasRo,hasRoL,hasRoLL])
@[go_sem] theorem e224_0 (b g : Int) : s224.F [.agg [.i .i64 b,.i .i64 g,.sl .ro 13 [],.sl .ro 13 []]] = some (.agg [.i .i64 b,.i .i64 g,.sl .mut 13 [],.sl .mut 13 []],[.u]):=e224 b g [] [] ⟨⟨Nat.zero_le _,fun x hx=>by cases hx⟩,⟨Nat.zero_le _,fun x hx=>by cases hx⟩⟩
def s356 : SP Tryz.prog:=mkS tyA 356 Tryz.f356 [] { md:=[.ro 1],rg:=[(0,[0],[]),(1,[0,4],[]),(2,[2],[]),(3,[2],[])],rets:=some ([2],[]),nz:=true } Tryz.func356 (by kernel_rfl)
@[go_sem] theorem d356 : s356.g = 356 ∧ s356.fs = ⟨[.ro 1],s356.F,false⟩:=⟨nr rfl,nr rfl⟩
@[go_sem] theorem e356 (xs : List Wait) (h0 : smL smWait xs) : s356.F [.sl .ro 2 (xs.map (rWait .ro))] = some (.sl .mut 2 (xs.map (rWait .mut)),[.u]):=mkS_eqN (0) rfl rfl (fun cx h=>by
 have h0:=h0.1
 have h1 : (xs.map (rWait .ro)).all (·.all plain) = true:=by simp [rWait,plain]
 have h2 : xs.length * 16 ≤ 140737488355328:=by omega
 have h3 : xs.map (rWait .ro) = xs.map (rWait .mut):=rfl
 rcases Nat.eq_zero_or_pos xs.length with hp | hp
 ·obtain rfl:=List.length_eq_zero_iff.1 hp
  simp only [go_sem,reduceIte,↓reduceIte,reduceCtorEq,nA,nS,nM,nB,nE,nL,nT,nN,iL,iT,iE,iA,iM,iS,iG,iB,iN,iZ,h]
 ·simp only [go_sem,reduceIte,↓reduceIte,reduceCtorEq,nA,nS,nM,nB,nE,nL,nT,nN,iL,iT,iE,iA,iM,iS,iG,iB,iN,iZ,h,h1,h2,hp]
  rw [h3]) (by simp only [go_sem,reduceIte,↓reduceIte,reduceCtorEq,nA,nS,nM,nB,nE,nL,nT,nN,iL,iT,iE,iA,iM,iS,iG,iB,iN,iZ,okRes,hasRo])
def s306 : SP Tryz.prog:=mkS tyA 306 Tryz.f306 [s356] { md:=[.ro 1],rg:=[(0,[1,2],[1,2]),(1,[1,2],[1,2]),(2,[2],[1,2])],rets:=some ([2],[1,2]) } Tryz.func306 (by kernel_rfl)
@[go_sem] theorem d306 : s306.g = 306 ∧ s306.fs = ⟨[.ro 1],s306.F,false⟩:=⟨nr rfl,nr rfl⟩
@[go_sem] theorem e306 (w17 : Int) (w18 : List Wait) (h0 : smL smWait (Bulk.mk w17 w18).Queue) : s306.F [.agg [.i .i64 w17,.sl .ro 2 (w18.map (rWait .ro))]] = some (.agg (rBulk .mut (Bulk.mk w17 w18)),[.u]):=mkS_eq (0) rfl rfl (fun cx h=>by
 simp only [go_sem,reduceIte,↓reduceIte,reduceCtorEq,nA,nS,nM,nB,nE,nL,nT,nN,iL,iT,iE,iA,iM,iS,iG,iB,iN,iZ,h,h0]) (by simp only [go_sem,reduceIte,↓reduceIte,reduceCtorEq,nA,nS,nM,nB,nE,nL,nT,nN,iL,iT,iE,iA,iM,iS,iG,iB,iN,iZ,okRes,hasRo,hasRoL,hasRoLL])
def s357 : SP Tryz.prog:=mkS tyA 357 Tryz.f357 [] { md:=[.ro 1],rg:=[(0,[0],[]),(1,[0,4],[]),(2,[2],[]),(3,[2],[])],rets:=some ([2],[]),nz:=true } Tryz.func357 (by kernel_rfl)
@[go_sem] theorem d357 : s357.g = 357 ∧ s357.fs = ⟨[.ro 1],s357.F,false⟩:=⟨nr rfl,nr rfl⟩
@[go_sem] theorem e357 (xs : List Mark) (h0 : smL smMark xs) : s357.F [.sl .ro 2 (xs.map (rMark .ro))] = some (.sl .mut 2 (xs.map (rMark .mut)),[.u]):=mkS_eqN (0) rfl rfl (fun cx h=>by
 have h0:=h0.1
 have h1 : (xs.map (rMark .ro)).all (·.all plain) = true:=by simp [rMark,plain]
 have h2 : xs.length * 16 ≤ 140737488355328:=by omega
 have h3 : xs.map (rMark .ro) = xs.map (rMark .mut):=rfl
 rcases Nat.eq_zero_or_pos xs.length with hp | hp
 ·obtain rfl:=List.length_eq_zero_iff.1 hp
  simp only [go_sem,reduceIte,↓reduceIte,reduceCtorEq,nA,nS,nM,nB,nE,nL,nT,nN,iL,iT,iE,iA,iM,iS,iG,iB,iN,iZ,h]
 ·simp only [go_sem,reduceIte,↓reduceIte,reduceCtorEq,nA,nS,nM,nB,nE,nL,nT,nN,iL,iT,iE,iA,iM,iS,iG,iB,iN,iZ,h,h1,h2,hp]
  rw [h3]) (by simp only [go_sem,reduceIte,↓reduceIte,reduceCtorEq,nA,nS,nM,nB,nE,nL,nT,nN,iL,iT,iE,iA,iM,iS,iG,iB,iN,iZ,okRes,hasRo])
def s307 : SP Tryz.prog:=mkS tyA 307 Tryz.f307 [s357] { md:=[.ro 1],rg:=[(0,[1,2],[1,2]),(1,[1,2],[1,2]),(2,[2],[1,2])],rets:=some ([2],[1,2]) } Tryz.func307 (by kernel_rfl)
@[go_sem] theorem d307 : s307.g = 307 ∧ s307.fs = ⟨[.ro 1],s307.F,false⟩:=⟨nr rfl,nr rfl⟩
@[go_sem] theorem e307 (w19 w20 w21 : Int) (w22 : List Mark) (h0 : smL smMark (Breaker.mk w19 w20 w21 w22).Marks) : s307.F [.agg [.i .i64 w19,.i .i64 w20,.i .i64 w21,.sl .ro 2 (w22.map (rMark .ro))]] = some (.agg (rBreaker .mut (Breaker.mk w19 w20 w21 w22)),[.u]):=mkS_eq (0) rfl rfl (fun cx h=>by
 simp only [go_sem,reduceIte,↓reduceIte,reduceCtorEq,nA,nS,nM,nB,nE,nL,nT,nN,iL,iT,iE,iA,iM,iS,iG,iB,iN,iZ,h,h0]) (by simp only [go_sem,reduceIte,↓reduceIte,reduceCtorEq,nA,nS,nM,nB,nE,nL,nT,nN,iL,iT,iE,iA,iM,iS,iG,iB,iN,iZ,okRes,hasRo,hasRoL,hasRoLL])
def s225 : SP Tryz.prog:=mkS tyA 225 Tryz.f225 [s306,s307] { md:=[.ro 1],rets:=some ([2,7,10],[2]),plan:=[(1,(.take 0 (.take 1 (.take 2 (.take 3 (.take 5 (.take 6 (.one 4 (.one 7 (.take 8 (.one 9 .done)))))))))))] } Tryz.func225 (by kernel_rfl)
@[go_sem] theorem d225 : s225.g = 225 ∧ s225.fs = ⟨[.ro 1],s225.F,false⟩:=⟨nr rfl,nr rfl⟩
@[go_sem] theorem e225 (w23 : ByteArray) (w24 : Int) (w25 : List Wait) (w26 w27 w28 : Int) (w29 : List Mark) (h0 : (smL smWait (Origin.mk w23 (Bulk.mk w24 w25) (Breaker.mk w26 w27 w28 w29)).Bulk.Queue ∧ smL smMark (Origin.mk w23 (Bulk.mk w24 w25) (Breaker.mk w26 w27 w28 w29)).Breaker.Marks)) : s225.F [.agg [.s w23,.i .i64 w24,.sl .ro 2 (w25.map (rWait .ro)),.i .i64 w26,.i .i64 w27,.i .i64 w28,.sl .ro 2 (w29.map (rMark .ro))]] = some (.agg (rOrigin .mut (Origin.mk w23 (Bulk.mk w24 w25) (Breaker.mk w26 w27 w28 w29))),[.u]):=mkS_eq (0) rfl rfl (fun cx h=>by
 simp only [go_sem,reduceIte,↓reduceIte,reduceCtorEq,nA,nS,nM,nB,nE,nL,nT,nN,iL,iT,iE,iA,iM,iS,iG,iB,iN,iZ,h,h0.1,h0.2]) (by simp only [go_sem,reduceIte,↓reduceIte,reduceCtorEq,nA,nS,nM,nB,nE,nL,nT,nN,iL,iT,iE,iA,iM,iS,iG,iB,iN,iZ,okRes,hasRo,hasRoL,hasRoLL])
def s308 : SP Tryz.prog:=mkS tyA 308 Tryz.f308 [s111] { md:=[.ro 1],rg:=[(0,[1,2],[1,2]),(1,[1,2],[1,2]),(2,[2],[1,2])],rets:=some ([2],[1,2]) } Tryz.func308 (by kernel_rfl)
@[go_sem] theorem d308 : s308.g = 308 ∧ s308.fs = ⟨[.ro 1],s308.F,false⟩:=⟨nr rfl,nr rfl⟩
@[go_sem] theorem e308 (w30 w31 w32 : ByteArray) (w33 : List Header) (h0 : smL smHeader (Request.mk w30 w31 w32 w33).Headers) : s308.F [.agg [.s w30,.s w31,.s w32,.sl .ro 2 (w33.map (rHeader .ro))]] = some (.agg (rRequest .mut (Request.mk w30 w31 w32 w33)),[.u]):=mkS_eq (0) rfl rfl (fun cx h=>by
 simp only [go_sem,reduceIte,↓reduceIte,reduceCtorEq,nA,nS,nM,nB,nE,nL,nT,nN,iL,iT,iE,iA,iM,iS,iG,iB,iN,iZ,h,h0]) (by simp only [go_sem,reduceIte,↓reduceIte,reduceCtorEq,nA,nS,nM,nB,nE,nL,nT,nN,iL,iT,iE,iA,iM,iS,iG,iB,iN,iZ,okRes,hasRo,hasRoL,hasRoLL])
def s309 : SP Tryz.prog:=mkS tyA 309 Tryz.f309 [] { md:=[.ro 1],rg:=[(0,[0],[]),(1,[0,4],[]),(2,[2],[]),(3,[2],[])],rets:=some ([2],[]),nz:=true } Tryz.func309 (by kernel_rfl)
@[go_sem] theorem d309 : s309.g = 309 ∧ s309.fs = ⟨[.ro 1],s309.F,false⟩:=⟨nr rfl,nr rfl⟩
@[go_sem] theorem e309 (xs : List Waiter) (h0 : smL smWaiter xs) : s309.F [.sl .ro 4 (xs.map (rWaiter .ro))] = some (.sl .mut 4 (xs.map (rWaiter .mut)),[.u]):=mkS_eqN (0) rfl rfl (fun cx h=>by
 have h0:=h0.1
 have h1 : (xs.map (rWaiter .ro)).all (·.all plain) = true:=by simp [rWaiter,plain]
 have h2 : xs.length * 32 ≤ 140737488355328:=by omega
 have h3 : xs.map (rWaiter .ro) = xs.map (rWaiter .mut):=rfl
 rcases Nat.eq_zero_or_pos xs.length with hp | hp
 ·obtain rfl:=List.length_eq_zero_iff.1 hp
  simp only [go_sem,reduceIte,↓reduceIte,reduceCtorEq,nA,nS,nM,nB,nE,nL,nT,nN,iL,iT,iE,iA,iM,iS,iG,iB,iN,iZ,h]
 ·simp only [go_sem,reduceIte,↓reduceIte,reduceCtorEq,nA,nS,nM,nB,nE,nL,nT,nN,iL,iT,iE,iA,iM,iS,iG,iB,iN,iZ,h,h1,h2,hp]
  rw [h3]) (by simp only [go_sem,reduceIte,↓reduceIte,reduceCtorEq,nA,nS,nM,nB,nE,nL,nT,nN,iL,iT,iE,iA,iM,iS,iG,iB,iN,iZ,okRes,hasRo])
def s226 : SP Tryz.prog:=mkS tyA 226 Tryz.f226 [s308,s309] { md:=[.ro 1],rg:=[(0,[1,2],[1,2]),(1,[1,2],[1,2]),(2,[2],[1,2])],rets:=some ([2],[1,2]),plan:=[(1,(.take 0 (.take 1 (.take 3 (.take 4 (.one 2 (.take 6 (.one 5 (.one 7 (.take 8 (.one 9 .done)))))))))))] } Tryz.func226 (by kernel_rfl)
@[go_sem] theorem d226 : s226.g = 226 ∧ s226.fs = ⟨[.ro 1],s226.F,false⟩:=⟨nr rfl,nr rfl⟩
@[go_sem] theorem e226 (fId : Int) (w34 : ByteArray) (w35 w36 : Bool) (w37 : Int) (w38 : Bool) (w39 w40 w41 : ByteArray) (w42 : List Header) (w43 : List Waiter) (h0 : (smL smHeader (Flight.mk fId w34 w35 w36 w37 w38 (Request.mk w39 w40 w41 w42) w43).Get.Headers ∧ smL smWaiter (Flight.mk fId w34 w35 w36 w37 w38 (Request.mk w39 w40 w41 w42) w43).Waiters)) : s226.F [.agg [.i .i64 fId,.s w34,.b w35,.b w36,.i .i64 w37,.b w38,.s w39,.s w40,.s w41,.sl .ro 2 (w42.map (rHeader .ro)),.sl .ro 4 (w43.map (rWaiter .ro))]] = some (.agg (rFlight .mut (Flight.mk fId w34 w35 w36 w37 w38 (Request.mk w39 w40 w41 w42) w43)),[.u]):=mkS_eq (0) rfl rfl (fun cx h=>by
 simp only [go_sem,reduceIte,↓reduceIte,reduceCtorEq,nA,nS,nM,nB,nE,nL,nT,nN,iL,iT,iE,iA,iM,iS,iG,iB,iN,iZ,h,h0.1,h0.2]) (by simp only [go_sem,reduceIte,↓reduceIte,reduceCtorEq,nA,nS,nM,nB,nE,nL,nT,nN,iL,iT,iE,iA,iM,iS,iG,iB,iN,iZ,okRes,hasRo,hasRoL,hasRoLL])
def s127 : SP Tryz.prog:=mkS tyA 127 Tryz.f127 [s223,s224,s225,s226] { md:=[.ro 1],rg:=[(0,[1,2],[1,2,3]),(1,[1,2,3],[1,2,3]),(2,[1,2,3],[1,2,3]),(3,[1,2,3],[1,2,3]),(4,[1,2,3],[1,2,3]),(5,[1,2,3,22,23,24],[1,2,3]),(6,[1,2,3,22,23,24,25],[1,2,3]),(7,[1,2,3,5,22,23,24],[1,2,3,5]),(8,[1,2,3,22,23,24],[1,2,3]),(9,[1,2,3,22,23,24],[1,2,3]),(10,[2,3,37,38,39],[1,2,3]),(11,[2,3,37,38,39,40],[1,2,3]),(12,[2,3,7,37,38,39],[1,2,3,7]),(13,[2,3,37,38,39],[1,2,3]),(14,[2,3,37,38,39],[1,2,3]),(15,[2],[1,2,3])],lv:=[(0,[1,2,3,22,23,24],[1,2,3]),(2,[2,3,37,38,39],[1,2,3])],out:=[(0,[1,2,3],[1,2,3]),(2,[2,3],[1,2,3])],rets:=some ([2],[1,2,3]),plan:=[(8,(.take 0 (.take 1 (.take 2 (.one 3 (.one 4 (.one 5 (.take 6 (.one 7 .done))))))))),(13,(.take 0 (.take 1 (.take 2 (.one 3 (.one 4 (.one 5 (.take 6 (.one 7 .done)))))))))] } Tryz.func127 (by kernel_rfl)
@[go_sem] theorem d127 : s127.g = 127 ∧ s127.fs = ⟨[.ro 1],s127.F,false⟩:=⟨nr rfl,nr rfl⟩
@[go_sem] theorem e127 (w44 w45 w46 w47 w48 w49 w50 w51 : Int) (vConfigNames : List ByteArray) (w52 w53 w54 w55 w56 w57 w58 w59 w60 w61 w62 w63 : Int) (w64 vStoreKept : List Entry) (w65 : List Origin) (w66 : List Flight) (h0 : smShield (Shield.mk (Config.mk w44 w45 w46 w47 w48 w49 w50 w51 vConfigNames (Lanes.mk w52 w53 w54) (Rules.mk w55 w56 w57 w58 w59)) w60 w61 (Store.mk w62 w63 w64 vStoreKept) w65 w66)) : s127.F [.agg [.i .i64 w44,.i .i64 w45,.i .i64 w46,.i .i64 w47,.i .i64 w48,.i .i64 w49,.i .i64 w50,.i .i64 w51,.sl .ro 1 (vConfigNames.map rStr),.i .i64 w52,.i .i64 w53,.i .i64 w54,.i .i64 w55,.i .i64 w56,.i .i64 w57,.i .i64 w58,.i .i64 w59,.i .i64 w60,.i .i64 w61,.i .i64 w62,.i .i64 w63,.sl .ro 13 (w64.map (rEntry .ro)),.sl .ro 13 (vStoreKept.map (rEntry .ro)),.sl .ro 7 (w65.map (rOrigin .ro)),.sl .ro 11 (w66.map (rFlight .ro))]] = some (.agg (rShield .mut (Shield.mk (Config.mk w44 w45 w46 w47 w48 w49 w50 w51 vConfigNames (Lanes.mk w52 w53 w54) (Rules.mk w55 w56 w57 w58 w59)) w60 w61 (Store.mk w62 w63 w64 vStoreKept) w65 w66)),[.u]):=mkS_eq (max w65.length w66.length + 1) rfl rfl (fun cx h=>by
 obtain ⟨q0,q1,q2,q3,hS0,hS1⟩:=h0
 have hN : smL smStr vConfigNames:=q0.2.2.2.2.2.2.2.2.1
 have hE : smL smEntry w64 ∧ smL smEntry vStoreKept:=⟨q3.2.2.1,q3.2.2.2⟩
 have hx0:=hS0.1
 have hx1:=hS1.1
 simp only at hx0 hx1
 have hb0:=loopN_eq Tryz.f127 0 _ _ rfl rfl
 obtain ⟨hI,hr⟩:=loop_fold (cx:=cx) (blk:=0) (body:=loopN Tryz.f127 0) w65 (fun k (s : List Origin)=>⟨E [(1,.p ⟨false,1,[],0⟩),(2,.p ⟨false,2,[],0⟩),(3,.p ⟨false,3,[],0⟩),(22,.sl .ro 7 (w65.map (rOrigin .ro))),(23,.i .i64 w65.length),(24,.i .i64 k)],B [(1,[.i .i64 w44,.i .i64 w45,.i .i64 w46,.i .i64 w47,.i .i64 w48,.i .i64 w49,.i .i64 w50,.i .i64 w51,.sl .ro 1 (vConfigNames.map rStr),.i .i64 w52,.i .i64 w53,.i .i64 w54,.i .i64 w55,.i .i64 w56,.i .i64 w57,.i .i64 w58,.i .i64 w59,.i .i64 w60,.i .i64 w61,.i .i64 w62,.i .i64 w63,.sl .ro 13 (w64.map (rEntry .ro)),.sl .ro 13 (vStoreKept.map (rEntry .ro)),.sl .ro 7 (w65.map (rOrigin .ro)),.sl .ro 11 (w66.map (rFlight .ro))]),(2,[.i .i64 0,.i .i64 0,.i .i64 0,.i .i64 0,.i .i64 0,.i .i64 0,.i .i64 0,.i .i64 0,.sl .mut 1 [],.i .i64 0,.i .i64 0,.i .i64 0,.i .i64 0,.i .i64 0,.i .i64 0,.i .i64 0,.i .i64 0,.i .i64 0,.i .i64 0,.i .i64 0,.i .i64 0,.sl .mut 13 [],.sl .mut 13 [],.sl .mut 7 [],.sl .mut 11 []]),(3,[.i .i64 w44,.i .i64 w45,.i .i64 w46,.i .i64 w47,.i .i64 w48,.i .i64 w49,.i .i64 w50,.i .i64 w51,.sl .mut 1 (vConfigNames.map rStr),.i .i64 w52,.i .i64 w53,.i .i64 w54,.i .i64 w55,.i .i64 w56,.i .i64 w57,.i .i64 w58,.i .i64 w59,.i .i64 w60,.i .i64 w61,.i .i64 w62,.i .i64 w63,.sl .mut 13 (w64.map (rEntry .mut)),.sl .mut 13 (vStoreKept.map (rEntry .mut)),.sl .mut 7 (s.map (rOrigin .mut)),.sl .mut 11 []])]⟩) (fun s=>⟨E [(1,.p ⟨false,1,[],0⟩),(2,.p ⟨false,2,[],0⟩),(3,.p ⟨false,3,[],0⟩)],B [(1,[.i .i64 w44,.i .i64 w45,.i .i64 w46,.i .i64 w47,.i .i64 w48,.i .i64 w49,.i .i64 w50,.i .i64 w51,.sl .ro 1 (vConfigNames.map rStr),.i .i64 w52,.i .i64 w53,.i .i64 w54,.i .i64 w55,.i .i64 w56,.i .i64 w57,.i .i64 w58,.i .i64 w59,.i .i64 w60,.i .i64 w61,.i .i64 w62,.i .i64 w63,.sl .ro 13 (w64.map (rEntry .ro)),.sl .ro 13 (vStoreKept.map (rEntry .ro)),.sl .ro 7 (w65.map (rOrigin .ro)),.sl .ro 11 (w66.map (rFlight .ro))]),(2,[.i .i64 0,.i .i64 0,.i .i64 0,.i .i64 0,.i .i64 0,.i .i64 0,.i .i64 0,.i .i64 0,.sl .mut 1 [],.i .i64 0,.i .i64 0,.i .i64 0,.i .i64 0,.i .i64 0,.i .i64 0,.i .i64 0,.i .i64 0,.i .i64 0,.i .i64 0,.i .i64 0,.i .i64 0,.sl .mut 13 [],.sl .mut 13 [],.sl .mut 7 [],.sl .mut 11 []]),(3,[.i .i64 w44,.i .i64 w45,.i .i64 w46,.i .i64 w47,.i .i64 w48,.i .i64 w49,.i .i64 w50,.i .i64 w51,.sl .mut 1 (vConfigNames.map rStr),.i .i64 w52,.i .i64 w53,.i .i64 w54,.i .i64 w55,.i .i64 w56,.i .i64 w57,.i .i64 w58,.i .i64 w59,.i .i64 w60,.i .i64 w61,.i .i64 w62,.i .i64 w63,.sl .mut 13 (w64.map (rEntry .mut)),.sl .mut 13 (vStoreKept.map (rEntry .mut)),.sl .mut 7 (s.map (rOrigin .mut)),.sl .mut 11 []])]⟩) (fun x s=>s ++ [x]) (fun k s=>s = w65.take k)
   (fun s hI G=>by simp only [go_sem,reduceIte,↓reduceIte,reduceCtorEq,nA,nS,nM,nB,nE,nL,nT,nN,iL,iT,iE,iA,iM,iS,iG,iB,iN,iZ,h,Int.lt_irrefl,hb0,hx0]) (fun k hk s hI=>by
    have h1 : ((k : Int) < (w65.length : Int)):=Int.ofNat_lt.2 hk
    have hm:=hS0.2 _ (List.getElem_mem hk)
    have hl : s.length ≤ 1048576:=by rw [hI,List.length_take]; omega
    have t3 : (s.length + 1) * 96 ≤ 140737488355328:=by omega
    have t4 : s.map (rOrigin .mut) ++ [rOrigin .mut w65[k]] = (s ++ [w65[k]]).map (rOrigin .mut):=by simp
    simp only [rOrigin] at t4
    have hm' : smL smWait w65[k].Bulk.Queue ∧ smL smMark w65[k].Breaker.Marks:=⟨hm.2.1.2,hm.2.2.2.2.2⟩
    exact ⟨by rw [hI]; exact (take_snoc w65 k hk).symm,_,fun G=>by simp only [go_sem,reduceIte,↓reduceIte,reduceCtorEq,nA,nS,nM,nB,nE,nL,nT,nN,iL,iT,iE,iA,iM,iS,iG,iB,iN,iZ,h,t3,t4,map_gd (rOrigin .ro) w65 k hk,hm',h1,idx_nt _ _ hk,wrap_nat1 (show k < 9223372036854775807 by omega),hb0] <;> with_reducible rfl,by simp only [go_sem,reduceIte,↓reduceIte,reduceCtorEq,nA,nS,nM,nB,nE,nL,nT,nN,iL,iT,iE,iA,iM,iS,iG,iB,iN,iZ,h]⟩) [] rfl (max w65.length w66.length + 1) (by omega)
 rw [hb0] at hr
 rw [fold_id,List.nil_append] at hr
 have hb1:=loopN_eq Tryz.f127 1 _ _ rfl rfl
 obtain ⟨hI,hq⟩:=loop_fold (cx:=cx) (blk:=2) (body:=loopN Tryz.f127 1) w66 (fun k (s : List Flight)=>⟨E [(2,.p ⟨false,2,[],0⟩),(3,.p ⟨false,3,[],0⟩),(37,.sl .ro 11 (w66.map (rFlight .ro))),(38,.i .i64 w66.length),(39,.i .i64 k)],B [(1,[.i .i64 w44,.i .i64 w45,.i .i64 w46,.i .i64 w47,.i .i64 w48,.i .i64 w49,.i .i64 w50,.i .i64 w51,.sl .ro 1 (vConfigNames.map rStr),.i .i64 w52,.i .i64 w53,.i .i64 w54,.i .i64 w55,.i .i64 w56,.i .i64 w57,.i .i64 w58,.i .i64 w59,.i .i64 w60,.i .i64 w61,.i .i64 w62,.i .i64 w63,.sl .ro 13 (w64.map (rEntry .ro)),.sl .ro 13 (vStoreKept.map (rEntry .ro)),.sl .ro 7 (w65.map (rOrigin .ro)),.sl .ro 11 (w66.map (rFlight .ro))]),(2,[.i .i64 0,.i .i64 0,.i .i64 0,.i .i64 0,.i .i64 0,.i .i64 0,.i .i64 0,.i .i64 0,.sl .mut 1 [],.i .i64 0,.i .i64 0,.i .i64 0,.i .i64 0,.i .i64 0,.i .i64 0,.i .i64 0,.i .i64 0,.i .i64 0,.i .i64 0,.i .i64 0,.i .i64 0,.sl .mut 13 [],.sl .mut 13 [],.sl .mut 7 [],.sl .mut 11 []]),(3,[.i .i64 w44,.i .i64 w45,.i .i64 w46,.i .i64 w47,.i .i64 w48,.i .i64 w49,.i .i64 w50,.i .i64 w51,.sl .mut 1 (vConfigNames.map rStr),.i .i64 w52,.i .i64 w53,.i .i64 w54,.i .i64 w55,.i .i64 w56,.i .i64 w57,.i .i64 w58,.i .i64 w59,.i .i64 w60,.i .i64 w61,.i .i64 w62,.i .i64 w63,.sl .mut 13 (w64.map (rEntry .mut)),.sl .mut 13 (vStoreKept.map (rEntry .mut)),.sl .mut 7 (w65.map (rOrigin .mut)),.sl .mut 11 (s.map (rFlight .mut))])]⟩) (fun s=>⟨E [(2,.p ⟨false,2,[],0⟩),(3,.p ⟨false,3,[],0⟩)],B [(1,[.i .i64 w44,.i .i64 w45,.i .i64 w46,.i .i64 w47,.i .i64 w48,.i .i64 w49,.i .i64 w50,.i .i64 w51,.sl .ro 1 (vConfigNames.map rStr),.i .i64 w52,.i .i64 w53,.i .i64 w54,.i .i64 w55,.i .i64 w56,.i .i64 w57,.i .i64 w58,.i .i64 w59,.i .i64 w60,.i .i64 w61,.i .i64 w62,.i .i64 w63,.sl .ro 13 (w64.map (rEntry .ro)),.sl .ro 13 (vStoreKept.map (rEntry .ro)),.sl .ro 7 (w65.map (rOrigin .ro)),.sl .ro 11 (w66.map (rFlight .ro))]),(2,[.i .i64 0,.i .i64 0,.i .i64 0,.i .i64 0,.i .i64 0,.i .i64 0,.i .i64 0,.i .i64 0,.sl .mut 1 [],.i .i64 0,.i .i64 0,.i .i64 0,.i .i64 0,.i .i64 0,.i .i64 0,.i .i64 0,.i .i64 0,.i .i64 0,.i .i64 0,.i .i64 0,.i .i64 0,.sl .mut 13 [],.sl .mut 13 [],.sl .mut 7 [],.sl .mut 11 []]),(3,[.i .i64 w44,.i .i64 w45,.i .i64 w46,.i .i64 w47,.i .i64 w48,.i .i64 w49,.i .i64 w50,.i .i64 w51,.sl .mut 1 (vConfigNames.map rStr),.i .i64 w52,.i .i64 w53,.i .i64 w54,.i .i64 w55,.i .i64 w56,.i .i64 w57,.i .i64 w58,.i .i64 w59,.i .i64 w60,.i .i64 w61,.i .i64 w62,.i .i64 w63,.sl .mut 13 (w64.map (rEntry .mut)),.sl .mut 13 (vStoreKept.map (rEntry .mut)),.sl .mut 7 (w65.map (rOrigin .mut)),.sl .mut 11 (s.map (rFlight .mut))])]⟩) (fun x s=>s ++ [x]) (fun k s=>s = w66.take k)
   (fun s hI G=>by simp only [go_sem,reduceIte,↓reduceIte,reduceCtorEq,nA,nS,nM,nB,nE,nL,nT,nN,iL,iT,iE,iA,iM,iS,iG,iB,iN,iZ,h,Int.lt_irrefl,hb1,hx1]) (fun k hk s hI=>by
    have h1 : ((k : Int) < (w66.length : Int)):=Int.ofNat_lt.2 hk
    have hm:=hS1.2 _ (List.getElem_mem hk)
    have hl : s.length ≤ 1048576:=by rw [hI,List.length_take]; omega
    have t3 : (s.length + 1) * 144 ≤ 140737488355328:=by omega
    have t4 : s.map (rFlight .mut) ++ [rFlight .mut w66[k]] = (s ++ [w66[k]]).map (rFlight .mut):=by simp
    simp only [rFlight] at t4
    have hm' : smL smHeader w66[k].Get.Headers ∧ smL smWaiter w66[k].Waiters:=⟨hm.2.2.2.2.2.2.1.2.2.2,hm.2.2.2.2.2.2.2⟩
    exact ⟨by rw [hI]; exact (take_snoc w66 k hk).symm,_,fun G=>by simp only [go_sem,reduceIte,↓reduceIte,reduceCtorEq,nA,nS,nM,nB,nE,nL,nT,nN,iL,iT,iE,iA,iM,iS,iG,iB,iN,iZ,h,t3,t4,map_gd (rFlight .ro) w66 k hk,hm',h1,idx_nt _ _ hk,wrap_nat1 (show k < 9223372036854775807 by omega),hb1] <;> with_reducible rfl,by simp only [go_sem,reduceIte,↓reduceIte,reduceCtorEq,nA,nS,nM,nB,nE,nL,nT,nN,iL,iT,iE,iA,iM,iS,iG,iB,iN,iZ,h]⟩) [] rfl (max w65.length w66.length + 1) (by omega)
 rw [hb1] at hq
 rw [fold_id,List.nil_append] at hq
 simp only [go_sem,reduceIte,↓reduceIte,reduceCtorEq,nA,nS,nM,nB,nE,nL,nT,nN,iL,iT,iE,iA,iM,iS,iG,iB,iN,iZ,h,hN,hE,hr,hq]) (by simp only [go_sem,reduceIte,↓reduceIte,reduceCtorEq,nA,nS,nM,nB,nE,nL,nT,nN,iL,iT,iE,iA,iM,iS,iG,iB,iN,iZ,okRes,hasRo,hasRoL,hasRoLL])
end
end Go.Vm.A
