/- Functions of the program, walked by the evaluator. -/
import Derived.Test.YtnbhkifknleipaaGreatDoorWb
import Derived.Test.YtnbhkifknleipaaGreatDoorWa
import Derived.Test.YtnbhkifknleipaaGreatDoorGd
import Derived.Test.YtnbhkifknleipaaGreatDoorGe
import Derived.Test.YtnbhkifknleipaaGreatDoorGf
set_option linter.unusedVariables false
set_option linter.unusedSimpArgs false
set_option autoImplicit false
set_option maxRecDepth 100000
set_option maxHeartbeats 4000000
namespace Go.Vm.A
open Go.Proofs
open Nat renaming reduceAdd → nA, reduceSub → nS, reduceMul → nM, reduceBEq → nB, reduceEqDiff → nE, reduceLeDiff → nL, reduceLT → nT, reduceBneDiff → nN
open Int renaming reduceLE → iL, reduceLT → iT, reduceEq → iE, reduceAdd → iA, reduceMul → iM, reduceSub → iS, reduceNeg → iG, reduceBEq → iB, reduceBNe → iN, reduceToNat → iZ
noncomputable section
theorem any_flipK (fs : List Flight) (x : Flight) : (fs.any fun y=>eqv x.Key y.Key) = fs.any fun y=>sameKey y x:=by
 congr 1; funext y
 unfold sameKey
 rw [Bool.eq_iff_iff,eqv_iff,eqv_iff]
 exact eq_comm
def s17 : SP Tryz.prog:=mkS tyA 17 Tryz.f17 [s81,s82] { md:=[.ro 1],rg:=[(0,[0],[]),(1,[0,11],[]),(2,[2],[]),(3,[0,3],[]),(4,[0,3,4],[]),(5,[0,3,4,16],[]),(6,[0,3,4],[]),(7,[0,3,4,5],[]),(8,[0,3,4,5,25],[]),(9,[2],[]),(10,[0,3,4],[]),(11,[0,3,6],[]),(12,[0,3,6,37],[]),(13,[0,3,6],[]),(14,[0,3,6,51],[]),(15,[2],[]),(16,[0,3,7],[]),(17,[0,3,7,55],[]),(18,[0,3,7],[]),(19,[0,3,7,8],[]),(20,[0,3,7,8,60],[]),(21,[0,3,7,8],[]),(22,[0,3,7,8,73],[]),(23,[2],[]),(24,[75],[]),(25,[2],[]),(26,[2],[])],lv:=[(0,[0,3,4],[]),(2,[0,3,6],[]),(4,[0,3,7],[]),(6,[0,3,7,8],[])],out:=[(0,[0,3],[]),(2,[0,3],[]),(4,[3],[]),(6,[0,3,7],[])],rets:=some ([2],[]),plan:=[(14,(.take 0 (.take 1 (.take 2 (.take 3 (.take 4 (.take 5 (.take 6 (.take 7 (.take 8 (.take 9 (.take 10 (.take 11 .done))))))))))))),(22,(.take 0 (.take 1 (.take 2 (.take 3 (.take 4 (.take 5 (.take 6 (.take 7 (.take 8 (.take 9 (.take 10 .done))))))))))))] } Tryz.func17 (by kernel_rfl)
@[go_sem] theorem d17 : s17.g = 17 ∧ s17.fs = ⟨[.ro 1],s17.F,false⟩:=⟨nr rfl,nr rfl⟩
@[go_sem] theorem e17 (fs : List Flight) (h0 : smL smFlight fs) : s17.F [.sl .ro 11 (fs.map (rFlight .ro))] = some (.i .i64 (flightsFault fs),[.u]):=mkS_eq (fs.length + 1) rfl rfl (fun cx h=>by
 by_cases h1 : 24 < (fs.length : Int)
 ·simp only [go_sem,reduceIte,↓reduceIte,reduceCtorEq,nA,nS,nM,nB,nE,nL,nT,nN,iL,iT,iE,iA,iM,iS,iG,iB,iN,iZ,h,flightsFault,h1]
 have hx : fs.length ≤ 9223372036854775806:=by omega
 have hb0:=loopN_eq Tryz.f17 0 _ _ rfl rfl
 obtain ⟨z0,hz0,hqz0⟩:=loop_list (cx:=cx) (blk:=0) (body:=loopN Tryz.f17 0) fs (fun k (s : Unit)=>⟨E [(0,.sl .ro 11 (fs.map (rFlight .ro))),(3,.sl .mut 4 ((allW (fs.take k)).map (rWaiter .ro))),(4,.i .i64 k)],B []⟩) (fun s=>⟨E [(0,.sl .ro 11 (fs.map (rFlight .ro))),(3,.sl .mut 4 ((allW (fs.take (fs.length))).map (rWaiter .ro)))],B []⟩) (fun x s=>flightFault x != 0) (fun x s=>()) (fun x s=>(.ret,⟨E [(2,.i .i64 (flightFault x))],B []⟩)) (fun k s=>(allW (fs.take k)).length ≤ 10 * k)
   (fun s hI G=>by simp only [go_sem,reduceIte,↓reduceIte,reduceCtorEq,nA,nS,nM,nB,nE,nL,nT,nN,iL,iT,iE,iA,iM,iS,iG,iB,iN,iZ,h,Int.lt_irrefl,hb0,hx,List.take_length]) (fun k hk s hI=>by
    have h1 : ((k : Int) < (fs.length : Int)):=Int.ofNat_lt.2 hk
    obtain ⟨u0,u1,u2,u3,u4,u5,u6,u7⟩:=h0.2 _ (List.getElem_mem hk)
    have hH : smL smHeader fs[k].Get.Headers:=u6.2.2.2
    by_cases c0 : flightFault fs[k] = 0
    ·skip
     have hw:=flightFault_ok c0
     have p1:=wrow_plain fs[k].Waiters
     have p2 : (allW (fs.take k)).map (rWaiter .ro) ++ fs[k].Waiters.map (rWaiter .ro) = (allW (fs.take (k + 1))).map (rWaiter .ro):=by rw [allW_snoc fs k hk,List.map_append]
     have p3 : ((allW (fs.take k)).length + fs[k].Waiters.length) * 32 ≤ 140737488355328:=by omega
     have p4 : (fs[k].Waiters.map (rWaiter .ro)).take fs[k].Waiters.length = fs[k].Waiters.map (rWaiter .ro):=List.take_of_length_le (by simp)
     all_goals exact .inr ⟨by rw [c0]; rfl,(by rw [allW_snoc fs k hk,List.length_append]; omega),_,fun G=>by simp only [go_sem,reduceIte,↓reduceIte,reduceCtorEq,nA,nS,nM,nB,nE,nL,nT,nN,iL,iT,iE,iA,iM,iS,iG,iB,iN,iZ,h,map_gd (rFlight .ro) fs _ hk,hH,c0,p1,p2,p3,p4,List.length_map,List.length_append,h1,idx_nt _ _ hk,wrap_nat1 (show k < 9223372036854775807 by omega),hb0] <;> with_reducible rfl,by simp only [go_sem,reduceIte,↓reduceIte,reduceCtorEq,nA,nS,nM,nB,nE,nL,nT,nN,iL,iT,iE,iA,iM,iS,iG,iB,iN,iZ,h,p2]⟩
    ·have c1 : (flightFault fs[k] != 0) = true:=by simpa using c0
     all_goals exact .inl ⟨c1,fun G=>by simp only [go_sem,reduceIte,↓reduceIte,reduceCtorEq,nA,nS,nM,nB,nE,nL,nT,nN,iL,iT,iE,iA,iM,iS,iG,iB,iN,iZ,h,map_gd (rFlight .ro) fs _ hk,hH,List.length_map,List.length_append,c1,h1,idx_nt _ _ hk,wrap_nat1 (show k < 9223372036854775807 by omega),hb0]⟩) () (Nat.zero_le _) (fs.length + 1) (Nat.le_refl _)
 rw [hb0] at hz0
 have hT : allW (fs.take 0) = []:=rfl
 simp only [hT,List.map_nil] at hz0
 rcases hqz0 with ⟨s0,e1,_,e3⟩ | ⟨x,s0,e1,e3⟩
 rotate_left
 ·have e2:=firstI_inr e1
  have e4 : (flightFault x != 0) = true:=runS_hit e1
  simp only [go_sem,reduceIte,↓reduceIte,reduceCtorEq,nA,nS,nM,nB,nE,nL,nT,nN,iL,iT,iE,iA,iM,iS,iG,iB,iN,iZ,h,hz0,e3,e2,e4,flightsFault,h1]
 have e2:=firstI_inl e1
 have hall : ∀ x ∈ fs,x.Waiters.length ≤ 10:=fun x hx=>flightFault_ok (runS_zero e1 x hx)
 have hb1:=loopN_eq Tryz.f17 1 _ _ rfl rfl
 obtain ⟨z1,hz1,hqz1⟩:=loop_srch (cx:=cx) (blk:=2) (body:=loopN Tryz.f17 1) (fs.zip fs.tail) (fun k (s : Unit)=>⟨E [(0,.sl .ro 11 (fs.map (rFlight .ro))),(3,.sl .mut 4 ((allW fs).map (rWaiter .ro))),(6,.i .i64 ((k + 1 : Nat) : Int))],B []⟩) (fun s=>⟨E [(0,.sl .ro 11 (fs.map (rFlight .ro))),(3,.sl .mut 4 ((allW fs).map (rWaiter .ro)))],B []⟩) (fun x s=>decide (x.2.Id ≤ x.1.Id)) (fun x s=>()) (fun x s=>(.ret,⟨E [(2,.i .i64 1)],B []⟩)) (fun k s=>True)
   (fun s hI G=>by simp only [go_sem,reduceIte,↓reduceIte,reduceCtorEq,nA,nS,nM,nB,nE,nL,nT,nN,iL,iT,iE,iA,iM,iS,iG,iB,iN,iZ,h,Int.lt_irrefl,hb1,show ¬ ((((fs.zip fs.tail).length + 1 : Nat) : Int) < (fs.length : Int)) by simp; omega]) (fun k hk s hI=>by
    have h1 : ((k : Int) < ((fs.zip fs.tail).length : Int)):=Int.ofNat_lt.2 hk
    have hk2 : k + 1 < fs.length:=by simp at hk; omega
    have h3 : (fs.zip fs.tail)[k] = (fs[k]'(by omega),fs[k + 1]'hk2):=by simp
    rw [h3]
    have i0 : ((k + 1 : Nat) : Int) < (fs.length : Int):=Int.ofNat_lt.2 hk2
    have i2 : (IntKind.i64).wrap (((k + 1 : Nat) : Int) - 1) = (k : Int):=by rw [wrap_id (by omega) (by omega)]; omega
    have i3 : (IntKind.i64).wrap (((k + 1 : Nat) : Int) + 1) = ((k + 1 + 1 : Nat) : Int):=wrap_nat1 (by omega)
    exact ⟨_,_,_,fun G=>by simp only [go_sem,reduceIte,↓reduceIte,reduceCtorEq,nA,nS,nM,nB,nE,nL,nT,nN,iL,iT,iE,iA,iM,iS,iG,iB,iN,iZ,h,i0,i2,i3,idx_nt fs.length _ hk2,idx_nt fs.length k (by omega),map_gd (rFlight .ro) fs _ hk2,map_gd (rFlight .ro) fs k (by omega),h1,idx_nt _ _ hk,wrap_nat1 (show k < 9223372036854775807 by omega),hb1] <;> with_reducible rfl,by simp,fun hc=>⟨trivial,by simp only [go_sem,reduceIte,↓reduceIte,reduceCtorEq,nA,nS,nM,nB,nE,nL,nT,nN,iL,iT,iE,iA,iM,iS,iG,iB,iN,iZ,h]⟩⟩) () trivial (fs.length + 1) (by simp <;> omega)
 rw [hb1] at hz1
 rcases hqz1 with ⟨s1,g1,_,g3⟩ | ⟨x,s1,g1,g3⟩
 rotate_left
 ·have g2 : unsF fs = true:=runS_any' g1
  simp only [go_sem,reduceIte,↓reduceIte,reduceCtorEq,nA,nS,nM,nB,nE,nL,nT,nN,iL,iT,iE,iA,iM,iS,iG,iB,iN,iZ,h,hz0,e3,e2,hz1,g3,g2,List.take_length,flightsFault,h1]
 have g2 : unsF fs = false:=runS_any g1
 have hb2:=loopN_eq Tryz.f17 2 _ _ rfl rfl
 obtain ⟨z2,hz2,hqz2⟩:=loop_srch (cx:=cx) (blk:=4) (body:=loopN Tryz.f17 2) fs (fun k (s : List Flight)=>⟨E [(0,.sl .ro 11 (fs.map (rFlight .ro))),(3,.sl .mut 4 ((allW fs).map (rWaiter .ro))),(7,.i .i64 k)],B []⟩) (fun s=>⟨E [(3,.sl .mut 4 ((allW fs).map (rWaiter .ro)))],B []⟩) (fun x s=>s.any fun y=>sameKey y x) (fun x s=>s ++ [x]) (fun x s=>(.ret,⟨E [(2,.i .i64 6)],B []⟩)) (fun k s=>s = fs.take k)
   (fun s hI G=>by simp only [go_sem,reduceIte,↓reduceIte,reduceCtorEq,nA,nS,nM,nB,nE,nL,nT,nN,iL,iT,iE,iA,iM,iS,iG,iB,iN,iZ,h,Int.lt_irrefl,hb2,hx]) (fun k hk s hI=>by
    have h1 : ((k : Int) < (fs.length : Int)):=Int.ofNat_lt.2 hk
    obtain ⟨q,hq0⟩ : ∃ q,q = k:=⟨k,rfl⟩
    have hq1 : q < fs.length:=by omega
    have hlen : (fs.take q).length = q:=by rw [List.length_take]; omega
    have hb3:=loopN_eq Tryz.f17 3 _ _ rfl rfl
    obtain ⟨r2,hr2,hqr2⟩:=loop_srch (cx:=cx) (blk:=6) (body:=loopN Tryz.f17 3) (fs.take q) (fun k (s : Unit)=>⟨E [(0,.sl .ro 11 (fs.map (rFlight .ro))),(3,.sl .mut 4 ((allW fs).map (rWaiter .ro))),(7,.i .i64 q),(8,.i .i64 k)],B []⟩) (fun s=>⟨E [(0,.sl .ro 11 (fs.map (rFlight .ro))),(3,.sl .mut 4 ((allW fs).map (rWaiter .ro))),(7,.i .i64 q)],B []⟩) (fun x s=>eqv fs[q].Key x.Key) (fun x s=>()) (fun x s=>(.ret,⟨E [(2,.i .i64 6)],B []⟩)) (fun k s=>True)
      (fun s hI G=>by simp only [go_sem,reduceIte,↓reduceIte,reduceCtorEq,nA,nS,nM,nB,nE,nL,nT,nN,iL,iT,iE,iA,iM,iS,iG,iB,iN,iZ,h,Int.lt_irrefl,hb3,hlen,Int.lt_irrefl]) (fun k hk s hI=>by
       have h1 : ((k : Int) < ((fs.take q).length : Int)):=Int.ofNat_lt.2 hk
       have hk2 : k < q:=by rw [List.length_take] at hk; omega
       have hk3 : k < fs.length:=by omega
       have hkq : (k : Int) < (q : Int):=by omega
       have e1 : (fs.take q)[k] = fs[k]:=by simp
       have i1:=idx_nt fs.length k hk3
       have i2:=idx_nt fs.length q hq1
       have w1:=wrap_nat1 (show k < 9223372036854775807 by omega)
       all_goals exact ⟨_,_,_,fun G=>by simp only [go_sem,reduceIte,↓reduceIte,reduceCtorEq,nA,nS,nM,nB,nE,nL,nT,nN,iL,iT,iE,iA,iM,iS,iG,iB,iN,iZ,h,hkq,e1,i1,i2,w1,eqv_bytes,map_gd (rFlight .ro) fs k hk3,map_gd (rFlight .ro) fs q hq1,List.length_map,h1,idx_nt _ _ hk,wrap_nat1 (show k < 9223372036854775807 by omega),hb3] <;> with_reducible rfl,by rw [e1],fun hc=>⟨trivial,by simp only [go_sem,reduceIte,↓reduceIte,reduceCtorEq,nA,nS,nM,nB,nE,nL,nT,nN,iL,iT,iE,iA,iM,iS,iG,iB,iN,iZ,h,hlen]⟩⟩) () trivial (fs.length + 1) (by rw [List.length_take]; omega)
    rw [hb3] at hr2
    subst hq0
    have hfl:=any_flipK (fs.take q) fs[q]
    have hy : r2 = (if (s.any fun y=>sameKey y fs[q]) = true then some (.ret,⟨E [(2,.i .i64 6)],B []⟩) else some (.ex 6,⟨E [(0,.sl .ro 11 (fs.map (rFlight .ro))),(3,.sl .mut 4 ((allW fs).map (rWaiter .ro))),(7,.i .i64 q)],B []⟩)):=by
     subst hI
     rcases hqr2 with ⟨s',e1,_,e3⟩ | ⟨x,s',e1,e3⟩
     ·rw [← hfl,runS_any e1,e3]; rfl
     ·rw [← hfl,runS_any' e1,e3]; rfl
    rw [hy] at hr2
    exact ⟨_,_,_,fun G=>by simp only [go_sem,reduceIte,↓reduceIte,reduceCtorEq,nA,nS,nM,nB,nE,nL,nT,nN,iL,iT,iE,iA,iM,iS,iG,iB,iN,iZ,h,hr2,h1,idx_nt fs.length q hk,wrap_nat1 (show q < 9223372036854775807 by omega),hb2] <;> with_reducible rfl,Iff.rfl,fun hc=>⟨(by rw [hI]; exact (take_snoc fs q hk).symm),by simp only [go_sem,reduceIte,↓reduceIte,reduceCtorEq,nA,nS,nM,nB,nE,nL,nT,nN,iL,iT,iE,iA,iM,iS,iG,iB,iN,iZ,h]⟩⟩) [] rfl (fs.length + 1) (Nat.le_refl _)
 rw [hb2] at hz2
 have hal : (allW fs).length ≤ 9223372036854775806:=by have:=allW_len hall; omega
 rcases hqz2 with ⟨s2,k1,_,k3⟩ | ⟨x,s2,k1,k3⟩
 ·have k2:=dup_inl k1
  cases k4 : tw [] (allW fs) <;> simp only [go_sem,reduceIte,↓reduceIte,reduceCtorEq,nA,nS,nM,nB,nE,nL,nT,nN,iL,iT,iE,iA,iM,iS,iG,iB,iN,iZ,h,hz0,e3,e2,hz1,g3,g2,hz2,k3,k2,k4,hal,List.take_length,flightsFault,h1]
 ·have k2:=dup_inr k1
  simp only [go_sem,reduceIte,↓reduceIte,reduceCtorEq,nA,nS,nM,nB,nE,nL,nT,nN,iL,iT,iE,iA,iM,iS,iG,iB,iN,iZ,h,hz0,e3,e2,hz1,g3,g2,hz2,k3,k2,List.take_length,flightsFault,h1]) (rfl)
def s76 : SP Tryz.prog:=mkS tyA 76 Tryz.f76 [s17] { md:=[.ro 1,.ro 1],rg:=[(0,[0,1,4],[4]),(1,[1,4,5],[4]),(2,[1,4,5,9],[4]),(3,[4],[4]),(4,[1,4,13],[4]),(5,[4],[4]),(6,[4],[4])],rets:=some ([4],[4]) } Tryz.func76 (by kernel_rfl)
@[go_sem] theorem d76 : s76.g = 76 ∧ s76.fs = ⟨[.ro 1,.ro 1],s76.F,false⟩:=⟨nr rfl,nr rfl⟩
@[go_sem] theorem e76 (fs : List Flight) (at0 : Int) (h0 : smL smFlight fs) : s76.F [.sl .ro 11 (fs.map (rFlight .ro)),.i .i64 at0] = some (.agg [.i .i64 (if (flightsFault fs != 0) = true then flightsFault fs else if at0 < 0 then 4 else 0),.i .i64 (if (flightsFault fs != 0) = true then 0 else if at0 < 0 then 0 else at0)],[.u,.u]):=mkS_eq (0) rfl rfl (fun cx h=>by
 cases h1 : flightsFault fs != 0
 ·by_cases h2 : at0 < 0 <;> simp only [go_sem,reduceIte,↓reduceIte,reduceCtorEq,nA,nS,nM,nB,nE,nL,nT,nN,iL,iT,iE,iA,iM,iS,iG,iB,iN,iZ,h,h0,h1,h2]
 ·simp only [go_sem,reduceIte,↓reduceIte,reduceCtorEq,nA,nS,nM,nB,nE,nL,nT,nN,iL,iT,iE,iA,iM,iS,iG,iB,iN,iZ,h,h0,h1]) (rfl)
def s77 : SP Tryz.prog:=mkS tyA 77 Tryz.f77 [] { md:=[.ro 1,.ro 1],rg:=[(0,[0,1],[]),(1,[0,1,5],[]),(2,[0,1,5,9],[]),(3,[0,1,5],[]),(4,[0,1,5,18],[]),(5,[4],[]),(6,[4],[])],lv:=[(0,[0,1,5],[])],out:=[(0,[],[])],rets:=some ([4],[]) } Tryz.func77 (by kernel_rfl)
@[go_sem] theorem d77 : s77.g = 77 ∧ s77.fs = ⟨[.ro 1,.ro 1],s77.F,false⟩:=⟨nr rfl,nr rfl⟩
@[go_sem] theorem e77 (fs : List Flight) (key : ByteArray) (h0 : fs.length ≤ 9223372036854775806) : s77.F [.sl .ro 11 (fs.map (rFlight .ro)),.s key] = some (.i .i64 (idxP (fun x=>eqv x.Key key) fs 0),[.u,.u]):=mkS_eq (fs.length + 1) rfl rfl (fun cx h=>by
 have hx:=h0
 have hb0:=loopN_eq Tryz.f77 0 _ _ rfl rfl
 obtain ⟨r,hr,hq⟩:=loop_srch (cx:=cx) (blk:=0) (body:=loopN Tryz.f77 0) fs (fun k (s : Nat)=>⟨E [(0,.sl .ro 11 (fs.map (rFlight .ro))),(1,.s key),(5,.i .i64 k)],B []⟩) (fun s=>⟨E [],B []⟩) (fun x s=>eqv x.Key key) (fun x s=>s + 1) (fun x s=>(.ret,⟨E [(4,.i .i64 s)],B []⟩)) (fun k s=>k = s)
   (fun s hI G=>by simp only [go_sem,reduceIte,↓reduceIte,reduceCtorEq,nA,nS,nM,nB,nE,nL,nT,nN,iL,iT,iE,iA,iM,iS,iG,iB,iN,iZ,h,Int.lt_irrefl,hb0,hI]) (fun k hk s hI=>by
    have h1 : ((k : Int) < (fs.length : Int)):=Int.ofNat_lt.2 hk
    obtain rfl:=hI
    exact ⟨_,_,_,fun G=>by simp only [go_sem,reduceIte,↓reduceIte,reduceCtorEq,nA,nS,nM,nB,nE,nL,nT,nN,iL,iT,iE,iA,iM,iS,iG,iB,iN,iZ,h,map_gd (rFlight .ro) fs _ hk,eqv_bytes,h1,idx_nt _ _ hk,wrap_nat1 (show k < 9223372036854775807 by omega),hb0] <;> with_reducible rfl,Iff.rfl,fun hc=>⟨rfl,by simp only [go_sem,reduceIte,↓reduceIte,reduceCtorEq,nA,nS,nM,nB,nE,nL,nT,nN,iL,iT,iE,iA,iM,iS,iG,iB,iN,iZ,h]⟩⟩) 0 rfl (fs.length + 1) (Nat.le_refl _)
 rw [hb0] at hr
 rcases hq with ⟨s',e1,_,e3⟩ | ⟨x,s',e1,e3⟩
 ·simp only [go_sem,reduceIte,↓reduceIte,reduceCtorEq,nA,nS,nM,nB,nE,nL,nT,nN,iL,iT,iE,iA,iM,iS,iG,iB,iN,iZ,h,hr,e3,runS_idx e1]
 ·simp only [go_sem,reduceIte,↓reduceIte,reduceCtorEq,nA,nS,nM,nB,nE,nL,nT,nN,iL,iT,iE,iA,iM,iS,iG,iB,iN,iZ,h,hr,e3,runS_idx' e1]) (rfl)
def s14 : SP Tryz.prog:=mkS tyA 14 Tryz.f14 [s76,s77] { md:=[.ro 1,.ro 1],rets:=some ([4],[4]) } Tryz.func14 (by kernel_rfl)
@[go_sem] theorem d14 : s14.g = 14 ∧ s14.fs = ⟨[.ro 1,.ro 1],s14.F,false⟩:=⟨nr rfl,nr rfl⟩
@[go_sem] theorem e14 (fs : List Flight) (key : ByteArray) (h0 : smL smFlight fs) : s14.F [.sl .ro 11 (fs.map (rFlight .ro)),.s key] = some (.agg (rIntResult .ro (placeR fs (idxP (fun x=>eqv x.Key key) fs 0))),[.u,.u]):=mkS_eq (0) rfl rfl (fun cx h=>by
 have hx : fs.length ≤ 9223372036854775806:=by have:=h0.1; omega
 simp only [go_sem,reduceIte,↓reduceIte,reduceCtorEq,nA,nS,nM,nB,nE,nL,nT,nN,iL,iT,iE,iA,iM,iS,iG,iB,iN,iZ,h,h0,hx,placeR]) (rfl)
def s78 : SP Tryz.prog:=mkS tyA 78 Tryz.f78 [] { md:=[.ro 1,.ro 1],rg:=[(0,[0,1],[]),(1,[0,1,5],[]),(2,[0,1,5,9],[]),(3,[0,1,5],[]),(4,[0,1,5,18],[]),(5,[4],[]),(6,[4],[])],lv:=[(0,[0,1,5],[])],out:=[(0,[],[])],rets:=some ([4],[]) } Tryz.func78 (by kernel_rfl)
@[go_sem] theorem d78 : s78.g = 78 ∧ s78.fs = ⟨[.ro 1,.ro 1],s78.F,false⟩:=⟨nr rfl,nr rfl⟩
@[go_sem] theorem e78 (fs : List Flight) (id : Int) (h0 : fs.length ≤ 9223372036854775806) : s78.F [.sl .ro 11 (fs.map (rFlight .ro)),.i .i64 id] = some (.i .i64 (idxP (fun x=>x.Id == id) fs 0),[.u,.u]):=mkS_eq (fs.length + 1) rfl rfl (fun cx h=>by
 have hx:=h0
 have hb0:=loopN_eq Tryz.f78 0 _ _ rfl rfl
 obtain ⟨r,hr,hq⟩:=loop_srch (cx:=cx) (blk:=0) (body:=loopN Tryz.f78 0) fs (fun k (s : Nat)=>⟨E [(0,.sl .ro 11 (fs.map (rFlight .ro))),(1,.i .i64 id),(5,.i .i64 k)],B []⟩) (fun s=>⟨E [],B []⟩) (fun x s=>x.Id == id) (fun x s=>s + 1) (fun x s=>(.ret,⟨E [(4,.i .i64 s)],B []⟩)) (fun k s=>k = s)
   (fun s hI G=>by simp only [go_sem,reduceIte,↓reduceIte,reduceCtorEq,nA,nS,nM,nB,nE,nL,nT,nN,iL,iT,iE,iA,iM,iS,iG,iB,iN,iZ,h,Int.lt_irrefl,hb0,hI]) (fun k hk s hI=>by
    have h1 : ((k : Int) < (fs.length : Int)):=Int.ofNat_lt.2 hk
    obtain rfl:=hI
    exact ⟨_,_,_,fun G=>by simp only [go_sem,reduceIte,↓reduceIte,reduceCtorEq,nA,nS,nM,nB,nE,nL,nT,nN,iL,iT,iE,iA,iM,iS,iG,iB,iN,iZ,h,map_gd (rFlight .ro) fs _ hk,h1,idx_nt _ _ hk,wrap_nat1 (show k < 9223372036854775807 by omega),hb0] <;> with_reducible rfl,Iff.rfl,fun hc=>⟨rfl,by simp only [go_sem,reduceIte,↓reduceIte,reduceCtorEq,nA,nS,nM,nB,nE,nL,nT,nN,iL,iT,iE,iA,iM,iS,iG,iB,iN,iZ,h]⟩⟩) 0 rfl (fs.length + 1) (Nat.le_refl _)
 rw [hb0] at hr
 rcases hq with ⟨s',e1,_,e3⟩ | ⟨x,s',e1,e3⟩
 ·simp only [go_sem,reduceIte,↓reduceIte,reduceCtorEq,nA,nS,nM,nB,nE,nL,nT,nN,iL,iT,iE,iA,iM,iS,iG,iB,iN,iZ,h,hr,e3,runS_idx e1]
 ·simp only [go_sem,reduceIte,↓reduceIte,reduceCtorEq,nA,nS,nM,nB,nE,nL,nT,nN,iL,iT,iE,iA,iM,iS,iG,iB,iN,iZ,h,hr,e3,runS_idx' e1]) (rfl)
def s15 : SP Tryz.prog:=mkS tyA 15 Tryz.f15 [s76,s78] { md:=[.ro 1,.ro 1],rets:=some ([4],[4]) } Tryz.func15 (by kernel_rfl)
@[go_sem] theorem d15 : s15.g = 15 ∧ s15.fs = ⟨[.ro 1,.ro 1],s15.F,false⟩:=⟨nr rfl,nr rfl⟩
@[go_sem] theorem e15 (fs : List Flight) (id : Int) (h0 : smL smFlight fs) : s15.F [.sl .ro 11 (fs.map (rFlight .ro)),.i .i64 id] = some (.agg (rIntResult .ro (placeR fs (idxP (fun x=>x.Id == id) fs 0))),[.u,.u]):=mkS_eq (0) rfl rfl (fun cx h=>by
 have hx : fs.length ≤ 9223372036854775806:=by have:=h0.1; omega
 simp only [go_sem,reduceIte,↓reduceIte,reduceCtorEq,nA,nS,nM,nB,nE,nL,nT,nN,iL,iT,iE,iA,iM,iS,iG,iB,iN,iZ,h,h0,hx,placeR]) (rfl)
def s281 : SP Tryz.prog:=mkS tyA 281 Tryz.f281 [] { md:=[.ro 1,.ro 1],rg:=[(0,[0,1],[]),(1,[0,1,10],[]),(2,[4],[]),(3,[0,1,12,13],[]),(4,[0,1,12,13,14],[]),(5,[0,1,5,12,13],[]),(6,[0,1,12,13,24],[]),(7,[4],[]),(8,[0,1,12,13],[]),(9,[4],[])],lv:=[(0,[0,1,12,13],[])],out:=[(0,[],[])],rets:=some ([4],[]),plan:=[(6,(.take 0 (.take 1 (.take 2 (.take 3 (.take 4 (.take 5 (.take 6 (.take 7 (.take 8 .done))))))))))] } Tryz.func281 (by kernel_rfl)
@[go_sem] theorem d281 : s281.g = 281 ∧ s281.fs = ⟨[.ro 1,.ro 1],s281.F,false⟩:=⟨nr rfl,nr rfl⟩
@[go_sem] theorem e281 (xs ys : List Header) (h0 : smL smHeader xs) : s281.F [.sl .ro 2 (xs.map (rHeader .ro)),.sl .ro 2 (ys.map (rHeader .ro))] = some (.b (eqv xs ys),[.u,.u]):=mkS_eq (xs.length + 1) rfl rfl (fun cx h=>by
 have hx:=h0.1
 by_cases hl : xs.length = ys.length
 ·have hb0:=loopN_eq Tryz.f281 0 _ _ rfl rfl
  obtain ⟨r,hr,hq⟩:=loop_srch (cx:=cx) (blk:=0) (body:=loopN Tryz.f281 0) (xs.zip ys) (fun k (s : Unit)=>⟨E [(0,.sl .ro 2 (xs.map (rHeader .ro))),(1,.sl .ro 2 (ys.map (rHeader .ro))),(12,.i .i64 xs.length),(13,.i .i64 k)],B []⟩) (fun s=>⟨E [],B []⟩) (fun x s=>!eqv x.1 x.2) (fun x s=>s) (fun x s=>(.ret,⟨E [(4,.b false)],B []⟩)) (fun k s=>True)
    (fun s hI G=>by simp only [go_sem,reduceIte,↓reduceIte,reduceCtorEq,nA,nS,nM,nB,nE,nL,nT,nN,iL,iT,iE,iA,iM,iS,iG,iB,iN,iZ,h,Int.lt_irrefl,hb0,zip_len hl,hl]) (fun k hk s hI=>by
     have h1 : ((k : Int) < ((xs.zip ys).length : Int)):=Int.ofNat_lt.2 hk
     have hk' : k < xs.length:=by rwa [zip_len hl] at hk
     have h1' : ((k : Int) < (xs.length : Int)):=Int.ofNat_lt.2 hk'
     have h2:=h0.2 _ (List.getElem_mem hk')
     have h3 : (xs.zip ys)[k] = (xs[k],ys[k]'(by omega)):=by simp
     rw [h3]
     have h4:=h2
     obtain ⟨u0,u1⟩:=h2
     exact ⟨_,_,_,fun G=>by simp only [go_sem,reduceIte,↓reduceIte,reduceCtorEq,nA,nS,nM,nB,nE,nL,nT,nN,iL,iT,iE,iA,iM,iS,iG,iB,iN,iZ,h,h1',idx_nt _ _ hk',idx_nt ys.length k (by omega),map_gd (rHeader .ro) xs k hk',map_gd (rHeader .ro) ys k (by omega),wrap_nat1 (show k < 9223372036854775807 by omega),h4,if_oret,Header.eqv xs[k] (ys[k]'(by omega)),u0,u1,eqv_byte,eqv_intne,eqv_int,eqv_bytes,eqv_boolne,h1,idx_nt _ _ hk,wrap_nat1 (show k < 9223372036854775807 by omega),hb0] <;> with_reducible rfl,by first | exact Iff.rfl | ((simp only [Header.eqv xs[k] (ys[k]'(by omega))] <;> simp) <;> done) | ((simp only [Header.eqv xs[k] (ys[k]'(by omega))] <;> simp [eqv]) <;> done) | (simp only [Header.eqv xs[k] (ys[k]'(by omega))] <;> simp [eqv] <;> (by_cases g : xs[k].Get = (ys[k]'(by omega)).Get <;> simp [g])),fun hc=>⟨trivial,by simp only [go_sem,reduceIte,↓reduceIte,reduceCtorEq,nA,nS,nM,nB,nE,nL,nT,nN,iL,iT,iE,iA,iM,iS,iG,iB,iN,iZ,h]⟩⟩) () trivial (xs.length + 1) (by rw [zip_len hl]; exact Nat.le_refl _)
  rw [hb0] at hr
  have hl2 : ((xs.length : Int) != (ys.length : Int)) = false:=by simp [hl]
  rcases hq with ⟨s',e1,_,e3⟩ | ⟨x,s',e1,e3⟩
  ·simp only [go_sem,reduceIte,↓reduceIte,reduceCtorEq,nA,nS,nM,nB,nE,nL,nT,nN,iL,iT,iE,iA,iM,iS,iG,iB,iN,iZ,h,hl2,hr,e3,zip_eqv hl e1]
  ·simp only [go_sem,reduceIte,↓reduceIte,reduceCtorEq,nA,nS,nM,nB,nE,nL,nT,nN,iL,iT,iE,iA,iM,iS,iG,iB,iN,iZ,h,hl2,hr,e3,zip_nev hl e1]
 ·have hl2 : ((xs.length : Int) != (ys.length : Int)) = true:=by simpa using fun h=>hl (Int.ofNat_inj.1 h)
  simp only [go_sem,reduceIte,↓reduceIte,reduceCtorEq,nA,nS,nM,nB,nE,nL,nT,nN,iL,iT,iE,iA,iM,iS,iG,iB,iN,iZ,h,hl2,len_nev hl]) (rfl)
def s189 : SP Tryz.prog:=mkS tyA 189 Tryz.f189 [s281] { md:=[.ro 1,.ro 1],rets:=some ([4],[]) } Tryz.func189 (by kernel_rfl)
@[go_sem] theorem d189 : s189.g = 189 ∧ s189.fs = ⟨[.ro 1,.ro 1],s189.F,false⟩:=⟨nr rfl,nr rfl⟩
@[go_sem] theorem e189 (y0 y1 y2 : ByteArray) (y3 : List Header) (y4 y5 y6 : ByteArray) (y7 : List Header) (h0 : smRequest (Request.mk y0 y1 y2 y3)) : s189.F [.agg [.s y0,.s y1,.s y2,.sl .ro 2 (y3.map (rHeader .ro))],.agg [.s y4,.s y5,.s y6,.sl .ro 2 (y7.map (rHeader .ro))]] = some (.b (eqv (Request.mk y0 y1 y2 y3) (Request.mk y4 y5 y6 y7)),[.u,.u]):=mkS_eq (0) rfl rfl (fun cx h=>by
 obtain ⟨q0,q1,q2,q3⟩:=h0
 simp only [go_sem,reduceIte,↓reduceIte,reduceCtorEq,nA,nS,nM,nB,nE,nL,nT,nN,iL,iT,iE,iA,iM,iS,iG,iB,iN,iZ,h,eqv_intne,eqv_int,eqv_bytes,eqv_boolne,eqv_bool,eqv_mk,q0,q1,q2,q3]
 simp only [Request.eqv (Request.mk y0 y1 y2 y3) (Request.mk y4 y5 y6 y7),if_sb,if_and',if_or',Bool.and_true,Bool.and_assoc]) (rfl)
def s190 : SP Tryz.prog:=mkS tyA 190 Tryz.f190 [] { md:=[.ro 1,.ro 1],rg:=[(0,[0,1],[]),(1,[0,1,10],[]),(2,[4],[]),(3,[0,1,12,13],[]),(4,[0,1,12,13,14],[]),(5,[0,1,5,12,13],[]),(6,[0,1,12,13,24],[]),(7,[4],[]),(8,[0,1,12,13],[]),(9,[4],[])],lv:=[(0,[0,1,12,13],[])],out:=[(0,[],[])],rets:=some ([4],[]),plan:=[(6,(.take 0 (.take 1 (.take 2 (.take 3 (.take 4 (.take 5 (.take 6 (.take 7 (.take 8 .done))))))))))] } Tryz.func190 (by kernel_rfl)
@[go_sem] theorem d190 : s190.g = 190 ∧ s190.fs = ⟨[.ro 1,.ro 1],s190.F,false⟩:=⟨nr rfl,nr rfl⟩
@[go_sem] theorem e190 (xs ys : List Waiter) (h0 : smL smWaiter xs) : s190.F [.sl .ro 4 (xs.map (rWaiter .ro)),.sl .ro 4 (ys.map (rWaiter .ro))] = some (.b (eqv xs ys),[.u,.u]):=mkS_eq (xs.length + 1) rfl rfl (fun cx h=>by
 have hx:=h0.1
 by_cases hl : xs.length = ys.length
 ·have hb0:=loopN_eq Tryz.f190 0 _ _ rfl rfl
  obtain ⟨r,hr,hq⟩:=loop_srch (cx:=cx) (blk:=0) (body:=loopN Tryz.f190 0) (xs.zip ys) (fun k (s : Unit)=>⟨E [(0,.sl .ro 4 (xs.map (rWaiter .ro))),(1,.sl .ro 4 (ys.map (rWaiter .ro))),(12,.i .i64 xs.length),(13,.i .i64 k)],B []⟩) (fun s=>⟨E [],B []⟩) (fun x s=>!eqv x.1 x.2) (fun x s=>s) (fun x s=>(.ret,⟨E [(4,.b false)],B []⟩)) (fun k s=>True)
    (fun s hI G=>by simp only [go_sem,reduceIte,↓reduceIte,reduceCtorEq,nA,nS,nM,nB,nE,nL,nT,nN,iL,iT,iE,iA,iM,iS,iG,iB,iN,iZ,h,Int.lt_irrefl,hb0,zip_len hl,hl]) (fun k hk s hI=>by
     have h1 : ((k : Int) < ((xs.zip ys).length : Int)):=Int.ofNat_lt.2 hk
     have hk' : k < xs.length:=by rwa [zip_len hl] at hk
     have h1' : ((k : Int) < (xs.length : Int)):=Int.ofNat_lt.2 hk'
     have h2:=h0.2 _ (List.getElem_mem hk')
     have h3 : (xs.zip ys)[k] = (xs[k],ys[k]'(by omega)):=by simp
     rw [h3]
     have h4:=h2
     obtain ⟨u0,u1,u2,u3⟩:=h2
     exact ⟨_,_,_,fun G=>by simp only [go_sem,reduceIte,↓reduceIte,reduceCtorEq,nA,nS,nM,nB,nE,nL,nT,nN,iL,iT,iE,iA,iM,iS,iG,iB,iN,iZ,h,h1',idx_nt _ _ hk',idx_nt ys.length k (by omega),map_gd (rWaiter .ro) xs k hk',map_gd (rWaiter .ro) ys k (by omega),wrap_nat1 (show k < 9223372036854775807 by omega),h4,if_oret,Waiter.eqv xs[k] (ys[k]'(by omega)),u0,u1,u2,u3,eqv_byte,eqv_intne,eqv_int,eqv_bytes,eqv_boolne,h1,idx_nt _ _ hk,wrap_nat1 (show k < 9223372036854775807 by omega),hb0] <;> with_reducible rfl,by first | exact Iff.rfl | ((simp only [Waiter.eqv xs[k] (ys[k]'(by omega))] <;> simp) <;> done) | ((simp only [Waiter.eqv xs[k] (ys[k]'(by omega))] <;> simp [eqv]) <;> done) | (simp only [Waiter.eqv xs[k] (ys[k]'(by omega))] <;> simp [eqv] <;> (by_cases g : xs[k].Get = (ys[k]'(by omega)).Get <;> simp [g])),fun hc=>⟨trivial,by simp only [go_sem,reduceIte,↓reduceIte,reduceCtorEq,nA,nS,nM,nB,nE,nL,nT,nN,iL,iT,iE,iA,iM,iS,iG,iB,iN,iZ,h]⟩⟩) () trivial (xs.length + 1) (by rw [zip_len hl]; exact Nat.le_refl _)
  rw [hb0] at hr
  have hl2 : ((xs.length : Int) != (ys.length : Int)) = false:=by simp [hl]
  rcases hq with ⟨s',e1,_,e3⟩ | ⟨x,s',e1,e3⟩
  ·simp only [go_sem,reduceIte,↓reduceIte,reduceCtorEq,nA,nS,nM,nB,nE,nL,nT,nN,iL,iT,iE,iA,iM,iS,iG,iB,iN,iZ,h,hl2,hr,e3,zip_eqv hl e1]
  ·simp only [go_sem,reduceIte,↓reduceIte,reduceCtorEq,nA,nS,nM,nB,nE,nL,nT,nN,iL,iT,iE,iA,iM,iS,iG,iB,iN,iZ,h,hl2,hr,e3,zip_nev hl e1]
 ·have hl2 : ((xs.length : Int) != (ys.length : Int)) = true:=by simpa using fun h=>hl (Int.ofNat_inj.1 h)
  simp only [go_sem,reduceIte,↓reduceIte,reduceCtorEq,nA,nS,nM,nB,nE,nL,nT,nN,iL,iT,iE,iA,iM,iS,iG,iB,iN,iZ,h,hl2,len_nev hl]) (rfl)
def s84 : SP Tryz.prog:=mkS tyA 84 Tryz.f84 [s189,s190] { md:=[.ro 1,.ro 1],rets:=some ([4],[]) } Tryz.func84 (by kernel_rfl)
@[go_sem] theorem d84 : s84.g = 84 ∧ s84.fs = ⟨[.ro 1,.ro 1],s84.F,false⟩:=⟨nr rfl,nr rfl⟩
@[go_sem] theorem e84 (xId : Int) (y8 : ByteArray) (y9 y10 : Bool) (y11 : Int) (y12 : Bool) (y13 y14 y15 : ByteArray) (y16 : List Header) (y17 : List Waiter) (yId : Int) (y18 : ByteArray) (y19 y20 : Bool) (y21 : Int) (y22 : Bool) (y23 y24 y25 : ByteArray) (y26 : List Header) (y27 : List Waiter) (h0 : smFlight (Flight.mk xId y8 y9 y10 y11 y12 (Request.mk y13 y14 y15 y16) y17)) : s84.F [.agg [.i .i64 xId,.s y8,.b y9,.b y10,.i .i64 y11,.b y12,.s y13,.s y14,.s y15,.sl .ro 2 (y16.map (rHeader .ro)),.sl .ro 4 (y17.map (rWaiter .ro))],.agg [.i .i64 yId,.s y18,.b y19,.b y20,.i .i64 y21,.b y22,.s y23,.s y24,.s y25,.sl .ro 2 (y26.map (rHeader .ro)),.sl .ro 4 (y27.map (rWaiter .ro))]] = some (.b (eqv (Flight.mk xId y8 y9 y10 y11 y12 (Request.mk y13 y14 y15 y16) y17) (Flight.mk yId y18 y19 y20 y21 y22 (Request.mk y23 y24 y25 y26) y27)),[.u,.u]):=mkS_eq (0) rfl rfl (fun cx h=>by
 obtain ⟨q0,q1,q2,q3,q4,q5,q6,q7⟩:=h0
 simp only [go_sem,reduceIte,↓reduceIte,reduceCtorEq,nA,nS,nM,nB,nE,nL,nT,nN,iL,iT,iE,iA,iM,iS,iG,iB,iN,iZ,h,eqv_intne,eqv_int,eqv_bytes,eqv_boolne,eqv_bool,eqv_mk,q0,q1,q2,q3,q4,q5,q6,q7]
 simp only [Flight.eqv (Flight.mk xId y8 y9 y10 y11 y12 (Request.mk y13 y14 y15 y16) y17) (Flight.mk yId y18 y19 y20 y21 y22 (Request.mk y23 y24 y25 y26) y27),if_sb,if_and',if_or',Bool.and_true,Bool.and_assoc]) (rfl)
def s83 : SP Tryz.prog:=mkS tyA 83 Tryz.f83 [s84] { md:=[.ro 1,.ro 1,.ro 1],rg:=[(0,[0,1,2],[]),(1,[0,1,2,14],[]),(2,[6],[]),(3,[0,1,2,15,16,17],[]),(4,[0,1,2,15,16,17,18],[]),(5,[0,1,2,7,8,15,16,17],[8]),(6,[0,1,2,8,9,15,16,17,22],[8,9]),(7,[0,1,2,15,16,17,30],[]),(8,[6],[]),(9,[0,1,2,15,16,17],[]),(10,[6],[])],lv:=[(0,[0,1,2,15,16,17],[])],out:=[(0,[],[])],rets:=some ([6],[]) } Tryz.func83 (by kernel_rfl)
@[go_sem] theorem d83 : s83.g = 83 ∧ s83.fs = ⟨[.ro 1,.ro 1,.ro 1],s83.F,false⟩:=⟨nr rfl,nr rfl⟩
@[go_sem] theorem e83 (xs ys : List Flight) (h0 : smL smFlight xs) : s83.F [.sl .ro 11 (xs.map (rFlight .ro)),.sl .ro 11 (ys.map (rFlight .ro)),.fn 84 []] = some (.b (eqv xs ys),[.u,.u,.u]):=mkS_eq (xs.length + 1) rfl rfl (fun cx h=>by
 have hx:=h0.1
 by_cases hl : xs.length = ys.length
 ·have hb0:=loopN_eq Tryz.f83 0 _ _ rfl rfl
  obtain ⟨r,hr,hq⟩:=loop_srch (cx:=cx) (blk:=0) (body:=loopN Tryz.f83 0) (xs.zip ys) (fun k (s : Unit)=>⟨E [(0,.sl .ro 11 (xs.map (rFlight .ro))),(1,.sl .ro 11 (ys.map (rFlight .ro))),(2,.fn 84 []),(15,.sl .ro 11 (xs.map (rFlight .ro))),(16,.i .i64 xs.length),(17,.i .i64 k)],B []⟩) (fun s=>⟨E [],B []⟩) (fun x s=>!eqv x.1 x.2) (fun x s=>s) (fun x s=>(.ret,⟨E [(6,.b false)],B []⟩)) (fun k s=>True)
    (fun s hI G=>by simp only [go_sem,reduceIte,↓reduceIte,reduceCtorEq,nA,nS,nM,nB,nE,nL,nT,nN,iL,iT,iE,iA,iM,iS,iG,iB,iN,iZ,h,Int.lt_irrefl,hb0,zip_len hl,hl]) (fun k hk s hI=>by
     have h1 : ((k : Int) < ((xs.zip ys).length : Int)):=Int.ofNat_lt.2 hk
     have hk' : k < xs.length:=by rwa [zip_len hl] at hk
     have h1' : ((k : Int) < (xs.length : Int)):=Int.ofNat_lt.2 hk'
     have h2:=h0.2 _ (List.getElem_mem hk')
     have h3 : (xs.zip ys)[k] = (xs[k],ys[k]'(by omega)):=by simp
     rw [h3]
     have h4:=h2
     obtain ⟨u0,u1,u2,u3,u4,u5,u6,u7⟩:=h2
     exact ⟨_,_,_,fun G=>by simp only [go_sem,reduceIte,↓reduceIte,reduceCtorEq,nA,nS,nM,nB,nE,nL,nT,nN,iL,iT,iE,iA,iM,iS,iG,iB,iN,iZ,h,h1',idx_nt _ _ hk',idx_nt ys.length k (by omega),map_gd (rFlight .ro) xs k hk',map_gd (rFlight .ro) ys k (by omega),wrap_nat1 (show k < 9223372036854775807 by omega),h4,if_oret,Flight.eqv xs[k] (ys[k]'(by omega)),u0,u1,u2,u3,u4,u5,u6,u7,eqv_byte,eqv_intne,eqv_int,eqv_bytes,eqv_boolne,h1,idx_nt _ _ hk,wrap_nat1 (show k < 9223372036854775807 by omega),hb0] <;> with_reducible rfl,by first | exact Iff.rfl | ((simp only [Flight.eqv xs[k] (ys[k]'(by omega))] <;> simp) <;> done) | ((simp only [Flight.eqv xs[k] (ys[k]'(by omega))] <;> simp [eqv]) <;> done) | (simp only [Flight.eqv xs[k] (ys[k]'(by omega))] <;> simp [eqv] <;> (by_cases g : xs[k].Get = (ys[k]'(by omega)).Get <;> simp [g])),fun hc=>⟨trivial,by simp only [go_sem,reduceIte,↓reduceIte,reduceCtorEq,nA,nS,nM,nB,nE,nL,nT,nN,iL,iT,iE,iA,iM,iS,iG,iB,iN,iZ,h]⟩⟩) () trivial (xs.length + 1) (by rw [zip_len hl]; exact Nat.le_refl _)
  rw [hb0] at hr
  have hl2 : ((xs.length : Int) != (ys.length : Int)) = false:=by simp [hl]
  rcases hq with ⟨s',e1,_,e3⟩ | ⟨x,s',e1,e3⟩
  ·simp only [go_sem,reduceIte,↓reduceIte,reduceCtorEq,nA,nS,nM,nB,nE,nL,nT,nN,iL,iT,iE,iA,iM,iS,iG,iB,iN,iZ,h,hl2,hr,e3,zip_eqv hl e1]
  ·simp only [go_sem,reduceIte,↓reduceIte,reduceCtorEq,nA,nS,nM,nB,nE,nL,nT,nN,iL,iT,iE,iA,iM,iS,iG,iB,iN,iZ,h,hl2,hr,e3,zip_nev hl e1]
 ·have hl2 : ((xs.length : Int) != (ys.length : Int)) = true:=by simpa using fun h=>hl (Int.ofNat_inj.1 h)
  simp only [go_sem,reduceIte,↓reduceIte,reduceCtorEq,nA,nS,nM,nB,nE,nL,nT,nN,iL,iT,iE,iA,iM,iS,iG,iB,iN,iZ,h,hl2,len_nev hl]) (rfl)
def s18 : SP Tryz.prog:=mkS tyA 18 Tryz.f18 [s83,s84] { md:=[.ro 1,.ro 1],rets:=some ([4],[]) } Tryz.func18 (by kernel_rfl)
@[go_sem] theorem d18 : s18.g = 18 ∧ s18.fs = ⟨[.ro 1,.ro 1],s18.F,false⟩:=⟨nr rfl,nr rfl⟩
@[go_sem] theorem e18 (xs ys : List Flight) (h0 : smL smFlight xs) : s18.F [.sl .ro 11 (xs.map (rFlight .ro)),.sl .ro 11 (ys.map (rFlight .ro))] = some (.b (eqv xs ys),[.u,.u]):=mkS_eq (0) rfl rfl (fun cx h=>by
 simp only [go_sem,reduceIte,↓reduceIte,reduceCtorEq,nA,nS,nM,nB,nE,nL,nT,nN,iL,iT,iE,iA,iM,iS,iG,iB,iN,iZ,h,h0]) (rfl)
def lanesFault (l : Lanes) : Int:=if (within l.Slots 1 8 && within l.Cap 0 8 && within l.Time 0 1000000) = true then 0 else 3
def waitsB (b : Bulk) (id : Int) : Int:=idxP (fun x=>x.Id == id) b.Queue 0
theorem idxP_take {α : Type} (p : α → Bool) : ∀ (xs : List α) (m k : Nat) (h : k < xs.length),p xs[k] = true → (idxP p xs m != ((m + k : Nat) : Int)) = (xs.take k).any p
 | [],_,_,h,_=>absurd h (by simp)
 | x :: xs,m,0,_,hp=>by
  have hp' : p x = true:=hp
  rw [idxP,if_pos hp']; simp
 | x :: xs,m,k + 1,h,hp=>by
  rw [idxP,List.take_succ_cons,List.any_cons]
  by_cases hx : p x = true
  ·rw [if_pos hx,hx]; simp; omega
  ·rw [if_neg hx]
   have hx' : p x = false:=by simpa using hx
   have:=idxP_take p xs (m + 1) k (by simpa using h) (by simpa using hp)
   rw [hx',Bool.false_or,← this]
   congr 2; omega
theorem idxP_take0 {α : Type} (p : α → Bool) (xs : List α) (k : Nat) (h : k < xs.length) (hp : p xs[k] = true) : (idxP p xs 0 != (k : Int)) = (xs.take k).any p:=by
 have:=idxP_take p xs 0 k h hp
 rwa [Nat.zero_add] at this
theorem idxP_lt {α : Type} (p : α → Bool) : ∀ (xs : List α) (m : Nat),idxP p xs m = -1 ∨ ∃ i,i < xs.length ∧ idxP p xs m = ((m + i : Nat) : Int)
 | [],_=>.inl rfl
 | x :: xs,m=>by
  rw [idxP]
  split
  ·exact .inr ⟨0,by simp,by simp⟩
  ·rcases idxP_lt p xs (m + 1) with h | ⟨i,h1,h2⟩
   ·exact .inl h
   ·exact .inr ⟨i + 1,by simp; omega,by rw [h2]; congr 1; omega⟩
theorem idxP_in {α : Type} (p : α → Bool) (xs : List α) (h : ¬ idxP p xs 0 < 0) : ∃ i,i < xs.length ∧ idxP p xs 0 = (i : Int):=by
 rcases idxP_lt p xs 0 with h1 | ⟨i,h1,h2⟩
 ·rw [h1] at h; exact absurd (by decide) h
 ·exact ⟨i,h1,by rw [h2,Nat.zero_add]⟩
def sameW (y x : Wait) : Bool:=y.Id == x.Id
def bulkFault (b : Bulk) (l : Lanes) : Int :=
 if (lanesFault l != 0) = true then lanesFault l else if within b.Busy 0 l.Slots = false then 3 else if l.Cap < (b.Queue.length : Int) then 2
 else if (b.Queue.any fun x=>!(isTime x.Id && isTime x.Due)) = true then 3 else if dup sameW [] b.Queue = true then 6 else 0
theorem lanesFault_ok {l : Lanes} (h : lanesFault l = 0) : 1 ≤ l.Slots ∧ l.Slots ≤ 8 ∧ 0 ≤ l.Cap ∧ l.Cap ≤ 8:=by
 unfold lanesFault at h
 split at h
 ·rename_i hc
  simp only [Bool.and_eq_true,within_t] at hc
  omega
 ·cases h
/-! what is deleted -/
theorem idxP_neg {α : Type} (p : α → Bool) : ∀ (xs : List α) (k : Nat),idxP p xs k < 0 → idxP p xs k = -1
 | [],_,_=>rfl
 | x :: xs,k,h=>by
  rw [idxP] at h ⊢
  split at h
  ·omega
  ·rename_i hc; rw [if_neg hc]; exact idxP_neg p xs (k + 1) h
theorem delF_none {α : Type} (p : α → Bool) (xs : List α) (h : idxP p xs 0 = -1) : xs.filter (fun x=>!(p x)) = xs:=by
 have h2:=idxP_any (p:=p) xs 0
 rw [h] at h2
 rw [List.filter_eq_self]
 intro x hx
 have:=List.any_eq_false.1 h2.symm x hx
 simpa using this
theorem idxP_pos {α : Type} (p : α → Bool) (xs : List α) (h : 0 ≤ idxP p xs 0) : ∃ i : Nat,idxP p xs 0 = (i : Int) ∧ i < xs.length ∧ (∀ x,xs[i]? = some x → p x = true) ∧ ∀ j x,j < i → xs[j]? = some x → p x = false:=by
 have key : ∀ (xs : List α) (k : Nat),0 ≤ idxP p xs k → ∃ i : Nat,idxP p xs k = ((k + i : Nat) : Int) ∧ i < xs.length ∧ (∀ x,xs[i]? = some x → p x = true) ∧ ∀ j x,j < i → xs[j]? = some x → p x = false:=by
  intro xs
  induction xs with
  | nil=>intro k h; simp [idxP] at h
  | cons x xs ih =>
   intro k h
   rw [idxP] at h ⊢
   by_cases hc : p x = true
   ·rw [if_pos hc]
    exact ⟨0,rfl,by simp,fun y hy=>by simp at hy; rw [← hy]; exact hc,fun j y hj=>absurd hj (by omega)⟩
   ·rw [if_neg hc] at h ⊢
    obtain ⟨i,h1,h2,h3,h4⟩:=ih (k + 1) h
    refine ⟨i + 1,by rw [h1]; omega,by simp; omega,fun y hy=>h3 y (by simpa using hy),fun j y hj hy=>?_⟩
    cases j with
    | zero=>simp at hy; rw [← hy]; simpa using hc
    | succ j=>exact h4 j y (by omega) (by simpa using hy)
 obtain ⟨i,h1,h2⟩:=key xs 0 h
 exact ⟨i,by rw [h1]; omega,h2⟩
def delI {α : Type} (p : α → Bool) (xs : List α) (j : Nat) (s : List α × Nat) : Prop:=s.1.length = xs.length ∧ s.1.take s.2 = (xs.take j).filter (fun x=>!(p x)) ∧ s.1.drop j = xs.drop j ∧ s.2 < j
theorem delI_zero {α : Type} {p : α → Bool} {xs : List α} {i : Nat} (h1 : i < xs.length) (h2 : ∀ x,xs[i]? = some x → p x = true) (h3 : ∀ j x,j < i → xs[j]? = some x → p x = false) : delI p xs (i + 1 + 0) (xs,i):=by
 refine ⟨rfl,?_,rfl,by simp⟩
 simp only [Nat.add_zero]
 rw [List.take_succ_eq_append_getElem h1,List.filter_append]
 have e1 : (xs.take i).filter (fun x=>!(p x)) = xs.take i:=by
  rw [List.filter_eq_self]
  intro x hx
  obtain ⟨j,hj⟩:=List.getElem?_of_mem hx
  rw [List.getElem?_take] at hj
  split at hj
  ·rename_i hji; simp [h3 j x hji hj]
  ·cases hj
 rw [e1,List.filter_cons,h2 _ (List.getElem?_eq_getElem h1)]
 simp
theorem delI_get {α : Type} {p : α → Bool} {xs : List α} {j : Nat} {s : List α × Nat} (h : delI p xs j s) (hj : j < xs.length) : s.1[j]'(by rw [h.1]; exact hj) = xs[j]:=by
 have h1:=h.2.2.1
 rw [List.drop_eq_getElem_cons hj,List.drop_eq_getElem_cons (by rw [h.1]; exact hj)] at h1
 exact (List.cons.inj h1).1
theorem delI_step {α : Type} {p : α → Bool} {xs : List α} {j : Nat} {s : List α × Nat} (h : delI p xs j s) (hj : j < xs.length) : delI p xs (j + 1) (if p xs[j] = true then s else (s.1.set s.2 xs[j],s.2 + 1)):=by
 obtain ⟨h1,h2,h3,h4⟩:=h
 have h5 : s.1.drop (j + 1) = xs.drop (j + 1):=by
  have:=congrArg (List.drop 1) h3
  simpa [List.drop_drop,Nat.add_comm] using this
 by_cases hp : p xs[j] = true
 ·rw [if_pos hp]
  refine ⟨h1,?_,h5,by omega⟩
  rw [h2,List.take_succ_eq_append_getElem hj,List.filter_append,List.filter_cons,hp]
  simp
 ·rw [if_neg hp]
  refine ⟨by simp [h1],?_,?_,by simp; omega⟩
  ·simp only
   rw [List.take_succ_eq_append_getElem (by simp; omega),List.getElem_set_self,List.take_set_of_le (Nat.le_refl _),h2,List.take_succ_eq_append_getElem hj,List.filter_append,List.filter_cons]
   simp [hp]
  ·simp only
   rw [List.drop_set_of_lt (by omega)]
   exact h5
theorem delI_len {α : Type} {p : α → Bool} {xs : List α} {j : Nat} {s : List α × Nat} (h : delI p xs j s) : s.1.length = xs.length:=h.1
theorem delI_end {α : Type} {p : α → Bool} {xs : List α} {j : Nat} {s : List α × Nat} (h : delI p xs j s) (hj : xs.length ≤ j) : s.1.take s.2 = xs.filter (fun x=>!(p x)):=by
 rw [h.2.1,List.take_of_length_le hj]
theorem clearRows_take (z lo n : Nat) (es : List (List AV)) (h : lo ≤ es.length) : (clearRows z lo n es).take lo = es.take lo:=by
 unfold clearRows
 rw [List.append_assoc,List.take_append_of_le_length (by simp; omega),List.take_take,Nat.min_self]
end
end Go.Vm.A
