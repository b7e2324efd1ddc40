/- Functions of the program, walked by the evaluator. -/
import Derived.Test.YtnbhkifknleipaaGreatDoorWb
import Derived.Test.YtnbhkifknleipaaGreatDoorWa
import Derived.Test.YtnbhkifknleipaaGreatDoorFa
import Derived.Test.YtnbhkifknleipaaGreatDoorFb
import Derived.Test.YtnbhkifknleipaaGreatDoorFc
import Derived.Test.YtnbhkifknleipaaGreatDoorFd
set_option linter.unusedVariables false
set_option linter.unusedSimpArgs false
set_option autoImplicit false
set_option maxRecDepth 100000
set_option maxHeartbeats 4000000
namespace Go.Vm.A
open Go.Proofs
open Nat renaming reduceAdd → nA, reduceSub → nS, reduceMul → nM, reduceBEq → nB, reduceEqDiff → nE, reduceLeDiff → nL, reduceLT → nT, reduceBneDiff → nN
open Int renaming reduceLE → iL, reduceLT → iT, reduceEq → iE, reduceAdd → iA, reduceMul → iM, reduceSub → iS, reduceNeg → iG, reduceBEq → iB, reduceBNe → iN, reduceToNat → iZ
noncomputable section
def waitsB (b : Bulk) (id : Int) : Int:=idxP (fun x=>x.Id == id) b.Queue 0
theorem idxP_take {α : Type} (p : α → Bool) : ∀ (xs : List α) (m k : Nat) (h : k < xs.length),p xs[k] = true → (idxP p xs m != ((m + k : Nat) : Int)) = (xs.take k).any p
 | [],_,_,h,_=>absurd h (by simp)
 | x :: xs,m,0,_,hp=>by
  have hp' : p x = true:=hp
  rw [idxP,if_pos hp']; simp
 | x :: xs,m,k + 1,h,hp=>by
  rw [idxP,List.take_succ_cons,List.any_cons]
  by_cases hx : p x = true
  ·rw [if_pos hx,hx]; simp; omega
  ·rw [if_neg hx]
   have hx' : p x = false:=by simpa using hx
   have:=idxP_take p xs (m + 1) k (by simpa using h) (by simpa using hp)
   rw [hx',Bool.false_or,← this]
   congr 2; omega
theorem idxP_take0 {α : Type} (p : α → Bool) (xs : List α) (k : Nat) (h : k < xs.length) (hp : p xs[k] = true) : (idxP p xs 0 != (k : Int)) = (xs.take k).any p:=by
 have:=idxP_take p xs 0 k h hp
 rwa [Nat.zero_add] at this
theorem idxP_lt {α : Type} (p : α → Bool) : ∀ (xs : List α) (m : Nat),idxP p xs m = -1 ∨ ∃ i,i < xs.length ∧ idxP p xs m = ((m + i : Nat) : Int)
 | [],_=>.inl rfl
 | x :: xs,m=>by
  rw [idxP]
  split
  ·exact .inr ⟨0,by simp,by simp⟩
  ·rcases idxP_lt p xs (m + 1) with h | ⟨i,h1,h2⟩
   ·exact .inl h
   ·exact .inr ⟨i + 1,by simp; omega,by rw [h2]; congr 1; omega⟩
theorem idxP_in {α : Type} (p : α → Bool) (xs : List α) (h : ¬ idxP p xs 0 < 0) : ∃ i,i < xs.length ∧ idxP p xs 0 = (i : Int):=by
 rcases idxP_lt p xs 0 with h1 | ⟨i,h1,h2⟩
 ·rw [h1] at h; exact absurd (by decide) h
 ·exact ⟨i,h1,by rw [h2,Nat.zero_add]⟩
def sameW (y x : Wait) : Bool:=y.Id == x.Id
def bulkFault (b : Bulk) (l : Lanes) : Int :=
 if (lanesFault l != 0) = true then lanesFault l else if within b.Busy 0 l.Slots = false then 3 else if l.Cap < (b.Queue.length : Int) then 2
 else if (b.Queue.any fun x=>!(isTime x.Id && isTime x.Due)) = true then 3 else if dup sameW [] b.Queue = true then 6 else 0
theorem lanesFault_ok {l : Lanes} (h : lanesFault l = 0) : 1 ≤ l.Slots ∧ l.Slots ≤ 8 ∧ 0 ≤ l.Cap ∧ l.Cap ≤ 8:=by
 unfold lanesFault at h
 split at h
 ·rename_i hc
  simp only [Bool.and_eq_true,within_t] at hc
  omega
 ·cases h
def badT (ms : List Mark) : Bool:=ms.any fun x=>!isTime x.At
def unsorted (ms : List Mark) : Bool:=(ms.zip ms.tail).any fun p=>decide (p.2.At < p.1.At)
def breakerFault (b : Breaker) : Int :=
 if (within b.State 0 2 && isTime b.Since && within b.Out 0 5) = false then 3
 else if 60 < (b.Marks.length : Int) then 2
 else if badT b.Marks = true then 3
 else if unsorted b.Marks = true then 1
 else if ((b.State != 0 && decide (0 < (b.Marks.length : Int))) || (b.State != 2 && b.Out != 0)) = true then 8 else 0
theorem badT_get {ms : List Mark} (h : badT ms = false) {m : Mark} (hm : m ∈ ms) : isTime m.At = true:=by
 have:=List.any_eq_false.1 h m hm
 simpa using this
theorem pairs_len {α : Type} (ms : List α) : (ms.zip ms.tail).length = ms.length - 1:=by simp
theorem pairs_get {α : Type} (ms : List α) (k : Nat) (h : k < (ms.zip ms.tail).length) : (ms.zip ms.tail)[k] = (ms[k]'(by simp at h; omega),ms[k + 1]'(by simp at h; omega)):=by simp
def lateO (now : Int) (b : Breaker) : Bool:=decide (now < b.Since) || b.Marks.any fun x=>decide (now < x.At)
def originText (o : Origin) : Bool:=!isHost o.Host || !eqv (lowS o.Host) o.Host
def originFault (v : Shield) (o : Origin) : Int:=firstI [if originText o = true then 5 else 0,bulkFault o.Bulk v.Config.Lanes,breakerFault o.Breaker,if lateO v.Now o.Breaker = true then 3 else 0]
def sameHost (y x : Origin) : Bool:=eqv y.Host x.Host
def originsFault (v : Shield) : Int:=if (firstI (v.Origins.map (originFault v)) != 0) = true then firstI (v.Origins.map (originFault v)) else if dup sameHost [] v.Origins = true then 6 else 0
def originAt (os : List Origin) (h : ByteArray) : Int:=idxP (fun x=>eqv x.Host h) os 0
def placeV (os : List Origin) (f : Flight) : Int:=originAt os (lowS f.Get.Host)
def countStep (os : List Origin) (i : Int) (s : Int × Int) (f : Flight) : Int × Int:=if (placeV os f != i) = true then s else if f.Out = true then (s.1 + 1,s.2) else (s.1,s.2 + 1)
def countsV (os : List Origin) (fs : List Flight) (i : Int) : Int × Int:=fs.foldl (fun s f=>countStep os i s f) (0,0)
def flightFits (os : List Origin) (next : Int) (f : Flight) : Bool:=decide (f.Id < next) && decide (0 ≤ placeV os f) && (f.Out || decide (0 ≤ waitsB ((os[(placeV os f).toNat]?.map (·.Bulk)).getD ⟨0,[]⟩) f.Id))
def originFits (os : List Origin) (fs : List Flight) (i : Int) (o : Origin) : Bool:=((countsV os fs i).1 == o.Bulk.Busy) && ((countsV os fs i).2 == (o.Bulk.Queue.length : Int))
def originsFit (os : List Origin) (fs : List Flight) : Nat → List Origin → Bool
 | _,[]=>true
 | i,o :: r=>if (!originFits os fs i o) = true then false else originsFit os fs (i + 1) r
def entryFits (now : Int) (e : Entry) : Bool:=decide (e.Meta.At ≤ now) && decide ((e.Headers.length : Int) ≤ 17)
def fitsV (v : Shield) : Bool:=v.Flights.all (flightFits v.Origins v.Next) && originsFit v.Origins v.Flights 0 v.Origins && !(v.Store.Trial ++ v.Store.Kept).any fun x=>!entryFits v.Now x
theorem originsFit_inl {os : List Origin} {fs : List Flight} : ∀ {xs : List Origin} {i i' : Nat},runS (fun x i=>!originFits os fs (i : Nat) x) (fun x i=>i + 1) xs i = .inl i' → originsFit os fs i xs = true
 | [],_,_,_=>rfl
 | x :: xs,i,i',h=>by
  rw [runS_cons] at h
  split at h
  ·cases h
  ·rename_i hc; rw [originsFit,if_neg hc]; exact originsFit_inl h
theorem originsFit_inr {os : List Origin} {fs : List Flight} : ∀ {xs : List Origin} {i : Nat} {q : Origin × Nat},runS (fun x i=>!originFits os fs (i : Nat) x) (fun x i=>i + 1) xs i = .inr q → originsFit os fs i xs = false
 | [],_,_,h=>by cases h
 | x :: xs,i,q,h=>by
  rw [runS_cons] at h
  split at h
  ·rename_i hc; rw [originsFit,if_pos hc]
  ·rename_i hc; rw [originsFit,if_neg hc]; exact originsFit_inr h
def s247 : SP Tryz.prog:=mkS tyA 247 Tryz.f247 [] { md:=[.ro 1,.ro 1],rets:=some ([3],[]) } Tryz.func247 (by kernel_rfl)
@[go_sem] theorem d247 : s247.g = 247 ∧ s247.fs = ⟨[.ro 1,.ro 1],s247.F,false⟩:=⟨nr rfl,nr rfl⟩
@[go_sem] theorem e247 (w0 : ByteArray) (w1 : Int) (w2 : List Header) (w3 : List UInt8) (w4 w5 w6 w7 w8 : Int) (w9 w10 : Bool) (w11 : List ByteArray) (w12 w13 w14 w15 w16 w17 w18 w19 w20 : Int) (w21 : List ByteArray) (w22 w23 w24 w25 w26 w27 w28 w29 vNow w30 w31 w32 : Int) (w33 w34 : List Entry) (w35 : List Origin) (w36 : List Flight) : s247.F [.agg [.s w0,.i .i64 w1,.sl .ro 2 (w2.map (rHeader .ro)),.sl .ro 1 (w3.map rByte),.i .i64 w4,.i .i64 w5,.i .i64 w6,.i .i64 w7,.i .i64 w8,.b w9,.b w10,.sl .ro 1 (w11.map rStr),.i .i64 w12],.pr [.i .i64 w13,.i .i64 w14,.i .i64 w15,.i .i64 w16,.i .i64 w17,.i .i64 w18,.i .i64 w19,.i .i64 w20,.sl .ro 1 (w21.map rStr),.i .i64 w22,.i .i64 w23,.i .i64 w24,.i .i64 w25,.i .i64 w26,.i .i64 w27,.i .i64 w28,.i .i64 w29,.i .i64 vNow,.i .i64 w30,.i .i64 w31,.i .i64 w32,.sl .ro 13 (w33.map (rEntry .ro)),.sl .ro 13 (w34.map (rEntry .ro)),.sl .ro 7 (w35.map (rOrigin .ro)),.sl .ro 11 (w36.map (rFlight .ro))]] = some (.b (!entryFits vNow (Entry.mk w0 w1 w2 w3 (Meta.mk w4 w5 w6 w7 w8 w9 w10) w11 w12)),[.u,.u]):=mkS_eq (0) rfl rfl (fun cx h=>by
 have hu : entryFits vNow (Entry.mk w0 w1 w2 w3 (Meta.mk w4 w5 w6 w7 w8 w9 w10) w11 w12) = (decide (w4 ≤ vNow) && decide ((w2.length : Int) ≤ 17)):=rfl
 by_cases c1 : vNow < w4
 ·have c1' : ¬ (w4 ≤ vNow):=by omega
  simp only [go_sem,reduceIte,↓reduceIte,reduceCtorEq,nA,nS,nM,nB,nE,nL,nT,nN,iL,iT,iE,iA,iM,iS,iG,iB,iN,iZ,h,c1,c1',hu]
 have c1' : w4 ≤ vNow:=by omega
 by_cases c2 : 17 < (w2.length : Int)
 ·have c2' : ¬ ((w2.length : Int) ≤ 17):=by omega
  simp only [go_sem,reduceIte,↓reduceIte,reduceCtorEq,nA,nS,nM,nB,nE,nL,nT,nN,iL,iT,iE,iA,iM,iS,iG,iB,iN,iZ,h,c1,c1',c2,c2',hu]
 ·have c2' : (w2.length : Int) ≤ 17:=by omega
  simp only [go_sem,reduceIte,↓reduceIte,reduceCtorEq,nA,nS,nM,nB,nE,nL,nT,nN,iL,iT,iE,iA,iM,iS,iG,iB,iN,iZ,h,c1,c1',c2,c2',hu]) (rfl)
def s311 : SP Tryz.prog:=mkS tyA 311 Tryz.f311 [s229,s247] { md:=[.ro 1,.ro 1],rg:=[(0,[0,1],[]),(1,[0,1,7,8],[]),(2,[0,1,7,8,9],[]),(3,[0,1,5,7,8],[]),(4,[0,1,5,7,8,16],[]),(5,[4],[]),(6,[0,1,7,8],[]),(7,[4],[])],lv:=[(0,[0,1,7,8],[])],out:=[(0,[],[])],rets:=some ([4],[]) } Tryz.func311 (by kernel_rfl)
@[go_sem] theorem d311 : s311.g = 311 ∧ s311.fs = ⟨[.ro 1,.ro 1],s311.F,false⟩:=⟨nr rfl,nr rfl⟩
@[go_sem] theorem e311_229 (xs : List Entry) (w37 : ByteArray) (w38 : Int) (w39 : List Header) (w40 : List UInt8) (w41 w42 w43 w44 w45 : Int) (w46 w47 : Bool) (w48 : List ByteArray) (w49 : Int) (hb : xs.length ≤ 9223372036854775806) : s311.F [.sl .ro 13 (xs.map (rEntry .ro)),.fn 229 [.pr [.s w37,.i .i64 w38,.sl .ro 2 (w39.map (rHeader .ro)),.sl .ro 1 (w40.map rByte),.i .i64 w41,.i .i64 w42,.i .i64 w43,.i .i64 w44,.i .i64 w45,.b w46,.b w47,.sl .ro 1 (w48.map rStr),.i .i64 w49]]] = some (.i .i64 (idxP (fun x=>eqv x.Key w37) xs 0),[.u,.u]):=mkS_eq (xs.length + 1) rfl rfl (fun cx h=>by
 have hx:=hb
 have hb0:=loopN_eq Tryz.f311 0 _ _ rfl rfl
 obtain ⟨r,hr,hq⟩:=loop_srch (cx:=cx) (blk:=0) (body:=loopN Tryz.f311 0) xs (fun k (s : Nat)=>⟨E [(0,.sl .ro 13 (xs.map (rEntry .ro))),(1,.fn 229 [.pr [.s w37,.i .i64 w38,.sl .ro 2 (w39.map (rHeader .ro)),.sl .ro 1 (w40.map rByte),.i .i64 w41,.i .i64 w42,.i .i64 w43,.i .i64 w44,.i .i64 w45,.b w46,.b w47,.sl .ro 1 (w48.map rStr),.i .i64 w49]]),(7,.i .i64 xs.length),(8,.i .i64 k)],B []⟩) (fun s=>⟨E [],B []⟩) (fun x s=>eqv x.Key w37) (fun x s=>s + 1) (fun x s=>(.ret,⟨E [(4,.i .i64 s)],B []⟩)) (fun k s=>k = s)
   (fun s hI G=>by simp only [go_sem,reduceIte,↓reduceIte,reduceCtorEq,nA,nS,nM,nB,nE,nL,nT,nN,iL,iT,iE,iA,iM,iS,iG,iB,iN,iZ,h,Int.lt_irrefl,hb0,hI]) (fun k hk s hI=>by
    have h1 : ((k : Int) < (xs.length : Int)):=Int.ofNat_lt.2 hk
    obtain rfl:=hI
    exact ⟨_,_,_,fun G=>by simp only [go_sem,reduceIte,↓reduceIte,reduceCtorEq,nA,nS,nM,nB,nE,nL,nT,nN,iL,iT,iE,iA,iM,iS,iG,iB,iN,iZ,h,map_gd (rEntry .ro) xs _ hk,decide_eq_true_eq,h1,idx_nt _ _ hk,wrap_nat1 (show k < 9223372036854775807 by omega),hb0] <;> with_reducible rfl,by first | exact Iff.rfl | simp,fun hc=>⟨rfl,by simp only [go_sem,reduceIte,↓reduceIte,reduceCtorEq,nA,nS,nM,nB,nE,nL,nT,nN,iL,iT,iE,iA,iM,iS,iG,iB,iN,iZ,h]⟩⟩) 0 rfl (xs.length + 1) (Nat.le_refl _)
 rw [hb0] at hr
 rcases hq with ⟨s',e1,_,e3⟩ | ⟨x,s',e1,e3⟩
 ·simp only [go_sem,reduceIte,↓reduceIte,reduceCtorEq,nA,nS,nM,nB,nE,nL,nT,nN,iL,iT,iE,iA,iM,iS,iG,iB,iN,iZ,h,hr,e3,runS_idx e1]
 ·simp only [go_sem,reduceIte,↓reduceIte,reduceCtorEq,nA,nS,nM,nB,nE,nL,nT,nN,iL,iT,iE,iA,iM,iS,iG,iB,iN,iZ,h,hr,e3,runS_idx' e1]) (rfl)
@[go_sem] theorem e311_247 (xs : List Entry) (w13 w14 w15 w16 w17 w18 w19 w20 : Int) (w21 : List ByteArray) (w22 w23 w24 w25 w26 w27 w28 w29 vNow w30 w31 w32 : Int) (w33 w34 : List Entry) (w35 : List Origin) (w36 : List Flight) (hb : xs.length ≤ 9223372036854775806) : s311.F [.sl .ro 13 (xs.map (rEntry .ro)),.fn 247 [.pr [.i .i64 w13,.i .i64 w14,.i .i64 w15,.i .i64 w16,.i .i64 w17,.i .i64 w18,.i .i64 w19,.i .i64 w20,.sl .ro 1 (w21.map rStr),.i .i64 w22,.i .i64 w23,.i .i64 w24,.i .i64 w25,.i .i64 w26,.i .i64 w27,.i .i64 w28,.i .i64 w29,.i .i64 vNow,.i .i64 w30,.i .i64 w31,.i .i64 w32,.sl .ro 13 (w33.map (rEntry .ro)),.sl .ro 13 (w34.map (rEntry .ro)),.sl .ro 7 (w35.map (rOrigin .ro)),.sl .ro 11 (w36.map (rFlight .ro))]]] = some (.i .i64 (idxP (fun x=>!entryFits vNow x) xs 0),[.u,.u]):=mkS_eq (xs.length + 1) rfl rfl (fun cx h=>by
 have hx:=hb
 have hb0:=loopN_eq Tryz.f311 0 _ _ rfl rfl
 obtain ⟨r,hr,hq⟩:=loop_srch (cx:=cx) (blk:=0) (body:=loopN Tryz.f311 0) xs (fun k (s : Nat)=>⟨E [(0,.sl .ro 13 (xs.map (rEntry .ro))),(1,.fn 247 [.pr [.i .i64 w13,.i .i64 w14,.i .i64 w15,.i .i64 w16,.i .i64 w17,.i .i64 w18,.i .i64 w19,.i .i64 w20,.sl .ro 1 (w21.map rStr),.i .i64 w22,.i .i64 w23,.i .i64 w24,.i .i64 w25,.i .i64 w26,.i .i64 w27,.i .i64 w28,.i .i64 w29,.i .i64 vNow,.i .i64 w30,.i .i64 w31,.i .i64 w32,.sl .ro 13 (w33.map (rEntry .ro)),.sl .ro 13 (w34.map (rEntry .ro)),.sl .ro 7 (w35.map (rOrigin .ro)),.sl .ro 11 (w36.map (rFlight .ro))]]),(7,.i .i64 xs.length),(8,.i .i64 k)],B []⟩) (fun s=>⟨E [],B []⟩) (fun x s=>!entryFits vNow x) (fun x s=>s + 1) (fun x s=>(.ret,⟨E [(4,.i .i64 s)],B []⟩)) (fun k s=>k = s)
   (fun s hI G=>by simp only [go_sem,reduceIte,↓reduceIte,reduceCtorEq,nA,nS,nM,nB,nE,nL,nT,nN,iL,iT,iE,iA,iM,iS,iG,iB,iN,iZ,h,Int.lt_irrefl,hb0,hI]) (fun k hk s hI=>by
    have h1 : ((k : Int) < (xs.length : Int)):=Int.ofNat_lt.2 hk
    obtain rfl:=hI
    exact ⟨_,_,_,fun G=>by simp only [go_sem,reduceIte,↓reduceIte,reduceCtorEq,nA,nS,nM,nB,nE,nL,nT,nN,iL,iT,iE,iA,iM,iS,iG,iB,iN,iZ,h,map_gd (rEntry .ro) xs _ hk,decide_eq_true_eq,h1,idx_nt _ _ hk,wrap_nat1 (show k < 9223372036854775807 by omega),hb0] <;> with_reducible rfl,by first | exact Iff.rfl | simp,fun hc=>⟨rfl,by simp only [go_sem,reduceIte,↓reduceIte,reduceCtorEq,nA,nS,nM,nB,nE,nL,nT,nN,iL,iT,iE,iA,iM,iS,iG,iB,iN,iZ,h]⟩⟩) 0 rfl (xs.length + 1) (Nat.le_refl _)
 rw [hb0] at hr
 rcases hq with ⟨s',e1,_,e3⟩ | ⟨x,s',e1,e3⟩
 ·simp only [go_sem,reduceIte,↓reduceIte,reduceCtorEq,nA,nS,nM,nB,nE,nL,nT,nN,iL,iT,iE,iA,iM,iS,iG,iB,iN,iZ,h,hr,e3,runS_idx e1]
 ·simp only [go_sem,reduceIte,↓reduceIte,reduceCtorEq,nA,nS,nM,nB,nE,nL,nT,nN,iL,iT,iE,iA,iM,iS,iG,iB,iN,iZ,h,hr,e3,runS_idx' e1]) (rfl)
def s228 : SP Tryz.prog:=mkS tyA 228 Tryz.f228 [s311] { md:=[.ro 1,.ro 1],rets:=some ([4],[]) } Tryz.func228 (by kernel_rfl)
@[go_sem] theorem d228 : s228.g = 228 ∧ s228.fs = ⟨[.ro 1,.ro 1],s228.F,false⟩:=⟨nr rfl,nr rfl⟩
@[go_sem] theorem e228_229 (xs : List Entry) (w37 : ByteArray) (w38 : Int) (w39 : List Header) (w40 : List UInt8) (w41 w42 w43 w44 w45 : Int) (w46 w47 : Bool) (w48 : List ByteArray) (w49 : Int) (hb : xs.length ≤ 9223372036854775806) : s228.F [.sl .ro 13 (xs.map (rEntry .ro)),.fn 229 [.pr [.s w37,.i .i64 w38,.sl .ro 2 (w39.map (rHeader .ro)),.sl .ro 1 (w40.map rByte),.i .i64 w41,.i .i64 w42,.i .i64 w43,.i .i64 w44,.i .i64 w45,.b w46,.b w47,.sl .ro 1 (w48.map rStr),.i .i64 w49]]] = some (.b (xs.any (fun x=>eqv x.Key w37)),[.u,.u]):=mkS_eq (0) rfl rfl (fun cx h=>by
 simp only [go_sem,reduceIte,↓reduceIte,reduceCtorEq,nA,nS,nM,nB,nE,nL,nT,nN,iL,iT,iE,iA,iM,iS,iG,iB,iN,iZ,h,hb,idxP_any]) (rfl)
@[go_sem] theorem e228_247 (xs : List Entry) (w13 w14 w15 w16 w17 w18 w19 w20 : Int) (w21 : List ByteArray) (w22 w23 w24 w25 w26 w27 w28 w29 vNow w30 w31 w32 : Int) (w33 w34 : List Entry) (w35 : List Origin) (w36 : List Flight) (hb : xs.length ≤ 9223372036854775806) : s228.F [.sl .ro 13 (xs.map (rEntry .ro)),.fn 247 [.pr [.i .i64 w13,.i .i64 w14,.i .i64 w15,.i .i64 w16,.i .i64 w17,.i .i64 w18,.i .i64 w19,.i .i64 w20,.sl .ro 1 (w21.map rStr),.i .i64 w22,.i .i64 w23,.i .i64 w24,.i .i64 w25,.i .i64 w26,.i .i64 w27,.i .i64 w28,.i .i64 w29,.i .i64 vNow,.i .i64 w30,.i .i64 w31,.i .i64 w32,.sl .ro 13 (w33.map (rEntry .ro)),.sl .ro 13 (w34.map (rEntry .ro)),.sl .ro 7 (w35.map (rOrigin .ro)),.sl .ro 11 (w36.map (rFlight .ro))]]] = some (.b (xs.any (fun x=>!entryFits vNow x)),[.u,.u]):=mkS_eq (0) rfl rfl (fun cx h=>by
 simp only [go_sem,reduceIte,↓reduceIte,reduceCtorEq,nA,nS,nM,nB,nE,nL,nT,nN,iL,iT,iE,iA,iM,iS,iG,iB,iN,iZ,h,hb,idxP_any]) (rfl)
def storeCode (b g : Int) : Int:=if (within b 0 1000000 && within g 0 b) = true then 0 else 3
theorem within_nn {a b c : Int} (h : within a b c = true) : ¬ (a < b):=by
 have:=within_t.1 h
 omega
def sameEK (y x : Entry) : Bool:=eqv y.Key x.Key
def storeFault (s : Store) : Int :=
 if (within s.Budget 0 1000000 && within s.Guard 0 s.Budget) = false then 3 else if 40 < ((s.Trial ++ s.Kept).length : Int) then 2
 else if (firstI ((s.Trial ++ s.Kept).map entryFault) != 0) = true then firstI ((s.Trial ++ s.Kept).map entryFault)
 else if dup sameEK [] (s.Trial ++ s.Kept) = true then 6
 else if s.Budget < costs s.Trial + costs s.Kept then 7 else if s.Guard < costs s.Kept then 7 else 0
theorem any_flipE (es : List Entry) (x : Entry) : (es.any fun y=>eqv x.Key y.Key) = es.any fun y=>sameEK y x:=by
 congr 1; funext y
 unfold sameEK
 rw [Bool.eq_iff_iff,eqv_iff,eqv_iff]
 exact eq_comm
theorem storeFault_nil (b g : Int) : storeFault ⟨b,g,[],[]⟩ = storeCode b g:=by
 unfold storeFault storeCode
 by_cases h : (within b 0 1000000 && within g 0 b) = true
 ·rw [if_neg (by rw [h]; decide),if_pos h]
  have h1 : within b 0 1000000 = true ∧ within g 0 b = true:=by simpa using h
  have h2:=within_nn h1.1
  have h3:=within_nn h1.2
  have e0 : costs [] = 0:=rfl
  simp only [List.append_nil,List.length_nil,List.map_nil,e0]
  rw [if_neg (by decide),if_neg (by decide),if_neg (by decide),if_neg (by simpa using h2),if_neg h3]
 ·rw [if_pos (by simpa using h),if_neg h]
theorem smL_app {α : Type} {p : α → Prop} {a b : List α} (h1 : smL p a) (h2 : smL p b) : Every p (a ++ b):=fun x hx=>by
 rcases List.mem_append.1 hx with h | h
 ·exact h1.2 x h
 ·exact h2.2 x h
def s128 : SP Tryz.prog:=mkS tyA 128 Tryz.f128 [s95,s115,s152,s227,s228,s230] { md:=[.ro 1],rg:=[(0,[1],[1]),(1,[1,3],[1]),(2,[1,3,11],[1]),(3,[2],[]),(4,[1,3,24],[1]),(5,[2],[]),(6,[1,3,28,29,30],[1]),(7,[1,3,28,29,30,31],[1]),(8,[1,3,5,28,29,30],[1,5]),(9,[1,3,6,28,29,30],[1]),(10,[1,3,6,28,29,30,37],[1]),(11,[2],[]),(12,[1,3,28,29,30],[1]),(13,[1,3,40,41,42],[1]),(14,[1,3,40,41,42,43],[1]),(15,[1,3,7,8,40,41,42],[1,8]),(16,[1,3,40,41,42,51],[1]),(17,[2],[]),(18,[1,3,40,41,42],[1]),(19,[65],[]),(20,[2],[]),(21,[2],[])],lv:=[(1,[1,3,28,29,30],[1]),(3,[1,3,40,41,42],[1])],out:=[(1,[1,3],[1]),(3,[1],[1])],rets:=some ([2],[]),plan:=[(19,(.take 0 (.take 2 (.take 3 (.one 1 (.take 4 (.take 5 (.take 6 (.take 7 (.take 9 (.take 10 (.one 8 (.take 11 (.take 12 .done))))))))))))))] } Tryz.func128 (by kernel_rfl)
@[go_sem] theorem d128 : s128.g = 128 ∧ s128.fs = ⟨[.ro 1],s128.F,false⟩:=⟨nr rfl,nr rfl⟩
@[go_sem] theorem e128 (w50 w51 : Int) (w52 vKept : List Entry) (h0 : smStore (Store.mk w50 w51 w52 vKept)) : s128.F [.agg [.i .i64 w50,.i .i64 w51,.sl .ro 13 (w52.map (rEntry .ro)),.sl .ro 13 (vKept.map (rEntry .ro))]] = some (.i .i64 (storeFault (Store.mk w50 w51 w52 vKept)),[.u]):=mkS_eq (41) rfl rfl (fun cx h=>by
 obtain ⟨q0,q1,q2,q3⟩:=h0
 simp only at q2 q3
 have hle : w52.length ≤ 1048576 ∧ vKept.length ≤ 1048576:=⟨q2.1,q3.1⟩
 obtain ⟨all,hall⟩ : ∃ all,w52 ++ vKept = all:=⟨_,rfl⟩
 have hsm : ∀ x ∈ all,smEntry x:=by rw [← hall]; exact smL_app q2 q3
 have hlk : vKept.length ≤ 2097152:=by omega
 have hek : Every smEntry vKept:=q3.2
 cases b1 : within w50 0 1000000
 ·simp only [go_sem,reduceIte,↓reduceIte,reduceCtorEq,nA,nS,nM,nB,nE,nL,nT,nN,iL,iT,iE,iA,iM,iS,iG,iB,iN,iZ,h,hle,hall,b1,storeFault]
 cases b2 : within w51 0 w50
 ·simp only [go_sem,reduceIte,↓reduceIte,reduceCtorEq,nA,nS,nM,nB,nE,nL,nT,nN,iL,iT,iE,iA,iM,iS,iG,iB,iN,iZ,h,hle,hall,b1,b2,storeFault]
 by_cases b3 : 40 < (all.length : Int)
 ·simp only [go_sem,reduceIte,↓reduceIte,reduceCtorEq,nA,nS,nM,nB,nE,nL,nT,nN,iL,iT,iE,iA,iM,iS,iG,iB,iN,iZ,h,hle,hall,b1,b2,b3,List.length_map,storeFault]
 have hx : all.length ≤ 9223372036854775806:=by omega
 have hb0:=loopN_eq Tryz.f128 0 _ _ rfl rfl
 obtain ⟨z0,hz0,hqz0⟩:=loop_srch (cx:=cx) (blk:=1) (body:=loopN Tryz.f128 0) all (fun k (s : Unit)=>⟨E [(1,.p ⟨false,1,[],0⟩),(3,.sl .mut 13 (all.map (rEntry .ro))),(28,.rf ⟨true,3,[],0⟩ 13 0 all.length),(29,.i .i64 all.length),(30,.i .i64 k)],B [(1,[.i .i64 w50,.i .i64 w51,.sl .ro 13 (w52.map (rEntry .ro)),.sl .ro 13 (vKept.map (rEntry .ro))])]⟩) (fun s=>⟨E [(1,.p ⟨false,1,[],0⟩),(3,.sl .mut 13 (all.map (rEntry .ro)))],B [(1,[.i .i64 w50,.i .i64 w51,.sl .ro 13 (w52.map (rEntry .ro)),.sl .ro 13 (vKept.map (rEntry .ro))])]⟩) (fun x s=>entryFault x != 0) (fun x s=>()) (fun x s=>(.ret,⟨E [(2,.i .i64 (entryFault x))],B []⟩)) (fun k s=>True)
   (fun s hI G=>by simp only [go_sem,reduceIte,↓reduceIte,reduceCtorEq,nA,nS,nM,nB,nE,nL,nT,nN,iL,iT,iE,iA,iM,iS,iG,iB,iN,iZ,h,Int.lt_irrefl,hb0,hx,List.length_map]) (fun k hk s hI=>by
    have h1 : ((k : Int) < (all.length : Int)):=Int.ofNat_lt.2 hk
    have tk : List.take all.length (List.map (rEntry .ro) all) = List.map (rEntry .ro) all:=List.take_of_length_le (by simp)
    have hH : smL smHeader all[k].Headers:=(hsm _ (List.getElem_mem hk)).2.2.1
    exact ⟨_,_,_,fun G=>by simp only [go_sem,reduceIte,↓reduceIte,reduceCtorEq,nA,nS,nM,nB,nE,nL,nT,nN,iL,iT,iE,iA,iM,iS,iG,iB,iN,iZ,h,map_gd (rEntry .ro) all k hk,gd_map (rEntry .ro) all k hk,tk,List.length_map,hH,h1,idx_nt _ _ hk,wrap_nat1 (show k < 9223372036854775807 by omega),hb0] <;> with_reducible rfl,Iff.rfl,fun hc=>⟨trivial,by simp only [go_sem,reduceIte,↓reduceIte,reduceCtorEq,nA,nS,nM,nB,nE,nL,nT,nN,iL,iT,iE,iA,iM,iS,iG,iB,iN,iZ,h]⟩⟩) () trivial 41 (by omega)
 rw [hb0] at hz0
 rcases hqz0 with ⟨s0,e1,_,e3⟩ | ⟨x,s0,e1,e3⟩
 rotate_left
 ·have e2:=firstI_inr e1
  have e4 : (entryFault x != 0) = true:=runS_hit e1
  simp only [go_sem,reduceIte,↓reduceIte,reduceCtorEq,nA,nS,nM,nB,nE,nL,nT,nN,iL,iT,iE,iA,iM,iS,iG,iB,iN,iZ,h,hle,hall,b1,b2,b3,List.length_map,hz0,e3,e2,e4,storeFault]
 have e2:=firstI_inl e1
 have hb1:=loopN_eq Tryz.f128 1 _ _ rfl rfl
 obtain ⟨z1,hz1,hqz1⟩:=loop_srch (cx:=cx) (blk:=3) (body:=loopN Tryz.f128 1) all (fun k (s : List Entry)=>⟨E [(1,.p ⟨false,1,[],0⟩),(3,.sl .mut 13 (all.map (rEntry .ro))),(40,.rf ⟨true,3,[],0⟩ 13 0 all.length),(41,.i .i64 all.length),(42,.i .i64 k)],B [(1,[.i .i64 w50,.i .i64 w51,.sl .ro 13 (w52.map (rEntry .ro)),.sl .ro 13 (vKept.map (rEntry .ro))])]⟩) (fun s=>⟨E [(1,.p ⟨false,1,[],0⟩)],B [(1,[.i .i64 w50,.i .i64 w51,.sl .ro 13 (w52.map (rEntry .ro)),.sl .ro 13 (vKept.map (rEntry .ro))])]⟩) (fun x s=>s.any fun y=>sameEK y x) (fun x s=>s ++ [x]) (fun x s=>(.ret,⟨E [(2,.i .i64 6)],B []⟩)) (fun k s=>s = all.take k)
   (fun s hI G=>by simp only [go_sem,reduceIte,↓reduceIte,reduceCtorEq,nA,nS,nM,nB,nE,nL,nT,nN,iL,iT,iE,iA,iM,iS,iG,iB,iN,iZ,h,Int.lt_irrefl,hb1,hx,List.length_map]) (fun k hk s hI=>by
    have h1 : ((k : Int) < (all.length : Int)):=Int.ofNat_lt.2 hk
    have tk : List.take all.length (List.map (rEntry .ro) all) = List.map (rEntry .ro) all:=List.take_of_length_le (by simp)
    have t4 : (all.map (rEntry .ro)).take k = (all.take k).map (rEntry .ro):=by rw [List.map_take]
    have t5 : (all.take k).length ≤ 9223372036854775806:=by rw [List.length_take]; omega
    have c1 : (0 : Int) ≤ (k : Int):=by omega
    have c2 : (k : Int) ≤ (all.length : Int):=by omega
    have c4 : k ≤ all.length:=by omega
    have c3 : ((all.take k).any fun y=>sameEK y all[k]) = (all.take k).any fun x=>eqv x.Key all[k].Key:=rfl
    subst hI
    exact ⟨_,_,_,fun G=>by simp only [go_sem,reduceIte,↓reduceIte,reduceCtorEq,nA,nS,nM,nB,nE,nL,nT,nN,iL,iT,iE,iA,iM,iS,iG,iB,iN,iZ,h,t4,t5,c1,c2,c4,map_gd (rEntry .ro) all k hk,gd_map (rEntry .ro) all k hk,tk,List.length_map,Int.toNat_natCast,List.drop_zero,Nat.sub_zero,idxP_any,h1,idx_nt _ _ hk,wrap_nat1 (show k < 9223372036854775807 by omega),hb1] <;> with_reducible rfl,by rw [c3],fun hc=>⟨(take_snoc all k hk).symm,by simp only [go_sem,reduceIte,↓reduceIte,reduceCtorEq,nA,nS,nM,nB,nE,nL,nT,nN,iL,iT,iE,iA,iM,iS,iG,iB,iN,iZ,h]⟩⟩) [] rfl 41 (by omega)
 rw [hb1] at hz1
 rcases hqz1 with ⟨s1,k1,_,k3⟩ | ⟨x,s1,k1,k3⟩
 rotate_left
 ·have k2:=dup_inr k1
  simp only [go_sem,reduceIte,↓reduceIte,reduceCtorEq,nA,nS,nM,nB,nE,nL,nT,nN,iL,iT,iE,iA,iM,iS,iG,iB,iN,iZ,h,hle,hall,b1,b2,b3,List.length_map,hz0,e3,e2,hz1,k3,k2,storeFault]
 have k2:=dup_inl k1
 by_cases d1 : w50 < costs w52 + costs vKept
 ·simp only [go_sem,reduceIte,↓reduceIte,reduceCtorEq,nA,nS,nM,nB,nE,nL,nT,nN,iL,iT,iE,iA,iM,iS,iG,iB,iN,iZ,h,hle,hall,b1,b2,b3,List.length_map,hz0,e3,e2,hz1,k3,k2,q2,q3,d1,storeFault]
 by_cases d2 : w51 < costs vKept <;> simp only [go_sem,reduceIte,↓reduceIte,reduceCtorEq,nA,nS,nM,nB,nE,nL,nT,nN,iL,iT,iE,iA,iM,iS,iG,iB,iN,iZ,h,hle,hall,b1,b2,b3,List.length_map,hz0,e3,e2,hz1,k3,k2,q2,q3,d1,d2,hlk,hek,storeFault]) (rfl)
@[go_sem] theorem e128_0 (b g : Int) : s128.F [.agg [.i .i64 b,.i .i64 g,.sl .ro 13 [],.sl .ro 13 []]] = some (.i .i64 (storeCode b g),[.u]):=(e128 b g [] [] ⟨trivial,trivial,⟨Nat.zero_le _,fun x hx=>by cases hx⟩,⟨Nat.zero_le _,fun x hx=>by cases hx⟩⟩).trans (by rw [storeFault_nil])
end
end Go.Vm.A
