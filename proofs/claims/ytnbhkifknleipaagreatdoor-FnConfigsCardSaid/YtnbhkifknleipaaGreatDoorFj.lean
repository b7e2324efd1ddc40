/- Functions of the program, walked by the evaluator. -/
import Derived.Test.YtnbhkifknleipaaGreatDoorWb
import Derived.Test.YtnbhkifknleipaaGreatDoorWa
import Derived.Test.YtnbhkifknleipaaGreatDoorFc
import Derived.Test.YtnbhkifknleipaaGreatDoorFd
import Derived.Test.YtnbhkifknleipaaGreatDoorFe
import Derived.Test.YtnbhkifknleipaaGreatDoorFi
set_option linter.unusedVariables false
set_option linter.unusedSimpArgs false
set_option autoImplicit false
set_option maxRecDepth 100000
set_option maxHeartbeats 4000000
namespace Go.Vm.A
open Go.Proofs
open Nat renaming reduceAdd → nA, reduceSub → nS, reduceMul → nM, reduceBEq → nB, reduceEqDiff → nE, reduceLeDiff → nL, reduceLT → nT, reduceBneDiff → nN
open Int renaming reduceLE → iL, reduceLT → iT, reduceEq → iE, reduceAdd → iA, reduceMul → iM, reduceSub → iS, reduceNeg → iG, reduceBEq → iB, reduceBNe → iN, reduceToNat → iZ
noncomputable section
def s114 : SP Tryz.prog:=mkS tyA 114 Tryz.f114 [s215] { md:=[.ro 1],rg:=[(0,[0],[]),(1,[0,7],[]),(2,[2],[]),(3,[0,3],[]),(4,[0,3,11],[]),(5,[0,3],[]),(6,[0,3,4],[]),(7,[0,3,4,20],[]),(8,[2],[]),(9,[2],[])],lv:=[(0,[0,3],[])],out:=[(0,[],[])],rets:=some ([2],[]) } Tryz.func114 (by kernel_rfl)
@[go_sem] theorem d114 : s114.g = 114 ∧ s114.fs = ⟨[.ro 1],s114.F,false⟩:=⟨nr rfl,nr rfl⟩
@[go_sem] theorem e114 (hs : List Header) : s114.F [.sl .ro 2 (hs.map (rHeader .ro))] = some (.i .i64 (headersFault hs),[.u]):=mkS_eq (hs.length + 1) rfl rfl (fun cx h=>by
 by_cases h1 : 20 < (hs.length : Int)
 ·simp only [go_sem,reduceIte,↓reduceIte,reduceCtorEq,nA,nS,nM,nB,nE,nL,nT,nN,iL,iT,iE,iA,iM,iS,iG,iB,iN,iZ,h,h1,headersFault]
 have hx : hs.length ≤ 9223372036854775806:=by omega
 have hb0:=loopN_eq Tryz.f114 0 _ _ rfl rfl
 obtain ⟨r,hr,hq⟩:=loop_srch (cx:=cx) (blk:=0) (body:=loopN Tryz.f114 0) hs (fun k (s : Unit)=>⟨E [(0,.sl .ro 2 (hs.map (rHeader .ro))),(3,.i .i64 k)],B []⟩) (fun s=>⟨E [],B []⟩) (fun x s=>headerCode x != 0) (fun x s=>()) (fun x s=>(.ret,⟨E [(2,.i .i64 (headerCode x))],B []⟩)) (fun k s=>True)
   (fun s hI G=>by simp only [go_sem,reduceIte,↓reduceIte,reduceCtorEq,nA,nS,nM,nB,nE,nL,nT,nN,iL,iT,iE,iA,iM,iS,iG,iB,iN,iZ,h,Int.lt_irrefl,hb0,hx]) (fun k hk s hI=>by
    have h1 : ((k : Int) < (hs.length : Int)):=Int.ofNat_lt.2 hk
    exact ⟨_,_,_,fun G=>by simp only [go_sem,reduceIte,↓reduceIte,reduceCtorEq,nA,nS,nM,nB,nE,nL,nT,nN,iL,iT,iE,iA,iM,iS,iG,iB,iN,iZ,h,map_gd (rHeader .ro) hs _ hk,rHeader,h1,idx_nt _ _ hk,wrap_nat1 (show k < 9223372036854775807 by omega),hb0] <;> with_reducible rfl,Iff.rfl,fun hc=>⟨trivial,by simp only [go_sem,reduceIte,↓reduceIte,reduceCtorEq,nA,nS,nM,nB,nE,nL,nT,nN,iL,iT,iE,iA,iM,iS,iG,iB,iN,iZ,h]⟩⟩) () trivial (hs.length + 1) (Nat.le_refl _)
 rw [hb0] at hr
 rcases hq with ⟨s',e1,_,e3⟩ | ⟨x,s',e1,e3⟩
 ·simp only [go_sem,reduceIte,↓reduceIte,reduceCtorEq,nA,nS,nM,nB,nE,nL,nT,nN,iL,iT,iE,iA,iM,iS,iG,iB,iN,iZ,h,h1,hr,e3,headersFault,firstI_inl e1]
 ·simp only [go_sem,reduceIte,↓reduceIte,reduceCtorEq,nA,nS,nM,nB,nE,nL,nT,nN,iL,iT,iE,iA,iM,iS,iG,iB,iN,iZ,h,h1,hr,e3,headersFault,firstI_inr e1]) (rfl)
def s129 : SP Tryz.prog:=mkS tyA 129 Tryz.f129 [s113] { md:=[.ro 1],rets:=some ([2],[]) } Tryz.func129 (by kernel_rfl)
@[go_sem] theorem d129 : s129.g = 129 ∧ s129.fs = ⟨[.ro 1],s129.F,false⟩:=⟨nr rfl,nr rfl⟩
@[go_sem] theorem e129 (a : Int) : s129.F [.i .i64 a] = some (.b (isTime a),[.u]):=mkS_eq (0) rfl rfl (fun cx h=>by
 simp only [go_sem,reduceIte,↓reduceIte,reduceCtorEq,nA,nS,nM,nB,nE,nL,nT,nN,iL,iT,iE,iA,iM,iS,iG,iB,iN,iZ,h,isTime]) (rfl)
def s195 : SP Tryz.prog:=mkS tyA 195 Tryz.f195 [s129] { md:=[.ro 1],rg:=[(0,[1],[1]),(1,[30],[]),(2,[2],[]),(3,[2],[])],rets:=some ([2],[]) } Tryz.func195 (by kernel_rfl)
@[go_sem] theorem d195 : s195.g = 195 ∧ s195.fs = ⟨[.ro 1],s195.F,false⟩:=⟨nr rfl,nr rfl⟩
@[go_sem] theorem e195 (mAt y0 y1 y2 y3 : Int) (y4 y5 : Bool) : s195.F [.agg [.i .i64 mAt,.i .i64 y0,.i .i64 y1,.i .i64 y2,.i .i64 y3,.b y4,.b y5]] = some (.i .i64 (metaFault (Meta.mk mAt y0 y1 y2 y3 y4 y5)),[.u]):=mkS_eq (0) rfl rfl (fun cx h=>by
 have hu : metaFault (Meta.mk mAt y0 y1 y2 y3 y4 y5) = if (!isTime mAt || (!isTime y0 || (!isTime y1 || (!isTime y2 || (!isTime y3 || false))))) = true then 3 else 0:=rfl
 cases cmAt : isTime mAt
 ·simp only [go_sem,reduceIte,↓reduceIte,reduceCtorEq,nA,nS,nM,nB,nE,nL,nT,nN,iL,iT,iE,iA,iM,iS,iG,iB,iN,iZ,h,hu,cmAt]
 cases cmAge : isTime y0
 ·simp only [go_sem,reduceIte,↓reduceIte,reduceCtorEq,nA,nS,nM,nB,nE,nL,nT,nN,iL,iT,iE,iA,iM,iS,iG,iB,iN,iZ,h,hu,cmAt,cmAge]
 cases cmLife : isTime y1
 ·simp only [go_sem,reduceIte,↓reduceIte,reduceCtorEq,nA,nS,nM,nB,nE,nL,nT,nN,iL,iT,iE,iA,iM,iS,iG,iB,iN,iZ,h,hu,cmAt,cmAge,cmLife]
 cases cmSwr : isTime y2
 ·simp only [go_sem,reduceIte,↓reduceIte,reduceCtorEq,nA,nS,nM,nB,nE,nL,nT,nN,iL,iT,iE,iA,iM,iS,iG,iB,iN,iZ,h,hu,cmAt,cmAge,cmLife,cmSwr]
 cases cmSie : isTime y3
 ·simp only [go_sem,reduceIte,↓reduceIte,reduceCtorEq,nA,nS,nM,nB,nE,nL,nT,nN,iL,iT,iE,iA,iM,iS,iG,iB,iN,iZ,h,hu,cmAt,cmAge,cmLife,cmSwr,cmSie]
 simp only [go_sem,reduceIte,↓reduceIte,reduceCtorEq,nA,nS,nM,nB,nE,nL,nT,nN,iL,iT,iE,iA,iM,iS,iG,iB,iN,iZ,h,hu,cmAt,cmAge,cmLife,cmSwr,cmSie]) (rfl)
def s89 : SP Tryz.prog:=mkS tyA 89 Tryz.f89 [s113,s114,s195] { md:=[.ro 1],rg:=[(0,[1],[1]),(1,[1,13],[1]),(2,[2],[]),(3,[1,32],[1]),(4,[2],[]),(5,[1,3],[1]),(6,[1,3,37],[1]),(7,[2],[]),(8,[1,48],[1]),(9,[2],[]),(10,[2],[])],rets:=some ([2],[]) } Tryz.func89 (by kernel_rfl)
@[go_sem] theorem d89 : s89.g = 89 ∧ s89.fs = ⟨[.ro 1],s89.F,false⟩:=⟨nr rfl,nr rfl⟩
@[go_sem] theorem e89 (y6 : ByteArray) (y7 : Int) (y8 : List Header) (y9 : List UInt8) (y10 y11 y12 y13 y14 : Int) (y15 y16 : Bool) (y17 : List ByteArray) (y18 : Int) (h0 : smL smHeader (Entry.mk y6 y7 y8 y9 (Meta.mk y10 y11 y12 y13 y14 y15 y16) y17 y18).Headers) : s89.F [.agg [.s y6,.i .i64 y7,.sl .ro 2 (y8.map (rHeader .ro)),.sl .ro 1 (y9.map rByte),.i .i64 y10,.i .i64 y11,.i .i64 y12,.i .i64 y13,.i .i64 y14,.b y15,.b y16,.sl .ro 1 (y17.map rStr),.i .i64 y18]] = some (.i .i64 (entryFault (Entry.mk y6 y7 y8 y9 (Meta.mk y10 y11 y12 y13 y14 y15 y16) y17 y18)),[.u]):=mkS_eq (0) rfl rfl (fun cx h=>by
 have hku : isKey y6 = (decide (1 ≤ (y6.size : Int)) && decide ((y6.size : Int) ≤ 500)):=rfl
 by_cases k1 : (y6.size : Int) < 1
 ·have hk : isKey y6 = false:=by rw [hku]; simp; omega
  simp only [go_sem,reduceIte,↓reduceIte,reduceCtorEq,nA,nS,nM,nB,nE,nL,nT,nN,iL,iT,iE,iA,iM,iS,iG,iB,iN,iZ,h,k1,hk,entryFault]
 by_cases k2 : 500 < (y6.size : Int)
 ·have hk : isKey y6 = false:=by rw [hku]; simp; omega
  simp only [go_sem,reduceIte,↓reduceIte,reduceCtorEq,nA,nS,nM,nB,nE,nL,nT,nN,iL,iT,iE,iA,iM,iS,iG,iB,iN,iZ,h,k1,k2,hk,entryFault]
 have hk : isKey y6 = true:=by rw [hku]; simp; omega
 cases hp : noKept y7
 rotate_left
 ·have hp':=hp
  unfold noKept at hp'
  simp only [Bool.and_eq_true] at hp'
  obtain ⟨⟨s1,s2⟩,s3⟩:=hp'
  simp only [go_sem,reduceIte,↓reduceIte,reduceCtorEq,nA,nS,nM,nB,nE,nL,nT,nN,iL,iT,iE,iA,iM,iS,iG,iB,iN,iZ,h,k1,k2,hk,entryFault,hp,s1,s2,s3]
 rcases noKept_f hp with rfl | ⟨s1,rfl⟩ | ⟨s1,s2,rfl⟩
 ·cases w1 : within y18 0 20
  ·simp only [go_sem,reduceIte,↓reduceIte,reduceCtorEq,nA,nS,nM,nB,nE,nL,nT,nN,iL,iT,iE,iA,iM,iS,iG,iB,iN,iZ,h,k1,k2,hk,entryFault,hp,w1]
  by_cases z : headersFault y8 = 0
  rotate_left
  ·have z' : (headersFault y8 != 0) = true:=by simpa using z
   simp only [go_sem,reduceIte,↓reduceIte,reduceCtorEq,nA,nS,nM,nB,nE,nL,nT,nN,iL,iT,iE,iA,iM,iS,iG,iB,iN,iZ,h,k1,k2,hk,entryFault,hp,w1,z']
  have z' : (headersFault y8 != 0) = false:=by simpa using z
  by_cases b1 : 2000 < (y9.length : Int)
  ·simp only [go_sem,reduceIte,↓reduceIte,reduceCtorEq,nA,nS,nM,nB,nE,nL,nT,nN,iL,iT,iE,iA,iM,iS,iG,iB,iN,iZ,h,k1,k2,hk,entryFault,hp,w1,z,b1]
  by_cases b2 : 10 < (y17.length : Int)
  ·simp only [go_sem,reduceIte,↓reduceIte,reduceCtorEq,nA,nS,nM,nB,nE,nL,nT,nN,iL,iT,iE,iA,iM,iS,iG,iB,iN,iZ,h,k1,k2,hk,entryFault,hp,w1,z,b1,b2]
  simp only [go_sem,reduceIte,↓reduceIte,reduceCtorEq,nA,nS,nM,nB,nE,nL,nT,nN,iL,iT,iE,iA,iM,iS,iG,iB,iN,iZ,h,k1,k2,hk,entryFault,hp,w1,z,b1,b2]
 ·cases w1 : within y18 0 20
  ·simp only [go_sem,reduceIte,↓reduceIte,reduceCtorEq,nA,nS,nM,nB,nE,nL,nT,nN,iL,iT,iE,iA,iM,iS,iG,iB,iN,iZ,h,k1,k2,hk,entryFault,hp,w1]
  by_cases z : headersFault y8 = 0
  rotate_left
  ·have z' : (headersFault y8 != 0) = true:=by simpa using z
   simp only [go_sem,reduceIte,↓reduceIte,reduceCtorEq,nA,nS,nM,nB,nE,nL,nT,nN,iL,iT,iE,iA,iM,iS,iG,iB,iN,iZ,h,k1,k2,hk,entryFault,hp,w1,z']
  have z' : (headersFault y8 != 0) = false:=by simpa using z
  by_cases b1 : 2000 < (y9.length : Int)
  ·simp only [go_sem,reduceIte,↓reduceIte,reduceCtorEq,nA,nS,nM,nB,nE,nL,nT,nN,iL,iT,iE,iA,iM,iS,iG,iB,iN,iZ,h,k1,k2,hk,entryFault,hp,w1,z,b1]
  by_cases b2 : 10 < (y17.length : Int)
  ·simp only [go_sem,reduceIte,↓reduceIte,reduceCtorEq,nA,nS,nM,nB,nE,nL,nT,nN,iL,iT,iE,iA,iM,iS,iG,iB,iN,iZ,h,k1,k2,hk,entryFault,hp,w1,z,b1,b2]
  simp only [go_sem,reduceIte,↓reduceIte,reduceCtorEq,nA,nS,nM,nB,nE,nL,nT,nN,iL,iT,iE,iA,iM,iS,iG,iB,iN,iZ,h,k1,k2,hk,entryFault,hp,w1,z,b1,b2]
 ·cases w1 : within y18 0 20
  ·simp only [go_sem,reduceIte,↓reduceIte,reduceCtorEq,nA,nS,nM,nB,nE,nL,nT,nN,iL,iT,iE,iA,iM,iS,iG,iB,iN,iZ,h,k1,k2,hk,entryFault,hp,w1]
  by_cases z : headersFault y8 = 0
  rotate_left
  ·have z' : (headersFault y8 != 0) = true:=by simpa using z
   simp only [go_sem,reduceIte,↓reduceIte,reduceCtorEq,nA,nS,nM,nB,nE,nL,nT,nN,iL,iT,iE,iA,iM,iS,iG,iB,iN,iZ,h,k1,k2,hk,entryFault,hp,w1,z']
  have z' : (headersFault y8 != 0) = false:=by simpa using z
  by_cases b1 : 2000 < (y9.length : Int)
  ·simp only [go_sem,reduceIte,↓reduceIte,reduceCtorEq,nA,nS,nM,nB,nE,nL,nT,nN,iL,iT,iE,iA,iM,iS,iG,iB,iN,iZ,h,k1,k2,hk,entryFault,hp,w1,z,b1]
  by_cases b2 : 10 < (y17.length : Int)
  ·simp only [go_sem,reduceIte,↓reduceIte,reduceCtorEq,nA,nS,nM,nB,nE,nL,nT,nN,iL,iT,iE,iA,iM,iS,iG,iB,iN,iZ,h,k1,k2,hk,entryFault,hp,w1,z,b1,b2]
  simp only [go_sem,reduceIte,↓reduceIte,reduceCtorEq,nA,nS,nM,nB,nE,nL,nT,nN,iL,iT,iE,iA,iM,iS,iG,iB,iN,iZ,h,k1,k2,hk,entryFault,hp,w1,z,b1,b2]) (rfl)
def s234 : SP Tryz.prog:=mkS tyA 234 Tryz.f234 [] { md:=[.ro 1],wk:=true,rg:=[(0,[0],[]),(1,[2],[])],rets:=some ([2],[]),plan:=[(1,(.take 1 (.take 2 (.take 3 (.take 4 (.take 6 (.alt 0 (.alt 5 (.one 7 (.take 8 (.one 9 (.one 10 (.one 11 .done))))) (.one 7 (.take 8 (.alt 5 (.one 9 (.one 10 (.one 11 .done))) (.one 9 (.one 5 (.one 10 (.one 11 .done)))))))) (.one 7 (.take 8 (.alt 0 (.alt 5 (.one 9 (.one 10 (.one 11 .done))) (.one 9 (.one 5 (.one 10 (.one 11 .done))))) (.one 9 (.one 0 (.one 5 (.one 10 (.one 11 .done)))))))))))))))] } Tryz.func234 (by kernel_rfl)
@[go_sem] theorem d234 : s234.g = 234 ∧ s234.fs = ⟨[.ro 1],s234.F,true⟩:=⟨nr rfl,nr rfl⟩
@[go_sem] theorem e234 (y19 y20 : Int) (y21 y22 : List Entry) (h0 : ((Store.mk y19 y20 y21 y22).Trial.length ≤ 1048576 ∧ (Store.mk y19 y20 y21 y22).Kept.length ≤ 1048576)) : s234.F [.pr [.i .i64 y19,.i .i64 y20,.sl .ro 13 (y21.map (rEntry .ro)),.sl .ro 13 (y22.map (rEntry .ro))]] = some (.sl .mut 13 (((Store.mk y19 y20 y21 y22).Trial ++ (Store.mk y19 y20 y21 y22).Kept).map (rEntry .ro)),[.u]):=mkS_eq (0) rfl rfl (fun cx h=>by
 obtain ⟨g1,g2⟩:=h0
 simp only at g1 g2
 have p1:=entP y21
 have p2:=entP y22
 have t1 : y21.length * 152 ≤ 140737488355328:=by omega
 have t2 : (y21.length + y22.length) * 152 ≤ 140737488355328:=by omega
 have t3 : y21.map (rEntry .ro) ++ y22.map (rEntry .ro) = (y21 ++ y22).map (rEntry .ro):=List.map_append.symm
 simp only [go_sem,reduceIte,↓reduceIte,reduceCtorEq,nA,nS,nM,nB,nE,nL,nT,nN,iL,iT,iE,iA,iM,iS,iG,iB,iN,iZ,h,p1,p2,t1,t2,t3]) (rfl)
@[go_sem] theorem e234_0 (b g : Int) : s234.F [.pr [.i .i64 b,.i .i64 g,.sl .ro 13 [],.sl .ro 13 []]] = some (.sl .mut 13 [],[.u]):=e234 b g [] [] ⟨Nat.zero_le _,Nat.zero_le _⟩
def s360 : SP Tryz.prog:=mkS tyA 360 Tryz.f360 [] { md:=[.ro 1],rg:=[(0,[0],[]),(1,[0,3],[]),(2,[0,3,4],[]),(3,[0,3,4,8],[]),(4,[0,3,4],[]),(5,[0,3,4],[]),(6,[2],[])],lv:=[(0,[0,3,4],[])],out:=[(0,[3],[])],rets:=some ([2],[]),plan:=[(5,(.take 0 (.take 1 (.take 2 (.take 3 (.take 4 (.take 5 (.take 6 (.take 7 (.take 8 (.take 9 (.take 10 (.take 11 (.take 12 (.take 13 (.take 14 (.one 15 .done)))))))))))))))))] } Tryz.func360 (by kernel_rfl)
@[go_sem] theorem d360 : s360.g = 360 ∧ s360.fs = ⟨[.ro 1],s360.F,false⟩:=⟨nr rfl,nr rfl⟩
@[go_sem] theorem e360 (hs : List Header) (h0 : smL smHeader hs) : s360.F [.sl .ro 2 (hs.map (rHeader .ro))] = some (.s (packH hs),[.u]):=mkS_eq (hs.length + 1) rfl rfl (fun cx h=>by
 have hx:=h0.1
 have hb0:=loopN_eq Tryz.f360 0 _ _ rfl rfl
 obtain ⟨hI,hr⟩:=loop_fold (cx:=cx) (blk:=0) (body:=loopN Tryz.f360 0) hs (fun k (s : ByteArray)=>⟨E [(0,.sl .ro 2 (hs.map (rHeader .ro))),(3,.s s),(4,.i .i64 k)],B []⟩) (fun s=>⟨E [(3,.s s)],B []⟩) (fun x s=>packStep s x) (fun k s=>s.size ≤ k * 2097156)
   (fun s hI G=>by simp only [go_sem,reduceIte,↓reduceIte,reduceCtorEq,nA,nS,nM,nB,nE,nL,nT,nN,iL,iT,iE,iA,iM,iS,iG,iB,iN,iZ,h,Int.lt_irrefl,hb0,h0.1]) (fun k hk s hI=>by
    have h1 : ((k : Int) < (hs.length : Int)):=Int.ofNat_lt.2 hk
    obtain ⟨u1,u2⟩:=h0.2 _ (List.getElem_mem hk)
    have u1' : hs[k].Name.size ≤ 1048576:=u1
    have u2' : hs[k].Value.size ≤ 1048576:=u2
    have hz:=packStep_size s hs[k]
    have hJ : (packStep s hs[k]).size ≤ (k + 1) * 2097156:=by rw [hz,Nat.succ_mul]; omega
    have e0 : (⟨#[58,32]⟩ : ByteArray).size = 2:=rfl
    have e0' : (⟨#[13,10]⟩ : ByteArray).size = 2:=rfl
    have hl : k * 2097156 ≤ 1048576 * 2097156:=Nat.mul_le_mul_right _ (by omega)
    have e1 : s.size + hs[k].Name.size ≤ 9223372036854775807:=by omega
    have e2 : s.size + hs[k].Name.size + 2 ≤ 9223372036854775807:=by omega
    have e3 : s.size + hs[k].Name.size + 2 + hs[k].Value.size ≤ 9223372036854775807:=by omega
    have e4 : s.size + hs[k].Name.size + 2 + hs[k].Value.size + 2 ≤ 9223372036854775807:=by omega
    exact ⟨hJ,_,fun G=>by simp only [go_sem,reduceIte,↓reduceIte,reduceCtorEq,nA,nS,nM,nB,nE,nL,nT,nN,iL,iT,iE,iA,iM,iS,iG,iB,iN,iZ,h,e0,e0',e1,e2,e3,e4,map_gd (rHeader .ro) hs k hk,ByteArray.size_append,h1,idx_nt _ _ hk,wrap_nat1 (show k < 9223372036854775807 by omega),hb0] <;> with_reducible rfl,by simp only [go_sem,reduceIte,↓reduceIte,reduceCtorEq,nA,nS,nM,nB,nE,nL,nT,nN,iL,iT,iE,iA,iM,iS,iG,iB,iN,iZ,h,packStep]⟩) ⟨#[]⟩ (Nat.zero_le _) (hs.length + 1) (Nat.le_refl _)
 rw [hb0] at hr
 rw [packFold0] at hr
 simp only [go_sem,reduceIte,↓reduceIte,reduceCtorEq,nA,nS,nM,nB,nE,nL,nT,nN,iL,iT,iE,iA,iM,iS,iG,iB,iN,iZ,h,hr]) (rfl)
def s314 : SP Tryz.prog:=mkS tyA 314 Tryz.f314 [s360] { md:=[.ro 1],rets:=some ([2],[]),plan:=[(1,(.take 0 (.take 1 (.take 2 (.take 3 (.take 4 (.take 5 (.take 6 (.take 7 (.take 8 (.take 12 (.take 13 (.take 14 (.take 15 (.take 16 (.one 9 (.take 10 (.take 11 (.take 17 (.take 18 (.one 19 .done)))))))))))))))))))))] } Tryz.func314 (by kernel_rfl)
@[go_sem] theorem d314 : s314.g = 314 ∧ s314.fs = ⟨[.ro 1],s314.F,false⟩:=⟨nr rfl,nr rfl⟩
@[go_sem] theorem e314 (y6 : ByteArray) (y7 : Int) (y8 : List Header) (y9 : List UInt8) (y10 y11 y12 y13 y14 : Int) (y15 y16 : Bool) (y17 : List ByteArray) (y18 : Int) (h0 : (smL smHeader (Entry.mk y6 y7 y8 y9 (Meta.mk y10 y11 y12 y13 y14 y15 y16) y17 y18).Headers ∧ (Entry.mk y6 y7 y8 y9 (Meta.mk y10 y11 y12 y13 y14 y15 y16) y17 y18).Key.size ≤ 1048576 ∧ (Entry.mk y6 y7 y8 y9 (Meta.mk y10 y11 y12 y13 y14 y15 y16) y17 y18).Body.length ≤ 1048576)) : s314.F [.pr [.s y6,.i .i64 y7,.sl .ro 2 (y8.map (rHeader .ro)),.sl .ro 1 (y9.map rByte),.i .i64 y10,.i .i64 y11,.i .i64 y12,.i .i64 y13,.i .i64 y14,.b y15,.b y16,.sl .ro 1 (y17.map rStr),.i .i64 y18]] = some (.i .i64 (costE (Entry.mk y6 y7 y8 y9 (Meta.mk y10 y11 y12 y13 y14 y15 y16) y17 y18)),[.u]):=mkS_eq (0) rfl rfl (fun cx h=>by
 obtain ⟨g1,g2,g3⟩:=h0
 simp only at g1 g2 g3
 have hp:=packLen_le g1
 unfold packLen at hp
 have w1 : (IntKind.i64).wrap ((y6.size : Int) + ((packH y8).size : Int)) = (y6.size : Int) + ((packH y8).size : Int):=wrap_id (by omega) (by omega)
 have w2 : (IntKind.i64).wrap ((y6.size : Int) + ((packH y8).size : Int) + (y9.length : Int)) = (y6.size : Int) + ((packH y8).size : Int) + (y9.length : Int):=wrap_id (by omega) (by omega)
 have w3 : (IntKind.i64).wrap (50 + ((y6.size : Int) + ((packH y8).size : Int) + (y9.length : Int))) = 50 + ((y6.size : Int) + ((packH y8).size : Int) + (y9.length : Int)):=wrap_id (by omega) (by omega)
 simp only [go_sem,reduceIte,↓reduceIte,reduceCtorEq,nA,nS,nM,nB,nE,nL,nT,nN,iL,iT,iE,iA,iM,iS,iG,iB,iN,iZ,h,g1,w1,w2,w3,costE]) (rfl)
def s235 : SP Tryz.prog:=mkS tyA 235 Tryz.f235 [s314] { md:=[.ro 1],rg:=[(0,[0],[]),(1,[0,3],[]),(2,[0,3,4],[]),(3,[0,3,4,8],[]),(4,[0,3,4],[]),(5,[0,3,4],[]),(6,[2],[])],lv:=[(0,[0,3,4],[])],out:=[(0,[3],[])],rets:=some ([2],[]) } Tryz.func235 (by kernel_rfl)
@[go_sem] theorem d235 : s235.g = 235 ∧ s235.fs = ⟨[.ro 1],s235.F,false⟩:=⟨nr rfl,nr rfl⟩
@[go_sem] theorem e235 (xs : List Entry) (h0 : (xs.length ≤ 2097152 ∧ Every smEntry xs)) : s235.F [.sl .ro 13 (xs.map (rEntry .ro))] = some (.i .i64 (costs xs),[.u]):=mkS_eq (xs.length + 1) rfl rfl (fun cx h=>by
 have hx : xs.length ≤ 9223372036854775806:=by have:=h0.1; omega
 have hb0:=loopN_eq Tryz.f235 0 _ _ rfl rfl
 obtain ⟨hI,hr⟩:=loop_fold (cx:=cx) (blk:=0) (body:=loopN Tryz.f235 0) xs (fun k (s : Int)=>⟨E [(0,.sl .ro 13 (xs.map (rEntry .ro))),(3,.i .i64 s),(4,.i .i64 k)],B []⟩) (fun s=>⟨E [(3,.i .i64 s)],B []⟩) (fun x s=>s + costE x) (fun k s=>0 ≤ s ∧ s ≤ (k : Int) * 2199030595634)
   (fun s hI G=>by simp only [go_sem,reduceIte,↓reduceIte,reduceCtorEq,nA,nS,nM,nB,nE,nL,nT,nN,iL,iT,iE,iA,iM,iS,iG,iB,iN,iZ,h,Int.lt_irrefl,hb0,hx]) (fun k hk s hI=>by
    have h1 : ((k : Int) < (xs.length : Int)):=Int.ofNat_lt.2 hk
    obtain ⟨i1,i2⟩:=hI
    have hm:=h0.2 _ (List.getElem_mem hk)
    have hc:=costE_sm hm
    have hJ : 0 ≤ s + costE xs[k] ∧ s + costE xs[k] ≤ ((k + 1 : Nat) : Int) * 2199030595634:=by
     rw [Int.natCast_add,Int.add_mul]; constructor <;> omega
    have hb1 : (k : Int) * 2199030595634 ≤ 2097152 * 2199030595634:=Int.mul_le_mul_of_nonneg_right (by omega) (by decide)
    have hw : (IntKind.i64).wrap (s + costE xs[k]) = s + costE xs[k]:=wrap_id (by omega) (by omega)
    have hm1:=hm.2.2.1
    have hm2 : xs[k].Key.size ≤ 1048576:=hm.1
    have hm3:=hm.2.2.2.1.1
    exact ⟨hJ,_,fun G=>by simp only [go_sem,reduceIte,↓reduceIte,reduceCtorEq,nA,nS,nM,nB,nE,nL,nT,nN,iL,iT,iE,iA,iM,iS,iG,iB,iN,iZ,h,hw,hm1,hm2,hm3,map_gd (rEntry .ro) xs k hk,h1,idx_nt _ _ hk,wrap_nat1 (show k < 9223372036854775807 by omega),hb0] <;> with_reducible rfl,by simp only [go_sem,reduceIte,↓reduceIte,reduceCtorEq,nA,nS,nM,nB,nE,nL,nT,nN,iL,iT,iE,iA,iM,iS,iG,iB,iN,iZ,h]⟩) 0 (by simp) (xs.length + 1) (Nat.le_refl _)
 rw [hb0] at hr
 have hcs : costs xs = xs.foldl (fun s x=>s + costE x) 0:=rfl
 rw [← hcs] at hr
 simp only [go_sem,reduceIte,↓reduceIte,reduceCtorEq,nA,nS,nM,nB,nE,nL,nT,nN,iL,iT,iE,iA,iM,iS,iG,iB,iN,iZ,h,hr]) (rfl)
@[go_sem] theorem e235_0 : s235.F [.sl .ro 13 []] = some (.i .i64 0,[.u]):=e235 [] ⟨Nat.zero_le _,fun x hx=>by cases hx⟩
def s143 : SP Tryz.prog:=mkS tyA 143 Tryz.f143 [s89,s113,s234,s235] { md:=[.ro 1],rg:=[(0,[1],[1]),(1,[1,19],[1]),(2,[2],[]),(3,[1,27],[1]),(4,[2],[]),(5,[1,3],[1]),(6,[1,3,4],[1]),(7,[1,3,4,32],[1]),(8,[1,3,4],[1]),(9,[1,3,4,5],[1]),(10,[1,3,4,5,41],[1]),(11,[2],[]),(12,[1,3,6],[1]),(13,[1,3,6,46],[1]),(14,[1,3,6],[1]),(15,[1,3,6,7],[1]),(16,[1,3,6,7,51],[1]),(17,[1,3,6,7],[1]),(18,[1,3,6,7,64],[1]),(19,[2],[]),(20,[77],[]),(21,[2],[]),(22,[2],[])],lv:=[(0,[1,3,4],[1]),(2,[1,3,6],[1]),(4,[1,3,6,7],[1])],out:=[(0,[1,3],[1]),(2,[1,3],[1]),(4,[1,3,6],[1])],rets:=some ([2],[]),plan:=[(18,(.take 0 (.take 1 (.take 2 (.take 3 (.take 4 (.take 5 (.take 6 (.take 7 (.take 8 (.take 9 (.take 10 .done)))))))))))),(20,(.take 0 (.take 2 (.take 3 (.one 1 (.take 4 (.take 5 (.take 6 (.take 7 (.take 9 (.take 10 (.one 8 (.take 11 (.take 12 .done))))))))))))))],fz:=[1] } Tryz.func143 (by kernel_rfl)
@[go_sem] theorem d143 : s143.g = 143 ∧ s143.fs = ⟨[.ro 1],s143.F,false⟩:=⟨nr rfl,nr rfl⟩
@[go_sem] theorem e143 (y23 y24 : Int) (y25 vKept : List Entry) (h0 : smStore (Store.mk y23 y24 y25 vKept)) : s143.F [.agg [.i .i64 y23,.i .i64 y24,.sl .ro 13 (y25.map (rEntry .ro)),.sl .ro 13 (vKept.map (rEntry .ro))]] = some (.i .i64 (storeFault (Store.mk y23 y24 y25 vKept)),[.u]):=mkS_eq (41) rfl rfl (fun cx h=>by
 obtain ⟨q0,q1,q2,q3⟩:=h0
 simp only at q2 q3
 have hle : y25.length ≤ 1048576 ∧ vKept.length ≤ 1048576:=⟨q2.1,q3.1⟩
 obtain ⟨all,hall⟩ : ∃ all,y25 ++ vKept = all:=⟨_,rfl⟩
 have hln : (all.length : Int) = (y25.length : Int) + (vKept.length : Int):=by rw [← hall,List.length_append]; rfl
 have hw : (IntKind.i64).wrap ((y25.length : Int) + (vKept.length : Int)) = (all.length : Int):=by rw [hln]; exact wrap_id (by omega) (by omega)
 have hsm : ∀ x ∈ all,smEntry x:=by rw [← hall]; exact smL_app q2 q3
 have hlk : vKept.length ≤ 2097152:=by omega
 have hek : Every smEntry vKept:=q3.2
 have hla : all.length ≤ 2097152:=by omega
 have hea : Every smEntry all:=hsm
 have hcs : costs all = costs y25 + costs vKept:=by rw [← hall]; exact costs_app _ _
 cases b1 : within y23 0 1000000
 ·simp only [go_sem,reduceIte,↓reduceIte,reduceCtorEq,nA,nS,nM,nB,nE,nL,nT,nN,iL,iT,iE,iA,iM,iS,iG,iB,iN,iZ,h,hle,hall,b1,storeFault]
 cases b2 : within y24 0 y23
 ·simp only [go_sem,reduceIte,↓reduceIte,reduceCtorEq,nA,nS,nM,nB,nE,nL,nT,nN,iL,iT,iE,iA,iM,iS,iG,iB,iN,iZ,h,hle,hall,b1,b2,storeFault]
 by_cases b3 : 40 < (all.length : Int)
 ·simp only [go_sem,reduceIte,↓reduceIte,reduceCtorEq,nA,nS,nM,nB,nE,nL,nT,nN,iL,iT,iE,iA,iM,iS,iG,iB,iN,iZ,h,hle,hall,b1,b2,b3,hw,List.length_map,storeFault]
 have hx : all.length ≤ 9223372036854775806:=by omega
 have hb0:=loopN_eq Tryz.f143 0 _ _ rfl rfl
 obtain ⟨z0,hz0,hqz0⟩:=loop_srch (cx:=cx) (blk:=0) (body:=loopN Tryz.f143 0) all (fun k (s : Unit)=>⟨E [(1,.pr [.i .i64 y23,.i .i64 y24,.sl .ro 13 (y25.map (rEntry .ro)),.sl .ro 13 (vKept.map (rEntry .ro))]),(3,.sl .mut 13 (all.map (rEntry .ro))),(4,.i .i64 k)],B [(1,[])]⟩) (fun s=>⟨E [(1,.pr [.i .i64 y23,.i .i64 y24,.sl .ro 13 (y25.map (rEntry .ro)),.sl .ro 13 (vKept.map (rEntry .ro))]),(3,.sl .mut 13 (all.map (rEntry .ro)))],B [(1,[])]⟩) (fun x s=>entryFault x != 0) (fun x s=>()) (fun x s=>(.ret,⟨E [(2,.i .i64 (entryFault x))],B []⟩)) (fun k s=>True)
   (fun s hI G=>by simp only [go_sem,reduceIte,↓reduceIte,reduceCtorEq,nA,nS,nM,nB,nE,nL,nT,nN,iL,iT,iE,iA,iM,iS,iG,iB,iN,iZ,h,Int.lt_irrefl,hb0,hx,List.length_map,show List.take all.length (List.map (rEntry .ro) all) = List.map (rEntry .ro) all from List.take_of_length_le (by simp)]) (fun k hk s hI=>by
    have h1 : ((k : Int) < (all.length : Int)):=Int.ofNat_lt.2 hk
    have tk : List.take all.length (List.map (rEntry .ro) all) = List.map (rEntry .ro) all:=List.take_of_length_le (by simp)
    have hH : smL smHeader all[k].Headers:=(hsm _ (List.getElem_mem hk)).2.2.1
    exact ⟨_,_,_,fun G=>by simp only [go_sem,reduceIte,↓reduceIte,reduceCtorEq,nA,nS,nM,nB,nE,nL,nT,nN,iL,iT,iE,iA,iM,iS,iG,iB,iN,iZ,h,map_gd (rEntry .ro) all k hk,gd_map (rEntry .ro) all k hk,tk,List.length_map,hH,h1,idx_nt _ _ hk,wrap_nat1 (show k < 9223372036854775807 by omega),hb0] <;> with_reducible rfl,Iff.rfl,fun hc=>⟨trivial,by simp only [go_sem,reduceIte,↓reduceIte,reduceCtorEq,nA,nS,nM,nB,nE,nL,nT,nN,iL,iT,iE,iA,iM,iS,iG,iB,iN,iZ,h]⟩⟩) () trivial 41 (by omega)
 rw [hb0] at hz0
 rcases hqz0 with ⟨s0,e1,_,e3⟩ | ⟨x,s0,e1,e3⟩
 rotate_left
 ·have e2:=firstI_inr e1
  have e4 : (entryFault x != 0) = true:=runS_hit e1
  simp only [go_sem,reduceIte,↓reduceIte,reduceCtorEq,nA,nS,nM,nB,nE,nL,nT,nN,iL,iT,iE,iA,iM,iS,iG,iB,iN,iZ,h,hle,hall,b1,b2,b3,hw,List.length_map,hz0,e3,e2,e4,storeFault]
 have e2:=firstI_inl e1
 have hb1:=loopN_eq Tryz.f143 1 _ _ rfl rfl
 obtain ⟨z2,hz2,hqz2⟩:=loop_srch (cx:=cx) (blk:=2) (body:=loopN Tryz.f143 1) all (fun k (s : List Entry)=>⟨E [(1,.pr [.i .i64 y23,.i .i64 y24,.sl .ro 13 (y25.map (rEntry .ro)),.sl .ro 13 (vKept.map (rEntry .ro))]),(3,.sl .mut 13 (all.map (rEntry .ro))),(6,.i .i64 k)],B [(1,[])]⟩) (fun s=>⟨E [(1,.pr [.i .i64 y23,.i .i64 y24,.sl .ro 13 (y25.map (rEntry .ro)),.sl .ro 13 (vKept.map (rEntry .ro))]),(3,.sl .mut 13 (all.map (rEntry .ro)))],B [(1,[])]⟩) (fun x s=>s.any fun y=>sameEK y x) (fun x s=>s ++ [x]) (fun x s=>(.ret,⟨E [(2,.i .i64 6)],B []⟩)) (fun k s=>s = all.take k)
   (fun s hI G=>by simp only [go_sem,reduceIte,↓reduceIte,reduceCtorEq,nA,nS,nM,nB,nE,nL,nT,nN,iL,iT,iE,iA,iM,iS,iG,iB,iN,iZ,h,Int.lt_irrefl,hb1,hx,List.length_map,show List.take all.length (List.map (rEntry .ro) all) = List.map (rEntry .ro) all from List.take_of_length_le (by simp)]) (fun k hk s hI=>by
    have h1 : ((k : Int) < (all.length : Int)):=Int.ofNat_lt.2 hk
    have tk : List.take all.length (List.map (rEntry .ro) all) = List.map (rEntry .ro) all:=List.take_of_length_le (by simp)
    obtain ⟨q,hq0⟩ : ∃ q,q = k:=⟨k,rfl⟩
    have hq1 : q < all.length:=by omega
    have hlen : (all.take q).length = q:=by rw [List.length_take]; omega
    have hb2:=loopN_eq Tryz.f143 2 _ _ rfl rfl
    obtain ⟨r2,hr2,hqr2⟩:=loop_srch (cx:=cx) (blk:=4) (body:=loopN Tryz.f143 2) (all.take q) (fun k (s : Unit)=>⟨E [(1,.pr [.i .i64 y23,.i .i64 y24,.sl .ro 13 (y25.map (rEntry .ro)),.sl .ro 13 (vKept.map (rEntry .ro))]),(3,.sl .mut 13 (all.map (rEntry .ro))),(6,.i .i64 q),(7,.i .i64 k)],B [(1,[])]⟩) (fun s=>⟨E [(1,.pr [.i .i64 y23,.i .i64 y24,.sl .ro 13 (y25.map (rEntry .ro)),.sl .ro 13 (vKept.map (rEntry .ro))]),(3,.sl .mut 13 (all.map (rEntry .ro))),(6,.i .i64 q)],B [(1,[])]⟩) (fun x s=>eqv all[q].Key x.Key) (fun x s=>()) (fun x s=>(.ret,⟨E [(2,.i .i64 6)],B []⟩)) (fun k s=>True)
      (fun s hI G=>by simp only [go_sem,reduceIte,↓reduceIte,reduceCtorEq,nA,nS,nM,nB,nE,nL,nT,nN,iL,iT,iE,iA,iM,iS,iG,iB,iN,iZ,h,Int.lt_irrefl,hb2,hlen,Int.lt_irrefl,tk,List.length_map]) (fun k hk s hI=>by
       have h1 : ((k : Int) < ((all.take q).length : Int)):=Int.ofNat_lt.2 hk
       have hk2 : k < q:=by rw [List.length_take] at hk; omega
       have hk3 : k < all.length:=by omega
       have hkq : (k : Int) < (q : Int):=by omega
       have e1 : (all.take q)[k] = all[k]:=by simp
       have i1:=idx_nt all.length k hk3
       have i2:=idx_nt all.length q hq1
       have w1:=wrap_nat1 (show k < 9223372036854775807 by omega)
       all_goals exact ⟨_,_,_,fun G=>by simp only [go_sem,reduceIte,↓reduceIte,reduceCtorEq,nA,nS,nM,nB,nE,nL,nT,nN,iL,iT,iE,iA,iM,iS,iG,iB,iN,iZ,h,hkq,e1,i1,i2,w1,eqv_bytes,tk,map_gd (rEntry .ro) all k hk3,map_gd (rEntry .ro) all q hq1,gd_map (rEntry .ro) all k hk3,gd_map (rEntry .ro) all q hq1,List.length_map,h1,idx_nt _ _ hk,wrap_nat1 (show k < 9223372036854775807 by omega),hb2] <;> with_reducible rfl,by rw [e1],fun hc=>⟨trivial,by simp only [go_sem,reduceIte,↓reduceIte,reduceCtorEq,nA,nS,nM,nB,nE,nL,nT,nN,iL,iT,iE,iA,iM,iS,iG,iB,iN,iZ,h,hlen]⟩⟩) () trivial 41 (by rw [List.length_take]; omega)
    rw [hb2] at hr2
    subst hq0
    have hfl:=any_flipE (all.take q) all[q]
    have hy : r2 = (if (s.any fun y=>sameEK y all[q]) = true then some (.ret,⟨E [(2,.i .i64 6)],B []⟩) else some (.ex 4,⟨E [(1,.pr [.i .i64 y23,.i .i64 y24,.sl .ro 13 (y25.map (rEntry .ro)),.sl .ro 13 (vKept.map (rEntry .ro))]),(3,.sl .mut 13 (all.map (rEntry .ro))),(6,.i .i64 q)],B [(1,[])]⟩)):=by
     subst hI
     rcases hqr2 with ⟨s',e1,_,e3⟩ | ⟨x,s',e1,e3⟩
     ·rw [← hfl,runS_any e1,e3]; rfl
     ·rw [← hfl,runS_any' e1,e3]; rfl
    rw [hy] at hr2
    exact ⟨_,_,_,fun G=>by simp only [go_sem,reduceIte,↓reduceIte,reduceCtorEq,nA,nS,nM,nB,nE,nL,nT,nN,iL,iT,iE,iA,iM,iS,iG,iB,iN,iZ,h,hr2,tk,List.length_map,h1,idx_nt all.length q hk,wrap_nat1 (show q < 9223372036854775807 by omega),hb1] <;> with_reducible rfl,Iff.rfl,fun hc=>⟨(by rw [hI]; exact (take_snoc all q hk).symm),by simp only [go_sem,reduceIte,↓reduceIte,reduceCtorEq,nA,nS,nM,nB,nE,nL,nT,nN,iL,iT,iE,iA,iM,iS,iG,iB,iN,iZ,h]⟩⟩) [] rfl 41 (by omega)
 rw [hb1] at hz2
 rcases hqz2 with ⟨s1,k1,_,k3⟩ | ⟨x,s1,k1,k3⟩
 rotate_left
 ·have k2:=dup_inr k1
  simp only [go_sem,reduceIte,↓reduceIte,reduceCtorEq,nA,nS,nM,nB,nE,nL,nT,nN,iL,iT,iE,iA,iM,iS,iG,iB,iN,iZ,h,hle,hall,b1,b2,b3,hw,List.length_map,hz0,e3,e2,hz2,k3,k2,storeFault]
 have k2:=dup_inl k1
 have tk : List.take all.length (List.map (rEntry .ro) all) = List.map (rEntry .ro) all:=List.take_of_length_le (by simp)
 by_cases d1 : y23 < costs y25 + costs vKept
 ·simp only [go_sem,reduceIte,↓reduceIte,reduceCtorEq,nA,nS,nM,nB,nE,nL,nT,nN,iL,iT,iE,iA,iM,iS,iG,iB,iN,iZ,h,hle,hall,b1,b2,b3,hw,List.length_map,hz0,e3,e2,hz2,k3,k2,hla,hea,hcs,tk,d1,storeFault]
 by_cases d2 : y24 < costs vKept <;> simp only [go_sem,reduceIte,↓reduceIte,reduceCtorEq,nA,nS,nM,nB,nE,nL,nT,nN,iL,iT,iE,iA,iM,iS,iG,iB,iN,iZ,h,hle,hall,b1,b2,b3,hw,List.length_map,hz0,e3,e2,hz2,k3,k2,hla,hea,hcs,tk,d1,d2,hlk,hek,storeFault]) (rfl)
@[go_sem] theorem e143_0 (b g : Int) : s143.F [.agg [.i .i64 b,.i .i64 g,.sl .ro 13 [],.sl .ro 13 []]] = some (.i .i64 (storeCode b g),[.u]):=(e143 b g [] [] ⟨trivial,trivial,⟨Nat.zero_le _,fun x hx=>by cases hx⟩,⟨Nat.zero_le _,fun x hx=>by cases hx⟩⟩).trans (by rw [storeFault_nil])
end
end Go.Vm.A
