/- Functions of the program, walked by the evaluator. -/
import Derived.Test.YtpoannkeaajngaaGreatDoorWb
import Derived.Test.YtpoannkeaajngaaGreatDoorWa
import Derived.Test.YtpoannkeaajngaaGreatDoorFb
import Derived.Test.YtpoannkeaajngaaGreatDoorFg
set_option linter.unusedVariables false
set_option linter.unusedSimpArgs false
set_option autoImplicit false
set_option maxRecDepth 100000
set_option maxHeartbeats 4000000
set_option linter.defProp false
namespace Go.Vm.A
open Go.Proofs
open Nat renaming reduceAdd -> nA, reduceSub -> nS, reduceMul -> nM, reduceBEq -> nB, reduceEqDiff -> nE, reduceLeDiff -> nL, reduceLT -> nT, reduceBneDiff -> nN
open Int renaming reduceLE -> iL, reduceLT -> iT, reduceEq -> iE, reduceAdd -> iA, reduceMul -> iM, reduceSub -> iS, reduceNeg -> iG, reduceBEq -> iB, reduceBNe -> iN, reduceToNat -> iZ
noncomputable section
def s87:SP Tryz.prog:=⟨87,⟨[.ro 1,.ro 1],XoF,false⟩,XoG Tryz.func87 (by kernel_rfl) rfl Go.Proofs.Tryz.strings_Join_none Go.Proofs.Tryz.strings_Join⟩
@[go_sem] def d87:s87.g=87/\s87.fs=⟨[.ro 1,.ro 1],s87.F,false⟩:=⟨nr rfl,nr rfl⟩
@[go_sem] def e87(xs:List ByteArray)(h0:Xat xs=true):s87.F [.sl .ro 1 (xs.map X8),.s ⟨#[32]⟩]=some (.s (Xac xs),[.u,.u]):=Xmb xs h0
def s99:SP Tryz.prog:=mkS tyA 99 Tryz.f99 [s87] {md:=[.ro 1,.ro 1],rg:=[(0,[0,1,4],[4]),(1,[0,1,4,6],[4]),(2,[0,1,4,6,9],[4]),(3,[4,5],[4]),(4,[0,1,4,6,23],[4]),(5,[4,5],[4]),(6,[0,1,4,34],[4]),(7,[4,5],[4]),(8,[4,5],[4])],rets:=some ([4,5],[4])} Tryz.func99 (by kernel_rfl)
@[go_sem] def d99:s99.g=99/\s99.fs=⟨[.ro 1,.ro 1],s99.F,false⟩:=⟨nr rfl,nr rfl⟩
@[go_sem] def e99(ws:List ByteArray)(hard:Bool)(h0:smL Zy ws):s99.F [.sl .ro 1 (ws.map X8),.b hard]=some (.tup [.agg (Ud .mut (Zw (ZV hard ws))),.b (ZV hard ws).isSome],[.u,.u]):=Xj (0) rfl rfl (λcx h=>by
 rcases ws with _ | ⟨a,ws⟩
 ·simp only[go_sem,reduceIte,↓reduceIte,reduceCtorEq,nA,nS,nM,nB,nE,nL,nT,nN,iL,iT,iE,iA,iM,iS,iG,iB,iN,iZ,h,ZV,pEv,Xa,List.map_cons,List.map_nil,List.length_cons,List.length_nil,Zw,XG,Option.getD_none,Option.getD_some,Option.isSome_none,Option.isSome_some,List.drop_succ_cons,List.drop_zero,List.take_succ_cons,List.take_zero,Nat.reduceAdd,Int.reduceLT,List.length_map]
 rcases ws with _ | ⟨b,ws⟩
 ·cases c1:eqv a ⟨#[97,108,108]⟩<;>simp only[go_sem,reduceIte,↓reduceIte,reduceCtorEq,nA,nS,nM,nB,nE,nL,nT,nN,iL,iT,iE,iA,iM,iS,iG,iB,iN,iZ,h,c1,ZV,pEv,Xa,List.map_cons,List.map_nil,List.length_cons,List.length_nil,Zw,XG,Option.getD_none,Option.getD_some,Option.isSome_none,Option.isSome_some,List.drop_succ_cons,List.drop_zero,List.take_succ_cons,List.take_zero,Nat.reduceAdd,Int.reduceLT,List.length_map]
 rcases ws with _ | ⟨x,ws⟩
 ·have ej:=e87 [b] (XeG ⟨by simp,λy hy=>h0.2 y (by simp at hy; simp[hy])⟩)
  have r1:[b].map X8=[[.s b]]:=rfl
  rw[r1] at ej
  cases c1:eqv a ⟨#[116,97,103]⟩<;>cases c2:eqv a ⟨#[107,101,121]⟩<;>simp only[go_sem,reduceIte,↓reduceIte,reduceCtorEq,nA,nS,nM,nB,nE,nL,nT,nN,iL,iT,iE,iA,iM,iS,iG,iB,iN,iZ,h,c1,c2,ej,ZV,pEv,Xa,List.map_cons,List.map_nil,List.length_cons,List.length_nil,Zw,XG,Option.getD_none,Option.getD_some,Option.isSome_none,Option.isSome_some,List.drop_succ_cons,List.drop_zero,List.take_succ_cons,List.take_zero,Nat.reduceAdd,Int.reduceLT,List.length_map]
 ·have hj:smL Zy (b :: x :: ws):=⟨by have:=h0.1; simp only[List.length_cons] at this ⊢; omega,λy hy=>h0.2 y (List.mem_cons_of_mem _ hy)⟩
  have ej:=e87 (b :: x :: ws) (XeG hj)
  have r1:(b :: x :: ws).map X8=[.s b] :: [.s x] :: ws.map X8:=rfl
  rw[r1] at ej
  have q1:(((ws.length+1+1+1:Nat):Int)==1)=false:=by simp; omega
  have q2:(((ws.length+1+1+1:Nat):Int)==2)=false:=by simp; omega
  have q3:(2:Int)<=((ws.length+1+1+1:Nat):Int):=by omega
  have q4:(1:Int)<=((ws.length+1+1+1:Nat):Int):=by omega
  have i0:YK (ws.length+1+1+1) 0=some 0:=Xt _ 0 (by omega)
  have i1:YK (ws.length+1+1+1) 1=some 1:=Xt _ 1 (by omega)
  have tk:List.take (ws.length+1+1+1-1) ([.s b] :: [.s x] :: ws.map X8)=[.s b] :: [.s x] :: ws.map X8:=List.take_of_length_le (by simp)
  cases c2:eqv a ⟨#[107,101,121]⟩<;>simp only[go_sem,reduceIte,↓reduceIte,reduceCtorEq,nA,nS,nM,nB,nE,nL,nT,nN,iL,iT,iE,iA,iM,iS,iG,iB,iN,iZ,h,c2,ej,q1,q2,q3,q4,i0,i1,tk,ZV,pEv,Xa,List.map_cons,List.map_nil,List.length_cons,List.length_nil,Zw,XG,Option.getD_none,Option.getD_some,Option.isSome_none,Option.isSome_some,List.drop_succ_cons,List.drop_zero,List.take_succ_cons,List.take_zero,Nat.reduceAdd,Int.reduceLT,List.length_map]) (by simp only[go_sem,reduceIte,↓reduceIte,reduceCtorEq,nA,nS,nM,nB,nE,nL,nT,nN,iL,iT,iE,iA,iM,iS,iG,iB,iN,iZ,ZS,XJ,XU,XQ])
def s57:SP Tryz.prog:=mkS tyA 57 Tryz.f57 [s97,s98,s99,XmY] {md:=[.ro 1],rg:=[(0,[0,2],[2]),(1,[0,2,9],[2]),(2,[2,3],[2]),(3,[0,2,4],[2]),(4,[0,2,4,15],[2]),(5,[0,2,4,15,16],[2]),(6,[2,3],[2]),(7,[0,2,4,15,22],[2]),(8,[2,3],[2]),(9,[0,2,4,15,28],[2]),(10,[0,2,4,15,28],[2]),(11,[2,3],[2]),(12,[0,2,4,15,39],[2]),(13,[0,2,4,39],[2]),(14,[0,2,5,6],[2]),(15,[0,2,5,53],[2]),(16,[2,3],[2]),(17,[2,5,58],[2]),(18,[2,3],[2]),(19,[2,3],[2]),(20,[2,3],[2])],rets:=some ([2,3],[2]),al:=[42]} Tryz.func57 (by kernel_rfl)
@[go_sem] def d57:s57.g=57/\s57.fs=⟨[.ro 1],s57.F,false⟩:=⟨nr rfl,nr rfl⟩
@[go_sem] def e57(ws:List ByteArray)(h0:smL Zy ws):s57.F [.sl .ro 1 (ws.map X8)]=some (.tup [.agg (Ud .mut (Zw (Yt ws))),.b (Yt ws).isSome],[.u]):=Xj (0) rfl rfl (λcx h=>by
 rcases ws with _ | ⟨a,ws⟩
 ·simp only[go_sem,reduceIte,↓reduceIte,reduceCtorEq,nA,nS,nM,nB,nE,nL,nT,nN,iL,iT,iE,iA,iM,iS,iG,iB,iN,iZ,h,Yt,Xa,UO,List.map_cons,List.map_nil,List.length_cons,List.length_nil,Zw,XG,Option.getD_none,Option.getD_some,Option.isSome_none,Option.isSome_some,List.drop_succ_cons,List.drop_zero,List.take_succ_cons,List.take_zero,Nat.reduceAdd,Int.reduceLT,List.length_map]
 have hw:smL Zy ws:=⟨by have:=h0.1; simp only[List.length_cons] at this; omega,λx hx=>h0.2 x (by simp[hx])⟩
 have tk:List.take (ws.length+1-1) (List.map X8 ws)=List.map X8 ws:=List.take_of_length_le (by rw[List.length_map]; omega)
 have q0:(((ws.length+1:Nat):Int)==0)=false:=by simp; omega
 have q1:(1:Int)<=((ws.length+1:Nat):Int):=by omega
 have i0:YK (ws.length+1) 0=some 0:=Xt _ 0 (by omega)
 rcases Bool.eq_false_or_eq_true (eqv a ⟨#[97,115,107]⟩) with c0 | c0
 ·simp only[go_sem,reduceIte,↓reduceIte,reduceCtorEq,nA,nS,nM,nB,nE,nL,nT,nN,iL,iT,iE,iA,iM,iS,iG,iB,iN,iZ,h,c0,hw,tk,q0,q1,i0,Yt,Xa,UO,List.map_cons,List.map_nil,List.length_cons,List.length_nil,Zw,XG,Option.getD_none,Option.getD_some,Option.isSome_none,Option.isSome_some,List.drop_succ_cons,List.drop_zero,List.take_succ_cons,List.take_zero,Nat.reduceAdd,Int.reduceLT,List.length_map]
 rcases Bool.eq_false_or_eq_true (eqv a ⟨#[114,101,112,108,121]⟩) with c1 | c1
 ·simp only[go_sem,reduceIte,↓reduceIte,reduceCtorEq,nA,nS,nM,nB,nE,nL,nT,nN,iL,iT,iE,iA,iM,iS,iG,iB,iN,iZ,h,c0,c1,hw,tk,q0,q1,i0,Yt,Xa,UO,List.map_cons,List.map_nil,List.length_cons,List.length_nil,Zw,XG,Option.getD_none,Option.getD_some,Option.isSome_none,Option.isSome_some,List.drop_succ_cons,List.drop_zero,List.take_succ_cons,List.take_zero,Nat.reduceAdd,Int.reduceLT,List.length_map]
 rcases Bool.eq_false_or_eq_true (eqv a ⟨#[112,117,114,103,101]⟩) with c2 | c2
 ·simp only[go_sem,reduceIte,↓reduceIte,reduceCtorEq,nA,nS,nM,nB,nE,nL,nT,nN,iL,iT,iE,iA,iM,iS,iG,iB,iN,iZ,h,c0,c1,c2,hw,tk,q0,q1,i0,Yt,Xa,UO,List.map_cons,List.map_nil,List.length_cons,List.length_nil,Zw,XG,Option.getD_none,Option.getD_some,Option.isSome_none,Option.isSome_some,List.drop_succ_cons,List.drop_zero,List.take_succ_cons,List.take_zero,Nat.reduceAdd,Int.reduceLT,List.length_map]
 rcases Bool.eq_false_or_eq_true (eqv a ⟨#[115,111,102,116]⟩) with c3 | c3
 ·simp only[go_sem,reduceIte,↓reduceIte,reduceCtorEq,nA,nS,nM,nB,nE,nL,nT,nN,iL,iT,iE,iA,iM,iS,iG,iB,iN,iZ,h,c0,c1,c2,c3,hw,tk,q0,q1,i0,Yt,Xa,UO,List.map_cons,List.map_nil,List.length_cons,List.length_nil,Zw,XG,Option.getD_none,Option.getD_some,Option.isSome_none,Option.isSome_some,List.drop_succ_cons,List.drop_zero,List.take_succ_cons,List.take_zero,Nat.reduceAdd,Int.reduceLT,List.length_map]
 have en:=XrN ws hw.1
 rcases ws with _ | ⟨x,ws⟩
 ·have n0:XcN []=[]:=rfl
  have a0:([]:List ByteArray).all YQ=true:=rfl
  have r0:([]:List ByteArray).map X8=[]:=rfl
  rw[r0,n0,a0] at en
  cases c4:eqv a ⟨#[102,97,105,108]⟩<;>cases c5:eqv a ⟨#[116,105,99,107]⟩<;>simp only[go_sem,reduceIte,↓reduceIte,reduceCtorEq,nA,nS,nM,nB,nE,nL,nT,nN,iL,iT,iE,iA,iM,iS,iG,iB,iN,iZ,h,c0,c1,c2,c3,c4,c5,hw,en,Yt,Xa,UO,List.map_cons,List.map_nil,List.length_cons,List.length_nil,Zw,XG,Option.getD_none,Option.getD_some,Option.isSome_none,Option.isSome_some,List.drop_succ_cons,List.drop_zero,List.take_succ_cons,List.take_zero,Nat.reduceAdd,Int.reduceLT,List.length_map]
 rcases ws with _ | ⟨y,ws⟩
 ·have a1:[x].all YQ=YQ x:=by simp
  have r1:[x].map X8=[[.s x]]:=rfl
  rw[r1,a1] at en
  cases d:YQ x
  ·have n1:XcN [x]=[]:=XbW (by rw[a1,d])
   rw[d,n1] at en
   cases c4:eqv a ⟨#[102,97,105,108]⟩<;>cases c5:eqv a ⟨#[116,105,99,107]⟩<;>simp only[go_sem,reduceIte,↓reduceIte,reduceCtorEq,nA,nS,nM,nB,nE,nL,nT,nN,iL,iT,iE,iA,iM,iS,iG,iB,iN,iZ,h,c0,c1,c2,c3,c4,c5,hw,en,d,Yt,Xa,UO,List.map_cons,List.map_nil,List.length_cons,List.length_nil,Zw,XG,Option.getD_none,Option.getD_some,Option.isSome_none,Option.isSome_some,List.drop_succ_cons,List.drop_zero,List.take_succ_cons,List.take_zero,Nat.reduceAdd,Int.reduceLT,List.length_map]
  ·have n1:XcN [x]=[Zn x]:=XbV (by rw[a1,d])
   rw[d,n1] at en
   cases c4:eqv a ⟨#[102,97,105,108]⟩<;>cases c5:eqv a ⟨#[116,105,99,107]⟩<;>simp only[go_sem,reduceIte,↓reduceIte,reduceCtorEq,nA,nS,nM,nB,nE,nL,nT,nN,iL,iT,iE,iA,iM,iS,iG,iB,iN,iZ,h,c0,c1,c2,c3,c4,c5,hw,en,d,Yt,Xa,UO,List.map_cons,List.map_nil,List.length_cons,List.length_nil,Zw,XG,Option.getD_none,Option.getD_some,Option.isSome_none,Option.isSome_some,List.drop_succ_cons,List.drop_zero,List.take_succ_cons,List.take_zero,Nat.reduceAdd,Int.reduceLT,List.length_map]
 ·have r1:(x :: y :: ws).map X8=[.s x] :: [.s y] :: ws.map X8:=rfl
  rw[r1] at en
  have q0:(((ws.length+1+1+1:Nat):Int)==0)=false:=by simp; omega
  have q1:(1:Int)<=((ws.length+1+1+1:Nat):Int):=by omega
  have i0:YK (ws.length+1+1+1) 0=some 0:=Xt _ 0 (by omega)
  have tk:List.take (ws.length+1+1+1-1) ([.s x] :: [.s y] :: ws.map X8)=[.s x] :: [.s y] :: ws.map X8:=List.take_of_length_le (by simp)
  cases d:(x :: y :: ws).all YQ
  ·rw[d,XbW d] at en
   cases c4:eqv a ⟨#[102,97,105,108]⟩<;>cases c5:eqv a ⟨#[116,105,99,107]⟩<;>simp only[go_sem,reduceIte,↓reduceIte,reduceCtorEq,nA,nS,nM,nB,nE,nL,nT,nN,iL,iT,iE,iA,iM,iS,iG,iB,iN,iZ,h,c0,c1,c2,c3,c4,c5,hw,en,tk,q0,q1,i0,Yt,Xa,UO,List.map_cons,List.map_nil,List.length_cons,List.length_nil,Zw,XG,Option.getD_none,Option.getD_some,Option.isSome_none,Option.isSome_some,List.drop_succ_cons,List.drop_zero,List.take_succ_cons,List.take_zero,Nat.reduceAdd,Int.reduceLT,List.length_map]
  ·rw[d,XbV d] at en
   have q2:(((ws.length+1+1:Nat):Int) !=1)=true:=by simp; omega
   cases c4:eqv a ⟨#[102,97,105,108]⟩<;>cases c5:eqv a ⟨#[116,105,99,107]⟩<;>simp only[go_sem,reduceIte,↓reduceIte,reduceCtorEq,nA,nS,nM,nB,nE,nL,nT,nN,iL,iT,iE,iA,iM,iS,iG,iB,iN,iZ,h,c0,c1,c2,c3,c4,c5,hw,en,tk,q0,q1,i0,q2,Yt,Xa,UO,List.map_cons,List.map_nil,List.length_cons,List.length_nil,Zw,XG,Option.getD_none,Option.getD_some,Option.isSome_none,Option.isSome_some,List.drop_succ_cons,List.drop_zero,List.take_succ_cons,List.take_zero,Nat.reduceAdd,Int.reduceLT,List.length_map]) (by simp only[go_sem,reduceIte,↓reduceIte,reduceCtorEq,nA,nS,nM,nB,nE,nL,nT,nN,iL,iT,iE,iA,iM,iS,iG,iB,iN,iZ,ZS,XJ,XU,XQ])
def Xm0:SP Tryz.prog:=mkS tyA 103 Tryz.f103 [] {md:=[.ro 1],rets:=some ([2],[])} Tryz.func103 (by kernel_rfl)
@[go_sem] def XGV:Xm0.g=103/\Xm0.fs=⟨[.ro 1],Xm0.F,false⟩:=⟨nr rfl,nr rfl⟩
@[go_sem] def XGW(x:ByteArray):Xm0.F [.s x]=some (.b (eqv x ⟨#[]⟩),[.u]):=Xj (0) rfl rfl (λcx h=>by
 simp only[go_sem,reduceIte,↓reduceIte,reduceCtorEq,nA,nS,nM,nB,nE,nL,nT,nN,iL,iT,iE,iA,iM,iS,iG,iB,iN,iZ,h,Xa]) (rfl)
def XpT:SP Tryz.prog:=mkS tyA 150 Tryz.f150 [Xm0] {md:=[.ro 1,.ro 1],rg:=[(0,[0,1],[]),(1,[0,1,7,8],[]),(2,[0,1,7,8,9],[]),(3,[0,1,5,7,8],[]),(4,[0,1,5,7,8,16],[]),(5,[4],[]),(6,[0,1,7,8],[]),(7,[4],[])],lv:=[(0,[0,1,7,8],[])],out:=[(0,[],[])],rets:=some ([4],[])} Tryz.func150 (by kernel_rfl)
@[go_sem] def XGX:XpT.g=150/\XpT.fs=⟨[.ro 1,.ro 1],XpT.F,false⟩:=⟨nr rfl,nr rfl⟩
@[go_sem] def Xrh(xs:List ByteArray)(hb:xs.length<=9223372036854775806):XpT.F [.sl .ro 1 (xs.map X8),.fn 103 []]=some (.i .i64 (XcM (λx=>eqv x ⟨#[]⟩) xs 0),[.u,.u]):=Xj (xs.length+1) rfl rfl (λcx h=>by
 have hx:=hb
 have hb0:=XF Tryz.f150 0 _ _ rfl rfl
 obtain⟨r,hr,hq⟩:=Yz (cx:=cx) (blk:=0) (body:=YN Tryz.f150 0) xs (λk (s:Nat)=>⟨E [(0,.sl .ro 1 (xs.map X8)),(1,.fn 103 []),(7,.i .i64 xs.length),(8,.i .i64 k)],B []⟩) (λs=>⟨E [],B []⟩) (λx s=>eqv x ⟨#[]⟩) (λx s=>s+1) (λx s=>(.ret,⟨E [(4,.i .i64 s)],B []⟩)) (λk s=>k=s)
   (λs hI G=>by simp only[go_sem,reduceIte,↓reduceIte,reduceCtorEq,nA,nS,nM,nB,nE,nL,nT,nN,iL,iT,iE,iA,iM,iS,iG,iB,iN,iZ,h,Int.lt_irrefl,hb0,hI]) (λk hk s hI=>by
    have h1:((k:Int)<(xs.length:Int)):=Int.ofNat_lt.2 hk
    obtain rfl:=hI
    exact⟨_,_,_,λG=>by simp only[go_sem,reduceIte,↓reduceIte,reduceCtorEq,nA,nS,nM,nB,nE,nL,nT,nN,iL,iT,iE,iA,iM,iS,iG,iB,iN,iZ,h,YH X8 xs _ hk,decide_eq_true_eq,h1,Xt _ _ hk,Xm (show k<9223372036854775807 by omega),hb0]<;>with_reducible rfl,by first | exact Iff.rfl | simp,λhc=>⟨rfl,by simp only[go_sem,reduceIte,↓reduceIte,reduceCtorEq,nA,nS,nM,nB,nE,nL,nT,nN,iL,iT,iE,iA,iM,iS,iG,iB,iN,iZ,h]⟩⟩) 0 rfl (xs.length+1) (Nat.le_refl _)
 rw[hb0] at hr
 rcases hq with⟨s',e1,_,e3⟩ | ⟨x,s',e1,e3⟩
 ·simp only[go_sem,reduceIte,↓reduceIte,reduceCtorEq,nA,nS,nM,nB,nE,nL,nT,nN,iL,iT,iE,iA,iM,iS,iG,iB,iN,iZ,h,hr,e3,Xej e1]
 ·simp only[go_sem,reduceIte,↓reduceIte,reduceCtorEq,nA,nS,nM,nB,nE,nL,nT,nN,iL,iT,iE,iA,iM,iS,iG,iB,iN,iZ,h,hr,e3,XcC e1]) (rfl)
def XgQ{α:Type}(p:α->Bool):∀(xs:List α) (k:Nat),XcM p xs k<0->XcM p xs k =-1
 | [],_,_=>rfl
 | x :: xs,k,h=>by
  rw[XcM] at h ⊢
  split at h
  ·omega
  ·rename_i hc; rw[if_neg hc]; exact XgQ p xs (k+1) h
def Xiy{α:Type}(p:α->Bool)(xs:List α)(h:XcM p xs 0 =-1):xs.filter (λx=>!(p x))=xs:=by
 have h2:=Xek (p:=p) xs 0
 rw[h] at h2
 rw[List.filter_eq_self]
 intro x hx
 have:=List.any_eq_false.1 h2.symm x hx
 simpa using this
def XkB{α:Type}(p:α->Bool)(xs:List α)(h:0<=XcM p xs 0):∃i:Nat,XcM p xs 0=(i:Int)/\i<xs.length/\(∀x,xs[i]?=some x->p x=true)/\∀j x,j<i->xs[j]?=some x->p x=false:=by
 have key:∀(xs:List α) (k:Nat),0<=XcM p xs k->∃i:Nat,XcM p xs k=((k+i:Nat):Int)/\i<xs.length/\(∀x,xs[i]?=some x->p x=true)/\∀j x,j<i->xs[j]?=some x->p x=false:=by
  intro xs
  induction xs with
  | nil=>intro k h; simp[XcM] at h
  | cons x xs ih =>
   intro k h
   rw[XcM] at h ⊢
   by_cases hc:p x=true
   ·rw[if_pos hc]
    exact⟨0,rfl,by simp,λy hy=>by simp at hy; rw[<-hy]; exact hc,λj y hj=>absurd hj (by omega)⟩
   ·rw[if_neg hc] at h ⊢
    obtain⟨i,h1,h2,h3,h4⟩:=ih (k+1) h
    refine⟨i+1,by rw[h1]; omega,by simp; omega,λy hy=>h3 y (by simpa using hy),λj y hj hy=>?_⟩
    cases j with
    | zero=>simp at hy; rw[<-hy]; simpa using hc
    | succ j=>exact h4 j y (by omega) (by simpa using hy)
 obtain⟨i,h1,h2⟩:=key xs 0 h
 exact⟨i,by rw[h1]; omega,h2⟩
def Xm1{α:Type}(p:α->Bool)(xs:List α)(j:Nat)(s:List α×Nat):Prop:=s.1.length=xs.length/\s.1.take s.2=(xs.take j).filter (λx=>!(p x))/\s.1.drop j=xs.drop j/\s.2<j
def Xiz{α:Type}{p:α->Bool}{xs:List α}{i:Nat}(h1:i<xs.length)(h2:∀x,xs[i]?=some x->p x=true)(h3:∀j x,j<i->xs[j]?=some x->p x=false):Xm1 p xs (i+1+0) (xs,i):=by
 refine⟨rfl,?_,rfl,by simp⟩
 simp only[Nat.add_zero]
 rw[List.take_succ_eq_append_getElem h1,List.filter_append]
 have e1:(xs.take i).filter (λx=>!(p x))=xs.take i:=by
  rw[List.filter_eq_self]
  intro x hx
  obtain⟨j,hj⟩:=List.getElem?_of_mem hx
  rw[List.getElem?_take] at hj
  split at hj
  ·rename_i hji; simp[h3 j x hji hj]
  ·cases hj
 rw[e1,List.filter_cons,h2 _ (List.getElem?_eq_getElem h1)]
 simp
def XkC{α:Type}{p:α->Bool}{xs:List α}{j:Nat}{s:List α×Nat}(h:Xm1 p xs j s)(hj:j<xs.length):s.1[j]'(by rw[h.1]; exact hj)=xs[j]:=by
 have h1:=h.2.2.1
 rw[List.drop_eq_getElem_cons hj,List.drop_eq_getElem_cons (by rw[h.1]; exact hj)] at h1
 exact(List.cons.inj h1).1
def XiA{α:Type}{p:α->Bool}{xs:List α}{j:Nat}{s:List α×Nat}(h:Xm1 p xs j s)(hj:j<xs.length):Xm1 p xs (j+1) (if p xs[j]=true then s else(s.1.set s.2 xs[j],s.2+1)):=by
 obtain⟨h1,h2,h3,h4⟩:=h
 have h5:s.1.drop (j+1)=xs.drop (j+1):=by
  have:=congrArg (List.drop 1) h3
  simpa[List.drop_drop,Nat.add_comm] using this
 by_cases hp:p xs[j]=true
 ·rw[if_pos hp]
  refine⟨h1,?_,h5,by omega⟩
  rw[h2,List.take_succ_eq_append_getElem hj,List.filter_append,List.filter_cons,hp]
  simp
 ·rw[if_neg hp]
  refine⟨by simp[h1],?_,?_,by simp; omega⟩
  ·simp only
   rw[List.take_succ_eq_append_getElem (by simp; omega),List.getElem_set_self,List.take_set_of_le (Nat.le_refl _),h2,List.take_succ_eq_append_getElem hj,List.filter_append,List.filter_cons]
   simp[hp]
  ·simp only
   rw[List.drop_set_of_lt (by omega)]
   exact h5
def XkD{α:Type}{p:α->Bool}{xs:List α}{j:Nat}{s:List α×Nat}(h:Xm1 p xs j s):s.1.length=xs.length:=h.1
def XkE{α:Type}{p:α->Bool}{xs:List α}{j:Nat}{s:List α×Nat}(h:Xm1 p xs j s)(hj:xs.length<=j):s.1.take s.2=xs.filter (λx=>!(p x)):=by
 rw[h.2.1,List.take_of_length_le hj]
def XcO(z lo n:Nat)(es:List (List AV))(h:lo<=es.length):(YD z lo n es).take lo=es.take lo:=by
 unfold YD
 rw[List.append_assoc,List.take_append_of_le_length (by simp; omega),List.take_take,Nat.min_self]
def XpU:SP Tryz.prog:=mkS tyA 101 Tryz.f101 [Xm0,XpT] {md:=[.mv,.ro 1],rg:=[(0,[0,1],[]),(1,[0,1,5],[]),(2,[0,1,5,12],[]),(3,[0,4],[]),(4,[0,1,5,6],[]),(5,[0,1,5,6,19],[]),(6,[0,1,5,6],[]),(7,[0,1,5,6,7],[]),(8,[0,1,5,6,7,29],[]),(9,[0,1,5,6],[]),(10,[0,1,5,6],[]),(11,[0,5],[]),(12,[0,4],[])],lv:=[(0,[0,1,5,6],[])],out:=[(0,[0,5],[])],rets:=some ([0,4],[])} Tryz.func101 (by kernel_rfl)
@[go_sem] def XGY:XpU.g=101/\XpU.fs=⟨[.mv,.ro 1],XpU.F,false⟩:=⟨nr rfl,nr rfl⟩
@[go_sem] def Xri(xs:List ByteArray)(hb:xs.length<=1048576):XpU.F [.sl .mut 1 (xs.map X8),.fn 103 []]=some (.sl .mut 1 ((xs.filter (λx=>!(eqv x ⟨#[]⟩))).map X8),[.u,.u]):=Xj (xs.length+1) rfl rfl (λcx h=>by
 have hx:xs.length<=9223372036854775806:=by omega
 rcases Int.lt_or_le (XcM (λ(x:ByteArray)=>eqv x ⟨#[]⟩) xs 0) 0 with hn | hn
 ·have hm1:=XgQ (λ(x:ByteArray)=>eqv x ⟨#[]⟩) xs 0 hn
  have hf:=Xiy (λ(x:ByteArray)=>eqv x ⟨#[]⟩) xs hm1
  simp only[go_sem,reduceIte,↓reduceIte,reduceCtorEq,nA,nS,nM,nB,nE,nL,nT,nN,iL,iT,iE,iA,iM,iS,iG,iB,iN,iZ,h,hx,hm1,hf]
 ·obtain⟨i,hi0,hi1,hi2,hi3⟩:=XkB (λ(x:ByteArray)=>eqv x ⟨#[]⟩) xs hn
  have w1:(IntKind.i64).wrap ((i:Int)+1)=((i+1:Nat):Int):=Xm (by omega)
  have hb0:=XF Tryz.f101 0 _ _ rfl rfl
  obtain⟨hI,hr⟩:=YG (cx:=cx) (blk:=0) (body:=YN Tryz.f101 0) (xs.drop (i+1)) (λk (s:List ByteArray×Nat)=>⟨E [(0,.sl .mut 1 (s.1.map X8)),(1,.fn 103 []),(5,.i .i64 (s.2:Nat)),(6,.i .i64 ((i+1+k:Nat):Int))],B []⟩) (λs=>⟨E [(0,.sl .mut 1 (s.1.map X8)),(5,.i .i64 (s.2:Nat))],B []⟩) (λx s=>(if eqv x ⟨#[]⟩ then s else(s.1.set s.2 x,s.2+1))) (λk s=>Xm1 (λ(x:ByteArray)=>eqv x ⟨#[]⟩) xs (i+1+k) s)
    (λs hI G=>by simp only[go_sem,reduceIte,↓reduceIte,reduceCtorEq,nA,nS,nM,nB,nE,nL,nT,nN,iL,iT,iE,iA,iM,iS,iG,iB,iN,iZ,h,Int.lt_irrefl,hb0,XkD hI,show List.take xs.length (List.map X8 s.1)=List.map X8 s.1 from List.take_of_length_le (by rw[List.length_map,hI.1]; exact Nat.le_refl _),show ¬(((i+1+(xs.drop (i+1)).length:Nat):Int)<(xs.length:Int)) by simp; omega]) (λk hk s hI=>by
     have h1:((k:Int)<((xs.drop (i+1)).length:Int)):=Int.ofNat_lt.2 hk
     have hkl:i+1+k<xs.length:=by simp at hk; omega
     have hget:(xs.drop (i+1))[k]=xs[i+1+k]:=by simp
     have hlen:s.1.length=xs.length:=hI.1
     have hsi:s.2<s.1.length:=by have:=hI.2.2.2; omega
     have hcur:s.1[i+1+k]'(by omega)=xs[i+1+k]:=XkC hI hkl
     have j1:(((i+1+k:Nat):Int)<(xs.length:Int)):=Int.ofNat_lt.2 hkl
     have j2:(IntKind.i64).wrap (((i+1+k:Nat):Int)+1)=((i+1+(k+1):Nat):Int):=Xm (by omega)
     have j3:(IntKind.i64).wrap (((s.2:Nat):Int)+1)=((s.2+1:Nat):Int):=Xm (by omega)
     have j4:=YH X8 s.1 (i+1+k) (by omega)
     rw[hcur] at j4
     have j6:=XjP X8 s.1 (i+1+k) (by omega)
     rw[hcur] at j6
     have j7:=XjP X8 s.1 s.2 hsi
     have j5:(s.1.map X8).set s.2 (X8 xs[i+1+k])=(s.1.set s.2 xs[i+1+k]).map X8:=(List.map_set).symm
     have j8:List.take xs.length (List.map X8 s.1)=List.map X8 s.1:=List.take_of_length_le (by rw[List.length_map,hlen]; exact Nat.le_refl _)
     simp only[X8] at j5
     by_cases hd:eqv xs[i+1+k] ⟨#[]⟩=true
     all_goals have hd':=hd
     all_goals try simp only[decide_eq_true_eq] at hd'
     all_goals exact⟨by rw[hget]; exact XiA hI (by omega),_,λG=>by simp only[go_sem,reduceIte,↓reduceIte,reduceCtorEq,nA,nS,nM,nB,nE,nL,nT,nN,iL,iT,iE,iA,iM,iS,iG,iB,iN,iZ,h,j1,j2,j3,j4,j5,j6,j7,j8,hlen,Xt xs.length _ hkl,Xt xs.length s.2 (by omega),hd,hd',h1,Xt _ _ hk,Xm (show k<9223372036854775807 by omega),hb0]<;>with_reducible rfl,by simp only[go_sem,reduceIte,↓reduceIte,reduceCtorEq,nA,nS,nM,nB,nE,nL,nT,nN,iL,iT,iE,iA,iM,iS,iG,iB,iN,iZ,h,hget,hd,hd']⟩) (xs,i) (Xiz hi1 hi2 hi3) (xs.length+1) (by simp<;>omega)
  rw[hb0] at hr
  generalize List.foldl _ _ _=q at hI hr
  have e9:=XkE hI (by simp<;>omega)
  have e8:q.1.length=xs.length:=hI.1
  have e7:q.2<=xs.length:=by have h1:=hI.2.2.2; simp only[List.length_drop] at h1; omega
  have e6:(0:Int)<=(q.2:Int):=by omega
  have e5:(q.2:Int)<=(xs.length:Int):=by omega
  have e4:((i:Int) ==-1)=false:=by simp<;>omega
  have c1:(YD 1 q.2 (xs.length-q.2) (q.1.map X8)).length=xs.length:=by rw[Xa1 (by rw[List.length_map]; omega),List.length_map,e8]
  have c2:(YD 1 q.2 (xs.length-q.2) (q.1.map X8)).take q.2=(xs.filter (λx=>!(eqv x ⟨#[]⟩))).map X8:=by rw[XcO _ _ _ _ (by rw[List.length_map]; omega),<-List.map_take,e9]
  have e3:q.2+(xs.length-q.2)<=xs.length:=by omega
  simp only[go_sem,reduceIte,↓reduceIte,reduceCtorEq,nA,nS,nM,nB,nE,nL,nT,nN,iL,iT,iE,iA,iM,iS,iG,iB,iN,iZ,h,hx,hi0,w1,hr,e8,e7,e6,e5,e4,e3,c1,c2,Int.toNat_natCast,Nat.sub_zero]) (by simp only[go_sem,reduceIte,↓reduceIte,reduceCtorEq,nA,nS,nM,nB,nE,nL,nT,nN,iL,iT,iE,iA,iM,iS,iG,iB,iN,iZ,ZS,XJ])
end
end Go.Vm.A
