/- Functions of the program, walked by the evaluator. -/
import Derived.Test.YtpoannkeaajngaaGreatDoorWb
import Derived.Test.YtpoannkeaajngaaGreatDoorWa
import Derived.Test.YtpoannkeaajngaaGreatDoorFa
import Derived.Test.YtpoannkeaajngaaGreatDoorFb
import Derived.Test.YtpoannkeaajngaaGreatDoorFf
set_option linter.unusedVariables false
set_option linter.unusedSimpArgs false
set_option autoImplicit false
set_option maxRecDepth 100000
set_option maxHeartbeats 4000000
set_option linter.defProp false
namespace Go.Vm.A
open Go.Proofs
open Nat renaming reduceAdd -> nA, reduceSub -> nS, reduceMul -> nM, reduceBEq -> nB, reduceEqDiff -> nE, reduceLeDiff -> nL, reduceLT -> nT, reduceBneDiff -> nN
open Int renaming reduceLE -> iL, reduceLT -> iT, reduceEq -> iE, reduceAdd -> iA, reduceMul -> iM, reduceSub -> iS, reduceNeg -> iG, reduceBEq -> iB, reduceBNe -> iN, reduceToNat -> iZ
noncomputable section
def XpQ:SP Tryz.prog:=mkS tyA 149 Tryz.f149 [s88,Xmi] {md:=[.ro 1],rg:=[(0,[0,2],[2]),(1,[0,2,7],[2]),(2,[2],[2]),(3,[0,2,3],[2]),(4,[0,2,3,10,11],[2]),(5,[0,2,3,10,11,12],[2]),(6,[0,2,3,4,10,11],[2]),(7,[0,2,3,10,11],[2]),(8,[0,2,3,10,11],[2]),(9,[2],[2])],lv:=[(0,[0,2,3,10,11],[2])],out:=[(0,[2,3],[2])],rets:=some ([2],[2])} Tryz.func149 (by kernel_rfl)
@[go_sem] def XGJ:XpQ.g=149/\XpQ.fs=⟨[.ro 1],XpQ.F,false⟩:=⟨nr rfl,nr rfl⟩
@[go_sem] def XGK(t:ByteArray):XpQ.F [.s t]=some (.agg (Qc .mut (XbU t)),[.u]):=Xj (t.data.toList.length+1) rfl rfl (λcx h=>by
 have hu:YQ t=Xa7 Zv 1 64 t:=rfl
 by_cases c:Xa7 Zv 1 64 t=true
 ·have hs:=Xhi c
  have hx:t.data.toList.length<=9223372036854775806:=by rw[<-Xe]; omega
  have hb0:=XF Tryz.f149 0 _ _ rfl rfl
  obtain⟨hI,hr⟩:=YG (cx:=cx) (blk:=0) (body:=YN Tryz.f149 0) t.data.toList (λk (s:Int)=>⟨E [(0,.s t),(2,.p ⟨false,2,[],0⟩),(3,.i .i64 s),(10,.i .i64 t.size),(11,.i .i64 k)],B [(2,[.i .i64 0,.i .i64 0])]⟩) (λs=>⟨E [(2,.p ⟨false,2,[],0⟩),(3,.i .i64 s)],B [(2,[.i .i64 0,.i .i64 0])]⟩) (λx s=>XaH s x) (λk s=>(0<=s/\s<=2147483648))
    (λs hI G=>by simp only[go_sem,reduceIte,↓reduceIte,reduceCtorEq,nA,nS,nM,nB,nE,nL,nT,nN,iL,iT,iE,iA,iM,iS,iG,iB,iN,iZ,h,Int.lt_irrefl,hb0,Xe t]) (λk hk s hI=>by
     have h1:((k:Int)<(t.data.toList.length:Int)):=Int.ofNat_lt.2 hk
     have hz:=UH t k hk
     have hu:=XrI ((t.data.toList[k].toNat:Int)-48)
     have w1:(IntKind.i64).wrap (10*s)=10*s:=YL (by omega) (by omega)
     have w2:(IntKind.i64).wrap ((IntKind.u8).wrap ((t.data.toList[k].toNat:Int)-48))=(IntKind.u8).wrap ((t.data.toList[k].toNat:Int)-48):=YL (by omega) (by omega)
     have w3:(IntKind.i64).wrap (10*s+(IntKind.u8).wrap ((t.data.toList[k].toNat:Int)-48))=10*s+(IntKind.u8).wrap ((t.data.toList[k].toNat:Int)-48):=YL (by omega) (by omega)
     exact⟨XdQ hI _,_,λG=>by simp only[go_sem,reduceIte,↓reduceIte,reduceCtorEq,nA,nS,nM,nB,nE,nL,nT,nN,iL,iT,iE,iA,iM,iS,iG,iB,iN,iZ,h,hz,Xe t,w1,w2,w3,XgS,h1,Xt _ _ hk,Xm (show k<9223372036854775807 by omega),hb0]<;>with_reducible rfl,by simp only[go_sem,reduceIte,↓reduceIte,reduceCtorEq,nA,nS,nM,nB,nE,nL,nT,nN,iL,iT,iE,iA,iM,iS,iG,iB,iN,iZ,h,Xe t,XaH]⟩) 0 (by omega) (t.data.toList.length+1) (Nat.le_refl _)
  rw[hb0] at hr
  have hv:Zn t=t.data.toList.foldl XaH 0:=rfl
  simp only[go_sem,reduceIte,↓reduceIte,reduceCtorEq,nA,nS,nM,nB,nE,nL,nT,nN,iL,iT,iE,iA,iM,iS,iG,iB,iN,iZ,h,XbU,hu,c,hr,hv,Xe t]
 ·simp only[go_sem,reduceIte,↓reduceIte,reduceCtorEq,nA,nS,nM,nB,nE,nL,nT,nN,iL,iT,iE,iA,iM,iS,iG,iB,iN,iZ,h,XbU,hu,c]) (by simp only[go_sem,reduceIte,↓reduceIte,reduceCtorEq,nA,nS,nM,nB,nE,nL,nT,nN,iL,iT,iE,iA,iM,iS,iG,iB,iN,iZ,ZS,XJ,XU,XQ])
def XmY:SP Tryz.prog:=mkS tyA 100 Tryz.f100 [XpQ] {md:=[.ro 1],rg:=[(0,[0],[]),(1,[0,4],[]),(2,[0,4,9,10,11],[]),(3,[0,4,9,10,11,12],[]),(4,[0,4,6,9,10,11],[]),(5,[0,4,7,9,10,11],[7]),(6,[0,4,7,9,10,11,19],[7]),(7,[2,3],[]),(8,[0,4,9,10,11],[]),(9,[0,4,9,10,11],[]),(10,[2,3],[])],lv:=[(0,[0,4,9,10,11],[])],out:=[(0,[4],[])],rets:=some ([2,3],[])} Tryz.func100 (by kernel_rfl)
@[go_sem] def XGL:XmY.g=100/\XmY.fs=⟨[.ro 1],XmY.F,false⟩:=⟨nr rfl,nr rfl⟩
@[go_sem] def XrN(ws:List ByteArray)(h0:ws.length<=1048576):XmY.F [.sl .ro 1 (ws.map X8)]=some (.tup [.sl .mut 1 ((XcN ws).map XfH),.b (ws.all YQ)],[.u]):=Xj (ws.length+1) rfl rfl (λcx h=>by
 have hx:ws.length<=9223372036854775806:=by omega
 have hb0:=XF Tryz.f100 0 _ _ rfl rfl
 obtain⟨r,hr,hq⟩:=ZF (cx:=cx) (blk:=0) (body:=YN Tryz.f100 0) ws (λk (s:List Int)=>⟨E [(0,.sl .ro 1 (ws.map X8)),(4,.sl .mut 1 (s.map XfH)),(9,.sl .ro 1 (ws.map X8)),(10,.i .i64 ws.length),(11,.i .i64 k)],B []⟩) (λs=>⟨E [(4,.sl .mut 1 (s.map XfH))],B []⟩) (λx s=>!YQ x) (λx s=>s++[Zn x]) (λx s=>(.ret,⟨E [(2,.sl .mut 1 []),(3,.b false)],B []⟩)) (λk s=>s.length<=k)
   (λs hI G=>by simp only[go_sem,reduceIte,↓reduceIte,reduceCtorEq,nA,nS,nM,nB,nE,nL,nT,nN,iL,iT,iE,iA,iM,iS,iG,iB,iN,iZ,h,Int.lt_irrefl,hb0,List.length_map]) (λk hk s hI=>by
    have h1:((k:Int)<(ws.length:Int)):=Int.ofNat_lt.2 hk
    have t3:(s.length+1)*8<=140737488355328:=by omega
    have t4:s.map XfH++[[.i .i64 (Zn ws[k])]]=(s++[Zn ws[k]]).map XfH:=by simp[XfH]
    by_cases c0:YQ ws[k]=true
    ·skip
     have d1:XbU ws[k]=⟨0,Zn ws[k]⟩:=by unfold XbU; rw[if_pos c0]
     all_goals exact .inr ⟨by simp[c0],by simp only[List.length_append,List.length_cons,List.length_nil]; omega,_,λG=>by simp only[go_sem,reduceIte,↓reduceIte,reduceCtorEq,nA,nS,nM,nB,nE,nL,nT,nN,iL,iT,iE,iA,iM,iS,iG,iB,iN,iZ,h,t3,t4,d1,YH X8 ws k hk,List.length_map,h1,Xt _ _ hk,Xm (show k<9223372036854775807 by omega),hb0]<;>with_reducible rfl,by simp only[go_sem,reduceIte,↓reduceIte,reduceCtorEq,nA,nS,nM,nB,nE,nL,nT,nN,iL,iT,iE,iA,iM,iS,iG,iB,iN,iZ,h]⟩
    ·have d1:XbU ws[k]=⟨5,0⟩:=by unfold XbU; rw[if_neg c0]
     all_goals exact .inl ⟨by simp[c0],λG=>by simp only[go_sem,reduceIte,↓reduceIte,reduceCtorEq,nA,nS,nM,nB,nE,nL,nT,nN,iL,iT,iE,iA,iM,iS,iG,iB,iN,iZ,h,t3,t4,d1,YH X8 ws k hk,List.length_map,h1,Xt _ _ hk,Xm (show k<9223372036854775807 by omega),hb0]⟩) [] (by simp) (ws.length+1) (Nat.le_refl _)
 rw[hb0] at hr
 rcases hq with⟨s',e1,_,e3⟩ | ⟨x,s',e1,e3⟩
 ·obtain⟨q1,q2⟩:=(ZU _ _).1 _ e1
  rw[XaI,List.nil_append] at q2
  simp only[go_sem,reduceIte,↓reduceIte,reduceCtorEq,nA,nS,nM,nB,nE,nL,nT,nN,iL,iT,iE,iA,iM,iS,iG,iB,iN,iZ,h,h0,hr,e3,q1,q2,XbV q1,List.length_map]
 ·have q1:=(ZU _ _).2 _ e1
  simp only[go_sem,reduceIte,↓reduceIte,reduceCtorEq,nA,nS,nM,nB,nE,nL,nT,nN,iL,iT,iE,iA,iM,iS,iG,iB,iN,iZ,h,h0,hr,e3,q1,XbW q1,List.length_map]) (by simp only[go_sem,reduceIte,↓reduceIte,reduceCtorEq,nA,nS,nM,nB,nE,nL,nT,nN,iL,iT,iE,iA,iM,iS,iG,iB,iN,iZ,ZS,XJ,XU])
def XpR:SP Tryz.prog:=⟨179,⟨[.ro 1,.ro 1],XrF,false⟩,Xq6 (gM:=0) Tryz.func179 (by kernel_rfl) rfl (λIm w (h:tbm 0 Im w)=>h.2) (λs sep m w h1 h2=>Go.Proofs.Tryz.strings_Cut s sep m w h1 h2)⟩
@[go_sem] def XGM:XpR.g=179/\XpR.fs=⟨[.ro 1,.ro 1],XpR.F,false⟩:=⟨nr rfl,nr rfl⟩
@[go_sem] def XGN(x:ByteArray)(h0:x.size<=1048576):XpR.F [.s x,.s ⟨#[61]⟩]=some (.tup [.s (XdN x),.s (QZ x),.b (XaB x)],[.u,.u]):=by
 show XrF [.s x,.s ⟨#[61]⟩]=_
 have hc:(⟨#[61]⟩:ByteArray).data.toList=[61]/\x.size<=1048576:=⟨rfl,h0⟩
 exact if_pos hc
def XoY:SP Tryz.prog:=mkS tyA 146 Tryz.f146 [] {md:=[.ro 1],rets:=some ([2],[])} Tryz.func146 (by kernel_rfl)
@[go_sem] def XGO:XoY.g=146/\XoY.fs=⟨[.ro 1],XoY.F,false⟩:=⟨nr rfl,nr rfl⟩
@[go_sem] def XGP(x:ByteArray):XoY.F [.s x]=some (.s x,[.u]):=Xj (0) rfl rfl (λcx h=>by
 simp only[go_sem,reduceIte,↓reduceIte,reduceCtorEq,nA,nS,nM,nB,nE,nL,nT,nN,iL,iT,iE,iA,iM,iS,iG,iB,iN,iZ,h]) (rfl)
def XpS:SP Tryz.prog:=⟨148,⟨[.ro 1,.ro 1,.ro 1],Xma,false⟩,XoD (gM:=0) Tryz.func148 (by kernel_rfl) rfl (λIm w (h:tbm 0 Im w)=>h.2) (λs old new m w h1 h2 h3 h4=>Go.Proofs.Tryz.strings_ReplaceAll s old new m w h1 h2 h3 h4)⟩
@[go_sem] def XGQ:XpS.g=148/\XpS.fs=⟨[.ro 1,.ro 1,.ro 1],XpS.F,false⟩:=⟨nr rfl,nr rfl⟩
@[go_sem] def XGR(x:ByteArray)(h0:x.size<=1048576):XpS.F [.s x,.s ⟨#[43]⟩,.s ⟨#[32]⟩]=some (.s (UN 43 32 x),[.u,.u,.u]):=by
 show Xma [.s x,.s ⟨#[43]⟩,.s ⟨#[32]⟩]=_
 have hc:(⟨#[43]⟩:ByteArray).data.toList=[43]/\(⟨#[32]⟩:ByteArray).data.toList=[32]/\x.size<=1048576:=⟨rfl,rfl,h0⟩
 exact if_pos hc
def XoZ:SP Tryz.prog:=mkS tyA 147 Tryz.f147 [XpS] {md:=[.ro 1],rets:=some ([2],[])} Tryz.func147 (by kernel_rfl)
@[go_sem] def XGS:XoZ.g=147/\XoZ.fs=⟨[.ro 1],XoZ.F,false⟩:=⟨nr rfl,nr rfl⟩
@[go_sem] def XGT(x:ByteArray)(h0:x.size<=1048576):XoZ.F [.s x]=some (.s (UN 43 32 x),[.u]):=Xj (0) rfl rfl (λcx h=>by
 simp only[go_sem,reduceIte,↓reduceIte,reduceCtorEq,nA,nS,nM,nB,nE,nL,nT,nN,iL,iT,iE,iA,iM,iS,iG,iB,iN,iZ,h,h0]) (rfl)
def XmZ:SP Tryz.prog:=mkS tyA 145 Tryz.f145 [XoY,XoZ,XpR] {md:=[.ro 1,.ro 1],rg:=[(0,[0,1],[]),(1,[0,1,6],[]),(2,[0,1,6,13,14,15],[]),(3,[0,1,6,13,14,15,16],[]),(4,[0,1,6,8,13,14,15],[]),(5,[0,1,6,9,10,11,13,14,15],[]),(6,[0,1,6,9,10,13,14,15,26],[]),(7,[4,5],[]),(8,[0,1,6,13,14,15],[]),(9,[0,1,6,13,14,15],[]),(10,[4,5],[])],lv:=[(0,[0,1,6,13,14,15],[])],out:=[(0,[6],[])],rets:=some ([4,5],[]),al:=[19]} Tryz.func145 (by kernel_rfl)
@[go_sem] def XGU:XmZ.g=145/\XmZ.fs=⟨[.ro 1,.ro 1],XmZ.F,false⟩:=⟨nr rfl,nr rfl⟩
@[go_sem] def Xrf(ws:List ByteArray)(h0:smL Zy ws):XmZ.F [.sl .ro 1 (ws.map X8),.fn 146 []]=some (.tup [.sl .mut 2 ((UR (λx=>x) ws).map (Xb .mut)),.b (ws.all XaB)],[.u,.u]):=Xj (ws.length+1) rfl rfl (λcx h=>by
 have hwl:ws.length<=1048576:=h0.1
 have hx:ws.length<=9223372036854775806:=by omega
 have hb0:=XF Tryz.f145 0 _ _ rfl rfl
 obtain⟨r,hr,hq⟩:=ZF (cx:=cx) (blk:=0) (body:=YN Tryz.f145 0) ws (λk (s:List Xg)=>⟨E [(0,.sl .ro 1 (ws.map X8)),(1,.fn 146 []),(6,.sl .mut 2 (s.map (Xb .mut))),(13,.sl .ro 1 (ws.map X8)),(14,.i .i64 ws.length),(15,.i .i64 k)],B []⟩) (λs=>⟨E [(6,.sl .mut 2 (s.map (Xb .mut)))],B []⟩) (λx s=>!XaB x) (λx s=>s++[Xg.mk (XdN x) (QZ x)]) (λx s=>(.ret,⟨E [(4,.sl .mut 2 []),(5,.b false)],B []⟩)) (λk s=>s.length<=k)
   (λs hI G=>by simp only[go_sem,reduceIte,↓reduceIte,reduceCtorEq,nA,nS,nM,nB,nE,nL,nT,nN,iL,iT,iE,iA,iM,iS,iG,iB,iN,iZ,h,Int.lt_irrefl,hb0,List.length_map]) (λk hk s hI=>by
    have h1:((k:Int)<(ws.length:Int)):=Int.ofNat_lt.2 hk
    have t3:(s.length+1)*32<=140737488355328:=by omega
    have z1:ws[k].size<=1048576:=h0.2 _ (List.getElem_mem hk)
    have z3:=XdR ws[k]
    have z2:(QZ ws[k]).size<=1048576:=by omega
    have t4:s.map (Xb .mut)++[[.s (XdN ws[k]),.s (QZ ws[k])]]=(s++[Xg.mk (XdN ws[k]) (QZ ws[k])]).map (Xb .mut):=by simp[Xb]
    by_cases c0:XaB ws[k]=true
    ·skip
     all_goals exact .inr ⟨by simp[c0],by simp only[List.length_append,List.length_cons,List.length_nil]; omega,_,λG=>by simp only[go_sem,reduceIte,↓reduceIte,reduceCtorEq,nA,nS,nM,nB,nE,nL,nT,nN,iL,iT,iE,iA,iM,iS,iG,iB,iN,iZ,h,t3,t4,z1,z2,c0,YH X8 ws k hk,List.length_map,h1,Xt _ _ hk,Xm (show k<9223372036854775807 by omega),hb0]<;>with_reducible rfl,by simp only[go_sem,reduceIte,↓reduceIte,reduceCtorEq,nA,nS,nM,nB,nE,nL,nT,nN,iL,iT,iE,iA,iM,iS,iG,iB,iN,iZ,h]⟩
    ·have c1:XaB ws[k]=false:=by simpa using c0
     all_goals exact .inl ⟨by simp[c0],λG=>by simp only[go_sem,reduceIte,↓reduceIte,reduceCtorEq,nA,nS,nM,nB,nE,nL,nT,nN,iL,iT,iE,iA,iM,iS,iG,iB,iN,iZ,h,t3,t4,z1,z2,YH X8 ws k hk,List.length_map,c1,h1,Xt _ _ hk,Xm (show k<9223372036854775807 by omega),hb0]⟩) [] (by simp) (ws.length+1) (Nat.le_refl _)
 rw[hb0] at hr
 rcases hq with⟨s',e1,_,e3⟩ | ⟨x,s',e1,e3⟩
 ·obtain⟨q1,q2⟩:=(ZU _ _).1 _ e1
  rw[XaI,List.nil_append] at q2
  simp only[go_sem,reduceIte,↓reduceIte,reduceCtorEq,nA,nS,nM,nB,nE,nL,nT,nN,iL,iT,iE,iA,iM,iS,iG,iB,iN,iZ,h,hr,e3,q1,q2,XdS q1,List.length_map]
 ·have q1:=(ZU _ _).2 _ e1
  simp only[go_sem,reduceIte,↓reduceIte,reduceCtorEq,nA,nS,nM,nB,nE,nL,nT,nN,iL,iT,iE,iA,iM,iS,iG,iB,iN,iZ,h,hr,e3,q1,XdT q1,List.length_map]) (by simp only[go_sem,reduceIte,↓reduceIte,reduceCtorEq,nA,nS,nM,nB,nE,nL,nT,nN,iL,iT,iE,iA,iM,iS,iG,iB,iN,iZ,ZS,XJ,XU])
@[go_sem] def Xrg(ws:List ByteArray)(h0:smL Zy ws):XmZ.F [.sl .ro 1 (ws.map X8),.fn 147 []]=some (.tup [.sl .mut 2 ((UR (UN 43 32) ws).map (Xb .mut)),.b (ws.all XaB)],[.u,.u]):=Xj (ws.length+1) rfl rfl (λcx h=>by
 have hwl:ws.length<=1048576:=h0.1
 have hx:ws.length<=9223372036854775806:=by omega
 have hb0:=XF Tryz.f145 0 _ _ rfl rfl
 obtain⟨r,hr,hq⟩:=ZF (cx:=cx) (blk:=0) (body:=YN Tryz.f145 0) ws (λk (s:List Xg)=>⟨E [(0,.sl .ro 1 (ws.map X8)),(1,.fn 147 []),(6,.sl .mut 2 (s.map (Xb .mut))),(13,.sl .ro 1 (ws.map X8)),(14,.i .i64 ws.length),(15,.i .i64 k)],B []⟩) (λs=>⟨E [(6,.sl .mut 2 (s.map (Xb .mut)))],B []⟩) (λx s=>!XaB x) (λx s=>s++[Xg.mk (XdN x) (UN 43 32 (QZ x))]) (λx s=>(.ret,⟨E [(4,.sl .mut 2 []),(5,.b false)],B []⟩)) (λk s=>s.length<=k)
   (λs hI G=>by simp only[go_sem,reduceIte,↓reduceIte,reduceCtorEq,nA,nS,nM,nB,nE,nL,nT,nN,iL,iT,iE,iA,iM,iS,iG,iB,iN,iZ,h,Int.lt_irrefl,hb0,List.length_map]) (λk hk s hI=>by
    have h1:((k:Int)<(ws.length:Int)):=Int.ofNat_lt.2 hk
    have t3:(s.length+1)*32<=140737488355328:=by omega
    have z1:ws[k].size<=1048576:=h0.2 _ (List.getElem_mem hk)
    have z3:=XdR ws[k]
    have z2:(QZ ws[k]).size<=1048576:=by omega
    have t4:s.map (Xb .mut)++[[.s (XdN ws[k]),.s (UN 43 32 (QZ ws[k]))]]=(s++[Xg.mk (XdN ws[k]) (UN 43 32 (QZ ws[k]))]).map (Xb .mut):=by simp[Xb]
    by_cases c0:XaB ws[k]=true
    ·skip
     all_goals exact .inr ⟨by simp[c0],by simp only[List.length_append,List.length_cons,List.length_nil]; omega,_,λG=>by simp only[go_sem,reduceIte,↓reduceIte,reduceCtorEq,nA,nS,nM,nB,nE,nL,nT,nN,iL,iT,iE,iA,iM,iS,iG,iB,iN,iZ,h,t3,t4,z1,z2,c0,YH X8 ws k hk,List.length_map,h1,Xt _ _ hk,Xm (show k<9223372036854775807 by omega),hb0]<;>with_reducible rfl,by simp only[go_sem,reduceIte,↓reduceIte,reduceCtorEq,nA,nS,nM,nB,nE,nL,nT,nN,iL,iT,iE,iA,iM,iS,iG,iB,iN,iZ,h]⟩
    ·have c1:XaB ws[k]=false:=by simpa using c0
     all_goals exact .inl ⟨by simp[c0],λG=>by simp only[go_sem,reduceIte,↓reduceIte,reduceCtorEq,nA,nS,nM,nB,nE,nL,nT,nN,iL,iT,iE,iA,iM,iS,iG,iB,iN,iZ,h,t3,t4,z1,z2,YH X8 ws k hk,List.length_map,c1,h1,Xt _ _ hk,Xm (show k<9223372036854775807 by omega),hb0]⟩) [] (by simp) (ws.length+1) (Nat.le_refl _)
 rw[hb0] at hr
 rcases hq with⟨s',e1,_,e3⟩ | ⟨x,s',e1,e3⟩
 ·obtain⟨q1,q2⟩:=(ZU _ _).1 _ e1
  rw[XaI,List.nil_append] at q2
  simp only[go_sem,reduceIte,↓reduceIte,reduceCtorEq,nA,nS,nM,nB,nE,nL,nT,nN,iL,iT,iE,iA,iM,iS,iG,iB,iN,iZ,h,hr,e3,q1,q2,XdS q1,List.length_map]
 ·have q1:=(ZU _ _).2 _ e1
  simp only[go_sem,reduceIte,↓reduceIte,reduceCtorEq,nA,nS,nM,nB,nE,nL,nT,nN,iL,iT,iE,iA,iM,iS,iG,iB,iN,iZ,h,hr,e3,q1,XdT q1,List.length_map]) (by simp only[go_sem,reduceIte,↓reduceIte,reduceCtorEq,nA,nS,nM,nB,nE,nL,nT,nN,iL,iT,iE,iA,iM,iS,iG,iB,iN,iZ,ZS,XJ,XU])
def s97:SP Tryz.prog:=mkS tyA 97 Tryz.f97 [XmY,XmZ,XoY] {md:=[.ro 1],rg:=[(0,[0,2,6,46,47],[2]),(1,[0,2,6,10,46,47],[2]),(2,[2,3,6,46,47],[2]),(3,[0,2,4,5,6,46,47],[2]),(4,[0,2,4,5,6,7,46,47],[2]),(5,[0,2,4,6,29,46,47],[2]),(6,[2,3,6,46,47],[2]),(7,[2,3,6,46,47],[2])],rets:=some ([2,3,6,46,47],[2]),al:=[12,18],plan:=[(7,(.take 0 (.take 1 (.take 2 (.take 3 (.take 4 (.take 5 (.take 6 (.take 7 (.take 8 (.take 9 (.take 10 (.take 11 (.take 12 (.take 13 (.take 14 (.take 15 (.take 16 (.take 17 (.one 18 (.one 19 .done)))))))))))))))))))))]} Tryz.func97 (by kernel_rfl)
@[go_sem] def d97:s97.g=97/\s97.fs=⟨[.ro 1],s97.F,false⟩:=⟨nr rfl,nr rfl⟩
@[go_sem] def e97(ws:List ByteArray)(h0:smL Zy ws):s97.F [.sl .ro 1 (ws.map X8)]=some (.tup [.agg (Ud .mut (Zw (XfP ws))),.b (XfP ws).isSome],[.u]):=Xj (0) rfl rfl (λcx h=>by
 rcases ws with _ | ⟨a,ws⟩
 ·simp only[go_sem,reduceIte,↓reduceIte,reduceCtorEq,nA,nS,nM,nB,nE,nL,nT,nN,iL,iT,iE,iA,iM,iS,iG,iB,iN,iZ,h,List.map_cons,List.map_nil,List.length_cons,List.length_nil,Zw,XfP,XG,Option.getD_none,Option.getD_some,Option.isSome_none,Option.isSome_some,List.drop_succ_cons,List.drop_zero,List.take_succ_cons,List.take_zero,Nat.reduceAdd,Int.reduceLT,List.length_map]
 rcases ws with _ | ⟨b,ws⟩
 ·simp only[go_sem,reduceIte,↓reduceIte,reduceCtorEq,nA,nS,nM,nB,nE,nL,nT,nN,iL,iT,iE,iA,iM,iS,iG,iB,iN,iZ,h,List.map_cons,List.map_nil,List.length_cons,List.length_nil,Zw,XfP,XG,Option.getD_none,Option.getD_some,Option.isSome_none,Option.isSome_some,List.drop_succ_cons,List.drop_zero,List.take_succ_cons,List.take_zero,Nat.reduceAdd,Int.reduceLT,List.length_map]
 rcases ws with _ | ⟨m,ws⟩
 ·simp only[go_sem,reduceIte,↓reduceIte,reduceCtorEq,nA,nS,nM,nB,nE,nL,nT,nN,iL,iT,iE,iA,iM,iS,iG,iB,iN,iZ,h,List.map_cons,List.map_nil,List.length_cons,List.length_nil,Zw,XfP,XG,Option.getD_none,Option.getD_some,Option.isSome_none,Option.isSome_some,List.drop_succ_cons,List.drop_zero,List.take_succ_cons,List.take_zero,Nat.reduceAdd,Int.reduceLT,List.length_map]
 rcases ws with _ | ⟨p,ws⟩
 ·simp only[go_sem,reduceIte,↓reduceIte,reduceCtorEq,nA,nS,nM,nB,nE,nL,nT,nN,iL,iT,iE,iA,iM,iS,iG,iB,iN,iZ,h,List.map_cons,List.map_nil,List.length_cons,List.length_nil,Zw,XfP,XG,Option.getD_none,Option.getD_some,Option.isSome_none,Option.isSome_some,List.drop_succ_cons,List.drop_zero,List.take_succ_cons,List.take_zero,Nat.reduceAdd,Int.reduceLT,List.length_map]
 rcases ws with _ | ⟨q,ws⟩
 ·simp only[go_sem,reduceIte,↓reduceIte,reduceCtorEq,nA,nS,nM,nB,nE,nL,nT,nN,iL,iT,iE,iA,iM,iS,iG,iB,iN,iZ,h,List.map_cons,List.map_nil,List.length_cons,List.length_nil,Zw,XfP,XG,Option.getD_none,Option.getD_some,Option.isSome_none,Option.isSome_some,List.drop_succ_cons,List.drop_zero,List.take_succ_cons,List.take_zero,Nat.reduceAdd,Int.reduceLT,List.length_map]
 have hw:smL Zy ws:=⟨by have:=h0.1; simp only[List.length_cons] at this; omega,λx hx=>h0.2 x (by simp[hx])⟩
 have hl:¬(((ws.length+1+1+1+1+1:Nat):Int)<5):=by omega
 have hl2:(0:Int)<=2/\(2:Int)<=((ws.length+1+1+1+1+1:Nat):Int):=by omega
 have hl5:(5:Int)<=((ws.length+1+1+1+1+1:Nat):Int):=by omega
 have tk:List.take (ws.length+1+1+1+1+1-5) (List.map X8 ws)=List.map X8 ws:=List.take_of_length_le (by rw[List.length_map]; omega)
 have i2:YK (ws.length+1+1+1+1+1) 2=some 2:=Xt _ 2 (by omega)
 have i3:YK (ws.length+1+1+1+1+1) 3=some 3:=Xt _ 3 (by omega)
 have i4:YK (ws.length+1+1+1+1+1) 4=some 4:=Xt _ 4 (by omega)
 have e2:=XrN [a,b] (by simp)
 have r2:[a,b].map X8=[[.s a],[.s b]]:=rfl
 rw[r2] at e2
 cases c1:YQ a<;>cases c2:YQ b<;>cases c3:ws.all XaB
 all_goals
  have a2:[a,b].all YQ=(YQ a&&YQ b):=by simp
  rw[c1,c2] at a2
  first
  | (have n2:XcN [a,b]=[]:=XbW (by rw[a2]; rfl); simp only[go_sem,reduceIte,↓reduceIte,reduceCtorEq,nA,nS,nM,nB,nE,nL,nT,nN,iL,iT,iE,iA,iM,iS,iG,iB,iN,iZ,h,e2,a2,n2,c1,c2,c3,hw,hl,hl2,hl5,tk,i2,i3,i4,List.map_cons,List.map_nil,List.length_cons,List.length_nil,Zw,XfP,XG,Option.getD_none,Option.getD_some,Option.isSome_none,Option.isSome_some,List.drop_succ_cons,List.drop_zero,List.take_succ_cons,List.take_zero,Nat.reduceAdd,Int.reduceLT,List.length_map])
  | (have n2:XcN [a,b]=[Zn a,Zn b]:=XbV (by rw[a2]; rfl); simp only[go_sem,reduceIte,↓reduceIte,reduceCtorEq,nA,nS,nM,nB,nE,nL,nT,nN,iL,iT,iE,iA,iM,iS,iG,iB,iN,iZ,h,e2,a2,n2,c1,c2,c3,hw,hl,hl2,hl5,tk,i2,i3,i4,List.map_cons,List.map_nil,List.length_cons,List.length_nil,Zw,XfP,XG,Option.getD_none,Option.getD_some,Option.isSome_none,Option.isSome_some,List.drop_succ_cons,List.drop_zero,List.take_succ_cons,List.take_zero,Nat.reduceAdd,Int.reduceLT,List.length_map])) (by simp only[go_sem,reduceIte,↓reduceIte,reduceCtorEq,nA,nS,nM,nB,nE,nL,nT,nN,iL,iT,iE,iA,iM,iS,iG,iB,iN,iZ,ZS,XJ,XU,XQ])
def s98:SP Tryz.prog:=mkS tyA 98 Tryz.f98 [XmY,XmZ,XoZ] {md:=[.ro 1],rg:=[(0,[0,2,6,35,49],[2,8]),(1,[0,2,6,11,35,49],[2,8]),(2,[2,3,6,35,49],[2,8]),(3,[0,2,4,5,6,35,49],[2,8]),(4,[0,2,4,5,6,7,35,49],[2,8]),(5,[0,2,4,6,30,35,49],[2,8]),(6,[2,3,6,35,49],[2,8]),(7,[0,2,4,6,8,35,49],[2,8]),(8,[0,2,4,6,8,35,40,49],[2,8]),(9,[2,4,6,8,35,49],[2,8]),(10,[2,3,6,35,49],[2,8])],rets:=some ([2,3,6,35,49],[2,8]),al:=[13,19],plan:=[(10,(.take 0 (.take 1 (.take 2 (.take 3 (.take 4 (.one 5 (.one 6 .done))))))))]} Tryz.func98 (by kernel_rfl)
@[go_sem] def d98:s98.g=98/\s98.fs=⟨[.ro 1],s98.F,false⟩:=⟨nr rfl,nr rfl⟩
@[go_sem] def e98(ws:List ByteArray)(h0:smL Zy ws):s98.F [.sl .ro 1 (ws.map X8)]=some (.tup [.agg (Ud .mut (Zw (Q4 ws))),.b (Q4 ws).isSome],[.u]):=Xj (0) rfl rfl (λcx h=>by
 rcases ws with _ | ⟨a,ws⟩
 ·simp only[go_sem,reduceIte,↓reduceIte,reduceCtorEq,nA,nS,nM,nB,nE,nL,nT,nN,iL,iT,iE,iA,iM,iS,iG,iB,iN,iZ,h,Q4,List.map_cons,List.map_nil,List.length_cons,List.length_nil,Zw,XG,Option.getD_none,Option.getD_some,Option.isSome_none,Option.isSome_some,List.drop_succ_cons,List.drop_zero,List.take_succ_cons,List.take_zero,Nat.reduceAdd,Int.reduceLT,List.length_map]
 rcases ws with _ | ⟨b,ws⟩
 ·simp only[go_sem,reduceIte,↓reduceIte,reduceCtorEq,nA,nS,nM,nB,nE,nL,nT,nN,iL,iT,iE,iA,iM,iS,iG,iB,iN,iZ,h,Q4,List.map_cons,List.map_nil,List.length_cons,List.length_nil,Zw,XG,Option.getD_none,Option.getD_some,Option.isSome_none,Option.isSome_some,List.drop_succ_cons,List.drop_zero,List.take_succ_cons,List.take_zero,Nat.reduceAdd,Int.reduceLT,List.length_map]
 rcases ws with _ | ⟨m,ws⟩
 ·simp only[go_sem,reduceIte,↓reduceIte,reduceCtorEq,nA,nS,nM,nB,nE,nL,nT,nN,iL,iT,iE,iA,iM,iS,iG,iB,iN,iZ,h,Q4,List.map_cons,List.map_nil,List.length_cons,List.length_nil,Zw,XG,Option.getD_none,Option.getD_some,Option.isSome_none,Option.isSome_some,List.drop_succ_cons,List.drop_zero,List.take_succ_cons,List.take_zero,Nat.reduceAdd,Int.reduceLT,List.length_map]
 have hw:smL Zy ws:=⟨by have:=h0.1; simp only[List.length_cons] at this; omega,λx hx=>h0.2 x (by simp[hx])⟩
 have hm:m.size<=1048576:=h0.2 m (by simp)
 have hm1:m.size<=9223372036854775807:=by omega
 have kb:m.data.toList.map UV=m.data.toList.map XE:=rfl
 have hl:¬(((ws.length+1+1+1:Nat):Int)<3):=by omega
 have hl2:(0:Int)<=2/\(2:Int)<=((ws.length+1+1+1:Nat):Int):=by omega
 have hl5:(3:Int)<=((ws.length+1+1+1:Nat):Int):=by omega
 have tk:List.take (ws.length+1+1+1-3) (List.map X8 ws)=List.map X8 ws:=List.take_of_length_le (by rw[List.length_map]; omega)
 have i2:YK (ws.length+1+1+1) 2=some 2:=Xt _ 2 (by omega)
 have e2:=XrN [a,b] (by simp)
 have r2:[a,b].map X8=[[.s a],[.s b]]:=rfl
 rw[r2] at e2
 cases c1:YQ a<;>cases c2:YQ b<;>cases c3:ws.all XaB<;>cases c4:eqv m ⟨#[45]⟩
 all_goals
  have a2:[a,b].all YQ=(YQ a&&YQ b):=by simp
  rw[c1,c2] at a2
  first
  | (have n2:XcN [a,b]=[]:=XbW (by rw[a2]; rfl); simp only[go_sem,reduceIte,↓reduceIte,reduceCtorEq,nA,nS,nM,nB,nE,nL,nT,nN,iL,iT,iE,iA,iM,iS,iG,iB,iN,iZ,h,e2,a2,n2,c1,c2,c3,c4,hw,hl,hl2,hl5,tk,i2,hm1,kb,Xc,Xa,Q4,List.map_cons,List.map_nil,List.length_cons,List.length_nil,Zw,XG,Option.getD_none,Option.getD_some,Option.isSome_none,Option.isSome_some,List.drop_succ_cons,List.drop_zero,List.take_succ_cons,List.take_zero,Nat.reduceAdd,Int.reduceLT,List.length_map])
  | (have n2:XcN [a,b]=[Zn a,Zn b]:=XbV (by rw[a2]; rfl); simp only[go_sem,reduceIte,↓reduceIte,reduceCtorEq,nA,nS,nM,nB,nE,nL,nT,nN,iL,iT,iE,iA,iM,iS,iG,iB,iN,iZ,h,e2,a2,n2,c1,c2,c3,c4,hw,hl,hl2,hl5,tk,i2,hm1,kb,Xc,Xa,Q4,List.map_cons,List.map_nil,List.length_cons,List.length_nil,Zw,XG,Option.getD_none,Option.getD_some,Option.isSome_none,Option.isSome_some,List.drop_succ_cons,List.drop_zero,List.take_succ_cons,List.take_zero,Nat.reduceAdd,Int.reduceLT,List.length_map])) (by simp only[go_sem,reduceIte,↓reduceIte,reduceCtorEq,nA,nS,nM,nB,nE,nL,nT,nN,iL,iT,iE,iA,iM,iS,iG,iB,iN,iZ,ZS,XJ,XU,XQ])
end
end Go.Vm.A
