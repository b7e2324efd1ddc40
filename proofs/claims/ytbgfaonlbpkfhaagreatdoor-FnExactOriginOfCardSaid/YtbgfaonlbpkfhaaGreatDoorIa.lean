/- Functions of the program, walked by the evaluator. -/
import Derived.Test.YtbgfaonlbpkfhaaGreatDoorWb
import Derived.Test.YtbgfaonlbpkfhaaGreatDoorWa
import Derived.Test.YtbgfaonlbpkfhaaGreatDoorFb
import Derived.Test.YtbgfaonlbpkfhaaGreatDoorFc
import Derived.Test.YtbgfaonlbpkfhaaGreatDoorFe
import Derived.Test.YtbgfaonlbpkfhaaGreatDoorFh
import Derived.Test.YtbgfaonlbpkfhaaGreatDoorFi
import Derived.Test.YtbgfaonlbpkfhaaGreatDoorFj
import Derived.Test.YtbgfaonlbpkfhaaGreatDoorGa
set_option linter.unusedVariables false
set_option linter.unusedSimpArgs false
set_option autoImplicit false
set_option maxRecDepth 100000
set_option maxHeartbeats 4000000
set_option linter.defProp false
namespace Go.Vm.A
open Go.Proofs
open Nat renaming reduceAdd -> nA, reduceSub -> nS, reduceMul -> nM, reduceBEq -> nB, reduceEqDiff -> nE, reduceLeDiff -> nL, reduceLT -> nT, reduceBneDiff -> nN
open Int renaming reduceLE -> iL, reduceLT -> iT, reduceEq -> iE, reduceAdd -> iA, reduceMul -> iM, reduceSub -> iS, reduceNeg -> iG, reduceBEq -> iB, reduceBNe -> iN, reduceToNat -> iZ
noncomputable section
def Xrm:SP Tryz.prog:=mkS tyA 149 Tryz.f149 [] {md:=[.ro 1],rg:=[(0,[0,2,12],[2]),(1,[2,12],[2])],rets:=some ([2,12],[2]),plan:=[(1,(.take 0 (.take 5 (.take 6 (.take 7 (.take 8 (.alt 1 (.take 2 (.alt 3 (.one 4 (.one 9 (.one 10 (.one 11 .done)))) (.one 4 (.alt 3 (.one 9 (.one 10 (.one 11 .done))) (.one 9 (.one 3 (.one 10 (.one 11 .done)))))))) (.one 4 (.alt 1 (.take 2 (.alt 3 (.one 9 (.one 10 (.one 11 .done))) (.one 9 (.one 3 (.one 10 (.one 11 .done)))))) (.one 9 (.one 1 (.take 2 (.one 3 (.one 10 (.one 11 .done)))))))))))))))]} Tryz.func149 (by kernel_rfl)
@[go_sem] def XMY:Xrm.g=149/\Xrm.fs=⟨[.ro 1],Xrm.F,false⟩:=⟨nr rfl,nr rfl⟩
@[go_sem] def XMZ(y0:Int)(y1:List ZM)(h0:smL Xab (Bulk.mk y0 y1).Queue):Xrm.F [.pr [.i .i64 y0,.sl .ro 2 (y1.map (XF .ro))]]=some (.agg (XeW .mut (Bulk.mk y0 y1)),[.u]):=Xb (0) rfl rfl (λcx h=>by
 have h1:(y1.map (XF .ro)).all (·.all plain)=true:=by simp[XF,plain]
 have h2:y1.length*16<=140737488355328:=by have:=h0.1; simp only at this; omega
 have h3:y1.map (XF .ro)=y1.map (XF .mut):=rfl
 simp only[go_sem,reduceIte,↓reduceIte,nA,nM,nB,nL,nT,h,h1,h2]
 try rw[h3]) (by simp only[go_sem,YE,XI,XM])
def Xtj:SP Tryz.prog:=mkS tyA 150 Tryz.f150 [] {md:=[.ro 1],rg:=[(0,[0,2],[2,3]),(1,[0,2,3],[2,3]),(2,[2,3],[2,3]),(3,[2],[2,3])],rets:=some ([2],[2,3])} Tryz.func150 (by kernel_rfl)
@[go_sem] def XM0:Xtj.g=150/\Xtj.fs=⟨[.ro 1],Xtj.F,false⟩:=⟨nr rfl,nr rfl⟩
@[go_sem] def XM1(y2 y3 y4:Int)(y5:List Z2)(h0:smL Xan (Breaker.mk y2 y3 y4 y5).Marks):Xtj.F [.pr [.i .i64 y2,.i .i64 y3,.i .i64 y4,.sl .ro 2 (y5.map (XL .ro))]]=some (.agg (Uc .mut (Breaker.mk y2 y3 y4 y5)),[.u]):=Xb (0) rfl rfl (λcx h=>by
 have h1:(y5.map (XL .ro)).all (·.all plain)=true:=by simp[XL,plain]
 have h2:y5.length*16<=140737488355328:=by have:=h0.1; simp only at this; omega
 have h3:y5.map (XL .ro)=y5.map (XL .mut):=rfl
 simp only[go_sem,reduceIte,↓reduceIte,nA,nM,nB,nE,nT,h,h1,h2]
 rw[h3]) (by simp only[go_sem,YE,XI,XM])
@[go_sem] def Xve(ttt1 ttt2 ttt3 ttt4:AV)(y0:Int)(y1:List ZM)(h0:smL Xab (Bulk.mk y0 y1).Queue):Xrm.F [.pr [.i .i64 y0,.sl .ro 2 (y1.map (XF .ro)),ttt1,ttt2,ttt3,ttt4]]=some (.agg (XeW .mut (Bulk.mk y0 y1)),[.u]):=Xb (0) rfl rfl (λcx h=>by
 have h1:(y1.map (XF .ro)).all (·.all plain)=true:=by simp[XF,plain]
 have h2:y1.length*16<=140737488355328:=by have:=h0.1; simp only at this; omega
 have h3:y1.map (XF .ro)=y1.map (XF .mut):=rfl
 simp only[go_sem,reduceIte,↓reduceIte,nA,nM,nB,nL,nT,h,h1,h2]
 try rw[h3]) (by simp only[go_sem,YE,XI,XM])
def s77:SP Tryz.prog:=mkS tyA 77 Tryz.f77 [Xrm,Xtj] {md:=[.ro 1],rets:=some ([2,10,14],[2]),plan:=[(1,(.take 0 (.take 1 (.take 2 (.take 3 (.take 4 (.take 5 (.take 6 (.take 8 (.take 9 (.take 10 (.one 7 (.one 11 (.take 12 (.one 13 .done)))))))))))))))]} Tryz.func77 (by kernel_rfl)
@[go_sem] def d77:s77.g=77/\s77.fs=⟨[.ro 1],s77.F,false⟩:=⟨nr rfl,nr rfl⟩
@[go_sem] def e77(y6:ByteArray)(y7:Int)(y8:List ZM)(y9 y10 y11:Int)(y12:List Z2)(h0:(smL Xab (Origin.mk y6 (Bulk.mk y7 y8) (Breaker.mk y9 y10 y11 y12)).Bulk.Queue/\smL Xan (Origin.mk y6 (Bulk.mk y7 y8) (Breaker.mk y9 y10 y11 y12)).Breaker.Marks)):s77.F [.pr [.s y6,.i .i64 y7,.sl .ro 2 (y8.map (XF .ro)),.i .i64 y9,.i .i64 y10,.i .i64 y11,.sl .ro 2 (y12.map (XL .ro))]]=some (.agg (Xe .mut (Origin.mk y6 (Bulk.mk y7 y8) (Breaker.mk y9 y10 y11 y12))),[.u]):=Xb (0) rfl rfl (λcx h=>by
 simp only[go_sem,reduceIte,↓reduceIte,nA,nB,nE,nL,nT,h,h0.1,h0.2]) (by simp only[go_sem,YE,XI,XM])
def XkP{α:Type}(p:α->Prop):smL p []:=⟨Nat.zero_le _,λx hx=>by cases hx⟩
def Xbu:Origin:=⟨⟨#[]⟩,⟨0,[]⟩,⟨0,0,0,[]⟩⟩
def QL(v:Shield)(host:ByteArray):XB:=if(XT v !=0)=true then⟨XT v,Xbu⟩ else if X8 v.Origins host<0 then⟨4,Xbu⟩ else⟨0,(v.Origins[(X8 v.Origins host).toNat]?).getD Xbu⟩
def Xc3:Ud Xbu:=⟨by show(0:Nat)<=_; omega,⟨trivial,XkP _⟩,trivial,trivial,trivial,XkP _⟩
def XhZ{v:Shield}(h:YS v)(host:ByteArray):Xaz (QL v host):=by
 unfold QL
 split
 ·exact⟨trivial,Xc3⟩
 split
 ·exact⟨trivial,Xc3⟩
 ·refine⟨trivial,?_⟩
  cases hc:v.Origins[(X8 v.Origins host).toNat]? with
  | none=>exact Xc3
  | some o=>exact h.2.2.2.2.1.2 o (List.mem_of_getElem? hc)
def s27:SP Tryz.prog:=mkS tyA 27 Tryz.f27 [s18,s76,s77] {md:=[.ro 1,.ro 1],rg:=[(0,[1,2,4,22],[2,4]),(1,[1,2,4,5,22],[2,4]),(2,[1,2,4,5,10,22],[2,4]),(3,[4,22],[4]),(4,[2,4,6,22],[2,4]),(5,[2,4,6,16,22],[2,4]),(6,[4,22],[4]),(7,[4,22],[4])],rets:=some ([4,22],[4]),fz:=[2]} Tryz.func27 (by kernel_rfl)
@[go_sem] def d27:s27.g=27/\s27.fs=⟨[.ro 1,.ro 1],s27.F,false⟩:=⟨nr rfl,nr rfl⟩
@[go_sem] def e27(y13 y14 y15 y16 y17 y18 y19 y20:Int)(y21:List ByteArray)(y22 y23 y24 y25 y26 y27 y28 y29 y30 y31 y32 y33:Int)(y34 y35:List XK)(y36:List Origin)(y37:List Xl)(host:ByteArray)(h0:YS (Shield.mk (Config.mk y13 y14 y15 y16 y17 y18 y19 y20 y21 (Lanes.mk y22 y23 y24) (Rules.mk y25 y26 y27 y28 y29)) y30 y31 (Store.mk y32 y33 y34 y35) y36 y37)):s27.F [.agg [.i .i64 y13,.i .i64 y14,.i .i64 y15,.i .i64 y16,.i .i64 y17,.i .i64 y18,.i .i64 y19,.i .i64 y20,.sl .ro 1 (y21.map Ye),.i .i64 y22,.i .i64 y23,.i .i64 y24,.i .i64 y25,.i .i64 y26,.i .i64 y27,.i .i64 y28,.i .i64 y29,.i .i64 y30,.i .i64 y31,.i .i64 y32,.i .i64 y33,.sl .ro 13 (y34.map (Xa .ro)),.sl .ro 13 (y35.map (Xa .ro)),.sl .ro 7 (y36.map (Xe .ro)),.sl .ro 11 (y37.map (Xc .ro))],.s host]=some (.agg (Y3 .mut (QL (Shield.mk (Config.mk y13 y14 y15 y16 y17 y18 y19 y20 y21 (Lanes.mk y22 y23 y24) (Rules.mk y25 y26 y27 y28 y29)) y30 y31 (Store.mk y32 y33 y34 y35) y36 y37) host)),[.u,.u]):=Xb (0) rfl rfl (λcx h=>by
 have hO:=h0.2.2.2.2.1
 simp only at hO
 have h3:y36.length<=9223372036854775806:=by have:=hO.1; omega
 by_cases z:XT (Shield.mk (Config.mk y13 y14 y15 y16 y17 y18 y19 y20 y21 (Lanes.mk y22 y23 y24) (Rules.mk y25 y26 y27 y28 y29)) y30 y31 (Store.mk y32 y33 y34 y35) y36 y37)=0
 rotate_left
 ·have z':(XT (Shield.mk (Config.mk y13 y14 y15 y16 y17 y18 y19 y20 y21 (Lanes.mk y22 y23 y24) (Rules.mk y25 y26 y27 y28 y29)) y30 y31 (Store.mk y32 y33 y34 y35) y36 y37) !=0)=true:=by simpa using z
  simp only[go_sem,reduceIte,↓reduceIte,nA,nB,nE,h,h0,z',QL,Xbu]
 by_cases c:X8 y36 host<0
 ·simp only[go_sem,reduceIte,↓reduceIte,nA,nB,nE,h,h0,z,h3,c,QL,Xbu]
 obtain⟨j,hj1,hj2⟩:=Xed (λx:Origin=>eqv x.Host host) y36 c
 have hj:X8 y36 host=(j:Int):=hj2
 have hjn:¬((j:Int)<0):=by omega
 have e1:=Xh y36.length j hj1
 have e2:=Xi (Xe .ro) y36 j hj1
 have e3:y36[j]?=some y36[j]:=List.getElem?_eq_getElem hj1
 have hm:=hO.2 _ (List.getElem_mem hj1)
 have hm':smL Xab y36[j].Bulk.Queue/\smL Xan y36[j].Breaker.Marks:=⟨hm.2.1.2,hm.2.2.2.2.2⟩
 simp only[go_sem,reduceIte,↓reduceIte,nA,nB,nE,nL,nT,h,h0,z,h3,hj,hjn,e1,e2,e3,hm',QL,Int.toNat_natCast,Option.getD_some]) (by simp only[go_sem,YE,XI,XM])
def Xtk:SP Tryz.prog:=mkS tyA 219 Tryz.f219 [] {md:=[.ro 1],rg:=[(0,[0],[]),(1,[0,4],[]),(2,[2],[]),(3,[2],[])],rets:=some ([2],[]),nz:=true} Tryz.func219 (by kernel_rfl)
@[go_sem] def XM2:Xtk.g=219/\Xtk.fs=⟨[.ro 1],Xtk.F,false⟩:=⟨nr rfl,nr rfl⟩
@[go_sem] def XM3(xs:List ZM)(h0:smL Xab xs):Xtk.F [.sl .ro 2 (xs.map (XF .ro))]=some (.sl .mut 2 (xs.map (XF .mut)),[.u]):=Xl2 (0) rfl rfl (λcx h=>by
 have h0:=h0.1
 have h1:(xs.map (XF .ro)).all (·.all plain)=true:=by simp[XF,plain]
 have h2:xs.length*16<=140737488355328:=by omega
 have h3:xs.map (XF .ro)=xs.map (XF .mut):=rfl
 rcases Nat.eq_zero_or_pos xs.length with hp | hp
 ·obtain rfl:=List.length_eq_zero_iff.1 hp
  simp only[go_sem,reduceIte,↓reduceIte,nA,nM,nB,nE,h]
 ·simp only[go_sem,reduceIte,↓reduceIte,nA,nM,nB,nE,h,h1,h2,hp]
  rw[h3]) (by simp only[go_sem,YE,XI])
def Xtl:SP Tryz.prog:=mkS tyA 151 Tryz.f151 [Xtk] {md:=[.ro 1],rg:=[(0,[1,2],[1,2]),(1,[1,2],[1,2]),(2,[2],[1,2])],rets:=some ([2],[1,2])} Tryz.func151 (by kernel_rfl)
@[go_sem] def XM4:Xtl.g=151/\Xtl.fs=⟨[.ro 1],Xtl.F,false⟩:=⟨nr rfl,nr rfl⟩
@[go_sem] def XM5(y0:Int)(y1:List ZM)(h0:smL Xab (Bulk.mk y0 y1).Queue):Xtl.F [.agg [.i .i64 y0,.sl .ro 2 (y1.map (XF .ro))]]=some (.agg (XeW .mut (Bulk.mk y0 y1)),[.u]):=Xb (0) rfl rfl (λcx h=>by
 simp only[go_sem,reduceIte,↓reduceIte,nA,nB,nE,nT,h,h0]) (by simp only[go_sem,YE,XI,XM])
def Xtm:SP Tryz.prog:=mkS tyA 220 Tryz.f220 [] {md:=[.ro 1],rg:=[(0,[0],[]),(1,[0,4],[]),(2,[2],[]),(3,[2],[])],rets:=some ([2],[]),nz:=true} Tryz.func220 (by kernel_rfl)
@[go_sem] def XM6:Xtm.g=220/\Xtm.fs=⟨[.ro 1],Xtm.F,false⟩:=⟨nr rfl,nr rfl⟩
@[go_sem] def XM7(xs:List Z2)(h0:smL Xan xs):Xtm.F [.sl .ro 2 (xs.map (XL .ro))]=some (.sl .mut 2 (xs.map (XL .mut)),[.u]):=Xl2 (0) rfl rfl (λcx h=>by
 have h0:=h0.1
 have h1:(xs.map (XL .ro)).all (·.all plain)=true:=by simp[XL,plain]
 have h2:xs.length*16<=140737488355328:=by omega
 have h3:xs.map (XL .ro)=xs.map (XL .mut):=rfl
 rcases Nat.eq_zero_or_pos xs.length with hp | hp
 ·obtain rfl:=List.length_eq_zero_iff.1 hp
  simp only[go_sem,reduceIte,↓reduceIte,nA,nM,nB,nE,h]
 ·simp only[go_sem,reduceIte,↓reduceIte,nA,nM,nB,nE,h,h1,h2,hp]
  rw[h3]) (by simp only[go_sem,YE,XI])
def Xtn:SP Tryz.prog:=mkS tyA 152 Tryz.f152 [Xtm] {md:=[.ro 1],rg:=[(0,[1,2],[1,2]),(1,[1,2],[1,2]),(2,[2],[1,2])],rets:=some ([2],[1,2])} Tryz.func152 (by kernel_rfl)
@[go_sem] def XM8:Xtn.g=152/\Xtn.fs=⟨[.ro 1],Xtn.F,false⟩:=⟨nr rfl,nr rfl⟩
@[go_sem] def XM9(y2 y3 y4:Int)(y5:List Z2)(h0:smL Xan (Breaker.mk y2 y3 y4 y5).Marks):Xtn.F [.agg [.i .i64 y2,.i .i64 y3,.i .i64 y4,.sl .ro 2 (y5.map (XL .ro))]]=some (.agg (Uc .mut (Breaker.mk y2 y3 y4 y5)),[.u]):=Xb (0) rfl rfl (λcx h=>by
 simp only[go_sem,reduceIte,↓reduceIte,nA,nB,nE,nT,h,h0]) (by simp only[go_sem,YE,XI,XM])
def s78:SP Tryz.prog:=mkS tyA 78 Tryz.f78 [Xtl,Xtn] {md:=[.ro 1],rets:=some ([2,7,10],[2]),plan:=[(1,(.take 0 (.take 1 (.take 2 (.take 3 (.take 5 (.take 6 (.one 4 (.one 7 (.take 8 (.one 9 .done)))))))))))]} Tryz.func78 (by kernel_rfl)
@[go_sem] def d78:s78.g=78/\s78.fs=⟨[.ro 1],s78.F,false⟩:=⟨nr rfl,nr rfl⟩
@[go_sem] def e78(y6:ByteArray)(y7:Int)(y8:List ZM)(y9 y10 y11:Int)(y12:List Z2)(h0:(smL Xab (Origin.mk y6 (Bulk.mk y7 y8) (Breaker.mk y9 y10 y11 y12)).Bulk.Queue/\smL Xan (Origin.mk y6 (Bulk.mk y7 y8) (Breaker.mk y9 y10 y11 y12)).Breaker.Marks)):s78.F [.agg [.s y6,.i .i64 y7,.sl .ro 2 (y8.map (XF .ro)),.i .i64 y9,.i .i64 y10,.i .i64 y11,.sl .ro 2 (y12.map (XL .ro))]]=some (.agg (Xe .mut (Origin.mk y6 (Bulk.mk y7 y8) (Breaker.mk y9 y10 y11 y12))),[.u]):=Xb (0) rfl rfl (λcx h=>by
 simp only[go_sem,reduceIte,↓reduceIte,nA,nB,nE,nL,nT,h,h0.1,h0.2]) (by simp only[go_sem,YE,XI,XM])
def s28:SP Tryz.prog:=mkS tyA 28 Tryz.f28 [s20,s65,s78] {md:=[.ro 1,.ro 1],rg:=[(0,[1,2,4,24],[2,4]),(1,[1,2,4,5,24],[2,4]),(2,[1,2,4,5,10,24],[2,4]),(3,[4,24],[4]),(4,[2,4,6,24],[2,4]),(5,[2,4,6,17,24],[2,4]),(6,[4,24],[4]),(7,[4,24],[4])],rets:=some ([4,24],[4])} Tryz.func28 (by kernel_rfl)
@[go_sem] def d28:s28.g=28/\s28.fs=⟨[.ro 1,.ro 1],s28.F,false⟩:=⟨nr rfl,nr rfl⟩
@[go_sem] def e28(y13 y14 y15 y16 y17 y18 y19 y20:Int)(y21:List ByteArray)(y22 y23 y24 y25 y26 y27 y28 y29 y30 y31 y32 y33:Int)(y34 y35:List XK)(y36:List Origin)(y37:List Xl)(host:ByteArray)(h0:YS (Shield.mk (Config.mk y13 y14 y15 y16 y17 y18 y19 y20 y21 (Lanes.mk y22 y23 y24) (Rules.mk y25 y26 y27 y28 y29)) y30 y31 (Store.mk y32 y33 y34 y35) y36 y37)):s28.F [.agg [.i .i64 y13,.i .i64 y14,.i .i64 y15,.i .i64 y16,.i .i64 y17,.i .i64 y18,.i .i64 y19,.i .i64 y20,.sl .ro 1 (y21.map Ye),.i .i64 y22,.i .i64 y23,.i .i64 y24,.i .i64 y25,.i .i64 y26,.i .i64 y27,.i .i64 y28,.i .i64 y29,.i .i64 y30,.i .i64 y31,.i .i64 y32,.i .i64 y33,.sl .ro 13 (y34.map (Xa .ro)),.sl .ro 13 (y35.map (Xa .ro)),.sl .ro 7 (y36.map (Xe .ro)),.sl .ro 11 (y37.map (Xc .ro))],.s host]=some (.agg (Y3 .mut (QL (Shield.mk (Config.mk y13 y14 y15 y16 y17 y18 y19 y20 y21 (Lanes.mk y22 y23 y24) (Rules.mk y25 y26 y27 y28 y29)) y30 y31 (Store.mk y32 y33 y34 y35) y36 y37) host)),[.u,.u]):=Xb (0) rfl rfl (λcx h=>by
 have hO:=h0.2.2.2.2.1
 simp only at hO
 have h3:y36.length<=9223372036854775806:=by have:=hO.1; omega
 by_cases z:XT (Shield.mk (Config.mk y13 y14 y15 y16 y17 y18 y19 y20 y21 (Lanes.mk y22 y23 y24) (Rules.mk y25 y26 y27 y28 y29)) y30 y31 (Store.mk y32 y33 y34 y35) y36 y37)=0
 rotate_left
 ·have z':(XT (Shield.mk (Config.mk y13 y14 y15 y16 y17 y18 y19 y20 y21 (Lanes.mk y22 y23 y24) (Rules.mk y25 y26 y27 y28 y29)) y30 y31 (Store.mk y32 y33 y34 y35) y36 y37) !=0)=true:=by simpa using z
  simp only[go_sem,reduceIte,↓reduceIte,nA,nB,nE,h,h0,z',QL,Xbu]
 by_cases c:X8 y36 host<0
 ·simp only[go_sem,reduceIte,↓reduceIte,nA,nB,nE,h,h0,z,h3,c,QL,Xbu]
 obtain⟨j,hj1,hj2⟩:=Xed (λx:Origin=>eqv x.Host host) y36 c
 have hj:X8 y36 host=(j:Int):=hj2
 have hjn:¬((j:Int)<0):=by omega
 have e1:=Xh y36.length j hj1
 have e2:=Xi (Xe .ro) y36 j hj1
 have e3:y36[j]?=some y36[j]:=List.getElem?_eq_getElem hj1
 have hm:=hO.2 _ (List.getElem_mem hj1)
 have hm':smL Xab y36[j].Bulk.Queue/\smL Xan y36[j].Breaker.Marks:=⟨hm.2.1.2,hm.2.2.2.2.2⟩
 simp only[go_sem,reduceIte,↓reduceIte,nA,nB,nE,nL,nT,h,h0,z,h3,hj,hjn,e1,e2,e3,hm',QL,Int.toNat_natCast,Option.getD_some]) (by simp only[go_sem,YE,XI,XM])
def s29:SP Tryz.prog:=mkS tyA 29 Tryz.f29 [s79] {md:=[.ro 1,.ro 1],rg:=[(0,[2,3],[2,3]),(1,[2,3,9],[2,3]),(2,[4],[]),(3,[15],[]),(4,[4],[]),(5,[4],[])],rets:=some ([4],[])} Tryz.func29 (by kernel_rfl)
@[go_sem] def d29:s29.g=29/\s29.fs=⟨[.ro 1,.ro 1],s29.F,false⟩:=⟨nr rfl,nr rfl⟩
@[go_sem] def e29(y38:Int)(y39:ByteArray)(y40:Int)(y41:List ZM)(y42 y43 y44:Int)(y45:List Z2)(y46:Int)(y47:ByteArray)(y48:Int)(y49:List ZM)(y50 y51 y52:Int)(y53:List Z2)(h0:Xaz (XB.mk y38 (Origin.mk y39 (Bulk.mk y40 y41) (Breaker.mk y42 y43 y44 y45)))):s29.F [.agg [.i .i64 y38,.s y39,.i .i64 y40,.sl .ro 2 (y41.map (XF .ro)),.i .i64 y42,.i .i64 y43,.i .i64 y44,.sl .ro 2 (y45.map (XL .ro))],.agg [.i .i64 y46,.s y47,.i .i64 y48,.sl .ro 2 (y49.map (XF .ro)),.i .i64 y50,.i .i64 y51,.i .i64 y52,.sl .ro 2 (y53.map (XL .ro))]]=some (.b (eqv (XB.mk y38 (Origin.mk y39 (Bulk.mk y40 y41) (Breaker.mk y42 y43 y44 y45))) (XB.mk y46 (Origin.mk y47 (Bulk.mk y48 y49) (Breaker.mk y50 y51 y52 y53)))),[.u,.u]):=Xb (0) rfl rfl (λcx h=>by
 obtain⟨q0,q1⟩:=h0
 simp only[go_sem,reduceIte,↓reduceIte,nA,nB,nE,nL,h,Zd,q1]
 simp only[XB.eqv (XB.mk y38 (Origin.mk y39 (Bulk.mk y40 y41) (Breaker.mk y42 y43 y44 y45))) (XB.mk y46 (Origin.mk y47 (Bulk.mk y48 y49) (Breaker.mk y50 y51 y52 y53))),XgE,Zf,Xbs,Bool.and_true]) (rfl)
def XmA:SP Tryz.prog:=mkS tyA 103 Tryz.f103 [] {md:=[.ro 1],rg:=[(0,[0],[]),(1,[0,5],[]),(2,[2],[]),(3,[0,3],[]),(4,[0,3,7],[]),(5,[0,3],[]),(6,[0,3],[]),(7,[2],[])],lv:=[(0,[0,3],[])],out:=[(0,[3],[])],rets:=some ([2],[])} Tryz.func103 (by kernel_rfl)
@[go_sem] def XNa:XmA.g=103/\XmA.fs=⟨[.ro 1],XmA.F,false⟩:=⟨nr rfl,nr rfl⟩
@[go_sem] def XNb(k:Int)(h0:k+1<=9223372036854775807):XmA.F [.i .i64 k]=some (.s (XbG k),[.u]):=Xb (k.toNat+1) rfl rfl (λcx h=>by
 have hb:=Xg Tryz.f103 0 _ _ rfl rfl
 have lp:=Xgl (cx:=cx) (blk:=0) (body:=XN Tryz.f103 0) (λ(p:Int×ByteArray)=>⟨E [(0,.i .i64 p.1),(3,.s p.2)],B []⟩) (λp=>0<=p.1/\p.1+p.2.size<=9223372036854775807) (λp=>p.1.toNat) (λp r=>r=some (.ex 0,⟨E [(3,.s (XhT p.1.toNat p.1 p.2))],B []⟩)) (λ⟨k,s⟩ ⟨i1,i2⟩=>by
  simp only at i1 i2 ⊢
  by_cases hk:0<k
  ·have e1:k.tdiv 10=k / 10:=Int.tdiv_eq_ediv_of_nonneg i1
   have e2:k.tmod 10=k%10:=Int.tmod_eq_emod_of_nonneg i1
   have w1:(IntKind.i64).wrap (48+k.tmod 10)=48+k.tmod 10:=Xo (by omega) (by omega)
   have w2:(IntKind.u8).wrap (48+k.tmod 10)=(48+k.tmod 10)%256:=by simp[IntKind.wrap,IntKind.bits,IntKind.signed]
   have w3:(IntKind.i64).wrap (k.tdiv 10)=k.tdiv 10:=Xo (by omega) (by omega)
   have z2:(#[UInt8.ofNat ((48+k.tmod 10)%256).toNat]:Array UInt8).size+s.size<=9223372036854775807:=by show 1+s.size<=_; omega
   refine .inr ⟨_,(k.tdiv 10,ByteArray.mk #[UInt8.ofNat ((48+k.tmod 10)%256).toNat]++s),?_,?_,?_,?_,λG=>by simp only[go_sem,reduceIte,↓reduceIte,nA,nM,nB,nE,nL,iE,h,hb,hk,w1,w2,w3,z2,Xeo]; rfl⟩
   ·simp only[go_sem,reduceIte,↓reduceIte,nB,h]
   ·rw[ByteArray.size_append]; exact⟨by show 0<=k.tdiv 10; omega,by show k.tdiv 10+((1+s.size:Nat):Int)<=_; omega⟩
   ·simp only; omega
   ·intro r hr
    rw[hr,show XhT k.toNat k s=XhT (k.tdiv 10).toNat (k.tdiv 10) (ByteArray.mk #[UInt8.ofNat ((48+k.tmod 10)%256).toNat]++s) from by
     obtain⟨m,hm⟩:∃m,k.toNat=m+1:=⟨k.toNat-1,by omega⟩
     rw[hm,XhT,if_pos hk]
     exact XhC _ _ _ _ (by omega) (Nat.le_refl _)]
  ·obtain rfl:k=0:=by omega
   exact .inl λG=>by simp only[go_sem,reduceIte,↓reduceIte,nB,nE,iT,iZ,h,hb,XhT])
 rw[hb] at lp
 unfold XbG
 by_cases hk:k<=0
 ·simp only[go_sem,reduceIte,↓reduceIte,nB,nE,h,hk]
 ·have l1:=lp (k.toNat+1) (k,⟨#[]⟩) ⟨by omega,by show k+((0:Nat):Int)<=_; omega⟩ (Nat.lt_succ_self _)
  have z3:(#[109]:Array UInt8).size+(XhT k.toNat k ⟨#[]⟩).size<=9223372036854775807:=by
   have:=XhB k.toNat k ⟨#[]⟩
   show 1+_<=_
   have e2:(ByteArray.mk #[]).size=0:=rfl
   omega
  simp only[go_sem,reduceIte,↓reduceIte,nB,nE,h,hk,l1,z3]) (rfl)
def s44:SP Tryz.prog:=mkS tyA 44 Tryz.f44 [XmA] {md:=[.mv,.ro 1],rg:=[(0,[0,1],[]),(1,[0,1,5],[]),(2,[0,1,5,9],[]),(3,[0,1,5],[]),(4,[0,1,5],[]),(5,[0,1,5],[]),(6,[0,4],[])],lv:=[(0,[0,1,5],[])],out:=[(0,[0,1],[])],rets:=some ([0,4],[])} Tryz.func44 (by kernel_rfl)
@[go_sem] def d44:s44.g=44/\s44.fs=⟨[.mv,.ro 1],s44.F,false⟩:=⟨nr rfl,nr rfl⟩
@[go_sem] def e44(xs:List ByteArray)(k:Int)(h1:0<=k)(h0:(mkL Qv xs k).2<=9223372036854775807):s44.F [.sl .mut 1 (xs.map Ye),.i .i64 k]=some (.i .i64 (mkL Qv xs k).2,[.sl .mut 1 ((mkL Qv xs k).1.map Ye),.u]):=Xb (xs.length+1) rfl rfl (λcx h=>by
 have hb:=Xg Tryz.f44 0 _ _ rfl rfl
 have hx:=Uy Xbc xs k
 have hr:=(X0 (cx:=cx) (blk:=0) (body:=XN Tryz.f44 0) xs (λi (s:Int)=>⟨E [(0,.sl .mut 1 ((UL Qv xs k i).map Ye)),(1,.i .i64 s),(5,.i .i64 i)],B []⟩) (λ_=>⟨E [(0,.sl .mut 1 ((mkL Qv xs k).1.map Ye)),(1,.i .i64 (mkL Qv xs k).2)],B []⟩) (λx s=>(Qv x s).2) (λi s=>s=Xd5 Qv xs k i)
  (λs hI G=>by simp only[go_sem,reduceIte,↓reduceIte,nB,nE,h,Int.lt_irrefl,hb,UN,UM,YW,hI,QT]) (λi hk s hI=>by
   have h2:((i:Int)<(xs.length:Int)):=Int.ofNat_lt.2 hk
   have g1:=U7 Xbc xs k i
   have g2:=U8 Xbc xs k i hk
   rw[<-hI] at g1 g2
   have h3:=UO (f:=Qv) Ye xs k i hk
   rw[<-hI] at h3
   simp only[Qv,Ye] at h3 g2
   have v0:(IntKind.i64).wrap (s)=s:=Xo (by omega) (by omega)
   have t1:s+1<=9223372036854775807:=by omega
   have v1:(IntKind.i64).wrap (s+1)=s+1:=Xo (by omega) (by omega)
   have hL:i<((UL Qv xs k i).map Ye).length:=by rw[List.length_map,Y2]; exact hk
   have hg:=λy=>Xbb ((UL Qv xs k i).map Ye) i y hL
   have hG:=λy=>UP ((UL Qv xs k i).map Ye) i y hL
   refine⟨by rw[ZQ xs k i hk,<-hI],_,λG=>by simp only[go_sem,reduceIte,↓reduceIte,nB,nE,h,h3,Y2 (f:=Qv) xs k i,Ua (f:=Qv) Ye xs k i hk,QW (f:=Qv) Ye xs k i hk,QV (f:=Qv) Ye xs k i,t1,v1,h2,Xh _ _ hk,Xd (show i<9223372036854775807 by omega),hb]<;>with_reducible rfl,by simp only[go_sem,reduceIte,↓reduceIte,nB,h,Qv]⟩) k rfl (xs.length+1) (Nat.le_refl _)).2
 rw[hb] at hr
 simp only[go_sem,reduceIte,↓reduceIte,nB,nE,h,hr,QU]) (by simp only[go_sem,YE,XI])
def s14:SP Tryz.prog:=mkS tyA 14 Tryz.f14 [s44] {md:=[.mv,.ro 1],rg:=[(0,[0,1,2],[2]),(1,[0,1],[]),(2,[0,4],[])],rets:=some ([0,4],[]),al:=[2]} Tryz.func14 (by kernel_rfl)
@[go_sem] def d14:s14.g=14/\s14.fs=⟨[.mv,.ro 1],s14.F,false⟩:=⟨nr rfl,nr rfl⟩
@[go_sem] def e14(y54 y55 y56 y57 y58 y59 y60 y61:Int)(y62:List ByteArray)(y63 y64 y65 y66 y67 y68 y69 y70 k:Int)(h1:0<=k)(h0:(Zy (Config.mk y54 y55 y56 y57 y58 y59 y60 y61 y62 (Lanes.mk y63 y64 y65) (Rules.mk y66 y67 y68 y69 y70)) k).2<=9223372036854775807):s14.F [.agg [.i .i64 y54,.i .i64 y55,.i .i64 y56,.i .i64 y57,.i .i64 y58,.i .i64 y59,.i .i64 y60,.i .i64 y61,.sl .mut 1 (y62.map Ye),.i .i64 y63,.i .i64 y64,.i .i64 y65,.i .i64 y66,.i .i64 y67,.i .i64 y68,.i .i64 y69,.i .i64 y70],.i .i64 k]=some (.i .i64 (Zy (Config.mk y54 y55 y56 y57 y58 y59 y60 y61 y62 (Lanes.mk y63 y64 y65) (Rules.mk y66 y67 y68 y69 y70)) k).2,[.agg (XbI .mut (Zy (Config.mk y54 y55 y56 y57 y58 y59 y60 y61 y62 (Lanes.mk y63 y64 y65) (Rules.mk y66 y67 y68 y69 y70)) k).1),.u]):=Xb (0) rfl rfl (λcx h=>by
 obtain⟨q0,hq0⟩:∃q,(mkL Qv y62 k).2=q:=⟨_,rfl⟩
 have b0:=Y0 Xbc y62 k
 rw[hq0] at b0
 have p0:0<=k:=by omega
 simp only[QE,hq0] at h0
 have c0:q0<=9223372036854775807:=by omega
 have d0:¬(q0<0):=by omega
 simp only[go_sem,reduceIte,↓reduceIte,nA,nB,nE,nL,nT,h,p0,c0,hq0,QE]) (by simp only[go_sem,QE,YE,XI,XM])
def Xrn:SP Tryz.prog:=mkS tyA 158 Tryz.f158 [XmA] {md:=[.mv,.ro 1],rg:=[(0,[0,1],[]),(1,[0,1,5],[]),(2,[0,1,5,9],[]),(3,[0,1,5],[]),(4,[0,1,5],[]),(5,[0,1,5],[]),(6,[0,1,5],[]),(7,[0,1,5],[]),(8,[0,4],[])],lv:=[(0,[0,1,5],[])],out:=[(0,[0,1],[])],rets:=some ([0,4],[])} Tryz.func158 (by kernel_rfl)
@[go_sem] def XNc:Xrn.g=158/\Xrn.fs=⟨[.mv,.ro 1],Xrn.F,false⟩:=⟨nr rfl,nr rfl⟩
@[go_sem] def XNd(xs:List Xx)(k:Int)(h1:0<=k)(h0:(mkL X3 xs k).2<=9223372036854775807):Xrn.F [.sl .mut 2 (xs.map (Xj .mut)),.i .i64 k]=some (.i .i64 (mkL X3 xs k).2,[.sl .mut 2 ((mkL X3 xs k).1.map (Xj .mut)),.u]):=Xb (xs.length+1) rfl rfl (λcx h=>by
 have hb:=Xg Tryz.f158 0 _ _ rfl rfl
 have hx:=Uy Z7 xs k
 have hr:=(X0 (cx:=cx) (blk:=0) (body:=XN Tryz.f158 0) xs (λi (s:Int)=>⟨E [(0,.sl .mut 2 ((UL X3 xs k i).map (Xj .mut))),(1,.i .i64 s),(5,.i .i64 i)],B []⟩) (λ_=>⟨E [(0,.sl .mut 2 ((mkL X3 xs k).1.map (Xj .mut))),(1,.i .i64 (mkL X3 xs k).2)],B []⟩) (λx s=>(X3 x s).2) (λi s=>s=Xd5 X3 xs k i)
  (λs hI G=>by simp only[go_sem,reduceIte,↓reduceIte,nB,nE,h,Int.lt_irrefl,hb,UN,UM,YW,hI,QT]) (λi hk s hI=>by
   have h2:((i:Int)<(xs.length:Int)):=Int.ofNat_lt.2 hk
   have g1:=U7 Z7 xs k i
   have g2:=U8 Z7 xs k i hk
   rw[<-hI] at g1 g2
   have h3:=UO (f:=X3) (Xj .mut) xs k i hk
   rw[<-hI] at h3
   simp only[X3,Xj] at h3 g2
   have v0:(IntKind.i64).wrap (s)=s:=Xo (by omega) (by omega)
   have t1:s+1<=9223372036854775807:=by omega
   have v1:(IntKind.i64).wrap (s+1)=s+1:=Xo (by omega) (by omega)
   have t2:s+1+1<=9223372036854775807:=by omega
   have v2:(IntKind.i64).wrap (s+1+1)=s+1+1:=Xo (by omega) (by omega)
   have hL:i<((UL X3 xs k i).map (Xj .mut)).length:=by rw[List.length_map,Y2]; exact hk
   have hg:=λy=>Xbb ((UL X3 xs k i).map (Xj .mut)) i y hL
   have hG:=λy=>UP ((UL X3 xs k i).map (Xj .mut)) i y hL
   refine⟨by rw[ZQ xs k i hk,<-hI],_,λG=>by simp only[go_sem,reduceIte,↓reduceIte,nA,nB,nE,nL,h,h3,hg,hG,Y2 (f:=X3) xs k i,Ua (f:=X3) (Xj .mut) xs k i hk,QW (f:=X3) (Xj .mut) xs k i hk,QV (f:=X3) (Xj .mut) xs k i,t1,v1,t2,v2,h2,Xh _ _ hk,Xd (show i<9223372036854775807 by omega),hb]<;>with_reducible rfl,by simp only[go_sem,reduceIte,↓reduceIte,nB,h,X3]⟩) k rfl (xs.length+1) (Nat.le_refl _)).2
 rw[hb] at hr
 simp only[go_sem,reduceIte,↓reduceIte,nB,nE,h,hr,QU]) (by simp only[go_sem,YE,XI])
def Xto:SP Tryz.prog:=mkS tyA 223 Tryz.f223 [] {md:=[.mv,.ro 1],rg:=[(0,[0,1],[]),(1,[0,1,5],[]),(2,[0,1,5,9],[]),(3,[0,1,5],[]),(4,[0,1,5],[]),(5,[0,1,5],[]),(6,[0,4],[])],lv:=[(0,[0,1,5],[])],out:=[(0,[0,1],[])],rets:=some ([0,4],[])} Tryz.func223 (by kernel_rfl)
@[go_sem] def XNe:Xto.g=223/\Xto.fs=⟨[.mv,.ro 1],Xto.F,false⟩:=⟨nr rfl,nr rfl⟩
@[go_sem] def XNf(xs:List UInt8)(k:Int)(h1:0<=k)(h0:(mkL ZG xs k).2<=9223372036854775807):Xto.F [.sl .mut 1 (xs.map Yq),.i .i64 k]=some (.i .i64 (mkL ZG xs k).2,[.sl .mut 1 ((mkL ZG xs k).1.map Yq),.u]):=Xb (xs.length+1) rfl rfl (λcx h=>by
 have hb:=Xg Tryz.f223 0 _ _ rfl rfl
 have hx:=Uy XbF xs k
 have hr:=(X0 (cx:=cx) (blk:=0) (body:=XN Tryz.f223 0) xs (λi (s:Int)=>⟨E [(0,.sl .mut 1 ((UL ZG xs k i).map Yq)),(1,.i .i64 s),(5,.i .i64 i)],B []⟩) (λ_=>⟨E [(0,.sl .mut 1 ((mkL ZG xs k).1.map Yq)),(1,.i .i64 (mkL ZG xs k).2)],B []⟩) (λx s=>(ZG x s).2) (λi s=>s=Xd5 ZG xs k i)
  (λs hI G=>by simp only[go_sem,reduceIte,↓reduceIte,nB,nE,h,Int.lt_irrefl,hb,UN,UM,YW,hI,QT]) (λi hk s hI=>by
   have h2:((i:Int)<(xs.length:Int)):=Int.ofNat_lt.2 hk
   have g1:=U7 XbF xs k i
   have g2:=U8 XbF xs k i hk
   rw[<-hI] at g1 g2
   have h3:=UO (f:=ZG) Yq xs k i hk
   rw[<-hI] at h3
   simp only[ZG,Yq] at h3 g2
   have v0:(IntKind.i64).wrap (s)=s:=Xo (by omega) (by omega)
   have v1:(IntKind.i64).wrap (s+1)=s+1:=Xo (by omega) (by omega)
   have hL:i<((UL ZG xs k i).map Yq).length:=by rw[List.length_map,Y2]; exact hk
   have hg:=λy=>Xbb ((UL ZG xs k i).map Yq) i y hL
   have hG:=λy=>UP ((UL ZG xs k i).map Yq) i y hL
   refine⟨by rw[ZQ xs k i hk,<-hI],_,λG=>by simp only[go_sem,reduceIte,↓reduceIte,nB,nE,h,h3,Y2 (f:=ZG) xs k i,Ua (f:=ZG) Yq xs k i hk,QW (f:=ZG) Yq xs k i hk,QV (f:=ZG) Yq xs k i,Xqo,v1,h2,Xh _ _ hk,Xd (show i<9223372036854775807 by omega),hb]<;>with_reducible rfl,by simp only[go_sem,reduceIte,↓reduceIte,nB,h,ZG]⟩) k rfl (xs.length+1) (Nat.le_refl _)).2
 rw[hb] at hr
 simp only[go_sem,reduceIte,↓reduceIte,nB,nE,h,hr,QU]) (by simp only[go_sem,YE,XI])
def Xtp:SP Tryz.prog:=mkS tyA 155 Tryz.f155 [s44,XmA,Xrn,Xto] {md:=[.mv,.ro 1],rg:=[(0,[0,1],[]),(1,[0,1,5],[]),(2,[0,1,5,9],[]),(3,[0,1,5],[]),(4,[0,1,5],[]),(5,[0,1,5],[]),(6,[0,1,5],[]),(7,[0,1,5],[]),(8,[0,1,5],[]),(9,[0,1,5],[]),(10,[0,1,5],[]),(11,[0,1,5],[]),(12,[0,1,5],[]),(13,[0,1,5],[]),(14,[0,1,5],[]),(15,[0,1,5],[]),(16,[0,1,5],[]),(17,[0,1,5],[]),(18,[0,1,5],[]),(19,[0,1,5],[]),(20,[0,1,5],[]),(21,[0,1,5],[]),(22,[0,1,5],[]),(23,[0,1,5],[]),(24,[0,1,5],[]),(25,[0,1,5],[]),(26,[0,1,5],[]),(27,[0,4],[])],lv:=[(0,[0,1,5],[])],out:=[(0,[0,1],[])],rets:=some ([0,4],[])} Tryz.func155 (by kernel_rfl)
@[go_sem] def XNg:Xtp.g=155/\Xtp.fs=⟨[.mv,.ro 1],Xtp.F,false⟩:=⟨nr rfl,nr rfl⟩
@[go_sem] def XNh(xs:List XK)(k:Int)(h1:0<=k)(h0:(mkL Yc xs k).2<=9223372036854775807):Xtp.F [.sl .mut 13 (xs.map (Xa .mut)),.i .i64 k]=some (.i .i64 (mkL Yc xs k).2,[.sl .mut 13 ((mkL Yc xs k).1.map (Xa .mut)),.u]):=Xb (xs.length+1) rfl rfl (λcx h=>by
 have hb:=Xg Tryz.f155 0 _ _ rfl rfl
 have hx:=Uy Qx xs k
 have hr:=(X0 (cx:=cx) (blk:=0) (body:=XN Tryz.f155 0) xs (λi (s:Int)=>⟨E [(0,.sl .mut 13 ((UL Yc xs k i).map (Xa .mut))),(1,.i .i64 s),(5,.i .i64 i)],B []⟩) (λ_=>⟨E [(0,.sl .mut 13 ((mkL Yc xs k).1.map (Xa .mut))),(1,.i .i64 (mkL Yc xs k).2)],B []⟩) (λx s=>(Yc x s).2) (λi s=>s=Xd5 Yc xs k i)
  (λs hI G=>by simp only[go_sem,reduceIte,↓reduceIte,nB,nE,h,Int.lt_irrefl,hb,UN,UM,YW,hI,QT]) (λi hk s hI=>by
   have h2:((i:Int)<(xs.length:Int)):=Int.ofNat_lt.2 hk
   have g1:=U7 Qx xs k i
   have g2:=U8 Qx xs k i hk
   rw[<-hI] at g1 g2
   obtain⟨q0,hq0⟩:∃q,(mkL X3 xs[i].Headers (s+1+1)).2=q:=⟨_,rfl⟩
   have b0:=Y0 Z7 xs[i].Headers (s+1+1)
   rw[hq0] at b0
   obtain⟨q1,hq1⟩:∃q,(mkL ZG xs[i].Body (q0)).2=q:=⟨_,rfl⟩
   have b1:=Y0 XbF xs[i].Body (q0)
   rw[hq1] at b1
   obtain⟨q2,hq2⟩:∃q,(mkL Qv xs[i].Tags (q1+1+1+1+1+1+1+1)).2=q:=⟨_,rfl⟩
   have b2:=Y0 Xbc xs[i].Tags (q1+1+1+1+1+1+1+1)
   rw[hq2] at b2
   have h3:=UO (f:=Yc) (Xa .mut) xs k i hk
   rw[<-hI] at h3
   simp only[Yc,Xa,hq0,hq1,hq2] at h3 g2
   have v0:(IntKind.i64).wrap (s)=s:=Xo (by omega) (by omega)
   have t1:s+1<=9223372036854775807:=by omega
   have v1:(IntKind.i64).wrap (s+1)=s+1:=Xo (by omega) (by omega)
   have v2:(IntKind.i64).wrap (s+1+1)=s+1+1:=Xo (by omega) (by omega)
   have p0:0<=s+1+1:=by omega
   have c0:q0<=9223372036854775807:=by omega
   have d0:¬(q0<0):=by omega
   have v3:(IntKind.i64).wrap (q0)=q0:=Xo (by omega) (by omega)
   have p1:0<=q0:=by omega
   have c1:q1<=9223372036854775807:=by omega
   have d1:¬(q1<0):=by omega
   have v4:(IntKind.i64).wrap (q1)=q1:=Xo (by omega) (by omega)
   have v5:(IntKind.i64).wrap (q1+1)=q1+1:=Xo (by omega) (by omega)
   have v6:(IntKind.i64).wrap (q1+1+1)=q1+1+1:=Xo (by omega) (by omega)
   have v7:(IntKind.i64).wrap (q1+1+1+1)=q1+1+1+1:=Xo (by omega) (by omega)
   have v8:(IntKind.i64).wrap (q1+1+1+1+1)=q1+1+1+1+1:=Xo (by omega) (by omega)
   have v9:(IntKind.i64).wrap (q1+1+1+1+1+1)=q1+1+1+1+1+1:=Xo (by omega) (by omega)
   have v10:(IntKind.i64).wrap (q1+1+1+1+1+1+1)=q1+1+1+1+1+1+1:=Xo (by omega) (by omega)
   have v11:(IntKind.i64).wrap (q1+1+1+1+1+1+1+1)=q1+1+1+1+1+1+1+1:=Xo (by omega) (by omega)
   have p2:0<=q1+1+1+1+1+1+1+1:=by omega
   have c2:q2<=9223372036854775807:=by omega
   have d2:¬(q2<0):=by omega
   have v12:(IntKind.i64).wrap (q2)=q2:=Xo (by omega) (by omega)
   have v13:(IntKind.i64).wrap (q2+1)=q2+1:=Xo (by omega) (by omega)
   have hL:i<((UL Yc xs k i).map (Xa .mut)).length:=by rw[List.length_map,Y2]; exact hk
   have hg:=λy=>Xbb ((UL Yc xs k i).map (Xa .mut)) i y hL
   have hG:=λy=>UP ((UL Yc xs k i).map (Xa .mut)) i y hL
   refine⟨by rw[ZQ xs k i hk,<-hI],_,λG=>by simp only[go_sem,reduceIte,↓reduceIte,nA,nB,nE,nL,nT,iE,h,h3,hg,hG,Y2 (f:=Yc) xs k i,Ua (f:=Yc) (Xa .mut) xs k i hk,QW (f:=Yc) (Xa .mut) xs k i hk,QV (f:=Yc) (Xa .mut) xs k i,hq0,hq1,hq2,t1,v1,v2,p0,c0,p1,c1,v5,v6,v7,v8,v9,v10,v11,p2,c2,v13,h2,Xh _ _ hk,Xd (show i<9223372036854775807 by omega),hb]<;>with_reducible rfl,by simp only[go_sem,reduceIte,↓reduceIte,nB,h,Yc,hq0,hq1,hq2]⟩) k rfl (xs.length+1) (Nat.le_refl _)).2
 rw[hb] at hr
 simp only[go_sem,reduceIte,↓reduceIte,nB,nE,h,hr,QU]) (by simp only[go_sem,YE,XI])
def s80:SP Tryz.prog:=mkS tyA 80 Tryz.f80 [Xtp] {md:=[.mv,.ro 1],rg:=[(0,[0,1,2],[2]),(1,[0,1,2],[2]),(2,[0,1],[]),(3,[0,4],[])],rets:=some ([0,4],[]),al:=[2]} Tryz.func80 (by kernel_rfl)
@[go_sem] def d80:s80.g=80/\s80.fs=⟨[.mv,.ro 1],s80.F,false⟩:=⟨nr rfl,nr rfl⟩
@[go_sem] def e80(y54 y55:Int)(y71 y72:List XK)(k:Int)(h1:0<=k)(h0:(Qf (Store.mk y54 y55 y71 y72) k).2<=9223372036854775807):s80.F [.agg [.i .i64 y54,.i .i64 y55,.sl .mut 13 (y71.map (Xa .mut)),.sl .mut 13 (y72.map (Xa .mut))],.i .i64 k]=some (.i .i64 (Qf (Store.mk y54 y55 y71 y72) k).2,[.agg (XdI .mut (Qf (Store.mk y54 y55 y71 y72) k).1),.u]):=Xb (0) rfl rfl (λcx h=>by
 obtain⟨q0,hq0⟩:∃q,(mkL Yc y71 k).2=q:=⟨_,rfl⟩
 have b0:=Y0 Qx y71 k
 rw[hq0] at b0
 have p0:0<=k:=by omega
 obtain⟨q1,hq1⟩:∃q,(mkL Yc y72 q0).2=q:=⟨_,rfl⟩
 have b1:=Y0 Qx y72 q0
 rw[hq1] at b1
 have p1:0<=q0:=by omega
 simp only[Q7,hq0,hq1] at h0
 have c0:q0<=9223372036854775807:=by omega
 have d0:¬(q0<0):=by omega
 have c1:q1<=9223372036854775807:=by omega
 have d1:¬(q1<0):=by omega
 simp only[go_sem,reduceIte,↓reduceIte,nA,nB,nE,nL,nT,h,p0,p1,c0,c1,hq0,hq1,Q7]) (by simp only[go_sem,Q7,YE,XI,XM])
def Xro:SP Tryz.prog:=mkS tyA 156 Tryz.f156 [] {md:=[.mv,.ro 1],rg:=[(0,[0,1],[]),(1,[0,1,5],[]),(2,[0,1,5,9],[]),(3,[0,1,5],[]),(4,[0,1,5],[]),(5,[0,1,5],[]),(6,[0,1,5],[]),(7,[0,1,5],[]),(8,[0,4],[])],lv:=[(0,[0,1,5],[])],out:=[(0,[0,1],[])],rets:=some ([0,4],[])} Tryz.func156 (by kernel_rfl)
@[go_sem] def XNi:Xro.g=156/\Xro.fs=⟨[.mv,.ro 1],Xro.F,false⟩:=⟨nr rfl,nr rfl⟩
@[go_sem] def XNj(xs:List ZM)(k:Int)(h1:0<=k)(h0:(mkL X1 xs k).2<=9223372036854775807):Xro.F [.sl .mut 2 (xs.map (XF .mut)),.i .i64 k]=some (.i .i64 (mkL X1 xs k).2,[.sl .mut 2 ((mkL X1 xs k).1.map (XF .mut)),.u]):=Xb (xs.length+1) rfl rfl (λcx h=>by
 have hb:=Xg Tryz.f156 0 _ _ rfl rfl
 have hx:=Uy Zz xs k
 have hr:=(X0 (cx:=cx) (blk:=0) (body:=XN Tryz.f156 0) xs (λi (s:Int)=>⟨E [(0,.sl .mut 2 ((UL X1 xs k i).map (XF .mut))),(1,.i .i64 s),(5,.i .i64 i)],B []⟩) (λ_=>⟨E [(0,.sl .mut 2 ((mkL X1 xs k).1.map (XF .mut))),(1,.i .i64 (mkL X1 xs k).2)],B []⟩) (λx s=>(X1 x s).2) (λi s=>s=Xd5 X1 xs k i)
  (λs hI G=>by simp only[go_sem,reduceIte,↓reduceIte,nB,nE,h,Int.lt_irrefl,hb,UN,UM,YW,hI,QT]) (λi hk s hI=>by
   have h2:((i:Int)<(xs.length:Int)):=Int.ofNat_lt.2 hk
   have g1:=U7 Zz xs k i
   have g2:=U8 Zz xs k i hk
   rw[<-hI] at g1 g2
   have h3:=UO (f:=X1) (XF .mut) xs k i hk
   rw[<-hI] at h3
   simp only[X1,XF] at h3 g2
   have v0:(IntKind.i64).wrap (s)=s:=Xo (by omega) (by omega)
   have v1:(IntKind.i64).wrap (s+1)=s+1:=Xo (by omega) (by omega)
   have v2:(IntKind.i64).wrap (s+1+1)=s+1+1:=Xo (by omega) (by omega)
   have hL:i<((UL X1 xs k i).map (XF .mut)).length:=by rw[List.length_map,Y2]; exact hk
   have hg:=λy=>Xbb ((UL X1 xs k i).map (XF .mut)) i y hL
   have hG:=λy=>UP ((UL X1 xs k i).map (XF .mut)) i y hL
   refine⟨by rw[ZQ xs k i hk,<-hI],_,λG=>by simp only[go_sem,reduceIte,↓reduceIte,nA,nB,nE,nL,h,h3,hg,hG,Y2 (f:=X1) xs k i,Ua (f:=X1) (XF .mut) xs k i hk,QW (f:=X1) (XF .mut) xs k i hk,QV (f:=X1) (XF .mut) xs k i,v1,v2,h2,Xh _ _ hk,Xd (show i<9223372036854775807 by omega),hb]<;>with_reducible rfl,by simp only[go_sem,reduceIte,↓reduceIte,nB,h,X1]⟩) k rfl (xs.length+1) (Nat.le_refl _)).2
 rw[hb] at hr
 simp only[go_sem,reduceIte,↓reduceIte,nB,nE,h,hr,QU]) (by simp only[go_sem,YE,XI])
def Xrp:SP Tryz.prog:=mkS tyA 157 Tryz.f157 [] {md:=[.mv,.ro 1],rg:=[(0,[0,1],[]),(1,[0,1,5],[]),(2,[0,1,5,9],[]),(3,[0,1,5],[]),(4,[0,1,5],[]),(5,[0,1,5],[]),(6,[0,1,5],[]),(7,[0,1,5],[]),(8,[0,4],[])],lv:=[(0,[0,1,5],[])],out:=[(0,[0,1],[])],rets:=some ([0,4],[])} Tryz.func157 (by kernel_rfl)
@[go_sem] def XNk:Xrp.g=157/\Xrp.fs=⟨[.mv,.ro 1],Xrp.F,false⟩:=⟨nr rfl,nr rfl⟩
@[go_sem] def XNl(xs:List Z2)(k:Int)(h1:0<=k)(h0:(mkL X4 xs k).2<=9223372036854775807):Xrp.F [.sl .mut 2 (xs.map (XL .mut)),.i .i64 k]=some (.i .i64 (mkL X4 xs k).2,[.sl .mut 2 ((mkL X4 xs k).1.map (XL .mut)),.u]):=Xb (xs.length+1) rfl rfl (λcx h=>by
 have hb:=Xg Tryz.f157 0 _ _ rfl rfl
 have hx:=Uy ZA xs k
 have hr:=(X0 (cx:=cx) (blk:=0) (body:=XN Tryz.f157 0) xs (λi (s:Int)=>⟨E [(0,.sl .mut 2 ((UL X4 xs k i).map (XL .mut))),(1,.i .i64 s),(5,.i .i64 i)],B []⟩) (λ_=>⟨E [(0,.sl .mut 2 ((mkL X4 xs k).1.map (XL .mut))),(1,.i .i64 (mkL X4 xs k).2)],B []⟩) (λx s=>(X4 x s).2) (λi s=>s=Xd5 X4 xs k i)
  (λs hI G=>by simp only[go_sem,reduceIte,↓reduceIte,nB,nE,h,Int.lt_irrefl,hb,UN,UM,YW,hI,QT]) (λi hk s hI=>by
   have h2:((i:Int)<(xs.length:Int)):=Int.ofNat_lt.2 hk
   have g1:=U7 ZA xs k i
   have g2:=U8 ZA xs k i hk
   rw[<-hI] at g1 g2
   have h3:=UO (f:=X4) (XL .mut) xs k i hk
   rw[<-hI] at h3
   simp only[X4,XL] at h3 g2
   have v0:(IntKind.i64).wrap (s)=s:=Xo (by omega) (by omega)
   have v1:(IntKind.i64).wrap (s+1)=s+1:=Xo (by omega) (by omega)
   have v2:(IntKind.i64).wrap (s+1+1)=s+1+1:=Xo (by omega) (by omega)
   have hL:i<((UL X4 xs k i).map (XL .mut)).length:=by rw[List.length_map,Y2]; exact hk
   have hg:=λy=>Xbb ((UL X4 xs k i).map (XL .mut)) i y hL
   have hG:=λy=>UP ((UL X4 xs k i).map (XL .mut)) i y hL
   refine⟨by rw[ZQ xs k i hk,<-hI],_,λG=>by simp only[go_sem,reduceIte,↓reduceIte,nA,nB,nE,nL,iE,h,h3,hg,hG,Y2 (f:=X4) xs k i,Ua (f:=X4) (XL .mut) xs k i hk,QW (f:=X4) (XL .mut) xs k i hk,QV (f:=X4) (XL .mut) xs k i,v1,v2,h2,Xh _ _ hk,Xd (show i<9223372036854775807 by omega),hb]<;>with_reducible rfl,by simp only[go_sem,reduceIte,↓reduceIte,nB,h,X4]⟩) k rfl (xs.length+1) (Nat.le_refl _)).2
 rw[hb] at hr
 simp only[go_sem,reduceIte,↓reduceIte,nB,nE,h,hr,QU]) (by simp only[go_sem,YE,XI])
def s81:SP Tryz.prog:=mkS tyA 81 Tryz.f81 [XmA,Xro,Xrp] {md:=[.mv,.ro 1],rg:=[(0,[0,1],[]),(1,[0,1,5],[]),(2,[0,1,5,9],[]),(3,[0,1,5],[]),(4,[0,1,5],[]),(5,[0,1,5],[]),(6,[0,1,5],[]),(7,[0,1,5],[]),(8,[0,1,5],[]),(9,[0,1,5],[]),(10,[0,1,5],[]),(11,[0,1,5],[]),(12,[0,1,5],[]),(13,[0,1,5],[]),(14,[0,1,5],[]),(15,[0,1,5],[]),(16,[0,4],[])],lv:=[(0,[0,1,5],[])],out:=[(0,[0,1],[])],rets:=some ([0,4],[])} Tryz.func81 (by kernel_rfl)
@[go_sem] def d81:s81.g=81/\s81.fs=⟨[.mv,.ro 1],s81.F,false⟩:=⟨nr rfl,nr rfl⟩
@[go_sem] def e81(xs:List Origin)(k:Int)(h1:0<=k)(h0:(mkL Ya xs k).2<=9223372036854775807):s81.F [.sl .mut 7 (xs.map (Xe .mut)),.i .i64 k]=some (.i .i64 (mkL Ya xs k).2,[.sl .mut 7 ((mkL Ya xs k).1.map (Xe .mut)),.u]):=Xb (xs.length+1) rfl rfl (λcx h=>by
 have hb:=Xg Tryz.f81 0 _ _ rfl rfl
 have hx:=Uy Ul xs k
 have hr:=(X0 (cx:=cx) (blk:=0) (body:=XN Tryz.f81 0) xs (λi (s:Int)=>⟨E [(0,.sl .mut 7 ((UL Ya xs k i).map (Xe .mut))),(1,.i .i64 s),(5,.i .i64 i)],B []⟩) (λ_=>⟨E [(0,.sl .mut 7 ((mkL Ya xs k).1.map (Xe .mut))),(1,.i .i64 (mkL Ya xs k).2)],B []⟩) (λx s=>(Ya x s).2) (λi s=>s=Xd5 Ya xs k i)
  (λs hI G=>by simp only[go_sem,reduceIte,↓reduceIte,nB,nE,h,Int.lt_irrefl,hb,UN,UM,YW,hI,QT]) (λi hk s hI=>by
   have h2:((i:Int)<(xs.length:Int)):=Int.ofNat_lt.2 hk
   have g1:=U7 Ul xs k i
   have g2:=U8 Ul xs k i hk
   rw[<-hI] at g1 g2
   obtain⟨q0,hq0⟩:∃q,(mkL X1 xs[i].Bulk.Queue (s+1+1)).2=q:=⟨_,rfl⟩
   have b0:=Y0 Zz xs[i].Bulk.Queue (s+1+1)
   rw[hq0] at b0
   obtain⟨q1,hq1⟩:∃q,(mkL X4 xs[i].Breaker.Marks (q0+1+1+1)).2=q:=⟨_,rfl⟩
   have b1:=Y0 ZA xs[i].Breaker.Marks (q0+1+1+1)
   rw[hq1] at b1
   have h3:=UO (f:=Ya) (Xe .mut) xs k i hk
   rw[<-hI] at h3
   simp only[Ya,Xe,hq0,hq1] at h3 g2
   have v0:(IntKind.i64).wrap (s)=s:=Xo (by omega) (by omega)
   have t1:s+1<=9223372036854775807:=by omega
   have v1:(IntKind.i64).wrap (s+1)=s+1:=Xo (by omega) (by omega)
   have v2:(IntKind.i64).wrap (s+1+1)=s+1+1:=Xo (by omega) (by omega)
   have p0:0<=s+1+1:=by omega
   have c0:q0<=9223372036854775807:=by omega
   have d0:¬(q0<0):=by omega
   have v3:(IntKind.i64).wrap (q0)=q0:=Xo (by omega) (by omega)
   have v4:(IntKind.i64).wrap (q0+1)=q0+1:=Xo (by omega) (by omega)
   have v5:(IntKind.i64).wrap (q0+1+1)=q0+1+1:=Xo (by omega) (by omega)
   have v6:(IntKind.i64).wrap (q0+1+1+1)=q0+1+1+1:=Xo (by omega) (by omega)
   have p1:0<=q0+1+1+1:=by omega
   have c1:q1<=9223372036854775807:=by omega
   have d1:¬(q1<0):=by omega
   have v7:(IntKind.i64).wrap (q1)=q1:=Xo (by omega) (by omega)
   have hL:i<((UL Ya xs k i).map (Xe .mut)).length:=by rw[List.length_map,Y2]; exact hk
   have hg:=λy=>Xbb ((UL Ya xs k i).map (Xe .mut)) i y hL
   have hG:=λy=>UP ((UL Ya xs k i).map (Xe .mut)) i y hL
   refine⟨by rw[ZQ xs k i hk,<-hI],_,λG=>by simp only[go_sem,reduceIte,↓reduceIte,nA,nB,nE,nL,nT,h,h3,hg,hG,Y2 (f:=Ya) xs k i,Ua (f:=Ya) (Xe .mut) xs k i hk,QW (f:=Ya) (Xe .mut) xs k i hk,QV (f:=Ya) (Xe .mut) xs k i,hq0,hq1,t1,v1,v2,p0,c0,v4,v5,v6,p1,c1,h2,Xh _ _ hk,Xd (show i<9223372036854775807 by omega),hb]<;>with_reducible rfl,by simp only[go_sem,reduceIte,↓reduceIte,nB,h,Ya,hq0,hq1]⟩) k rfl (xs.length+1) (Nat.le_refl _)).2
 rw[hb] at hr
 simp only[go_sem,reduceIte,↓reduceIte,nB,nE,h,hr,QU]) (by simp only[go_sem,YE,XI])
end
end Go.Vm.A
