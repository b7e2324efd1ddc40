/- Functions of the program, walked by the evaluator. -/
import Derived.Test.YtpoannkeaajngaaWb
import Derived.Test.YtpoannkeaajngaaWa
import Derived.Test.YtpoannkeaajngaaFa
import Derived.Test.YtpoannkeaajngaaFd
set_option linter.unusedVariables false
set_option linter.unusedSimpArgs false
set_option autoImplicit false
set_option maxRecDepth 100000
set_option maxHeartbeats 4000000
set_option linter.defProp false
namespace Go.Vm.A
open Go.Proofs
open Nat renaming reduceAdd -> nA, reduceSub -> nS, reduceMul -> nM, reduceBEq -> nB, reduceEqDiff -> nE, reduceLeDiff -> nL, reduceLT -> nT, reduceBneDiff -> nN
open Int renaming reduceLE -> iL, reduceLT -> iT, reduceEq -> iE, reduceAdd -> iA, reduceMul -> iM, reduceSub -> iS, reduceNeg -> iG, reduceBEq -> iB, reduceBNe -> iN, reduceToNat -> iZ
noncomputable section
def s35:SP Try.prog:=mkS tyA 35 Try.f35 [] {md:=[.ro 1,.ro 1],rets:=some ([3],[])} Try.func35 (by kernel_rfl)
@[go_sem] def d35:s35.g=35/\s35.fs=⟨[.ro 1,.ro 1],s35.F,false⟩:=⟨nr rfl,nr rfl⟩
@[go_sem] def e35(mAt:Int)(q0:Bool)(t:Int):s35.F [.agg [.i .i64 mAt,.b q0],.pr [.i .i64 t]]=some (.b (decide (t<(XQ.mk mAt q0).At)),[.u,.u]):=Xy (0) rfl rfl (λcx h=>by
 simp only[go_sem,reduceIte,↓reduceIte,reduceCtorEq,nA,nS,nM,nB,nE,nL,nT,nN,iL,iT,iE,iA,iM,iS,iG,iB,iN,iZ,h]) (rfl)
def s27:SP Try.prog:=mkS tyA 27 Try.f27 [s25] {md:=[.ro 1],rets:=some ([2],[])} Try.func27 (by kernel_rfl)
@[go_sem] def d27:s27.g=27/\s27.fs=⟨[.ro 1],s27.F,false⟩:=⟨nr rfl,nr rfl⟩
@[go_sem] def e27(mAt:Int)(q0:Bool):s27.F [.agg [.i .i64 mAt,.b q0]]=some (.b (!XF (XQ.mk mAt q0).At),[.u]):=Xy (0) rfl rfl (λcx h=>by
 simp only[go_sem,reduceIte,↓reduceIte,reduceCtorEq,nA,nS,nM,nB,nE,nL,nT,nN,iL,iT,iE,iA,iM,iS,iG,iB,iN,iZ,h]) (rfl)
def s39:SP Try.prog:=mkS tyA 39 Try.f39 [] {md:=[.ro 1,.ro 1],rets:=some ([4],[])} Try.func39 (by kernel_rfl)
@[go_sem] def d39:s39.g=39/\s39.fs=⟨[.ro 1,.ro 1],s39.F,false⟩:=⟨nr rfl,nr rfl⟩
@[go_sem] def e39(a b:Int)(h0:(XF a=true/\0<=b/\b<=1000000000000000)):s39.F [.i .i64 a,.i .i64 b]=some (.i .i64 (Z2 a b),[.u,.u]):=Xy (0) rfl rfl (λcx h=>by
 have h1:=Y4.1 h0.1
 have h2:(IntKind.i64).wrap (a+b)=a+b:=Xv (by omega) (by omega)
 simp only[go_sem,reduceIte,↓reduceIte,reduceCtorEq,nA,nS,nM,nB,nE,nL,nT,nN,iL,iT,iE,iA,iM,iS,iG,iB,iN,iZ,h,h2,Xdb,Z2]
 try (split<;>first | rfl | (simp only[Option.some.injEq,Prod.mk.injEq,AV.i.injEq,true_and,and_true]; omega))) (rfl)
def s38:SP Try.prog:=mkS tyA 38 Try.f38 [s39] {md:=[.ro 1,.ro 1,.ro 1],rets:=some ([4],[]),plan:=[(1,(.take 0 (.take 1 (.take 2 (.take 3 (.take 5 (.one 4 (.take 6 (.one 7 .done)))))))))]} Try.func38 (by kernel_rfl)
@[go_sem] def d38:s38.g=38/\s38.fs=⟨[.ro 1,.ro 1,.ro 1],s38.F,false⟩:=⟨nr rfl,nr rfl⟩
@[go_sem] def e38(mAt:Int)(q0:Bool)(w q1 q2 q3 q4 t:Int)(h0:(XF (XQ.mk mAt q0).At=true/\0<=w/\w<=1000000)):s38.F [.agg [.i .i64 mAt,.b q0],.pr [.i .i64 w,.i .i64 q1,.i .i64 q2,.i .i64 q3,.i .i64 q4],.pr [.i .i64 t]]=some (.b (decide (Z2 (XQ.mk mAt q0).At w<=t)),[.u,.u,.u]):=Xy (0) rfl rfl (λcx h=>by
 have h1:XF mAt=true/\0<=w/\w<=1000000000000000:=⟨h0.1,h0.2.1,by omega⟩
 simp only[go_sem,reduceIte,↓reduceIte,reduceCtorEq,nA,nS,nM,nB,nE,nL,nT,nN,iL,iT,iE,iA,iM,iS,iG,iB,iN,iZ,h,h1]) (rfl)
def s44:SP Try.prog:=mkS tyA 44 Try.f44 [s27,s35,s38] {md:=[.ro 1,.ro 1],rg:=[(0,[0,1],[]),(1,[0,1,7,8],[]),(2,[0,1,7,8,9],[]),(3,[0,1,5,7,8],[]),(4,[0,1,5,7,8,16],[]),(5,[4],[]),(6,[0,1,7,8],[]),(7,[4],[])],lv:=[(0,[0,1,7,8],[])],out:=[(0,[],[])],rets:=some ([4],[])} Try.func44 (by kernel_rfl)
@[go_sem] def d44:s44.g=44/\s44.fs=⟨[.ro 1,.ro 1],s44.F,false⟩:=⟨nr rfl,nr rfl⟩
@[go_sem] def Xnv(xs:List XQ)(t:Int)(hb:xs.length<=9223372036854775806):s44.F [.sl .ro 2 (xs.map (Xb .ro)),.fn 35 [.pr [.i .i64 t]]]=some (.i .i64 (XaU (λx=>decide (t<x.At)) xs 0),[.u,.u]):=Xy (xs.length+1) rfl rfl (λcx h=>by
 have hx:=hb
 have hb0:=Yk Try.f44 0 _ _ rfl rfl
 obtain⟨r,hr,hq⟩:=ZV (cx:=cx) (blk:=0) (body:=Qz Try.f44 0) xs (λk (s:Nat)=>⟨E [(0,.sl .ro 2 (xs.map (Xb .ro))),(1,.fn 35 [.pr [.i .i64 t]]),(7,.i .i64 xs.length),(8,.i .i64 k)],B []⟩) (λs=>⟨E [],B []⟩) (λx s=>decide (t<x.At)) (λx s=>s+1) (λx s=>(.ret,⟨E [(4,.i .i64 s)],B []⟩)) (λk s=>k=s)
   (λs hI G=>by simp only[go_sem,reduceIte,↓reduceIte,reduceCtorEq,nA,nS,nM,nB,nE,nL,nT,nN,iL,iT,iE,iA,iM,iS,iG,iB,iN,iZ,h,Int.lt_irrefl,hb0,hI]) (λk hk s hI=>by
    have h1:((k:Int)<(xs.length:Int)):=Int.ofNat_lt.2 hk
    obtain rfl:=hI
    exact⟨_,_,_,λG=>by simp only[go_sem,reduceIte,↓reduceIte,reduceCtorEq,nA,nS,nM,nB,nE,nL,nT,nN,iL,iT,iE,iA,iM,iS,iG,iB,iN,iZ,h,YN (Xb .ro) xs _ hk,decide_eq_true_eq,h1,Yg _ _ hk,XJ (show k<9223372036854775807 by omega),hb0]<;>with_reducible rfl,by first | exact Iff.rfl | simp,λhc=>⟨rfl,by simp only[go_sem,reduceIte,↓reduceIte,reduceCtorEq,nA,nS,nM,nB,nE,nL,nT,nN,iL,iT,iE,iA,iM,iS,iG,iB,iN,iZ,h]⟩⟩) 0 rfl (xs.length+1) (Nat.le_refl _)
 rw[hb0] at hr
 rcases hq with⟨s',e1,_,e3⟩ | ⟨x,s',e1,e3⟩
 ·simp only[go_sem,reduceIte,↓reduceIte,reduceCtorEq,nA,nS,nM,nB,nE,nL,nT,nN,iL,iT,iE,iA,iM,iS,iG,iB,iN,iZ,h,hr,e3,Xal e1]
 ·simp only[go_sem,reduceIte,↓reduceIte,reduceCtorEq,nA,nS,nM,nB,nE,nL,nT,nN,iL,iT,iE,iA,iM,iS,iG,iB,iN,iZ,h,hr,e3,UI e1]) (rfl)
@[go_sem] def Xnw(xs:List XQ)(hb:xs.length<=9223372036854775806):s44.F [.sl .ro 2 (xs.map (Xb .ro)),.fn 27 []]=some (.i .i64 (XaU (λx=>!XF x.At) xs 0),[.u,.u]):=Xy (xs.length+1) rfl rfl (λcx h=>by
 have hx:=hb
 have hb0:=Yk Try.f44 0 _ _ rfl rfl
 obtain⟨r,hr,hq⟩:=ZV (cx:=cx) (blk:=0) (body:=Qz Try.f44 0) xs (λk (s:Nat)=>⟨E [(0,.sl .ro 2 (xs.map (Xb .ro))),(1,.fn 27 []),(7,.i .i64 xs.length),(8,.i .i64 k)],B []⟩) (λs=>⟨E [],B []⟩) (λx s=>!XF x.At) (λx s=>s+1) (λx s=>(.ret,⟨E [(4,.i .i64 s)],B []⟩)) (λk s=>k=s)
   (λs hI G=>by simp only[go_sem,reduceIte,↓reduceIte,reduceCtorEq,nA,nS,nM,nB,nE,nL,nT,nN,iL,iT,iE,iA,iM,iS,iG,iB,iN,iZ,h,Int.lt_irrefl,hb0,hI]) (λk hk s hI=>by
    have h1:((k:Int)<(xs.length:Int)):=Int.ofNat_lt.2 hk
    obtain rfl:=hI
    exact⟨_,_,_,λG=>by simp only[go_sem,reduceIte,↓reduceIte,reduceCtorEq,nA,nS,nM,nB,nE,nL,nT,nN,iL,iT,iE,iA,iM,iS,iG,iB,iN,iZ,h,YN (Xb .ro) xs _ hk,decide_eq_true_eq,h1,Yg _ _ hk,XJ (show k<9223372036854775807 by omega),hb0]<;>with_reducible rfl,by first | exact Iff.rfl | simp,λhc=>⟨rfl,by simp only[go_sem,reduceIte,↓reduceIte,reduceCtorEq,nA,nS,nM,nB,nE,nL,nT,nN,iL,iT,iE,iA,iM,iS,iG,iB,iN,iZ,h]⟩⟩) 0 rfl (xs.length+1) (Nat.le_refl _)
 rw[hb0] at hr
 rcases hq with⟨s',e1,_,e3⟩ | ⟨x,s',e1,e3⟩
 ·simp only[go_sem,reduceIte,↓reduceIte,reduceCtorEq,nA,nS,nM,nB,nE,nL,nT,nN,iL,iT,iE,iA,iM,iS,iG,iB,iN,iZ,h,hr,e3,Xal e1]
 ·simp only[go_sem,reduceIte,↓reduceIte,reduceCtorEq,nA,nS,nM,nB,nE,nL,nT,nN,iL,iT,iE,iA,iM,iS,iG,iB,iN,iZ,h,hr,e3,UI e1]) (rfl)
@[go_sem] def Xnx(xs:List XQ)(w q1 q2 q3 q4 t:Int)(hb:xs.length<=9223372036854775806)(h0:Xku (λx=>XF x.At=true/\0<=w/\w<=1000000) xs):s44.F [.sl .ro 2 (xs.map (Xb .ro)),.fn 38 [.pr [.i .i64 w,.i .i64 q1,.i .i64 q2,.i .i64 q3,.i .i64 q4],.pr [.i .i64 t]]]=some (.i .i64 (XaU (λx=>decide (Z2 x.At w<=t)) xs 0),[.u,.u]):=Xy (xs.length+1) rfl rfl (λcx h=>by
 have hx:=hb
 have hb0:=Yk Try.f44 0 _ _ rfl rfl
 obtain⟨r,hr,hq⟩:=ZV (cx:=cx) (blk:=0) (body:=Qz Try.f44 0) xs (λk (s:Nat)=>⟨E [(0,.sl .ro 2 (xs.map (Xb .ro))),(1,.fn 38 [.pr [.i .i64 w,.i .i64 q1,.i .i64 q2,.i .i64 q3,.i .i64 q4],.pr [.i .i64 t]]),(7,.i .i64 xs.length),(8,.i .i64 k)],B []⟩) (λs=>⟨E [],B []⟩) (λx s=>decide (Z2 x.At w<=t)) (λx s=>s+1) (λx s=>(.ret,⟨E [(4,.i .i64 s)],B []⟩)) (λk s=>k=s)
   (λs hI G=>by simp only[go_sem,reduceIte,↓reduceIte,reduceCtorEq,nA,nS,nM,nB,nE,nL,nT,nN,iL,iT,iE,iA,iM,iS,iG,iB,iN,iZ,h,Int.lt_irrefl,hb0,hI]) (λk hk s hI=>by
    have h1:((k:Int)<(xs.length:Int)):=Int.ofNat_lt.2 hk
    obtain rfl:=hI
    have h2:=h0 _ (List.getElem_mem hk)
    simp only at h2
    exact⟨_,_,_,λG=>by simp only[go_sem,reduceIte,↓reduceIte,reduceCtorEq,nA,nS,nM,nB,nE,nL,nT,nN,iL,iT,iE,iA,iM,iS,iG,iB,iN,iZ,h,YN (Xb .ro) xs _ hk,h2,decide_eq_true_eq,h1,Yg _ _ hk,XJ (show k<9223372036854775807 by omega),hb0]<;>with_reducible rfl,by first | exact Iff.rfl | simp,λhc=>⟨rfl,by simp only[go_sem,reduceIte,↓reduceIte,reduceCtorEq,nA,nS,nM,nB,nE,nL,nT,nN,iL,iT,iE,iA,iM,iS,iG,iB,iN,iZ,h]⟩⟩) 0 rfl (xs.length+1) (Nat.le_refl _)
 rw[hb0] at hr
 rcases hq with⟨s',e1,_,e3⟩ | ⟨x,s',e1,e3⟩
 ·simp only[go_sem,reduceIte,↓reduceIte,reduceCtorEq,nA,nS,nM,nB,nE,nL,nT,nN,iL,iT,iE,iA,iM,iS,iG,iB,iN,iZ,h,hr,e3,Xal e1]
 ·simp only[go_sem,reduceIte,↓reduceIte,reduceCtorEq,nA,nS,nM,nB,nE,nL,nT,nN,iL,iT,iE,iA,iM,iS,iG,iB,iN,iZ,h,hr,e3,UI e1]) (rfl)
def s26:SP Try.prog:=mkS tyA 26 Try.f26 [s44] {md:=[.ro 1,.ro 1],rets:=some ([4],[])} Try.func26 (by kernel_rfl)
@[go_sem] def d26:s26.g=26/\s26.fs=⟨[.ro 1,.ro 1],s26.F,false⟩:=⟨nr rfl,nr rfl⟩
@[go_sem] def Xny(xs:List XQ)(t:Int)(hb:xs.length<=9223372036854775806):s26.F [.sl .ro 2 (xs.map (Xb .ro)),.fn 35 [.pr [.i .i64 t]]]=some (.b (xs.any (λx=>decide (t<x.At))),[.u,.u]):=Xy (0) rfl rfl (λcx h=>by
 simp only[go_sem,reduceIte,↓reduceIte,reduceCtorEq,nA,nS,nM,nB,nE,nL,nT,nN,iL,iT,iE,iA,iM,iS,iG,iB,iN,iZ,h,hb,Xam]) (rfl)
@[go_sem] def Xnz(xs:List XQ)(hb:xs.length<=9223372036854775806):s26.F [.sl .ro 2 (xs.map (Xb .ro)),.fn 27 []]=some (.b (xs.any (λx=>!XF x.At)),[.u,.u]):=Xy (0) rfl rfl (λcx h=>by
 simp only[go_sem,reduceIte,↓reduceIte,reduceCtorEq,nA,nS,nM,nB,nE,nL,nT,nN,iL,iT,iE,iA,iM,iS,iG,iB,iN,iZ,h,hb,Xam]) (rfl)
def s29:SP Try.prog:=mkS tyA 29 Try.f29 [] {md:=[.ro 1,.ro 1],rets:=some ([4],[])} Try.func29 (by kernel_rfl)
@[go_sem] def d29:s29.g=29/\s29.fs=⟨[.ro 1,.ro 1],s29.F,false⟩:=⟨nr rfl,nr rfl⟩
@[go_sem] def e29(xAt:Int)(q5:Bool)(yAt:Int)(q6:Bool):s29.F [.agg [.i .i64 xAt,.b q5],.agg [.i .i64 yAt,.b q6]]=some (.i .i64 ((IntKind.i64).wrap ((XQ.mk xAt q5).At-(XQ.mk yAt q6).At)),[.u,.u]):=Xy (0) rfl rfl (λcx h=>by
 simp only[go_sem,reduceIte,↓reduceIte,reduceCtorEq,nA,nS,nM,nB,nE,nL,nT,nN,iL,iT,iE,iA,iM,iS,iG,iB,iN,iZ,h]) (rfl)
def s28:SP Try.prog:=mkS tyA 28 Try.f28 [s29] {md:=[.ro 1,.ro 1],rg:=[(0,[0,1],[]),(1,[0,1,5],[]),(2,[0,1,5,10],[]),(3,[0,1,5],[]),(4,[0,1,5,24],[]),(5,[4],[]),(6,[4],[])],lv:=[(0,[0,1,5],[])],out:=[(0,[],[])],rets:=some ([4],[]),plan:=[(4,(.take 0 (.take 1 (.take 2 (.take 3 (.take 4 (.take 5 (.take 6 (.take 7 (.take 8 (.take 9 (.one 10 (.take 11 .done)))))))))))))]} Try.func28 (by kernel_rfl)
@[go_sem] def d28:s28.g=28/\s28.fs=⟨[.ro 1,.ro 1],s28.F,false⟩:=⟨nr rfl,nr rfl⟩
@[go_sem] def e28(xs:List XQ)(h0:XiV xs=false)(hb:xs.length<=1000):s28.F [.sl .ro 2 (xs.map (Xb .ro)),.fn 29 []]=some (.b (!Yc xs),[.u,.u]):=Xy (xs.length+1) rfl rfl (λcx h=>by
 have w0:(IntKind.i64).wrap ((xs.length:Int)-1)=(xs.length:Int)-1-((0:Nat):Int):=by rw[Xv (by omega) (by omega)]; omega
 have hb0:=Yk Try.f28 0 _ _ rfl rfl
 obtain⟨r,hr,hq⟩:=ZV (cx:=cx) (blk:=0) (body:=Qz Try.f28 0) (xs.zip xs.tail).reverse (λk (s:Unit)=>⟨E [(0,.sl .ro 2 (xs.map (Xb .ro))),(1,.fn 29 []),(5,.i .i64 ((xs.length:Int)-1-k))],B []⟩) (λs=>⟨E [],B []⟩) (λx s=>decide (x.2.At<x.1.At)) (λx s=>()) (λx s=>(.ret,⟨E [(4,.b false)],B []⟩)) (λk s=>True)
   (λs hI G=>by simp only[go_sem,reduceIte,↓reduceIte,reduceCtorEq,nA,nS,nM,nB,nE,nL,nT,nN,iL,iT,iE,iA,iM,iS,iG,iB,iN,iZ,h,Int.lt_irrefl,hb0,show ¬(0<((xs.length:Int)-1-((xs.zip xs.tail).reverse.length:Nat))) by simp; omega]) (λk hk s hI=>by
    have h1:((k:Int)<((xs.zip xs.tail).reverse.length:Int)):=Int.ofNat_lt.2 hk
    have hk2:k<xs.length-1:=by simpa using hk
    have h3:(xs.zip xs.tail).reverse[k]=(xs[xs.length-2-k]'(by omega),xs[xs.length-1-k]'(by omega)):=by
     rw[List.getElem_reverse,Xci]
     have e1:(xs.zip xs.tail).length-1-k=xs.length-2-k:=by rw[Xfe]; omega
     have e2:xs.length-2-k+1=xs.length-1-k:=by omega
     simp only[e1,e2]
    rw[h3]
    have t1:=Y4.1 (ZW h0 (List.getElem_mem (show xs.length-2-k<xs.length by omega)))
    have t2:=Y4.1 (ZW h0 (List.getElem_mem (show xs.length-1-k<xs.length by omega)))
    have i1:((xs.length:Int)-1-k)=((xs.length-1-k:Nat):Int):=by omega
    have i0:0<((xs.length-1-k:Nat):Int):=by omega
    have i2:(IntKind.i64).wrap (((xs.length-1-k:Nat):Int)-1)=((xs.length-2-k:Nat):Int):=by rw[Xv (by omega) (by omega)]; omega
    have i3:(xs.length:Int)-1-(k+1:Nat)=((xs.length-2-k:Nat):Int):=by omega
    have w1:(IntKind.i64).wrap ((xs[xs.length-1-k]'(by omega)).At-(xs[xs.length-2-k]'(by omega)).At)=(xs[xs.length-1-k]'(by omega)).At-(xs[xs.length-2-k]'(by omega)).At:=Xv (by omega) (by omega)
    exact⟨_,_,_,λG=>by simp only[go_sem,reduceIte,↓reduceIte,reduceCtorEq,nA,nS,nM,nB,nE,nL,nT,nN,iL,iT,iE,iA,iM,iS,iG,iB,iN,iZ,h,i1,i0,i2,w1,Yg xs.length _ (show xs.length-1-k<xs.length by omega),Yg xs.length _ (show xs.length-2-k<xs.length by omega),YN (Xb .ro) xs _ (show xs.length-1-k<xs.length by omega),YN (Xb .ro) xs _ (show xs.length-2-k<xs.length by omega),h1,Yg _ _ hk,XJ (show k<9223372036854775807 by omega),hb0]<;>with_reducible rfl,by simp<;>omega,λhc=>⟨trivial,by simp only[go_sem,reduceIte,↓reduceIte,reduceCtorEq,nA,nS,nM,nB,nE,nL,nT,nN,iL,iT,iE,iA,iM,iS,iG,iB,iN,iZ,h,i3]⟩⟩) () trivial (xs.length+1) (by simp<;>omega)
 rw[hb0] at hr
 rcases hq with⟨s',e1,_,e3⟩ | ⟨x,s',e1,e3⟩
 ·have e4:Yc xs=false:=by rw[Yc,<-List.any_reverse]; exact Xak e1
  simp only[go_sem,reduceIte,↓reduceIte,reduceCtorEq,nA,nS,nM,nB,nE,nL,nT,nN,iL,iT,iE,iA,iM,iS,iG,iB,iN,iZ,h,w0,hr,e3,e4]
 ·have e4:Yc xs=true:=by rw[Yc,<-List.any_reverse]; exact(Uc e1).1
  simp only[go_sem,reduceIte,↓reduceIte,reduceCtorEq,nA,nS,nM,nB,nE,nL,nT,nN,iL,iT,iE,iA,iM,iS,iG,iB,iN,iZ,h,w0,hr,e3,e4]) (rfl)
def s10:SP Try.prog:=mkS tyA 10 Try.f10 [s24,s25,s26,s27,s28,s29] {md:=[.ro 1],rg:=[(0,[1],[1]),(1,[1,3],[1]),(2,[2],[]),(3,[1,20],[1]),(4,[2],[]),(5,[1,25],[1]),(6,[2],[]),(7,[1,29],[1]),(8,[2],[]),(9,[34],[]),(10,[2],[]),(11,[2],[])],rets:=some ([2],[])} Try.func10 (by kernel_rfl)
@[go_sem] def d10:s10.g=10/\s10.fs=⟨[.ro 1],s10.F,false⟩:=⟨nr rfl,nr rfl⟩
@[go_sem] def e10(q7 q8 q9:Int)(q10:List XQ)(h0:(Breaker.mk q7 q8 q9 q10).Marks.length<=1048576):s10.F [.agg [.i .i64 q7,.i .i64 q8,.i .i64 q9,.sl .ro 2 (q10.map (Xb .ro))]]=some (.i .i64 (Xd (Breaker.mk q7 q8 q9 q10)),[.u]):=Xy (0) rfl rfl (λcx h=>by
 have hb:q10.length<=9223372036854775806:=by have:=h0; simp only at this; omega
 by_cases c0:(within q7 0 2&&XF q8&&within q9 0 5)=false
 ·simp only[go_sem,reduceIte,↓reduceIte,reduceCtorEq,nA,nS,nM,nB,nE,nL,nT,nN,iL,iT,iE,iA,iM,iS,iG,iB,iN,iZ,h,hb,Xd,c0]
  all_goals (cases hw1:within q7 0 2<;>cases hw2:XF q8<;>cases hw3:within q9 0 5<;>simp_all)
 simp only[Bool.not_eq_false,Bool.and_eq_true] at c0
 obtain⟨⟨d1,d2⟩,d3⟩:=c0
 by_cases c1:60<(q10.length:Int)
 ·simp only[go_sem,reduceIte,↓reduceIte,reduceCtorEq,nA,nS,nM,nB,nE,nL,nT,nN,iL,iT,iE,iA,iM,iS,iG,iB,iN,iZ,h,hb,Xd,d1,d2,d3,c1]
 cases c2:XiV q10
 case true =>
  have c2':(q10.any λx=>!XF x.At)=true:=c2
  simp only[go_sem,reduceIte,↓reduceIte,reduceCtorEq,nA,nS,nM,nB,nE,nL,nT,nN,iL,iT,iE,iA,iM,iS,iG,iB,iN,iZ,h,hb,Xd,d1,d2,d3,c1,c2,c2']
 have c2':(q10.any λx=>!XF x.At)=false:=c2
 have c4:q10.length<=1000:=by omega
 cases c5:Yc q10
 case true=>simp only[go_sem,reduceIte,↓reduceIte,reduceCtorEq,nA,nS,nM,nB,nE,nL,nT,nN,iL,iT,iE,iA,iM,iS,iG,iB,iN,iZ,h,hb,Xd,d1,d2,d3,c1,c2,c2',c4,c5]
 simp only[go_sem,reduceIte,↓reduceIte,reduceCtorEq,nA,nS,nM,nB,nE,nL,nT,nN,iL,iT,iE,iA,iM,iS,iG,iB,iN,iZ,h,hb,Xd,d1,d2,d3,c1,c2,c2',c4,c5]
 all_goals (cases e1:q7 !=0<;>cases e2:q7 !=2<;>cases e3:q9 !=0<;>cases e4:decide (0<(q10.length:Int))<;>simp_all)) (rfl)
def s34:SP Try.prog:=mkS tyA 34 Try.f34 [s24] {md:=[.ro 1],rg:=[(0,[1],[1]),(1,[30],[]),(2,[2],[]),(3,[2],[])],rets:=some ([2],[])} Try.func34 (by kernel_rfl)
@[go_sem] def d34:s34.g=34/\s34.fs=⟨[.ro 1],s34.F,false⟩:=⟨nr rfl,nr rfl⟩
@[go_sem] def e34(q11 q1 q2 q3 q4:Int):s34.F [.agg [.i .i64 q11,.i .i64 q1,.i .i64 q2,.i .i64 q3,.i .i64 q4]]=some (.i .i64 (Xr (Xf.mk q11 q1 q2 q3 q4)),[.u]):=Xy (0) rfl rfl (λcx h=>by
 simp only[go_sem,reduceIte,↓reduceIte,reduceCtorEq,nA,nS,nM,nB,nE,nL,nT,nN,iL,iT,iE,iA,iM,iS,iG,iB,iN,iZ,h]
 simp only[Xr]
 cases within q11 1 1000000<;>cases within q1 1 50<;>cases within q2 1 1000<;>cases within q3 0 1000000<;>cases within q4 1 5<;>rfl) (rfl)
def s15:SP Try.prog:=mkS tyA 15 Try.f15 [s10,s25,s26,s34] {md:=[.ro 1,.ro 1,.ro 1],rg:=[(0,[3,4,5],[3,4,5]),(1,[3,4,5,7],[3,4,5]),(2,[3,4,5,7,12],[3,4,5]),(3,[6],[]),(4,[3,5,8],[3,5]),(5,[3,5,8,17],[3,5]),(6,[6],[]),(7,[33],[]),(8,[6],[]),(9,[6],[])],rets:=some ([6],[]),fz:=[5]} Try.func15 (by kernel_rfl)
@[go_sem] def d15:s15.g=15/\s15.fs=⟨[.ro 1,.ro 1,.ro 1],s15.F,false⟩:=⟨nr rfl,nr rfl⟩
@[go_sem] def e15(q7 q8 q9:Int)(q10:List XQ)(q11 q1 q2 q3 q4 now:Int)(h0:(Breaker.mk q7 q8 q9 q10).Marks.length<=1048576):s15.F [.agg [.i .i64 q7,.i .i64 q8,.i .i64 q9,.sl .ro 2 (q10.map (Xb .ro))],.agg [.i .i64 q11,.i .i64 q1,.i .i64 q2,.i .i64 q3,.i .i64 q4],.i .i64 now]=some (.i .i64 (XD (Breaker.mk q7 q8 q9 q10) (Xf.mk q11 q1 q2 q3 q4) now),[.u,.u,.u]):=Xy (0) rfl rfl (λcx h=>by
 have hb:q10.length<=9223372036854775806:=by have:=h0; simp only at this; omega
 simp only[XD]
 obtain⟨f,hf⟩:∃f,Xd (Breaker.mk q7 q8 q9 q10)=f:=⟨_,rfl⟩
 obtain⟨g,hg⟩:∃g,Xr (Xf.mk q11 q1 q2 q3 q4)=g:=⟨_,rfl⟩
 by_cases c1:f=0
 ·subst c1
  by_cases c2:g=0
  ·subst c2
   simp only[go_sem,reduceIte,↓reduceIte,reduceCtorEq,nA,nS,nM,nB,nE,nL,nT,nN,iL,iT,iE,iA,iM,iS,iG,iB,iN,iZ,h,hb,h0,hf,hg]
   cases XF now<;>by_cases d1:now<q8<;>cases (q10.any λx=>decide (now<x.At))<;>simp[d1]
  ·have c2':(g !=0)=true:=by simpa using c2
   simp only[go_sem,reduceIte,↓reduceIte,reduceCtorEq,nA,nS,nM,nB,nE,nL,nT,nN,iL,iT,iE,iA,iM,iS,iG,iB,iN,iZ,h,hb,h0,hf,hg,c2,c2']
 ·have c1':(f !=0)=true:=by simpa using c1
  simp only[go_sem,reduceIte,↓reduceIte,reduceCtorEq,nA,nS,nM,nB,nE,nL,nT,nN,iL,iT,iE,iA,iM,iS,iG,iB,iN,iZ,h,hb,h0,hf,c1,c1']) (rfl)
def s36:SP Try.prog:=mkS tyA 36 Try.f36 [] {md:=[.ro 1],rg:=[(0,[0],[]),(1,[0,4],[]),(2,[2],[]),(3,[2],[])],rets:=some ([2],[]),nz:=true} Try.func36 (by kernel_rfl)
@[go_sem] def d36:s36.g=36/\s36.fs=⟨[.ro 1],s36.F,false⟩:=⟨nr rfl,nr rfl⟩
@[go_sem] def e36(xs:List XQ)(h0:smL ZB xs):s36.F [.sl .ro 2 (xs.map (Xb .ro))]=some (.sl .mut 2 (xs.map (Xb .mut)),[.u]):=Xkr (0) rfl rfl (λcx h=>by
 have h0:=h0.1
 have h1:(xs.map (Xb .ro)).all (·.all plain)=true:=by simp[Xb,plain]
 have h2:xs.length*16<=140737488355328:=by omega
 have h3:xs.map (Xb .ro)=xs.map (Xb .mut):=rfl
 rcases Nat.eq_zero_or_pos xs.length with hp | hp
 ·obtain rfl:=List.length_eq_zero_iff.1 hp
  simp only[go_sem,reduceIte,↓reduceIte,reduceCtorEq,nA,nS,nM,nB,nE,nL,nT,nN,iL,iT,iE,iA,iM,iS,iG,iB,iN,iZ,h]
 ·simp only[go_sem,reduceIte,↓reduceIte,reduceCtorEq,nA,nS,nM,nB,nE,nL,nT,nN,iL,iT,iE,iA,iM,iS,iG,iB,iN,iZ,h,h1,h2,hp]
  rw[h3]) (by simp only[go_sem,reduceIte,↓reduceIte,reduceCtorEq,nA,nS,nM,nB,nE,nL,nT,nN,iL,iT,iE,iA,iM,iS,iG,iB,iN,iZ,Uo,XW])
def s16:SP Try.prog:=mkS tyA 16 Try.f16 [s36] {md:=[.ro 1],rg:=[(0,[1,2],[1,2]),(1,[1,2],[1,2]),(2,[2],[1,2])],rets:=some ([2],[1,2])} Try.func16 (by kernel_rfl)
@[go_sem] def d16:s16.g=16/\s16.fs=⟨[.ro 1],s16.F,false⟩:=⟨nr rfl,nr rfl⟩
@[go_sem] def e16(q7 q8 q9:Int)(q10:List XQ)(h0:smL ZB (Breaker.mk q7 q8 q9 q10).Marks):s16.F [.agg [.i .i64 q7,.i .i64 q8,.i .i64 q9,.sl .ro 2 (q10.map (Xb .ro))]]=some (.agg (ZH .mut (Breaker.mk q7 q8 q9 q10)),[.u]):=Xy (0) rfl rfl (λcx h=>by
 simp only[go_sem,reduceIte,↓reduceIte,reduceCtorEq,nA,nS,nM,nB,nE,nL,nT,nN,iL,iT,iE,iA,iM,iS,iG,iB,iN,iZ,h,h0]) (by simp only[go_sem,reduceIte,↓reduceIte,reduceCtorEq,nA,nS,nM,nB,nE,nL,nT,nN,iL,iT,iE,iA,iM,iS,iG,iB,iN,iZ,Uo,XW,X4,X8])
def s21:SP Try.prog:=mkS tyA 21 Try.f21 [] {md:=[.ro 1],rg:=[(0,[1],[1]),(1,[1,3],[1]),(2,[3,7,8,9],[1]),(3,[3,7,8,9,10],[1]),(4,[3,5,7,8,9],[1,5]),(5,[3,7,8,9,15],[1]),(6,[3,7,8,9],[1]),(7,[3,7,8,9],[1]),(8,[2],[])],lv:=[(0,[3,7,8,9],[1])],out:=[(0,[3],[])],rets:=some ([2],[])} Try.func21 (by kernel_rfl)
@[go_sem] def d21:s21.g=21/\s21.fs=⟨[.ro 1],s21.F,false⟩:=⟨nr rfl,nr rfl⟩
@[go_sem] def e21(q7 q8 q9:Int)(q10:List XQ)(hb:q10.length<=1000):s21.F [.agg [.i .i64 q7,.i .i64 q8,.i .i64 q9,.sl .ro 2 (q10.map (Xb .ro))]]=some (.i .i64 (QI q10),[.u]):=Xy (q10.length+1) rfl rfl (λcx h=>by
 have hx:=hb
 have hb0:=Yk Try.f21 0 _ _ rfl rfl
 obtain⟨hI,hr⟩:=YU (cx:=cx) (blk:=0) (body:=Qz Try.f21 0) q10 (λk (s:Int)=>⟨E [(3,.i .i64 s),(7,.sl .ro 2 (q10.map (Xb .ro))),(8,.i .i64 q10.length),(9,.i .i64 k)],B [(1,[.i .i64 q7,.i .i64 q8,.i .i64 q9,.sl .ro 2 (q10.map (Xb .ro))])]⟩) (λs=>⟨E [(3,.i .i64 s)],B []⟩) (λx s=>(if x.Good=true then s else s+1)) (λk s=>0<=s/\s<=k)
   (λs hI G=>by simp only[go_sem,reduceIte,↓reduceIte,reduceCtorEq,nA,nS,nM,nB,nE,nL,nT,nN,iL,iT,iE,iA,iM,iS,iG,iB,iN,iZ,h,Int.lt_irrefl,hb0,hx]) (λk hk s hI=>by
    have h1:((k:Int)<(q10.length:Int)):=Int.ofNat_lt.2 hk
    have w1:(IntKind.i64).wrap (s+1)=s+1:=Xv (by omega) (by omega)
    cases hg:q10[k].Good
    all_goals exact⟨by simp<;>omega,_,λG=>by simp only[go_sem,reduceIte,↓reduceIte,reduceCtorEq,nA,nS,nM,nB,nE,nL,nT,nN,iL,iT,iE,iA,iM,iS,iG,iB,iN,iZ,h,YN (Xb .ro) q10 k hk,w1,hg,h1,Yg _ _ hk,XJ (show k<9223372036854775807 by omega),hb0]<;>with_reducible rfl,by simp only[go_sem,reduceIte,↓reduceIte,reduceCtorEq,nA,nS,nM,nB,nE,nL,nT,nN,iL,iT,iE,iA,iM,iS,iG,iB,iN,iZ,h,hg]⟩) 0 (by simp) (q10.length+1) (Nat.le_refl _)
 rw[hb0] at hr
 simp only[go_sem,reduceIte,↓reduceIte,reduceCtorEq,nA,nS,nM,nB,nE,nL,nT,nN,iL,iT,iE,iA,iM,iS,iG,iB,iN,iZ,h,hr,QI]) (rfl)
end
end Go.Vm.A
