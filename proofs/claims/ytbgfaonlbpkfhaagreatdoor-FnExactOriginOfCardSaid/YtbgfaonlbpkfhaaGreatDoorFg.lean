/- Functions of the program, walked by the evaluator. -/
import Derived.Test.YtbgfaonlbpkfhaaGreatDoorWb
import Derived.Test.YtbgfaonlbpkfhaaGreatDoorWa
import Derived.Test.YtbgfaonlbpkfhaaGreatDoorFa
import Derived.Test.YtbgfaonlbpkfhaaGreatDoorFb
import Derived.Test.YtbgfaonlbpkfhaaGreatDoorFc
import Derived.Test.YtbgfaonlbpkfhaaGreatDoorFe
import Derived.Test.YtbgfaonlbpkfhaaGreatDoorFf
set_option linter.unusedVariables false
set_option linter.unusedSimpArgs false
set_option autoImplicit false
set_option maxRecDepth 100000
set_option maxHeartbeats 4000000
set_option linter.defProp false
namespace Go.Vm.A
open Go.Proofs
open Nat renaming reduceAdd -> nA, reduceSub -> nS, reduceMul -> nM, reduceBEq -> nB, reduceEqDiff -> nE, reduceLeDiff -> nL, reduceLT -> nT, reduceBneDiff -> nN
open Int renaming reduceLE -> iL, reduceLT -> iT, reduceEq -> iE, reduceAdd -> iA, reduceMul -> iM, reduceSub -> iS, reduceNeg -> iG, reduceBEq -> iB, reduceBNe -> iN, reduceToNat -> iZ
noncomputable section
def s92:SP Tryz.prog:=mkS tyA 92 Tryz.f92 [s62] {md:=[.ro 1,.ro 1],rg:=[(0,[0,1,4,16],[4,5]),(1,[4,5,16],[4,5]),(2,[4,5,6,16],[4,5]),(3,[4,5,6,13,16],[4,5]),(4,[4,16],[4,5]),(5,[4,16],[4,5])],rets:=some ([4,16],[4,5])} Tryz.func92 (by kernel_rfl)
@[go_sem] def d92:s92.g=92/\s92.fs=⟨[.ro 1,.ro 1],s92.F,false⟩:=⟨nr rfl,nr rfl⟩
@[go_sem] def e92(b g:Int):s92.F [.i .i64 b,.i .i64 g]=some (.agg [.i .i64 (Yr b g),.i .i64 (if Yr b g=0 then b else 0),.i .i64 (if Yr b g=0 then g else 0),.sl .mut 13 [],.sl .mut 13 []],[.u,.u]):=Xb (0) rfl rfl (λcx h=>by
 by_cases h1:Yr b g=0
 ·simp only[go_sem,reduceIte,↓reduceIte,nA,nB,nE,nL,nT,h,h1]
 ·have h2:(Yr b g !=0)=true:=by simpa using h1
  simp only[go_sem,reduceIte,↓reduceIte,nA,nB,nE,h,h1,h2]) (by simp only[go_sem,YE,XI,XM,Yt])
def s91:SP Tryz.prog:=mkS tyA 91 Tryz.f91 [s92] {md:=[.ro 1],rets:=some ([1],[])} Tryz.func91 (by kernel_rfl)
@[go_sem] def d91:s91.g=91/\s91.fs=⟨[.ro 1],s91.F,false⟩:=⟨nr rfl,nr rfl⟩
@[go_sem] def e91(q0 q1 q2 q3 q4 q5 q6 q7:Int)(q8:List ByteArray)(q9 q10 q11 q12 q13 q14 q15 q16:Int):s91.F [.pr [.i .i64 q0,.i .i64 q1,.i .i64 q2,.i .i64 q3,.i .i64 q4,.i .i64 q5,.i .i64 q6,.i .i64 q7,.sl .ro 1 (q8.map Ye),.i .i64 q9,.i .i64 q10,.i .i64 q11,.i .i64 q12,.i .i64 q13,.i .i64 q14,.i .i64 q15,.i .i64 q16]]=some (.i .i64 (Yr q0 q1),[.u]):=Xb (0) rfl rfl (λcx h=>by
 simp only[go_sem,reduceIte,↓reduceIte,nA,nB,nL,h]) (rfl)
def Xq8:SP Tryz.prog:=mkS tyA 166 Tryz.f166 [Xq4] {md:=[.ro 1],rets:=some ([2],[])} Tryz.func166 (by kernel_rfl)
@[go_sem] def XLn:Xq8.g=166/\Xq8.fs=⟨[.ro 1],Xq8.F,false⟩:=⟨nr rfl,nr rfl⟩
@[go_sem] def XLo(t:ByteArray):Xq8.F [.s t]=some (.b (!Xad t),[.u]):=Xb (0) rfl rfl (λcx h=>by
 simp only[go_sem,reduceIte,↓reduceIte,nB,h]) (rfl)
def XsH:SP Tryz.prog:=mkS tyA 225 Tryz.f225 [Xq8] {md:=[.ro 1,.ro 1],rg:=[(0,[0,1],[]),(1,[0,1,7,8],[]),(2,[0,1,7,8,9],[]),(3,[0,1,5,7,8],[]),(4,[0,1,5,7,8,16],[]),(5,[4],[]),(6,[0,1,7,8],[]),(7,[4],[])],lv:=[(0,[0,1,7,8],[])],out:=[(0,[],[])],rets:=some ([4],[])} Tryz.func225 (by kernel_rfl)
@[go_sem] def XLp:XsH.g=225/\XsH.fs=⟨[.ro 1,.ro 1],XsH.F,false⟩:=⟨nr rfl,nr rfl⟩
@[go_sem] def Xuw(xs:List ByteArray)(hb:xs.length<=9223372036854775806):XsH.F [.sl .ro 1 (xs.map Ye),.fn 166 []]=some (.i .i64 (U6 (λx=>!Xad x) xs 0),[.u,.u]):=Xb (xs.length+1) rfl rfl (λcx h=>by
 have hx:=hb
 have hb0:=Xg Tryz.f225 0 _ _ rfl rfl
 obtain⟨r,hr,hq⟩:=Xq (cx:=cx) (blk:=0) (body:=XN Tryz.f225 0) xs (λk (s:Nat)=>⟨E [(0,.sl .ro 1 (xs.map Ye)),(1,.fn 166 []),(7,.i .i64 xs.length),(8,.i .i64 k)],B []⟩) (λs=>⟨E [],B []⟩) (λx s=>!Xad x) (λx s=>s+1) (λx s=>(.ret,⟨E [(4,.i .i64 s)],B []⟩)) (λk s=>k=s)
   (λs hI G=>by simp only[go_sem,reduceIte,↓reduceIte,nB,nE,h,Int.lt_irrefl,hb0,hI]) (λk hk s hI=>by
    have h1:((k:Int)<(xs.length:Int)):=Int.ofNat_lt.2 hk
    obtain rfl:=hI
    exact⟨_,_,_,λG=>by simp only[go_sem,reduceIte,↓reduceIte,nB,nE,h,Xi Ye xs _ hk,h1,Xh _ _ hk,Xd (show k<9223372036854775807 by omega),hb0]<;>with_reducible rfl,by first | exact Iff.rfl | simp,λhc=>⟨rfl,by simp only[go_sem,reduceIte,↓reduceIte,nB,h]⟩⟩) 0 rfl (xs.length+1) (Nat.le_refl _)
 rw[hb0] at hr
 rcases hq with⟨s',e1,_,e3⟩ | ⟨x,s',e1,e3⟩
 ·simp only[go_sem,reduceIte,↓reduceIte,nB,nE,iG,h,hr,e3,ZJ e1]
 ·simp only[go_sem,reduceIte,↓reduceIte,nB,h,hr,e3,Zc e1]) (rfl)
def XsI:SP Tryz.prog:=mkS tyA 165 Tryz.f165 [XsH] {md:=[.ro 1,.ro 1],rets:=some ([4],[])} Tryz.func165 (by kernel_rfl)
@[go_sem] def XLq:XsI.g=165/\XsI.fs=⟨[.ro 1,.ro 1],XsI.F,false⟩:=⟨nr rfl,nr rfl⟩
@[go_sem] def Xux(xs:List ByteArray)(hb:xs.length<=9223372036854775806):XsI.F [.sl .ro 1 (xs.map Ye),.fn 166 []]=some (.b (xs.any (λx=>!Xad x)),[.u,.u]):=Xb (0) rfl rfl (λcx h=>by
 simp only[go_sem,reduceIte,↓reduceIte,nA,nB,h,hb,QR]) (rfl)
def s95:SP Tryz.prog:=mkS tyA 95 Tryz.f95 [XsI,Xq8] {md:=[.ro 1],rg:=[(0,[0],[]),(1,[0,5],[]),(2,[2],[]),(3,[7],[]),(4,[2],[]),(5,[2],[])],rets:=some ([2],[])} Tryz.func95 (by kernel_rfl)
@[go_sem] def d95:s95.g=95/\s95.fs=⟨[.ro 1],s95.F,false⟩:=⟨nr rfl,nr rfl⟩
@[go_sem] def e95(xs:List ByteArray):s95.F [.sl .ro 1 (xs.map Ye)]=some (.i .i64 (YZ xs),[.u]):=Xb (0) rfl rfl (λcx h=>by
 by_cases h1:4<(xs.length:Int)
 ·simp only[go_sem,reduceIte,↓reduceIte,nB,nE,h,h1,YZ]
 have hx:xs.length<=9223372036854775806:=by omega
 cases h2:(xs.any λx=>!Xad x)<;>simp only[go_sem,reduceIte,↓reduceIte,nA,nB,nE,h,h1,h2,hx,YZ]) (rfl)
def s94:SP Tryz.prog:=mkS tyA 94 Tryz.f94 [s95] {md:=[.ro 1],rets:=some ([1],[])} Tryz.func94 (by kernel_rfl)
@[go_sem] def d94:s94.g=94/\s94.fs=⟨[.ro 1],s94.F,false⟩:=⟨nr rfl,nr rfl⟩
@[go_sem] def e94(q0 q1 q2 q3 q4 q5 q6 q7:Int)(q8:List ByteArray)(q9 q10 q11 q12 q13 q14 q15 q16:Int):s94.F [.pr [.i .i64 q0,.i .i64 q1,.i .i64 q2,.i .i64 q3,.i .i64 q4,.i .i64 q5,.i .i64 q6,.i .i64 q7,.sl .ro 1 (q8.map Ye),.i .i64 q9,.i .i64 q10,.i .i64 q11,.i .i64 q12,.i .i64 q13,.i .i64 q14,.i .i64 q15,.i .i64 q16]]=some (.i .i64 (YZ q8),[.u]):=Xb (0) rfl rfl (λcx h=>by
 simp only[go_sem,reduceIte,↓reduceIte,nA,nB,nL,h]) (rfl)
def s97:SP Tryz.prog:=mkS tyA 97 Tryz.f97 [s93] {md:=[.ro 1],rg:=[(0,[1],[1]),(1,[18],[]),(2,[2],[]),(3,[2],[])],rets:=some ([2],[])} Tryz.func97 (by kernel_rfl)
@[go_sem] def d97:s97.g=97/\s97.fs=⟨[.ro 1],s97.F,false⟩:=⟨nr rfl,nr rfl⟩
@[go_sem] def e97(q17 q18 q19:Int):s97.F [.agg [.i .i64 q17,.i .i64 q18,.i .i64 q19]]=some (.i .i64 (Yn (Lanes.mk q17 q18 q19)),[.u]):=Xb (0) rfl rfl (λcx h=>by
 simp only[go_sem,reduceIte,↓reduceIte,nA,nB,nE,nL,h]
 simp only[Yn]
 cases within q17 1 8<;>cases within q18 0 8<;>cases within q19 0 1000000<;>rfl) (rfl)
def s96:SP Tryz.prog:=mkS tyA 96 Tryz.f96 [s97] {md:=[.ro 1],rets:=some ([1],[])} Tryz.func96 (by kernel_rfl)
@[go_sem] def d96:s96.g=96/\s96.fs=⟨[.ro 1],s96.F,false⟩:=⟨nr rfl,nr rfl⟩
@[go_sem] def e96(q0 q1 q2 q3 q4 q5 q6 q7:Int)(q8:List ByteArray)(q9 q10 q11 q12 q13 q14 q15 q16:Int):s96.F [.pr [.i .i64 q0,.i .i64 q1,.i .i64 q2,.i .i64 q3,.i .i64 q4,.i .i64 q5,.i .i64 q6,.i .i64 q7,.sl .ro 1 (q8.map Ye),.i .i64 q9,.i .i64 q10,.i .i64 q11,.i .i64 q12,.i .i64 q13,.i .i64 q14,.i .i64 q15,.i .i64 q16]]=some (.i .i64 (Yn ⟨q9,q10,q11⟩),[.u]):=Xb (0) rfl rfl (λcx h=>by
 simp only[go_sem,reduceIte,↓reduceIte,nA,nB,nL,h]) (rfl)
def s99:SP Tryz.prog:=mkS tyA 99 Tryz.f99 [s93] {md:=[.ro 1],rg:=[(0,[1],[1]),(1,[30],[]),(2,[2],[]),(3,[2],[])],rets:=some ([2],[])} Tryz.func99 (by kernel_rfl)
@[go_sem] def d99:s99.g=99/\s99.fs=⟨[.ro 1],s99.F,false⟩:=⟨nr rfl,nr rfl⟩
@[go_sem] def e99(q20 q21 q22 q23 q24:Int):s99.F [.agg [.i .i64 q20,.i .i64 q21,.i .i64 q22,.i .i64 q23,.i .i64 q24]]=some (.i .i64 (Zi (Rules.mk q20 q21 q22 q23 q24)),[.u]):=Xb (0) rfl rfl (λcx h=>by
 simp only[go_sem,reduceIte,↓reduceIte,nA,nB,nE,nL,h]
 simp only[Zi]
 cases within q20 1 1000000<;>cases within q21 1 50<;>cases within q22 1 1000<;>cases within q23 0 1000000<;>cases within q24 1 5<;>rfl) (rfl)
def s98:SP Tryz.prog:=mkS tyA 98 Tryz.f98 [s99] {md:=[.ro 1],rets:=some ([1],[])} Tryz.func98 (by kernel_rfl)
@[go_sem] def d98:s98.g=98/\s98.fs=⟨[.ro 1],s98.F,false⟩:=⟨nr rfl,nr rfl⟩
@[go_sem] def e98(q0 q1 q2 q3 q4 q5 q6 q7:Int)(q8:List ByteArray)(q9 q10 q11 q12 q13 q14 q15 q16:Int):s98.F [.pr [.i .i64 q0,.i .i64 q1,.i .i64 q2,.i .i64 q3,.i .i64 q4,.i .i64 q5,.i .i64 q6,.i .i64 q7,.sl .ro 1 (q8.map Ye),.i .i64 q9,.i .i64 q10,.i .i64 q11,.i .i64 q12,.i .i64 q13,.i .i64 q14,.i .i64 q15,.i .i64 q16]]=some (.i .i64 (Zi ⟨q12,q13,q14,q15,q16⟩),[.u]):=Xb (0) rfl rfl (λcx h=>by
 simp only[go_sem,reduceIte,↓reduceIte,nA,nB,h]) (rfl)
def cl(p:Bool×Int):AV:=.fn 124 [.pr [.b p.1],.pr [.i .i64 p.2]]
@[go_sem] def Xws(p:Bool×Int):cl p=.fn 124 [.pr [.b p.1],.pr [.i .i64 p.2]]:=nr rfl
@[go_sem] def XoW(kp kr:Pl->Bool):∀xs:List (Bool×Int),Yy kp kr (xs.map cl)=xs.map cl
 | []=>rfl
 | x :: xs=>by simp only[List.map_cons,Yy,XoW kp kr xs,cl,filt]
def clv(p:Bool×Int):Int:=if p.1=true then p.2 else 0
def Xaf:List (Bool×Int)->Int
 | []=>0
 | p :: r=>if(clv p !=0)=true then clv p else Xaf r
def Xfm:∀{xs:List (Bool×Int)} {u u':Unit},Xac (λx _=>clv x !=0) (λ_ _=>()) xs u=.inl u'->Xaf xs=0
 | [],_,_,_=>rfl
 | x :: xs,u,u',h=>by
  rw[Yp] at h
  split at h
  ·cases h
  ·rename_i hc; rw[Xaf,if_neg hc]; exact Xfm h
def Xfn:∀{xs:List (Bool×Int)} {u:Unit} {q:(Bool×Int)×Unit},Xac (λx _=>clv x !=0) (λ_ _=>()) xs u=.inr q->Xaf xs=clv q.1
 | [],_,_,h=>by cases h
 | x :: xs,u,q,h=>by
  rw[Yp] at h
  split at h
  ·rename_i hc; injection h with h; subst h; rw[Xaf,if_pos hc]
  ·rename_i hc; rw[Xaf,if_neg hc]; exact Xfn h
def map_gdA{α:Type}(f:α->AV)(xs:List α)(k:Nat)(h:k<xs.length):(xs.map f).getD k .u=f xs[k]:=by simp[List.getD,h]
def s57:SP Tryz.prog:=mkS tyA 57 Tryz.f57 [s91,s94,s96,s98,Xof] {md:=[.ro 1],rg:=[(0,[0],[]),(1,[0,6,7,8],[]),(2,[0,6,7,8,9],[]),(3,[0,4,6,7,8],[]),(4,[0,5,6,7,8],[]),(5,[0,5,6,7,8,15],[]),(6,[2],[]),(7,[0,6,7,8],[]),(8,[2],[])],lv:=[(0,[0,6,7,8],[])],out:=[(0,[],[])],rets:=some ([2],[])} Tryz.func57 (by kernel_rfl)
@[go_sem] def d57:s57.g=57/\s57.fs=⟨[.ro 1],s57.F,false⟩:=⟨nr rfl,nr rfl⟩
def e57(xs:List (Bool×Int))(hb:xs.length<=1000):s57.F [.fs (xs.map cl)]=some (.i .i64 (Xaf xs),[.u]):=Xb (xs.length+1) rfl rfl (λcx h=>by
 have hx:=hb
 have hb0:=Xg Tryz.f57 0 _ _ rfl rfl
 obtain⟨r,hr,hq⟩:=Xq (cx:=cx) (blk:=0) (body:=XN Tryz.f57 0) xs (λk (s:Unit)=>⟨E [(0,.fs (xs.map cl)),(6,.fs (xs.map cl)),(7,.i .i64 xs.length),(8,.i .i64 k)],B []⟩) (λs=>⟨E [],B []⟩) (λx s=>clv x !=0) (λx s=>()) (λx s=>(.ret,⟨E [(2,.i .i64 (clv x))],B []⟩)) (λk s=>True)
   (λs hI G=>by simp only[go_sem,reduceIte,↓reduceIte,nB,nE,h,Int.lt_irrefl,hb0]) (λk hk s hI=>by
    have h1:((k:Int)<(xs.length:Int)):=Int.ofNat_lt.2 hk
    have h3:clv xs[k]=(if xs[k].1=true then xs[k].2 else 0):=rfl
    exact⟨_,_,_,λG=>by simp only[go_sem,reduceIte,↓reduceIte,nA,nB,nE,h,map_gdA cl xs k hk,h3,h1,Xh _ _ hk,Xd (show k<9223372036854775807 by omega),hb0]<;>with_reducible rfl,by simp[h3],λhc=>⟨trivial,by simp only[go_sem,reduceIte,↓reduceIte,nB,h]⟩⟩) () trivial (xs.length+1) (Nat.le_refl _)
 rw[hb0] at hr
 rcases hq with⟨s',e1,_,e3⟩ | ⟨x,s',e1,e3⟩
 ·simp only[go_sem,reduceIte,↓reduceIte,nB,nE,h,hr,e3,Xfm e1]
 ·simp only[go_sem,reduceIte,↓reduceIte,nB,h,hr,e3,Xfn e1]) (rfl)
@[go_sem] def XwU(a0:Bool)(x0:Int):s57.F [.fs [.fn 124 [.pr [.b a0],.pr [.i .i64 x0]]]]=some (.i .i64 (Xaf [(a0,x0)]),[.u]):=e57 [(a0,x0)] (by simp)
@[go_sem] def XwV(a0:Bool)(x0:Int)(a1:Bool)(x1:Int):s57.F [.fs [.fn 124 [.pr [.b a0],.pr [.i .i64 x0]],.fn 124 [.pr [.b a1],.pr [.i .i64 x1]]]]=some (.i .i64 (Xaf [(a0,x0),(a1,x1)]),[.u]):=e57 [(a0,x0),(a1,x1)] (by simp)
@[go_sem] def XwW(a0:Bool)(x0:Int)(a1:Bool)(x1:Int)(a2:Bool)(x2:Int):s57.F [.fs [.fn 124 [.pr [.b a0],.pr [.i .i64 x0]],.fn 124 [.pr [.b a1],.pr [.i .i64 x1]],.fn 124 [.pr [.b a2],.pr [.i .i64 x2]]]]=some (.i .i64 (Xaf [(a0,x0),(a1,x1),(a2,x2)]),[.u]):=e57 [(a0,x0),(a1,x1),(a2,x2)] (by simp)
@[go_sem] def XwX(a0:Bool)(x0:Int)(a1:Bool)(x1:Int)(a2:Bool)(x2:Int)(a3:Bool)(x3:Int):s57.F [.fs [.fn 124 [.pr [.b a0],.pr [.i .i64 x0]],.fn 124 [.pr [.b a1],.pr [.i .i64 x1]],.fn 124 [.pr [.b a2],.pr [.i .i64 x2]],.fn 124 [.pr [.b a3],.pr [.i .i64 x3]]]]=some (.i .i64 (Xaf [(a0,x0),(a1,x1),(a2,x2),(a3,x3)]),[.u]):=e57 [(a0,x0),(a1,x1),(a2,x2),(a3,x3)] (by simp)
@[go_sem] def XwY(a0:Bool)(x0:Int)(a1:Bool)(x1:Int)(a2:Bool)(x2:Int)(a3:Bool)(x3:Int)(a4:Bool)(x4:Int):s57.F [.fs [.fn 124 [.pr [.b a0],.pr [.i .i64 x0]],.fn 124 [.pr [.b a1],.pr [.i .i64 x1]],.fn 124 [.pr [.b a2],.pr [.i .i64 x2]],.fn 124 [.pr [.b a3],.pr [.i .i64 x3]],.fn 124 [.pr [.b a4],.pr [.i .i64 x4]]]]=some (.i .i64 (Xaf [(a0,x0),(a1,x1),(a2,x2),(a3,x3),(a4,x4)]),[.u]):=e57 [(a0,x0),(a1,x1),(a2,x2),(a3,x3),(a4,x4)] (by simp)
@[go_sem] def XwZ(a0:Bool)(x0:Int)(a1:Bool)(x1:Int)(a2:Bool)(x2:Int)(a3:Bool)(x3:Int)(a4:Bool)(x4:Int)(a5:Bool)(x5:Int):s57.F [.fs [.fn 124 [.pr [.b a0],.pr [.i .i64 x0]],.fn 124 [.pr [.b a1],.pr [.i .i64 x1]],.fn 124 [.pr [.b a2],.pr [.i .i64 x2]],.fn 124 [.pr [.b a3],.pr [.i .i64 x3]],.fn 124 [.pr [.b a4],.pr [.i .i64 x4]],.fn 124 [.pr [.b a5],.pr [.i .i64 x5]]]]=some (.i .i64 (Xaf [(a0,x0),(a1,x1),(a2,x2),(a3,x3),(a4,x4),(a5,x5)]),[.u]):=e57 [(a0,x0),(a1,x1),(a2,x2),(a3,x3),(a4,x4),(a5,x5)] (by simp)
@[go_sem] def Xw0(a0:Bool)(x0:Int)(a1:Bool)(x1:Int)(a2:Bool)(x2:Int)(a3:Bool)(x3:Int)(a4:Bool)(x4:Int)(a5:Bool)(x5:Int)(a6:Bool)(x6:Int):s57.F [.fs [.fn 124 [.pr [.b a0],.pr [.i .i64 x0]],.fn 124 [.pr [.b a1],.pr [.i .i64 x1]],.fn 124 [.pr [.b a2],.pr [.i .i64 x2]],.fn 124 [.pr [.b a3],.pr [.i .i64 x3]],.fn 124 [.pr [.b a4],.pr [.i .i64 x4]],.fn 124 [.pr [.b a5],.pr [.i .i64 x5]],.fn 124 [.pr [.b a6],.pr [.i .i64 x6]]]]=some (.i .i64 (Xaf [(a0,x0),(a1,x1),(a2,x2),(a3,x3),(a4,x4),(a5,x5),(a6,x6)]),[.u]):=e57 [(a0,x0),(a1,x1),(a2,x2),(a3,x3),(a4,x4),(a5,x5),(a6,x6)] (by simp)
def s59:SP Tryz.prog:=mkS tyA 59 Tryz.f59 [] {md:=[.ro 1,.ro 1],wk:=true,rets:=some ([4],[2,3]),fz:=[2,3]} Tryz.func59 (by kernel_rfl)
@[go_sem] def d59:s59.g=59/\s59.fs=⟨[.ro 1,.ro 1],s59.F,true⟩:=⟨nr rfl,nr rfl⟩
@[go_sem] def e59(x:Bool)(c:Int):s59.F [.b x,.i .i64 c]=some (.fn 124 [.pr [.b x],.pr [.i .i64 c]],[.u,.u]):=Xb (0) rfl rfl (λcx h=>by
 simp only[go_sem,reduceIte,↓reduceIte,nB,h]) (rfl)
@[go_sem] def Xvc(q0 q1 q2 q3 q4 q5 q6 q7:Int)(q8:List ByteArray)(q9 q10 q11 q12 q13 q14 q15 q16:Int)(q:Bool)(x:Int):s57.F [.fs [.fn 91 [.pr [.i .i64 q0,.i .i64 q1,.i .i64 q2,.i .i64 q3,.i .i64 q4,.i .i64 q5,.i .i64 q6,.i .i64 q7,.sl .ro 1 (q8.map Ye),.i .i64 q9,.i .i64 q10,.i .i64 q11,.i .i64 q12,.i .i64 q13,.i .i64 q14,.i .i64 q15,.i .i64 q16]],.fn 124 [.pr [.b q],.pr [.i .i64 x]],.fn 94 [.pr [.i .i64 q0,.i .i64 q1,.i .i64 q2,.i .i64 q3,.i .i64 q4,.i .i64 q5,.i .i64 q6,.i .i64 q7,.sl .ro 1 (q8.map Ye),.i .i64 q9,.i .i64 q10,.i .i64 q11,.i .i64 q12,.i .i64 q13,.i .i64 q14,.i .i64 q15,.i .i64 q16]],.fn 96 [.pr [.i .i64 q0,.i .i64 q1,.i .i64 q2,.i .i64 q3,.i .i64 q4,.i .i64 q5,.i .i64 q6,.i .i64 q7,.sl .ro 1 (q8.map Ye),.i .i64 q9,.i .i64 q10,.i .i64 q11,.i .i64 q12,.i .i64 q13,.i .i64 q14,.i .i64 q15,.i .i64 q16]],.fn 98 [.pr [.i .i64 q0,.i .i64 q1,.i .i64 q2,.i .i64 q3,.i .i64 q4,.i .i64 q5,.i .i64 q6,.i .i64 q7,.sl .ro 1 (q8.map Ye),.i .i64 q9,.i .i64 q10,.i .i64 q11,.i .i64 q12,.i .i64 q13,.i .i64 q14,.i .i64 q15,.i .i64 q16]]]]=some (.i .i64 (Zr [Yr q0 q1,(if q=true then x else 0),YZ q8,Yn ⟨q9,q10,q11⟩,Zi ⟨q12,q13,q14,q15,q16⟩]),[.u]):=Xb (6) rfl rfl (λcx h=>by
 by_cases z0:Yr q0 q1=0
 rotate_left
 ·have y0:(Yr q0 q1 !=0)=true:=by simpa using z0
  simp only[go_sem,reduceIte,↓reduceIte,nA,nB,nE,iT,h,y0,Xm,UA]
 have y0:(Yr q0 q1 !=0)=false:=by simpa using z0
 by_cases z1:(if q=true then x else 0)=0
 rotate_left
 ·have y1:((if q=true then x else 0) !=0)=true:=by simpa using z1
  simp only[go_sem,reduceIte,↓reduceIte,nA,nB,nE,iT,iA,h,y0,y1,Xm,Q0,Qw,UA]
 have y1:((if q=true then x else 0) !=0)=false:=by simpa using z1
 by_cases z2:YZ q8=0
 rotate_left
 ·have y2:(YZ q8 !=0)=true:=by simpa using z2
  simp only[go_sem,reduceIte,↓reduceIte,nA,nB,nE,iT,iA,h,y0,y1,y2,Xm,Q0,U9,Uz,Qw,UA]
 have y2:(YZ q8 !=0)=false:=by simpa using z2
 by_cases z3:Yn ⟨q9,q10,q11⟩=0
 rotate_left
 ·have y3:(Yn ⟨q9,q10,q11⟩ !=0)=true:=by simpa using z3
  simp only[go_sem,reduceIte,↓reduceIte,nA,nB,nE,iT,iA,h,y0,y1,y2,y3,Xm,Q0,U9,XbH,Xav,Uz,Qw,UA]
 have y3:(Yn ⟨q9,q10,q11⟩ !=0)=false:=by simpa using z3
 by_cases z4:Zi ⟨q12,q13,q14,q15,q16⟩=0
 rotate_left
 ·have y4:(Zi ⟨q12,q13,q14,q15,q16⟩ !=0)=true:=by simpa using z4
  simp only[go_sem,reduceIte,↓reduceIte,nA,nB,nE,iT,iA,h,y0,y1,y2,y3,y4,Xm,Q0,U9,XbH,XdE,Xci,Xav,Uz,Qw,UA]
 have y4:(Zi ⟨q12,q13,q14,q15,q16⟩ !=0)=false:=by simpa using z4
 simp only[go_sem,reduceIte,↓reduceIte,nA,nB,nE,iT,iA,h,y0,y1,y2,y3,y4,Xm,UY,Q0,U9,XbH,XdE,XhD,Xgp,Xci,Xav,Uz,Qw,UA]) (rfl)
def s39:SP Tryz.prog:=mkS tyA 39 Tryz.f39 [s57,s59,s60,s93] {md:=[.ro 1],rets:=some ([2],[]),fz:=[1]} Tryz.func39 (by kernel_rfl)
@[go_sem] def d39:s39.g=39/\s39.fs=⟨[.ro 1],s39.F,false⟩:=⟨nr rfl,nr rfl⟩
@[go_sem] def e39(q0 q1 q2 q3 q4 q5 q6 q7:Int)(q8:List ByteArray)(q9 q10 q11 q12 q13 q14 q15 q16:Int):s39.F [.agg [.i .i64 q0,.i .i64 q1,.i .i64 q2,.i .i64 q3,.i .i64 q4,.i .i64 q5,.i .i64 q6,.i .i64 q7,.sl .ro 1 (q8.map Ye),.i .i64 q9,.i .i64 q10,.i .i64 q11,.i .i64 q12,.i .i64 q13,.i .i64 q14,.i .i64 q15,.i .i64 q16]]=some (.i .i64 (XJ (Config.mk q0 q1 q2 q3 q4 q5 q6 q7 q8 (Lanes.mk q9 q10 q11) (Rules.mk q12 q13 q14 q15 q16))),[.u]):=Xb (0) rfl rfl (λcx h=>by
 cases h0:within q2 0 q0
 ·simp only[go_sem,reduceIte,↓reduceIte,nA,nB,nE,nL,h,h0,XJ,ZH]
 cases h1:XC q3
 ·simp only[go_sem,reduceIte,↓reduceIte,nA,nB,nE,nL,h,h0,h1,XJ,ZH]
 cases h2:within q4 0 1000000
 ·simp only[go_sem,reduceIte,↓reduceIte,nA,nB,nE,nL,h,h0,h1,h2,XJ,ZH]
 cases h3:within q5 1 1000000
 ·simp only[go_sem,reduceIte,↓reduceIte,nA,nB,nE,nL,h,h0,h1,h2,h3,XJ,ZH]
 cases h4:within q6 0 1000000
 ·simp only[go_sem,reduceIte,↓reduceIte,nA,nB,nE,nL,h,h0,h1,h2,h3,h4,XJ,ZH]
 cases h5:within q7 1 10
 ·simp only[go_sem,reduceIte,↓reduceIte,nA,nB,nE,nL,h,h0,h1,h2,h3,h4,h5,XJ,ZH]
 simp only[go_sem,reduceIte,↓reduceIte,nA,nB,nE,nL,h,h0,h1,h2,h3,h4,h5,XJ,ZH]) (rfl)
def s58:SP Tryz.prog:=mkS tyA 58 Tryz.f58 [s39] {md:=[.ro 1],rets:=some ([1],[])} Tryz.func58 (by kernel_rfl)
@[go_sem] def d58:s58.g=58/\s58.fs=⟨[.ro 1],s58.F,false⟩:=⟨nr rfl,nr rfl⟩
@[go_sem] def e58(q25 q26 q27 q28 q29 q30 q31 q32:Int)(q33:List ByteArray)(q34 q35 q36 q37 q38 q39 q40 q41 q42 q43 q44 q45:Int)(q46 q47:List XK)(q48:List Origin)(q49:List Xl):s58.F [.pr [.i .i64 q25,.i .i64 q26,.i .i64 q27,.i .i64 q28,.i .i64 q29,.i .i64 q30,.i .i64 q31,.i .i64 q32,.sl .ro 1 (q33.map Ye),.i .i64 q34,.i .i64 q35,.i .i64 q36,.i .i64 q37,.i .i64 q38,.i .i64 q39,.i .i64 q40,.i .i64 q41,.i .i64 q42,.i .i64 q43,.i .i64 q44,.i .i64 q45,.sl .ro 13 (q46.map (Xa .ro)),.sl .ro 13 (q47.map (Xa .ro)),.sl .ro 7 (q48.map (Xe .ro)),.sl .ro 11 (q49.map (Xc .ro))]]=some (.i .i64 (XJ (Config.mk q25 q26 q27 q28 q29 q30 q31 q32 q33 (Lanes.mk q34 q35 q36) (Rules.mk q37 q38 q39 q40 q41))),[.u]):=Xb (0) rfl rfl (λcx h=>by
 simp only[go_sem,reduceIte,↓reduceIte,nA,nB,nL,h]) (rfl)
def s61:SP Tryz.prog:=mkS tyA 61 Tryz.f61 [s62] {md:=[.ro 1],rets:=some ([1],[])} Tryz.func61 (by kernel_rfl)
@[go_sem] def d61:s61.g=61/\s61.fs=⟨[.ro 1],s61.F,false⟩:=⟨nr rfl,nr rfl⟩
@[go_sem] def e61(q25 q26 q27 q28 q29 q30 q31 q32:Int)(q33:List ByteArray)(q34 q35 q36 q37 q38 q39 q40 q41 q42 q43 q44 q45:Int)(q46 q47:List XK)(q48:List Origin)(q49:List Xl)(h0:YS (Shield.mk (Config.mk q25 q26 q27 q28 q29 q30 q31 q32 q33 (Lanes.mk q34 q35 q36) (Rules.mk q37 q38 q39 q40 q41)) q42 q43 (Store.mk q44 q45 q46 q47) q48 q49)):s61.F [.pr [.i .i64 q25,.i .i64 q26,.i .i64 q27,.i .i64 q28,.i .i64 q29,.i .i64 q30,.i .i64 q31,.i .i64 q32,.sl .ro 1 (q33.map Ye),.i .i64 q34,.i .i64 q35,.i .i64 q36,.i .i64 q37,.i .i64 q38,.i .i64 q39,.i .i64 q40,.i .i64 q41,.i .i64 q42,.i .i64 q43,.i .i64 q44,.i .i64 q45,.sl .ro 13 (q46.map (Xa .ro)),.sl .ro 13 (q47.map (Xa .ro)),.sl .ro 7 (q48.map (Xe .ro)),.sl .ro 11 (q49.map (Xc .ro))]]=some (.i .i64 (XW (Store.mk q44 q45 q46 q47)),[.u]):=Xb (0) rfl rfl (λcx h=>by
 have h1:=h0.2.2.2.1
 simp only at h1
 simp only[go_sem,reduceIte,↓reduceIte,nA,nB,nL,h,h1]) (rfl)
def Xq9:SP Tryz.prog:=mkS tyA 204 Tryz.f204 [s60] {md:=[.ro 1],rets:=some ([2],[])} Tryz.func204 (by kernel_rfl)
@[go_sem] def XLr:Xq9.g=204/\Xq9.fs=⟨[.ro 1],Xq9.F,false⟩:=⟨nr rfl,nr rfl⟩
@[go_sem] def XLs(mAt:Int)(q50:Bool):Xq9.F [.agg [.i .i64 mAt,.b q50]]=some (.b (!XC (Z2.mk mAt q50).At),[.u]):=Xb (0) rfl rfl (λcx h=>by
 simp only[go_sem,reduceIte,↓reduceIte,nA,nB,nL,h]) (rfl)
def XsJ:SP Tryz.prog:=mkS tyA 132 Tryz.f132 [] {md:=[.ro 1,.ro 1],rets:=some ([3],[])} Tryz.func132 (by kernel_rfl)
@[go_sem] def XLt:XsJ.g=132/\XsJ.fs=⟨[.ro 1,.ro 1],XsJ.F,false⟩:=⟨nr rfl,nr rfl⟩
@[go_sem] def XLu(mAt:Int)(q50:Bool)(q25 q26 q27 q28 q29 q30 q31 q32:Int)(q33:List ByteArray)(q34 q35 q36 q37 q38 q39 q40 q41 q42 q43 q44 q45:Int)(q46 q47:List XK)(q48:List Origin)(q49:List Xl):XsJ.F [.agg [.i .i64 mAt,.b q50],.pr [.i .i64 q25,.i .i64 q26,.i .i64 q27,.i .i64 q28,.i .i64 q29,.i .i64 q30,.i .i64 q31,.i .i64 q32,.sl .ro 1 (q33.map Ye),.i .i64 q34,.i .i64 q35,.i .i64 q36,.i .i64 q37,.i .i64 q38,.i .i64 q39,.i .i64 q40,.i .i64 q41,.i .i64 q42,.i .i64 q43,.i .i64 q44,.i .i64 q45,.sl .ro 13 (q46.map (Xa .ro)),.sl .ro 13 (q47.map (Xa .ro)),.sl .ro 7 (q48.map (Xe .ro)),.sl .ro 11 (q49.map (Xc .ro))]]=some (.b (decide (q42<mAt)),[.u,.u]):=Xb (0) rfl rfl (λcx h=>by
 simp only[go_sem,reduceIte,↓reduceIte,nA,nB,nL,h]) (rfl)
def Xra:SP Tryz.prog:=mkS tyA 199 Tryz.f199 [XsJ,Xq9] {md:=[.ro 1,.ro 1],rg:=[(0,[0,1],[]),(1,[0,1,7,8],[]),(2,[0,1,7,8,9],[]),(3,[0,1,5,7,8],[]),(4,[0,1,5,7,8,16],[]),(5,[4],[]),(6,[0,1,7,8],[]),(7,[4],[])],lv:=[(0,[0,1,7,8],[])],out:=[(0,[],[])],rets:=some ([4],[])} Tryz.func199 (by kernel_rfl)
@[go_sem] def XLv:Xra.g=199/\Xra.fs=⟨[.ro 1,.ro 1],Xra.F,false⟩:=⟨nr rfl,nr rfl⟩
@[go_sem] def Xuy(xs:List Z2)(hb:xs.length<=9223372036854775806):Xra.F [.sl .ro 2 (xs.map (XL .ro)),.fn 204 []]=some (.i .i64 (U6 (λx=>!XC x.At) xs 0),[.u,.u]):=Xb (xs.length+1) rfl rfl (λcx h=>by
 have hx:=hb
 have hb0:=Xg Tryz.f199 0 _ _ rfl rfl
 obtain⟨r,hr,hq⟩:=Xq (cx:=cx) (blk:=0) (body:=XN Tryz.f199 0) xs (λk (s:Nat)=>⟨E [(0,.sl .ro 2 (xs.map (XL .ro))),(1,.fn 204 []),(7,.i .i64 xs.length),(8,.i .i64 k)],B []⟩) (λs=>⟨E [],B []⟩) (λx s=>!XC x.At) (λx s=>s+1) (λx s=>(.ret,⟨E [(4,.i .i64 s)],B []⟩)) (λk s=>k=s)
   (λs hI G=>by simp only[go_sem,reduceIte,↓reduceIte,nB,nE,h,Int.lt_irrefl,hb0,hI]) (λk hk s hI=>by
    have h1:((k:Int)<(xs.length:Int)):=Int.ofNat_lt.2 hk
    obtain rfl:=hI
    exact⟨_,_,_,λG=>by simp only[go_sem,reduceIte,↓reduceIte,nA,nB,nE,h,Xi (XL .ro) xs _ hk,h1,Xh _ _ hk,Xd (show k<9223372036854775807 by omega),hb0]<;>with_reducible rfl,by first | exact Iff.rfl | simp,λhc=>⟨rfl,by simp only[go_sem,reduceIte,↓reduceIte,nB,h]⟩⟩) 0 rfl (xs.length+1) (Nat.le_refl _)
 rw[hb0] at hr
 rcases hq with⟨s',e1,_,e3⟩ | ⟨x,s',e1,e3⟩
 ·simp only[go_sem,reduceIte,↓reduceIte,nB,nE,iG,h,hr,e3,ZJ e1]
 ·simp only[go_sem,reduceIte,↓reduceIte,nB,h,hr,e3,Zc e1]) (rfl)
@[go_sem] def Xuz(xs:List Z2)(q25 q26 q27 q28 q29 q30 q31 q32:Int)(q33:List ByteArray)(q34 q35 q36 q37 q38 q39 q40 q41 q42 q43 q44 q45:Int)(q46 q47:List XK)(q48:List Origin)(q49:List Xl)(hb:xs.length<=9223372036854775806):Xra.F [.sl .ro 2 (xs.map (XL .ro)),.fn 132 [.pr [.i .i64 q25,.i .i64 q26,.i .i64 q27,.i .i64 q28,.i .i64 q29,.i .i64 q30,.i .i64 q31,.i .i64 q32,.sl .ro 1 (q33.map Ye),.i .i64 q34,.i .i64 q35,.i .i64 q36,.i .i64 q37,.i .i64 q38,.i .i64 q39,.i .i64 q40,.i .i64 q41,.i .i64 q42,.i .i64 q43,.i .i64 q44,.i .i64 q45,.sl .ro 13 (q46.map (Xa .ro)),.sl .ro 13 (q47.map (Xa .ro)),.sl .ro 7 (q48.map (Xe .ro)),.sl .ro 11 (q49.map (Xc .ro))]]]=some (.i .i64 (U6 (λx=>decide (q42<x.At)) xs 0),[.u,.u]):=Xb (xs.length+1) rfl rfl (λcx h=>by
 have hx:=hb
 have hb0:=Xg Tryz.f199 0 _ _ rfl rfl
 obtain⟨r,hr,hq⟩:=Xq (cx:=cx) (blk:=0) (body:=XN Tryz.f199 0) xs (λk (s:Nat)=>⟨E [(0,.sl .ro 2 (xs.map (XL .ro))),(1,.fn 132 [.pr [.i .i64 q25,.i .i64 q26,.i .i64 q27,.i .i64 q28,.i .i64 q29,.i .i64 q30,.i .i64 q31,.i .i64 q32,.sl .ro 1 (q33.map Ye),.i .i64 q34,.i .i64 q35,.i .i64 q36,.i .i64 q37,.i .i64 q38,.i .i64 q39,.i .i64 q40,.i .i64 q41,.i .i64 q42,.i .i64 q43,.i .i64 q44,.i .i64 q45,.sl .ro 13 (q46.map (Xa .ro)),.sl .ro 13 (q47.map (Xa .ro)),.sl .ro 7 (q48.map (Xe .ro)),.sl .ro 11 (q49.map (Xc .ro))]]),(7,.i .i64 xs.length),(8,.i .i64 k)],B []⟩) (λs=>⟨E [],B []⟩) (λx s=>decide (q42<x.At)) (λx s=>s+1) (λx s=>(.ret,⟨E [(4,.i .i64 s)],B []⟩)) (λk s=>k=s)
   (λs hI G=>by simp only[go_sem,reduceIte,↓reduceIte,nB,nE,h,Int.lt_irrefl,hb0,hI]) (λk hk s hI=>by
    have h1:((k:Int)<(xs.length:Int)):=Int.ofNat_lt.2 hk
    obtain rfl:=hI
    exact⟨_,_,_,λG=>by simp only[go_sem,reduceIte,↓reduceIte,nA,nB,nE,h,Xi (XL .ro) xs _ hk,decide_eq_true_eq,h1,Xh _ _ hk,Xd (show k<9223372036854775807 by omega),hb0]<;>with_reducible rfl,by first | exact Iff.rfl | simp,λhc=>⟨rfl,by simp only[go_sem,reduceIte,↓reduceIte,nB,h]⟩⟩) 0 rfl (xs.length+1) (Nat.le_refl _)
 rw[hb0] at hr
 rcases hq with⟨s',e1,_,e3⟩ | ⟨x,s',e1,e3⟩
 ·simp only[go_sem,reduceIte,↓reduceIte,nB,nE,iG,h,hr,e3,ZJ e1]
 ·simp only[go_sem,reduceIte,↓reduceIte,nB,h,hr,e3,Zc e1]) (rfl)
def XoX:SP Tryz.prog:=mkS tyA 131 Tryz.f131 [Xra] {md:=[.ro 1,.ro 1],rets:=some ([4],[])} Tryz.func131 (by kernel_rfl)
@[go_sem] def XLw:XoX.g=131/\XoX.fs=⟨[.ro 1,.ro 1],XoX.F,false⟩:=⟨nr rfl,nr rfl⟩
@[go_sem] def XuA(xs:List Z2)(hb:xs.length<=9223372036854775806):XoX.F [.sl .ro 2 (xs.map (XL .ro)),.fn 204 []]=some (.b (xs.any (λx=>!XC x.At)),[.u,.u]):=Xb (0) rfl rfl (λcx h=>by
 simp only[go_sem,reduceIte,↓reduceIte,nA,nB,h,hb,QR]) (rfl)
@[go_sem] def XuB(xs:List Z2)(q25 q26 q27 q28 q29 q30 q31 q32:Int)(q33:List ByteArray)(q34 q35 q36 q37 q38 q39 q40 q41 q42 q43 q44 q45:Int)(q46 q47:List XK)(q48:List Origin)(q49:List Xl)(hb:xs.length<=9223372036854775806):XoX.F [.sl .ro 2 (xs.map (XL .ro)),.fn 132 [.pr [.i .i64 q25,.i .i64 q26,.i .i64 q27,.i .i64 q28,.i .i64 q29,.i .i64 q30,.i .i64 q31,.i .i64 q32,.sl .ro 1 (q33.map Ye),.i .i64 q34,.i .i64 q35,.i .i64 q36,.i .i64 q37,.i .i64 q38,.i .i64 q39,.i .i64 q40,.i .i64 q41,.i .i64 q42,.i .i64 q43,.i .i64 q44,.i .i64 q45,.sl .ro 13 (q46.map (Xa .ro)),.sl .ro 13 (q47.map (Xa .ro)),.sl .ro 7 (q48.map (Xe .ro)),.sl .ro 11 (q49.map (Xc .ro))]]]=some (.b (xs.any (λx=>decide (q42<x.At))),[.u,.u]):=Xb (0) rfl rfl (λcx h=>by
 simp only[go_sem,reduceIte,↓reduceIte,nA,nB,h,hb,QR]) (rfl)
def Xrb:SP Tryz.prog:=mkS tyA 133 Tryz.f133 [Xkm,Xq2] {md:=[.ro 1],rets:=some ([2],[])} Tryz.func133 (by kernel_rfl)
@[go_sem] def XLx:Xrb.g=133/\Xrb.fs=⟨[.ro 1],Xrb.F,false⟩:=⟨nr rfl,nr rfl⟩
@[go_sem] def XLy(t:ByteArray):Xrb.F [.s t]=some (.b (QI t),[.u]):=Xb (0) rfl rfl (λcx h=>by
 simp only[go_sem,reduceIte,↓reduceIte,nA,nB,iL,h,QI]) (rfl)
def XoY:SP Tryz.prog:=mkS tyA 134 Tryz.f134 [] {md:=[.ro 1],rg:=[(0,[0],[]),(1,[3],[]),(2,[3,8,9,10],[]),(3,[3,8,9,10,11],[]),(4,[3,4,5,8,9,10],[]),(5,[3,4,5,8,9,10,20],[]),(6,[3,8,9,10],[]),(7,[3,8,9,10],[]),(8,[2],[])],lv:=[(0,[3,8,9,10],[])],out:=[(0,[3],[])],rets:=some ([2],[])} Tryz.func134 (by kernel_rfl)
@[go_sem] def XLz:XoY.g=134/\XoY.fs=⟨[.ro 1],XoY.F,false⟩:=⟨nr rfl,nr rfl⟩
@[go_sem] def XLA(t:ByteArray)(h0:t.size<=9223372036854775806):XoY.F [.s t]=some (.s (QH t),[.u]):=Xb (t.data.toList.length+1) rfl rfl (λcx h=>by
 have hz:t.data.toList.length<=9223372036854775807:=by rw[<-Xr]; omega
 have hx:t.data.toList.length<=9223372036854775806:=by rw[<-Xr]; exact h0
 have hb0:=Xg Tryz.f134 0 _ _ rfl rfl
 obtain⟨hI,hr⟩:=X0 (cx:=cx) (blk:=0) (body:=XN Tryz.f134 0) t.data.toList (λk (s:Unit)=>⟨E [(3,.sl .mut 1 ((Q2 t.data.toList k).map Yq)),(8,.rf ⟨true,3,[],0⟩ 1 0 t.data.toList.length),(9,.i .i64 t.data.toList.length),(10,.i .i64 k)],B []⟩) (λs=>⟨E [(3,.sl .mut 1 ((t.data.toList.map XhV).map Yq))],B []⟩) (λx s=>s) (λk s=>True)
   (λs hI G=>by simp only[go_sem,reduceIte,↓reduceIte,nB,nE,h,Int.lt_irrefl,hb0,XgH t.data.toList]) (λk hk s hI=>by
    have h1:((k:Int)<(t.data.toList.length:Int)):=Int.ofNat_lt.2 hk
    have g1:=XiT t.data.toList k hk
    have g2:=Xkv t.data.toList k hk
    have g3:=XgI t.data.toList k (Nat.le_of_lt hk)
    have g4:(List.take t.data.toList.length ((Q2 t.data.toList k).map Yq))=(Q2 t.data.toList k).map Yq:=List.take_of_length_le (by rw[List.length_map,g3]; exact Nat.le_refl _)
    rcases Xkx t.data.toList k hk with⟨a1,a2,w1,w2,hs,hv⟩ | ⟨a1,a2,w1,w2,hs,hv⟩ | ⟨a1,a2,w1,w2,hs,hv⟩
    all_goals exact⟨trivial,_,λG=>by simp only[go_sem,reduceIte,↓reduceIte,nB,nE,h,g1,g2,g3,a1,a2,w1,hs,List.length_map,h1,Xh _ _ hk,Xd (show k<9223372036854775807 by omega),hb0]<;>with_reducible rfl,by simp only[go_sem,reduceIte,↓reduceIte,nB,h,hv]⟩) () trivial (t.data.toList.length+1) (Nat.le_refl _)
 rw[hb0] at hr
 rw[Xfh] at hr
 simp only[go_sem,reduceIte,↓reduceIte,nB,nE,h,hz,hr,Xr t,QH]) (rfl)
def XsK:SP Tryz.prog:=mkS tyA 215 Tryz.f215 [] {md:=[.ro 1,.ro 1],rets:=some ([3],[])} Tryz.func215 (by kernel_rfl)
@[go_sem] def XLB:XsK.g=215/\XsK.fs=⟨[.ro 1,.ro 1],XsK.F,false⟩:=⟨nr rfl,nr rfl⟩
@[go_sem] def XLC(wId q51 id:Int):XsK.F [.agg [.i .i64 wId,.i .i64 q51],.pr [.i .i64 id]]=some (.b ((ZM.mk wId q51).Id==id),[.u,.u]):=Xb (0) rfl rfl (λcx h=>by
 simp only[go_sem,reduceIte,↓reduceIte,nA,nB,nL,h]) (rfl)
def Xrc:SP Tryz.prog:=mkS tyA 203 Tryz.f203 [s60] {md:=[.ro 1],rets:=some ([2],[])} Tryz.func203 (by kernel_rfl)
@[go_sem] def XLD:Xrc.g=203/\Xrc.fs=⟨[.ro 1],Xrc.F,false⟩:=⟨nr rfl,nr rfl⟩
@[go_sem] def XLE(wId q51:Int):Xrc.F [.agg [.i .i64 wId,.i .i64 q51]]=some (.b (!(XC (ZM.mk wId q51).Id&&XC (ZM.mk wId q51).Due)),[.u]):=Xb (0) rfl rfl (λcx h=>by
 cases h1:XC wId<;>cases h2:XC q51<;>simp only[go_sem,reduceIte,↓reduceIte,nA,nB,nL,h,h1,h2]) (rfl)
def XoZ:SP Tryz.prog:=mkS tyA 214 Tryz.f214 [Xrc,XsK] {md:=[.ro 1,.ro 1],rg:=[(0,[0,1],[]),(1,[0,1,7,8],[]),(2,[0,1,7,8,9],[]),(3,[0,1,5,7,8],[]),(4,[0,1,5,7,8,16],[]),(5,[4],[]),(6,[0,1,7,8],[]),(7,[4],[])],lv:=[(0,[0,1,7,8],[])],out:=[(0,[],[])],rets:=some ([4],[])} Tryz.func214 (by kernel_rfl)
@[go_sem] def XLF:XoZ.g=214/\XoZ.fs=⟨[.ro 1,.ro 1],XoZ.F,false⟩:=⟨nr rfl,nr rfl⟩
@[go_sem] def XuC(xs:List ZM)(id:Int)(hb:xs.length<=9223372036854775806):XoZ.F [.sl .ro 2 (xs.map (XF .ro)),.fn 215 [.pr [.i .i64 id]]]=some (.i .i64 (U6 (λx=>x.Id==id) xs 0),[.u,.u]):=Xb (xs.length+1) rfl rfl (λcx h=>by
 have hx:=hb
 have hb0:=Xg Tryz.f214 0 _ _ rfl rfl
 obtain⟨r,hr,hq⟩:=Xq (cx:=cx) (blk:=0) (body:=XN Tryz.f214 0) xs (λk (s:Nat)=>⟨E [(0,.sl .ro 2 (xs.map (XF .ro))),(1,.fn 215 [.pr [.i .i64 id]]),(7,.i .i64 xs.length),(8,.i .i64 k)],B []⟩) (λs=>⟨E [],B []⟩) (λx s=>x.Id==id) (λx s=>s+1) (λx s=>(.ret,⟨E [(4,.i .i64 s)],B []⟩)) (λk s=>k=s)
   (λs hI G=>by simp only[go_sem,reduceIte,↓reduceIte,nB,nE,h,Int.lt_irrefl,hb0,hI]) (λk hk s hI=>by
    have h1:((k:Int)<(xs.length:Int)):=Int.ofNat_lt.2 hk
    obtain rfl:=hI
    exact⟨_,_,_,λG=>by simp only[go_sem,reduceIte,↓reduceIte,nA,nB,nE,h,Xi (XF .ro) xs _ hk,h1,Xh _ _ hk,Xd (show k<9223372036854775807 by omega),hb0]<;>with_reducible rfl,by first | exact Iff.rfl | simp,λhc=>⟨rfl,by simp only[go_sem,reduceIte,↓reduceIte,nB,h]⟩⟩) 0 rfl (xs.length+1) (Nat.le_refl _)
 rw[hb0] at hr
 rcases hq with⟨s',e1,_,e3⟩ | ⟨x,s',e1,e3⟩
 ·simp only[go_sem,reduceIte,↓reduceIte,nB,nE,iG,h,hr,e3,ZJ e1]
 ·simp only[go_sem,reduceIte,↓reduceIte,nB,h,hr,e3,Zc e1]) (rfl)
@[go_sem] def XuD(xs:List ZM)(hb:xs.length<=9223372036854775806):XoZ.F [.sl .ro 2 (xs.map (XF .ro)),.fn 203 []]=some (.i .i64 (U6 (λx=>!(XC x.Id&&XC x.Due)) xs 0),[.u,.u]):=Xb (xs.length+1) rfl rfl (λcx h=>by
 have hx:=hb
 have hb0:=Xg Tryz.f214 0 _ _ rfl rfl
 obtain⟨r,hr,hq⟩:=Xq (cx:=cx) (blk:=0) (body:=XN Tryz.f214 0) xs (λk (s:Nat)=>⟨E [(0,.sl .ro 2 (xs.map (XF .ro))),(1,.fn 203 []),(7,.i .i64 xs.length),(8,.i .i64 k)],B []⟩) (λs=>⟨E [],B []⟩) (λx s=>!(XC x.Id&&XC x.Due)) (λx s=>s+1) (λx s=>(.ret,⟨E [(4,.i .i64 s)],B []⟩)) (λk s=>k=s)
   (λs hI G=>by simp only[go_sem,reduceIte,↓reduceIte,nB,nE,h,Int.lt_irrefl,hb0,hI]) (λk hk s hI=>by
    have h1:((k:Int)<(xs.length:Int)):=Int.ofNat_lt.2 hk
    obtain rfl:=hI
    exact⟨_,_,_,λG=>by simp only[go_sem,reduceIte,↓reduceIte,nA,nB,nE,h,Xi (XF .ro) xs _ hk,h1,Xh _ _ hk,Xd (show k<9223372036854775807 by omega),hb0]<;>with_reducible rfl,by first | exact Iff.rfl | simp,λhc=>⟨rfl,by simp only[go_sem,reduceIte,↓reduceIte,nB,h]⟩⟩) 0 rfl (xs.length+1) (Nat.le_refl _)
 rw[hb0] at hr
 rcases hq with⟨s',e1,_,e3⟩ | ⟨x,s',e1,e3⟩
 ·simp only[go_sem,reduceIte,↓reduceIte,nB,nE,iG,h,hr,e3,ZJ e1]
 ·simp only[go_sem,reduceIte,↓reduceIte,nB,h,hr,e3,Zc e1]) (rfl)
def Xrd:SP Tryz.prog:=mkS tyA 145 Tryz.f145 [XoZ] {md:=[.ro 1,.ro 1],rets:=some ([4],[]),fz:=[3]} Tryz.func145 (by kernel_rfl)
@[go_sem] def XLG:Xrd.g=145/\Xrd.fs=⟨[.ro 1,.ro 1],Xrd.F,false⟩:=⟨nr rfl,nr rfl⟩
@[go_sem] def XLH(q52:Int)(q53:List ZM)(id:Int)(h0:(Bulk.mk q52 q53).Queue.length<=9223372036854775806):Xrd.F [.agg [.i .i64 q52,.sl .ro 2 (q53.map (XF .ro))],.i .i64 id]=some (.i .i64 (Qg (Bulk.mk q52 q53) id),[.u,.u]):=Xb (0) rfl rfl (λcx h=>by
 simp only[go_sem,reduceIte,↓reduceIte,nA,nB,h,h0,Qg]) (rfl)
def Xre:SP Tryz.prog:=mkS tyA 202 Tryz.f202 [XoZ] {md:=[.ro 1,.ro 1],rets:=some ([4],[])} Tryz.func202 (by kernel_rfl)
@[go_sem] def XLI:Xre.g=202/\Xre.fs=⟨[.ro 1,.ro 1],Xre.F,false⟩:=⟨nr rfl,nr rfl⟩
@[go_sem] def XuE(xs:List ZM)(id:Int)(hb:xs.length<=9223372036854775806):Xre.F [.sl .ro 2 (xs.map (XF .ro)),.fn 215 [.pr [.i .i64 id]]]=some (.b (xs.any (λx=>x.Id==id)),[.u,.u]):=Xb (0) rfl rfl (λcx h=>by
 simp only[go_sem,reduceIte,↓reduceIte,nA,nB,h,hb,QR]) (rfl)
@[go_sem] def XuF(xs:List ZM)(hb:xs.length<=9223372036854775806):Xre.F [.sl .ro 2 (xs.map (XF .ro)),.fn 203 []]=some (.b (xs.any (λx=>!(XC x.Id&&XC x.Due))),[.u,.u]):=Xb (0) rfl rfl (λcx h=>by
 simp only[go_sem,reduceIte,↓reduceIte,nA,nB,h,hb,QR]) (rfl)
def XsL:SP Tryz.prog:=mkS tyA 136 Tryz.f136 [s93,s97,Xrd,Xre,Xrc] {md:=[.ro 1,.ro 1],rg:=[(0,[2,3],[2,3]),(1,[2,3,5],[2,3]),(2,[2,3,5,11],[2,3]),(3,[4],[]),(4,[2,3,13],[2,3]),(5,[4],[]),(6,[2,20],[2]),(7,[4],[]),(8,[2,27],[2]),(9,[4],[]),(10,[2,32,33,34],[2]),(11,[2,32,33,34,35],[2]),(12,[2,6,7,32,33,34],[2,7]),(13,[2,32,33,34,44],[2]),(14,[4],[]),(15,[2,32,33,34],[2]),(16,[4],[])],lv:=[(1,[2,32,33,34],[2])],out:=[(1,[],[])],rets:=some ([4],[])} Tryz.func136 (by kernel_rfl)
@[go_sem] def XLJ:XsL.g=136/\XsL.fs=⟨[.ro 1,.ro 1],XsL.F,false⟩:=⟨nr rfl,nr rfl⟩
@[go_sem] def XLK(q52:Int)(q53:List ZM)(q17 q18 q19:Int):XsL.F [.agg [.i .i64 q52,.sl .ro 2 (q53.map (XF .ro))],.agg [.i .i64 q17,.i .i64 q18,.i .i64 q19]]=some (.i .i64 (Yf (Bulk.mk q52 q53) (Lanes.mk q17 q18 q19)),[.u,.u]):=Xb (q53.length+1) rfl rfl (λcx h=>by
 by_cases z:Yn (Lanes.mk q17 q18 q19)=0
 rotate_left
 ·have z':(Yn (Lanes.mk q17 q18 q19) !=0)=true:=by simpa using z
  simp only[go_sem,reduceIte,↓reduceIte,nA,nB,nE,h,z',Yf]
 have hl:=Xcr z
 simp only at hl
 cases b1:within q52 0 q17
 ·simp only[go_sem,reduceIte,↓reduceIte,nA,nB,nE,nL,h,z,b1,Yf]
 by_cases b2:q18<(q53.length:Int)
 ·simp only[go_sem,reduceIte,↓reduceIte,nA,nB,nE,nL,h,z,b1,b2,Yf]
 have hx:q53.length<=9223372036854775806:=by omega
 cases b3:(q53.any λx=>!(XC x.Id&&XC x.Due))
 rotate_left
 ·simp only[go_sem,reduceIte,↓reduceIte,nA,nB,nE,nL,h,z,b1,b2,b3,hx,Yf]
 have hb0:=Xg Tryz.f136 0 _ _ rfl rfl
 obtain⟨q,hq,hqq⟩:=Xq (cx:=cx) (blk:=1) (body:=XN Tryz.f136 0) q53 (λk (s:List ZM)=>⟨E [(2,.p ⟨false,2,[],0⟩),(32,.sl .ro 2 (q53.map (XF .ro))),(33,.i .i64 q53.length),(34,.i .i64 k)],B [(2,[.i .i64 q52,.sl .ro 2 (q53.map (XF .ro))])]⟩) (λs=>⟨E [],B []⟩) (λx s=>s.any λy=>XhX y x) (λx s=>s++[x]) (λx s=>(.ret,⟨E [(4,.i .i64 6)],B []⟩)) (λk s=>s=q53.take k)
   (λs hI G=>by simp only[go_sem,reduceIte,↓reduceIte,nB,nE,h,Int.lt_irrefl,hb0]) (λk hk s hI=>by
    have h1:((k:Int)<(q53.length:Int)):=Int.ofNat_lt.2 hk
    have hit:=Xc0 (λx:ZM=>x.Id==q53[k].Id) q53 k hk (by simp)
    have hwu:Qg (Bulk.mk q52 q53) q53[k].Id=U6 (λx:ZM=>x.Id==q53[k].Id) q53 0:=rfl
    have c3:((q53.take k).any λy=>XhX y q53[k])=(q53.take k).any λx=>x.Id==q53[k].Id:=rfl
    subst hI
    exact⟨_,_,_,λG=>by simp only[go_sem,reduceIte,↓reduceIte,nA,nB,nE,nL,h,Xi (XF .ro) q53 k hk,hx,hwu,hit,h1,Xh _ _ hk,Xd (show k<9223372036854775807 by omega),hb0]<;>with_reducible rfl,by rw[c3],λhc=>⟨(ZN q53 k hk).symm,by simp only[go_sem,reduceIte,↓reduceIte,nB,h]⟩⟩) [] rfl (q53.length+1) (Nat.le_refl _)
 rw[hb0] at hq
 rcases hqq with⟨s',e1,_,e3⟩ | ⟨x,s',e1,e3⟩
 ·have e2:=XaO e1
  simp only[go_sem,reduceIte,↓reduceIte,nA,nB,nE,nL,h,z,b1,b2,b3,hx,hq,e3,e2,Yf]
 ·have e2:=XaP e1
  simp only[go_sem,reduceIte,↓reduceIte,nA,nB,nE,nL,h,z,b1,b2,b3,hx,hq,e3,e2,Yf]) (rfl)
def XsM:SP Tryz.prog:=mkS tyA 135 Tryz.f135 [XsL] {md:=[.ro 1,.ro 1],rets:=some ([2],[])} Tryz.func135 (by kernel_rfl)
@[go_sem] def XLL:XsM.g=135/\XsM.fs=⟨[.ro 1,.ro 1],XsM.F,false⟩:=⟨nr rfl,nr rfl⟩
@[go_sem] def XLM(q54:ByteArray)(q55:Int)(q56:List ZM)(q57 q58 q59:Int)(q60:List Z2)(q25 q26 q27 q28 q29 q30 q31 q32:Int)(q33:List ByteArray)(q34 q35 q36 q37 q38 q39 q40 q41 q42 q43 q44 q45:Int)(q46 q47:List XK)(q48:List Origin)(q49:List Xl):XsM.F [.pr [.s q54,.i .i64 q55,.sl .ro 2 (q56.map (XF .ro)),.i .i64 q57,.i .i64 q58,.i .i64 q59,.sl .ro 2 (q60.map (XL .ro))],.pr [.i .i64 q25,.i .i64 q26,.i .i64 q27,.i .i64 q28,.i .i64 q29,.i .i64 q30,.i .i64 q31,.i .i64 q32,.sl .ro 1 (q33.map Ye),.i .i64 q34,.i .i64 q35,.i .i64 q36,.i .i64 q37,.i .i64 q38,.i .i64 q39,.i .i64 q40,.i .i64 q41,.i .i64 q42,.i .i64 q43,.i .i64 q44,.i .i64 q45,.sl .ro 13 (q46.map (Xa .ro)),.sl .ro 13 (q47.map (Xa .ro)),.sl .ro 7 (q48.map (Xe .ro)),.sl .ro 11 (q49.map (Xc .ro))]]=some (.i .i64 (Yf (Bulk.mk q55 q56) (Lanes.mk q34 q35 q36)),[.u,.u]):=Xb (0) rfl rfl (λcx h=>by
 simp only[go_sem,reduceIte,↓reduceIte,nA,nB,nL,h]) (rfl)
def Xrf:SP Tryz.prog:=mkS tyA 206 Tryz.f206 [] {md:=[.ro 1,.ro 1],rets:=some ([4],[])} Tryz.func206 (by kernel_rfl)
@[go_sem] def XLN:Xrf.g=206/\Xrf.fs=⟨[.ro 1,.ro 1],Xrf.F,false⟩:=⟨nr rfl,nr rfl⟩
@[go_sem] def XLO(xAt:Int)(q61:Bool)(yAt:Int)(q62:Bool):Xrf.F [.agg [.i .i64 xAt,.b q61],.agg [.i .i64 yAt,.b q62]]=some (.i .i64 ((IntKind.i64).wrap ((Z2.mk xAt q61).At-(Z2.mk yAt q62).At)),[.u,.u]):=Xb (0) rfl rfl (λcx h=>by
 simp only[go_sem,reduceIte,↓reduceIte,nA,nB,nL,h]) (rfl)
def XsN:SP Tryz.prog:=mkS tyA 205 Tryz.f205 [Xrf] {md:=[.ro 1,.ro 1],rg:=[(0,[0,1],[]),(1,[0,1,5],[]),(2,[0,1,5,10],[]),(3,[0,1,5],[]),(4,[0,1,5,24],[]),(5,[4],[]),(6,[4],[])],lv:=[(0,[0,1,5],[])],out:=[(0,[],[])],rets:=some ([4],[]),plan:=[(4,(.take 0 (.take 1 (.take 2 (.take 3 (.take 4 (.take 5 (.take 6 (.take 7 (.take 8 (.take 9 (.one 10 (.take 11 .done)))))))))))))]} Tryz.func205 (by kernel_rfl)
@[go_sem] def XLP:XsN.g=205/\XsN.fs=⟨[.ro 1,.ro 1],XsN.F,false⟩:=⟨nr rfl,nr rfl⟩
@[go_sem] def XLQ(xs:List Z2)(h0:XoO xs=false)(hb:xs.length<=1000):XsN.F [.sl .ro 2 (xs.map (XL .ro)),.fn 206 []]=some (.b (!QK xs),[.u,.u]):=Xb (xs.length+1) rfl rfl (λcx h=>by
 have w0:(IntKind.i64).wrap ((xs.length:Int)-1)=(xs.length:Int)-1-((0:Nat):Int):=by rw[Xo (by omega) (by omega)]; omega
 have hb0:=Xg Tryz.f205 0 _ _ rfl rfl
 obtain⟨r,hr,hq⟩:=Xq (cx:=cx) (blk:=0) (body:=XN Tryz.f205 0) (xs.zip xs.tail).reverse (λk (s:Unit)=>⟨E [(0,.sl .ro 2 (xs.map (XL .ro))),(1,.fn 206 []),(5,.i .i64 ((xs.length:Int)-1-k))],B []⟩) (λs=>⟨E [],B []⟩) (λx s=>decide (x.2.At<x.1.At)) (λx s=>()) (λx s=>(.ret,⟨E [(4,.b false)],B []⟩)) (λk s=>True)
   (λs hI G=>by simp only[go_sem,reduceIte,↓reduceIte,nB,nE,h,hb0,show ¬(0<((xs.length:Int)-1-((xs.zip xs.tail).reverse.length:Nat))) by simp; omega]) (λk hk s hI=>by
    have h1:((k:Int)<((xs.zip xs.tail).reverse.length:Int)):=Int.ofNat_lt.2 hk
    have hk2:k<xs.length-1:=by simpa using hk
    have h3:(xs.zip xs.tail).reverse[k]=(xs[xs.length-2-k]'(by omega),xs[xs.length-1-k]'(by omega)):=by
     rw[List.getElem_reverse,Xee]
     have e1:(xs.zip xs.tail).length-1-k=xs.length-2-k:=by rw[XgO]; omega
     have e2:xs.length-2-k+1=xs.length-1-k:=by omega
     simp only[e1,e2]
    rw[h3]
    have t1:=XfS.1 (XiY h0 (List.getElem_mem (show xs.length-2-k<xs.length by omega)))
    have t2:=XfS.1 (XiY h0 (List.getElem_mem (show xs.length-1-k<xs.length by omega)))
    have i1:((xs.length:Int)-1-k)=((xs.length-1-k:Nat):Int):=by omega
    have i0:0<((xs.length-1-k:Nat):Int):=by omega
    have i2:(IntKind.i64).wrap (((xs.length-1-k:Nat):Int)-1)=((xs.length-2-k:Nat):Int):=by rw[Xo (by omega) (by omega)]; omega
    have i3:(xs.length:Int)-1-(k+1:Nat)=((xs.length-2-k:Nat):Int):=by omega
    have w1:(IntKind.i64).wrap ((xs[xs.length-1-k]'(by omega)).At-(xs[xs.length-2-k]'(by omega)).At)=(xs[xs.length-1-k]'(by omega)).At-(xs[xs.length-2-k]'(by omega)).At:=Xo (by omega) (by omega)
    exact⟨_,_,_,λG=>by simp only[go_sem,reduceIte,↓reduceIte,nA,nB,nE,h,i1,i0,i2,w1,Xh xs.length _ (show xs.length-1-k<xs.length by omega),Xh xs.length _ (show xs.length-2-k<xs.length by omega),Xi (XL .ro) xs _ (show xs.length-1-k<xs.length by omega),Xi (XL .ro) xs _ (show xs.length-2-k<xs.length by omega),hb0]<;>with_reducible rfl,by simp<;>omega,λhc=>⟨trivial,by simp only[go_sem,reduceIte,↓reduceIte,nB,h,i3]⟩⟩) () trivial (xs.length+1) (by simp<;>omega)
 rw[hb0] at hr
 rcases hq with⟨s',e1,_,e3⟩ | ⟨x,s',e1,e3⟩
 ·have e4:QK xs=false:=by rw[QK,<-List.any_reverse]; exact runS_any e1
  simp only[go_sem,reduceIte,↓reduceIte,nB,nE,h,w0,hr,e3,e4]
 ·have e4:QK xs=true:=by rw[QK,<-List.any_reverse]; exact(XbX e1).1
  simp only[go_sem,reduceIte,↓reduceIte,nB,h,w0,hr,e3,e4]) (rfl)
end
end Go.Vm.A
