/- Functions of the program, walked by the evaluator. -/
import Derived.Test.YtpoannkeaajngaaGreatDoorWb
import Derived.Test.YtpoannkeaajngaaGreatDoorWa
import Derived.Test.YtpoannkeaajngaaGreatDoorFa
import Derived.Test.YtpoannkeaajngaaGreatDoorFb
import Derived.Test.YtpoannkeaajngaaGreatDoorFc
set_option linter.unusedVariables false
set_option linter.unusedSimpArgs false
set_option autoImplicit false
set_option maxRecDepth 100000
set_option maxHeartbeats 4000000
set_option linter.defProp false
namespace Go.Vm.A
open Go.Proofs
open Nat renaming reduceAdd -> nA, reduceSub -> nS, reduceMul -> nM, reduceBEq -> nB, reduceEqDiff -> nE, reduceLeDiff -> nL, reduceLT -> nT, reduceBneDiff -> nN
open Int renaming reduceLE -> iL, reduceLT -> iT, reduceEq -> iE, reduceAdd -> iA, reduceMul -> iM, reduceSub -> iS, reduceNeg -> iG, reduceBEq -> iB, reduceBNe -> iN, reduceToNat -> iZ
noncomputable section
def Xa3{b:ByteArray}(h:Nat.ble b.size 1048576=true):XeS b:=Nat.le_of_ble_eq_true h
def ZN(code:List UInt8)(a:Int)(xs:List ByteArray)(h:(xs.all λx=>decide (x.size<=1048576))=true):XeS (Yw code a xs):=by
 unfold Yw XeS
 rw[List.getD_eq_getElem?_getD]
 cases hx:xs[(XW code a xs.length).toNat]? with
 | none=>exact Xa3 (b:=⟨#[]⟩) rfl
 | some x=>exact of_decide_eq_true (List.all_eq_true.1 h x (List.mem_of_getElem? hx))
def Xjz(code:List UInt8)(a:Int):Xg (Q6 code a):=by
 unfold Q6 Xby
 repeat' split
 all_goals first | exact⟨ZN _ _ _ (by decide),ZN _ _ _ (by decide)⟩ | exact⟨Xa3 rfl,ZN _ _ _ (by decide)⟩
def Xan(code:List UInt8)(s:Int×List Xd)(m:Nat)(h:∀x∈s.2,Xg x):∀x∈((List.range m).foldl (λs _=>(QM code s.1,s.2++[Q6 code s.1])) s).2,Xg x:=by
 induction m with
 | zero=>exact h
 | succ m ih =>
  rw[List.range_succ,List.foldl_append]
  intro x hx
  rcases List.mem_append.1 hx with hx | hx
  ·exact ih x hx
  ·obtain rfl:=List.mem_singleton.1 hx
   exact Xjz _ _
def XbB{l:List Xd}{y:Xd}(h:∀x∈l,Xg x)(hy:Xg y):∀x∈l++[y],Xg x:=by
 intro x hx
 rcases List.mem_append.1 hx with hx | hx
 ·exact h x hx
 ·obtain rfl:=List.mem_singleton.1 hx
  exact hy
def Xdn(code:List UInt8){a:Int}(ha:dOk a=true):∀x∈(QN code a).2,Xg x:=by
 simp only[dOk,decide_eq_true_eq] at ha
 have h0:∀x∈(Uv code a).2,Xg x:=Xan code (a+1,[]) _ (λx hx=>by simp at hx)
 obtain⟨i1,i2,i3,_⟩:=Xe3 code (show aOk a=true by simp only[aOk,decide_eq_true_eq]; omega)
 have m1:=YX code [200,201] (show aOk ((Uv code a).1+1)=true by simp only[aOk,decide_eq_true_eq]; omega) (by simp)
 simp only[List.mem_cons,List.not_mem_nil,or_false] at m1
 have i4:=Xbp code ((Uv code a).1+1)
 unfold QN
 simp only
 repeat' split
 ·exact XbB h0 ⟨ZN _ _ _ (by decide),Xa3 rfl⟩
 ·exact XbB h0 ⟨Xa3 rfl,ZN _ _ _ (by decide)⟩
 ·refine XbB h0 ⟨Xa3 rfl,?_⟩
  show(_++_:ByteArray).size<=1048576
  rw[ByteArray.size_append,ByteArray.size_extract,Ym]
  have:(ByteArray.mk #[118]).size=1:=rfl
  rw[this]
  omega
 ·exact Xan code _ _ h0
 ·refine XbB h0 ⟨Xa3 rfl,?_⟩
  show(Yn _ _ _).size<=1048576
  rw[Ym]
  have:(ByteArray.mk #[]).size=0:=rfl
  rw[this]
  omega
 ·exact h0
def XlX(code:List UInt8){a:Int}(h:dOk a=true):XeU (Xjw code a):=by
 have i:=Xbz code h
 refine⟨ZN _ _ _ (by decide),ZN _ _ _ (by decide),ZN _ _ _ (by decide),?_,Xan code _ _ (λx hx=>by simp at hx)⟩
 show(Xe1 code a).2.length<=1048576
 omega
def XjA(code:List UInt8){a:Int}(h:eOk a=true):XeU (Zh code a).2:=by
 simp only[eOk,decide_eq_true_eq] at h
 have p0:dOk a=true:=by simp only[dOk,decide_eq_true_eq]; omega
 obtain⟨r1,r2,r3,r4,r5⟩:=XlX code p0
 have i:=Xbz code p0
 have p1:dOk ((Xe1 code a).1+1)=true:=by simp only[dOk,decide_eq_true_eq]; omega
 have m1:=YX code [100,101] (show aOk ((Xe1 code a).1+1)=true by simp only[aOk,decide_eq_true_eq]; omega) (by simp)
 simp only[List.mem_cons,List.not_mem_nil,or_false] at m1
 have i3:(Xjw code a).Headers.length<=2:=i.2.2
 have i4:=XdX code p0
 unfold Zh
 simp only
 repeat' split
 ·exact⟨ZN _ _ _ (by decide),r2,r3,r4,r5⟩
 ·exact⟨r1,ZN _ _ _ (by decide),r3,r4,r5⟩
 ·exact⟨r1,r2,ZN _ _ _ (by decide),r4,r5⟩
 ·exact⟨r1,r2,r3,by show(_++_:List Xd).length<=1048576; simp only[List.length_append,List.length_cons,List.length_nil]; omega,XbB r5 ⟨Xa3 rfl,Xa3 rfl⟩⟩
 ·exact⟨r1,r2,r3,by have:=(Xam code p1).2.2; show(QN code ((Xe1 code a).1+1)).2.length<=1048576; omega,Xdn code p1⟩
 ·refine⟨r1,r2,?_,r4,r5⟩
  show(Yn _ _ _).size<=1048576
  rw[Ym]
  unfold Xjx
  omega
 ·exact⟨r1,r2,r3,r4,r5⟩
def XbC(code:List UInt8):Int×Request:=if(XW code (Zh code 0).1 4==0)=true then((Zh code 0).1+1+1,{(Zh code 0).2 with Headers:=(Zh code 0).2.Headers++[Xd.mk (Yw code ((Zh code 0).1+1) [⟨#[73,102,45,78,111,110,101,45,77,97,116,99,104]⟩,⟨#[105,102,45,109,111,100,105,102,105,101,100,45,115,105,110,99,101]⟩]) ⟨#[120]⟩]}) else((Zh code 0).1+1,(Zh code 0).2)
def ffB(code:List UInt8):Int×X2:=Xdm code (XbC code).1
def Xe8(code:List UInt8):Int×X2:=if(XW code (ffB code).1 2==0)=true then((ffB code).1+1+1,{(ffB code).2 with Headers:=(ffB code).2.Headers++[Xd.mk ⟨#[101,116,97,103]⟩ (Yw code ((ffB code).1+1) [⟨#[34,118,49,34]⟩,⟨#[]⟩])]}) else((ffB code).1+1,(ffB code).2)
def XjB(code:List UInt8):Bool:=!(XW code (Xe8 code).1 3==0)
def XjC(code:List UInt8){a:Int}(h:eOk a=true):smL Xg (Xdm code a).2.Headers:=by
 have hl:=(Xe7 code h).2.2
 refine⟨by omega,?_⟩
 simp only[eOk,decide_eq_true_eq] at h
 have p2:aOk (a+2)=true:=by simp only[aOk,decide_eq_true_eq]; omega
 have h1:=Xe6 code p2
 have h0:∀x∈(XbA code a).Headers,Xg x:=Xan code _ _ (λx hx=>by simp at hx)
 have h3:=Xdn code (a:=Xjk code a+1) (by simp only[dOk,decide_eq_true_eq]; omega)
 unfold Xdm
 simp only
 repeat' split
 all_goals first | exact h0 | exact h3
def Xdo(code:List UInt8):smL Xg (XbC code).2.Headers/\0<=(XbC code).1/\(XbC code).1<=1400:=by
 have h1:=Xf4 code (a:=0) rfl
 have h2:=(XjA code (a:=0) rfl).2.2.2
 have h3:(Zh code 0).2.Headers.length<=1048576:=h2.1
 have h4:=Xf5 code (a:=0) rfl
 unfold XbC
 split
 ·refine⟨⟨by simp only[List.length_append,List.length_cons,List.length_nil]; omega,XbB h2.2 ⟨ZN _ _ _ (by decide),by show(1:Nat)<=_; omega⟩⟩,by simp only; omega,by simp only; omega⟩
 ·exact⟨h2,by simp only; omega,by simp only; omega⟩
def XjD(code:List UInt8):smL Xg (Xe8 code).2.Headers:=by
 have h1:=(Xdo code).2
 have he:eOk (XbC code).1=true:=by simp only[eOk,decide_eq_true_eq]; omega
 have h2:=XjC code he
 have h3:=(Xe7 code he).2.2
 unfold Xe8 ffB
 split
 ·exact⟨by simp only[List.length_append,List.length_cons,List.length_nil]; omega,XbB h2.2 ⟨by show(4:Nat)<=_; omega,ZN _ _ _ (by decide)⟩⟩
 ·exact h2
def s6:SP Tryz.prog:=mkS tyA 6 Tryz.f6 [s25,s26,s27,s28,s29] {md:=[.ro 1],rg:=[(0,[0,2,3],[2,3,6,7]),(1,[2,3,5],[2,3,6,7,9]),(2,[2,3,5,6],[2,3,6,7,9]),(3,[2,3,5,6,13],[2,3,6,7,9]),(4,[2,3,5,6],[2,3,6,7,9]),(5,[2,3,5,6,7],[2,3,6,7,9]),(6,[2,3,5,6,7,26],[2,3,6,7,9]),(7,[2,3,5,6,7],[2,3,6,7,9]),(8,[2,3,4],[2,3,6,7])],rets:=some ([2,3,4],[2,3,6,7]),plan:=[(4,(.take 0 (.take 2 (.alt 1 (.one 3 (.one 4 (.one 5 (.one 6 (.one 7 (.take 8 (.one 9 .done))))))) (.one 3 (.alt 1 (.one 4 (.one 5 (.one 6 (.one 7 (.take 8 (.one 9 .done)))))) (.one 4 (.alt 1 (.one 5 (.one 6 (.one 7 (.take 8 (.one 9 .done))))) (.one 5 (.alt 1 (.one 6 (.one 7 (.take 8 (.one 9 .done)))) (.one 6 (.one 1 (.one 7 (.take 8 (.one 9 .done))))))))))))))),(7,(.take 0 (.take 2 (.alt 1 (.one 3 (.one 4 (.one 5 (.one 6 (.one 7 (.take 8 (.one 9 .done))))))) (.one 3 (.alt 1 (.one 4 (.one 5 (.one 6 (.one 7 (.take 8 (.one 9 .done)))))) (.one 4 (.alt 1 (.one 5 (.one 6 (.one 7 (.take 8 (.one 9 .done))))) (.one 5 (.alt 1 (.one 6 (.one 7 (.take 8 (.one 9 .done)))) (.one 6 (.one 1 (.one 7 (.take 8 (.one 9 .done))))))))))))))),(8,(.take 2 (.alt 0 (.alt 1 (.one 3 (.alt 4 (.one 5 (.one 6 (.one 7 .done))) (.one 5 (.alt 4 (.one 6 (.one 7 .done)) (.one 6 (.one 4 (.one 7 .done))))))) (.one 3 (.alt 1 (.alt 4 (.one 5 (.one 6 (.one 7 .done))) (.one 5 (.alt 4 (.one 6 (.one 7 .done)) (.one 6 (.one 4 (.one 7 .done)))))) (.alt 4 (.alt 1 (.one 5 (.one 6 (.one 7 .done))) (.one 5 (.one 1 (.one 6 (.one 7 .done))))) (.one 5 (.alt 1 (.alt 4 (.one 6 (.one 7 .done)) (.one 6 (.one 4 (.one 7 .done)))) (.one 4 (.one 1 (.one 6 (.one 7 .done)))))))))) (.alt 1 (.alt 0 (.one 3 (.alt 4 (.one 5 (.one 6 (.one 7 .done))) (.one 5 (.alt 4 (.one 6 (.one 7 .done)) (.one 6 (.one 4 (.one 7 .done))))))) (.one 3 (.alt 0 (.alt 4 (.one 5 (.one 6 (.one 7 .done))) (.one 5 (.alt 4 (.one 6 (.one 7 .done)) (.one 6 (.one 4 (.one 7 .done)))))) (.one 4 (.one 0 (.one 5 (.one 6 (.one 7 .done)))))))) (.one 3 (.alt 0 (.alt 1 (.alt 4 (.one 5 (.one 6 (.one 7 .done))) (.one 5 (.alt 4 (.one 6 (.one 7 .done)) (.one 6 (.one 4 (.one 7 .done)))))) (.alt 4 (.alt 1 (.one 5 (.one 6 (.one 7 .done))) (.one 5 (.one 1 (.one 6 (.one 7 .done))))) (.one 5 (.alt 1 (.alt 4 (.one 6 (.one 7 .done)) (.one 6 (.one 4 (.one 7 .done)))) (.one 4 (.one 1 (.one 6 (.one 7 .done)))))))) (.alt 1 (.alt 0 (.alt 4 (.one 5 (.one 6 (.one 7 .done))) (.one 5 (.alt 4 (.one 6 (.one 7 .done)) (.one 6 (.one 4 (.one 7 .done)))))) (.one 4 (.one 0 (.one 5 (.one 6 (.one 7 .done)))))) (.one 4 (.alt 0 (.alt 1 (.one 5 (.one 6 (.one 7 .done))) (.one 5 (.one 1 (.one 6 (.one 7 .done))))) (.one 1 (.one 0 (.one 5 (.one 6 (.one 7 .done))))))))))))))]} Tryz.func6 (by kernel_rfl)
@[go_sem] def d6:s6.g=6/\s6.fs=⟨[.ro 1],s6.F,false⟩:=⟨nr rfl,nr rfl⟩
@[go_sem] def e6(code:List UInt8):s6.F [.sl .ro 1 (code.map Xn)]=some (.tup [.agg (Zs .mut (XbC code).2),.agg (XaJ .mut (Xe8 code).2),.b (XjB code)],[.u]):=Xm (0) rfl rfl (λcx h=>by
 have f0:eOk 0=true:=rfl
 have hb1:=Xf4 code (a:=0) rfl
 have hl:=Xf5 code (a:=0) rfl
 have hS:=Xdo code
 have hu:XbC code=if(XW code (Zh code 0).1 4==0)=true then((Zh code 0).1+1+1,{(Zh code 0).2 with Headers:=(Zh code 0).2.Headers++[Xd.mk (Yw code ((Zh code 0).1+1) [⟨#[73,102,45,78,111,110,101,45,77,97,116,99,104]⟩,⟨#[105,102,45,109,111,100,105,102,105,101,100,45,115,105,110,99,101]⟩]) ⟨#[120]⟩]}) else((Zh code 0).1+1,(Zh code 0).2):=rfl
 have hw:Xe8 code=if(XW code (ffB code).1 2==0)=true then((ffB code).1+1+1,{(ffB code).2 with Headers:=(ffB code).2.Headers++[Xd.mk ⟨#[101,116,97,103]⟩ (Yw code ((ffB code).1+1) [⟨#[34,118,49,34]⟩,⟨#[]⟩])]}) else((ffB code).1+1,(ffB code).2):=rfl
 have hv:ffB code=Xdm code (XbC code).1:=rfl
 obtain⟨Q,hQ⟩:∃Q,Zh code 0=Q:=⟨_,rfl⟩
 rw[hQ] at hb1 hl hu
 obtain⟨p,r⟩:=Q
 simp only at hb1 hl hu
 have p0:aOk p=true:=by simp only[aOk,decide_eq_true_eq]; omega
 have p1:aOk (p+1)=true:=by simp only[aOk,decide_eq_true_eq]; omega
 have t3:(r.Headers.length+1)*32<=140737488355328:=by omega
 have t4:∀x y,r.Headers.map (Xb .mut)++[[.s x,.s y]]=(r.Headers++[Xd.mk x y]).map (Xb .mut):=λx y=>by simp[Xb]
 obtain⟨q,hq⟩:∃q,(XbC code).1=q:=⟨_,rfl⟩
 rw[hq] at hv hS
 have q0:eOk q=true:=by simp only[eOk,decide_eq_true_eq]; omega
 have hB1:=Xe7 code q0
 obtain⟨B,hB⟩:∃B,Xdm code q=B:=⟨_,rfl⟩
 rw[hB] at hB1 hv
 rw[hv] at hw
 obtain⟨b,e⟩:=B
 simp only at hB1 hw
 have e0:aOk b=true:=by simp only[aOk,decide_eq_true_eq]; omega
 have e1:aOk (b+1)=true:=by simp only[aOk,decide_eq_true_eq]; omega
 have t5:(e.Headers.length+1)*32<=140737488355328:=by omega
 have t6:∀x y,e.Headers.map (Xb .mut)++[[.s x,.s y]]=(e.Headers++[Xd.mk x y]).map (Xb .mut):=λx y=>by simp[Xb]
 obtain⟨E,hE⟩:∃E,Xe8 code=E:=⟨_,rfl⟩
 have hH:XjB code=!(XW code E.1 3==0):=by unfold XjB; rw[hE]
 rw[hE] at hw
 cases c1:XW code p 4==0<;>cases c2:XW code b 2==0
 all_goals
  rw[c1] at hu
  rw[c2] at hw
  simp only[if_true,if_false,Bool.false_eq_true] at hu hw
  subst hw
  rw[hu] at hq
  simp only at hq
  have g0:aOk (b+1)=true:=e1
  have g1:aOk (b+1+1)=true:=by simp only[aOk,decide_eq_true_eq]; omega
  simp only[go_sem,reduceIte,↓reduceIte,reduceCtorEq,nA,nS,nM,nB,nE,nL,nT,nN,iL,iT,iE,iA,iM,iS,iG,iB,iN,iZ,h,f0,hQ,hq,hB,p0,p1,q0,e0,e1,g1,t3,t4,t5,t6,c1,c2,hu,hE,hH]) (by simp only[go_sem,reduceIte,↓reduceIte,reduceCtorEq,nA,nS,nM,nB,nE,nL,nT,nN,iL,iT,iE,iA,iM,iS,iG,iB,iN,iZ,ZH,XF,XU,XO])
def XnX:SP Tryz.prog:=mkS tyA 141 Tryz.f141 [] {md:=[.ro 1],rets:=some ([2],[])} Tryz.func141 (by kernel_rfl)
@[go_sem] def XEI:XnX.g=141/\XnX.fs=⟨[.ro 1],XnX.F,false⟩:=⟨nr rfl,nr rfl⟩
@[go_sem] def XEJ(c:UInt8):XnX.F [.i .u8 c.toNat]=some (.b (ZM c),[.u]):=Xm (0) rfl rfl (λcx h=>by
 by_cases h1:97<=(c.toNat:Int)<;>by_cases h2:(c.toNat:Int)<=122<;>by_cases h3:65<=(c.toNat:Int)<;>by_cases h4:(c.toNat:Int)<=90<;>simp only[go_sem,reduceIte,↓reduceIte,reduceCtorEq,nA,nS,nM,nB,nE,nL,nT,nN,iL,iT,iE,iA,iM,iS,iG,iB,iN,iZ,h,h1,h2,h3,h4,ZM]) (rfl)
def XlY:SP Tryz.prog:=mkS tyA 142 Tryz.f142 [] {md:=[.ro 1],rets:=some ([2],[])} Tryz.func142 (by kernel_rfl)
@[go_sem] def XEK:XlY.g=142/\XlY.fs=⟨[.ro 1],XlY.F,false⟩:=⟨nr rfl,nr rfl⟩
@[go_sem] def XEL(c:UInt8):XlY.F [.i .u8 c.toNat]=some (.b (Z6 c),[.u]):=Xm (0) rfl rfl (λcx h=>by
 by_cases h1:48<=(c.toNat:Int)<;>by_cases h2:(c.toNat:Int)<=57<;>simp only[go_sem,reduceIte,↓reduceIte,reduceCtorEq,nA,nS,nM,nB,nE,nL,nT,nN,iL,iT,iE,iA,iM,iS,iG,iB,iN,iZ,h,h1,h2,Z6]) (rfl)
def Xos:SP Tryz.prog:=⟨194,⟨[.ro 1,.ro 1],Xp1,false⟩,Xpt Tryz.func194 (by kernel_rfl) (by kernel_rfl) (by kernel_rfl) (by kernel_rfl)⟩
@[go_sem] def XEM:Xos.g=194/\Xos.fs=⟨[.ro 1,.ro 1],Xos.F,false⟩:=⟨nr rfl,nr rfl⟩
@[go_sem] def XEN(s:ByteArray)(c:UInt8):Xos.F [.s s,.i .u8 c.toNat]=some (.i .i64 (ixB s c),[.u,.u]):=by
 show Xp1 [.s s,.i .u8 c.toNat]=_
 rw[XnI,Xor]
 rfl
def Xot:SP Tryz.prog:=mkS tyA 178 Tryz.f178 [Xos] {md:=[.ro 1,.ro 1],rets:=some ([4],[])} Tryz.func178 (by kernel_rfl)
@[go_sem] def XEO:Xot.g=178/\Xot.fs=⟨[.ro 1,.ro 1],Xot.F,false⟩:=⟨nr rfl,nr rfl⟩
@[go_sem] def XEP(s:ByteArray)(c:UInt8):Xot.F [.s s,.i .u8 c.toNat]=some (.i .i64 (ixB s c),[.u,.u]):=Xm (0) rfl rfl (λcx h=>by
 simp only[go_sem,reduceIte,↓reduceIte,reduceCtorEq,nA,nS,nM,nB,nE,nL,nT,nN,iL,iT,iE,iA,iM,iS,iG,iB,iN,iZ,h]) (rfl)
def XnY:SP Tryz.prog:=mkS tyA 143 Tryz.f143 [Xot] {md:=[.ro 1,.ro 1],rets:=some ([4],[])} Tryz.func143 (by kernel_rfl)
@[go_sem] def XEQ:XnY.g=143/\XnY.fs=⟨[.ro 1,.ro 1],XnY.F,false⟩:=⟨nr rfl,nr rfl⟩
@[go_sem] def XER(s:ByteArray)(c:UInt8):XnY.F [.s s,.i .u8 c.toNat]=some (.i .i64 (ixB s c),[.u,.u]):=Xm (0) rfl rfl (λcx h=>by
 simp only[go_sem,reduceIte,↓reduceIte,reduceCtorEq,nA,nS,nM,nB,nE,nL,nT,nN,iL,iT,iE,iA,iM,iS,iG,iB,iN,iZ,h]) (rfl)
def XgB:List UInt8:=[33,35,36,37,38,39,42,43,45,46,94,95,124,126]
def Q7(c:UInt8):Bool:=ZM c||Z6 c||XgB.contains c
def XhC{c:UInt8}(h:c∈XgB):Q7 c=true:=by
 have:XgB.contains c=true:=List.contains_iff_mem.2 h
 simp[Q7,this,-List.contains_eq_mem]
def XhD{c:UInt8}(h:¬c∈XgB):Q7 c=(ZM c||Z6 c):=by
 have:XgB.contains c=false:=by rw[Bool.eq_false_iff]; exact λe=>h (List.contains_iff_mem.1 e)
 simp[Q7,this,-List.contains_eq_mem]
def XlZ(c:UInt8):decide (0<=ixB ⟨#[33,35,36,37,38,39,42,43,45,46,94,95,124,126]⟩ c)=XgB.contains c:=XhA XgB c
@[go_sem] def XpE(c:UInt8):decide (ixB ⟨#[33,35,36,37,38,39,42,43,45,46,94,95,124,126]⟩ c>=0)=XgB.contains c:=XhA XgB c
def Xl0:SP Tryz.prog:=mkS tyA 137 Tryz.f137 [XnX,XlY,XnY] {md:=[.ro 1],rets:=some ([2],[])} Tryz.func137 (by kernel_rfl)
@[go_sem] def XES:Xl0.g=137/\Xl0.fs=⟨[.ro 1],Xl0.F,false⟩:=⟨nr rfl,nr rfl⟩
@[go_sem] def XET(c:UInt8):Xl0.F [.i .u8 c.toNat]=some (.b (Q7 c),[.u]):=Xm (0) rfl rfl (λcx h=>by
 have hix:=XlZ c
 have hu:Q7 c=(ZM c||Z6 c||XgB.contains c):=rfl
 cases h1:ZM c<;>cases h2:Z6 c<;>cases h3:XgB.contains c<;>simp only[go_sem,reduceIte,↓reduceIte,reduceCtorEq,nA,nS,nM,nB,nE,nL,nT,nN,iL,iT,iE,iA,iM,iS,iG,iB,iN,iZ,h,h1,h2,h3,hu,hix]) (rfl)
def U3(c:UInt8):Bool:=((c.toNat:Int)==9)||(decide (32<=(c.toNat:Int))&&decide ((c.toNat:Int)<=126))
def XnZ:SP Tryz.prog:=mkS tyA 168 Tryz.f168 [] {md:=[.ro 1],rets:=some ([2],[])} Tryz.func168 (by kernel_rfl)
@[go_sem] def XEU:XnZ.g=168/\XnZ.fs=⟨[.ro 1],XnZ.F,false⟩:=⟨nr rfl,nr rfl⟩
@[go_sem] def XEV(c:UInt8):XnZ.F [.i .u8 c.toNat]=some (.b (U3 c),[.u]):=Xm (0) rfl rfl (λcx h=>by
 cases h1:((c.toNat:Int)==9)<;>by_cases h2:32<=(c.toNat:Int)<;>by_cases h3:(c.toNat:Int)<=126<;>simp only[go_sem,reduceIte,↓reduceIte,reduceCtorEq,nA,nS,nM,nB,nE,nL,nT,nN,iL,iT,iE,iA,iM,iS,iG,iB,iN,iZ,h,h1,h2,h3,U3]) (rfl)
def Xbk(c:UInt8):Bool:=ZM c||Z6 c||((c.toNat:Int)==46)||((c.toNat:Int)==45)
def s89:SP Tryz.prog:=mkS tyA 89 Tryz.f89 [XnX,XlY] {md:=[.ro 1],rets:=some ([2],[])} Tryz.func89 (by kernel_rfl)
@[go_sem] def d89:s89.g=89/\s89.fs=⟨[.ro 1],s89.F,false⟩:=⟨nr rfl,nr rfl⟩
@[go_sem] def e89(c:UInt8):s89.F [.i .u8 c.toNat]=some (.b (Xbk c),[.u]):=Xm (0) rfl rfl (λcx h=>by
 cases h1:ZM c<;>cases h2:Z6 c<;>cases h3:((c.toNat:Int)==46)<;>cases h4:((c.toNat:Int)==45)<;>simp only[go_sem,reduceIte,↓reduceIte,reduceCtorEq,nA,nS,nM,nB,nE,nL,nT,nN,iL,iT,iE,iA,iM,iS,iG,iB,iN,iZ,h,h1,h2,h3,h4,Xbk]) (rfl)
def XbD:List UInt8:=[47,63,61,38,58,64,44,59,40,41]
def U1(c:UInt8):Bool:=Q7 c||XbD.contains c
def XhE{c:UInt8}(h:c∈XbD):U1 c=true:=by
 have:XbD.contains c=true:=List.contains_iff_mem.2 h
 simp[U1,this,-List.contains_eq_mem]
def XhF{c:UInt8}(h:¬c∈XbD):U1 c=Q7 c:=by
 have:XbD.contains c=false:=by rw[Bool.eq_false_iff]; exact λe=>h (List.contains_iff_mem.1 e)
 simp[U1,this,-List.contains_eq_mem]
def XjE(c:UInt8):decide (0<=ixB ⟨#[47,63,61,38,58,64,44,59,40,41]⟩ c)=XbD.contains c:=XhA XbD c
def s90:SP Tryz.prog:=mkS tyA 90 Tryz.f90 [Xl0,XnY] {md:=[.ro 1],rets:=some ([2],[])} Tryz.func90 (by kernel_rfl)
@[go_sem] def d90:s90.g=90/\s90.fs=⟨[.ro 1],s90.F,false⟩:=⟨nr rfl,nr rfl⟩
@[go_sem] def e90(c:UInt8):s90.F [.i .u8 c.toNat]=some (.b (U1 c),[.u]):=Xm (0) rfl rfl (λcx h=>by
 have hix:=XjE c
 have hu:U1 c=(Q7 c||XbD.contains c):=rfl
 cases h1:Q7 c<;>cases h3:XbD.contains c<;>simp only[go_sem,reduceIte,↓reduceIte,reduceCtorEq,nA,nS,nM,nB,nE,nL,nT,nN,iL,iT,iE,iA,iM,iS,iG,iB,iN,iZ,h,h1,h3,hu,hix]) (rfl)
def s88:SP Tryz.prog:=mkS tyA 88 Tryz.f88 [s89,s90,Xl0,XlY,XnZ] {md:=[.ro 1,.ro 1,.ro 1,.ro 1],rg:=[(0,[0,1,2,3],[]),(1,[0,3,19],[]),(2,[8],[]),(3,[0,3,21,22],[]),(4,[0,3,21,22,23],[]),(5,[0,3,9,21,22],[]),(6,[0,3,21,22,30],[]),(7,[8],[]),(8,[0,3,21,22],[]),(9,[8],[])],lv:=[(0,[0,3,21,22],[])],out:=[(0,[],[])],rets:=some ([8],[])} Tryz.func88 (by kernel_rfl)
@[go_sem] def d88:s88.g=88/\s88.fs=⟨[.ro 1,.ro 1,.ro 1,.ro 1],s88.F,false⟩:=⟨nr rfl,nr rfl⟩
@[go_sem] def Xp7(t:ByteArray)(lo hi:Int)(hb:hi<=1000000):s88.F [.s t,.i .i64 lo,.i .i64 hi,.fn 137 []]=some (.b (Xch Q7 lo hi t),[.u,.u,.u,.u]):=Xm (t.data.toList.length+1) rfl rfl (λcx h=>by
 by_cases h1:(t.size:Int)<lo
 ·simp only[go_sem,reduceIte,↓reduceIte,reduceCtorEq,nA,nS,nM,nB,nE,nL,nT,nN,iL,iT,iE,iA,iM,iS,iG,iB,iN,iZ,h,h1,Zu h1]
 by_cases h2:hi<(t.size:Int)
 ·simp only[go_sem,reduceIte,↓reduceIte,reduceCtorEq,nA,nS,nM,nB,nE,nL,nT,nN,iL,iT,iE,iA,iM,iS,iG,iB,iN,iZ,h,h1,h2,ZV h2]
 have hx:t.data.toList.length<=9223372036854775806:=by rw[<-Xi]; omega
 have ha:=Qc (p:=Q7) h1 h2
 rw[Xi t] at h1 h2
 ·have hb0:=XR Tryz.f88 0 _ _ rfl rfl
  obtain⟨r,hr,hq⟩:=YL (cx:=cx) (blk:=0) (body:=Zt Tryz.f88 0) t.data.toList (λk (s:Unit)=>⟨E [(0,.s t),(3,.fn 137 []),(21,.i .i64 t.size),(22,.i .i64 k)],B []⟩) (λs=>⟨E [],B []⟩) (λx s=>!Q7 x) (λx s=>()) (λx s=>(.ret,⟨E [(8,.b false)],B []⟩)) (λk s=>True)
    (λs hI G=>by simp only[go_sem,reduceIte,↓reduceIte,reduceCtorEq,nA,nS,nM,nB,nE,nL,nT,nN,iL,iT,iE,iA,iM,iS,iG,iB,iN,iZ,h,Int.lt_irrefl,hb0,Xi t]) (λk hk s hI=>by
     have h1:((k:Int)<(t.data.toList.length:Int)):=Int.ofNat_lt.2 hk
     have hz:=Xal t k hk
     exact⟨_,_,_,λG=>by simp only[go_sem,reduceIte,↓reduceIte,reduceCtorEq,nA,nS,nM,nB,nE,nL,nT,nN,iL,iT,iE,iA,iM,iS,iG,iB,iN,iZ,h,hz,Xi t,h1,Yb _ _ hk,XD (show k<9223372036854775807 by omega),hb0]<;>with_reducible rfl,Iff.rfl,λhc=>⟨trivial,by simp only[go_sem,reduceIte,↓reduceIte,reduceCtorEq,nA,nS,nM,nB,nE,nL,nT,nN,iL,iT,iE,iA,iM,iS,iG,iB,iN,iZ,h,Xi t]⟩⟩) () trivial (t.data.toList.length+1) (Nat.le_refl _)
  rw[hb0] at hr
  rcases hq with⟨s',e1,_,e3⟩ | ⟨x,s',e1,e3⟩
  ·simp only[go_sem,reduceIte,↓reduceIte,reduceCtorEq,nA,nS,nM,nB,nE,nL,nT,nN,iL,iT,iE,iA,iM,iS,iG,iB,iN,iZ,h,h1,h2,Xi t,hr,e3,ha,ZT e1]
  ·simp only[go_sem,reduceIte,↓reduceIte,reduceCtorEq,nA,nS,nM,nB,nE,nL,nT,nN,iL,iT,iE,iA,iM,iS,iG,iB,iN,iZ,h,h1,h2,Xi t,hr,e3,ha,Zi e1]) (rfl)
@[go_sem] def Xp8(t:ByteArray)(lo hi:Int)(hb:hi<=1000000):s88.F [.s t,.i .i64 lo,.i .i64 hi,.fn 168 []]=some (.b (Xch U3 lo hi t),[.u,.u,.u,.u]):=Xm (t.data.toList.length+1) rfl rfl (λcx h=>by
 by_cases h1:(t.size:Int)<lo
 ·simp only[go_sem,reduceIte,↓reduceIte,reduceCtorEq,nA,nS,nM,nB,nE,nL,nT,nN,iL,iT,iE,iA,iM,iS,iG,iB,iN,iZ,h,h1,Zu h1]
 by_cases h2:hi<(t.size:Int)
 ·simp only[go_sem,reduceIte,↓reduceIte,reduceCtorEq,nA,nS,nM,nB,nE,nL,nT,nN,iL,iT,iE,iA,iM,iS,iG,iB,iN,iZ,h,h1,h2,ZV h2]
 have hx:t.data.toList.length<=9223372036854775806:=by rw[<-Xi]; omega
 have ha:=Qc (p:=U3) h1 h2
 rw[Xi t] at h1 h2
 ·have hb0:=XR Tryz.f88 0 _ _ rfl rfl
  obtain⟨r,hr,hq⟩:=YL (cx:=cx) (blk:=0) (body:=Zt Tryz.f88 0) t.data.toList (λk (s:Unit)=>⟨E [(0,.s t),(3,.fn 168 []),(21,.i .i64 t.size),(22,.i .i64 k)],B []⟩) (λs=>⟨E [],B []⟩) (λx s=>!U3 x) (λx s=>()) (λx s=>(.ret,⟨E [(8,.b false)],B []⟩)) (λk s=>True)
    (λs hI G=>by simp only[go_sem,reduceIte,↓reduceIte,reduceCtorEq,nA,nS,nM,nB,nE,nL,nT,nN,iL,iT,iE,iA,iM,iS,iG,iB,iN,iZ,h,Int.lt_irrefl,hb0,Xi t]) (λk hk s hI=>by
     have h1:((k:Int)<(t.data.toList.length:Int)):=Int.ofNat_lt.2 hk
     have hz:=Xal t k hk
     exact⟨_,_,_,λG=>by simp only[go_sem,reduceIte,↓reduceIte,reduceCtorEq,nA,nS,nM,nB,nE,nL,nT,nN,iL,iT,iE,iA,iM,iS,iG,iB,iN,iZ,h,hz,Xi t,h1,Yb _ _ hk,XD (show k<9223372036854775807 by omega),hb0]<;>with_reducible rfl,Iff.rfl,λhc=>⟨trivial,by simp only[go_sem,reduceIte,↓reduceIte,reduceCtorEq,nA,nS,nM,nB,nE,nL,nT,nN,iL,iT,iE,iA,iM,iS,iG,iB,iN,iZ,h,Xi t]⟩⟩) () trivial (t.data.toList.length+1) (Nat.le_refl _)
  rw[hb0] at hr
  rcases hq with⟨s',e1,_,e3⟩ | ⟨x,s',e1,e3⟩
  ·simp only[go_sem,reduceIte,↓reduceIte,reduceCtorEq,nA,nS,nM,nB,nE,nL,nT,nN,iL,iT,iE,iA,iM,iS,iG,iB,iN,iZ,h,h1,h2,Xi t,hr,e3,ha,ZT e1]
  ·simp only[go_sem,reduceIte,↓reduceIte,reduceCtorEq,nA,nS,nM,nB,nE,nL,nT,nN,iL,iT,iE,iA,iM,iS,iG,iB,iN,iZ,h,h1,h2,Xi t,hr,e3,ha,Zi e1]) (rfl)
@[go_sem] def Xrm(t:ByteArray)(lo hi:Int)(hb:hi<=1000000):s88.F [.s t,.i .i64 lo,.i .i64 hi,.fn 89 []]=some (.b (Xch Xbk lo hi t),[.u,.u,.u,.u]):=Xm (t.data.toList.length+1) rfl rfl (λcx h=>by
 by_cases h1:(t.size:Int)<lo
 ·simp only[go_sem,reduceIte,↓reduceIte,reduceCtorEq,nA,nS,nM,nB,nE,nL,nT,nN,iL,iT,iE,iA,iM,iS,iG,iB,iN,iZ,h,h1,Zu h1]
 by_cases h2:hi<(t.size:Int)
 ·simp only[go_sem,reduceIte,↓reduceIte,reduceCtorEq,nA,nS,nM,nB,nE,nL,nT,nN,iL,iT,iE,iA,iM,iS,iG,iB,iN,iZ,h,h1,h2,ZV h2]
 have hx:t.data.toList.length<=9223372036854775806:=by rw[<-Xi]; omega
 have ha:=Qc (p:=Xbk) h1 h2
 rw[Xi t] at h1 h2
 ·have hb0:=XR Tryz.f88 0 _ _ rfl rfl
  obtain⟨r,hr,hq⟩:=YL (cx:=cx) (blk:=0) (body:=Zt Tryz.f88 0) t.data.toList (λk (s:Unit)=>⟨E [(0,.s t),(3,.fn 89 []),(21,.i .i64 t.size),(22,.i .i64 k)],B []⟩) (λs=>⟨E [],B []⟩) (λx s=>!Xbk x) (λx s=>()) (λx s=>(.ret,⟨E [(8,.b false)],B []⟩)) (λk s=>True)
    (λs hI G=>by simp only[go_sem,reduceIte,↓reduceIte,reduceCtorEq,nA,nS,nM,nB,nE,nL,nT,nN,iL,iT,iE,iA,iM,iS,iG,iB,iN,iZ,h,Int.lt_irrefl,hb0,Xi t]) (λk hk s hI=>by
     have h1:((k:Int)<(t.data.toList.length:Int)):=Int.ofNat_lt.2 hk
     have hz:=Xal t k hk
     exact⟨_,_,_,λG=>by simp only[go_sem,reduceIte,↓reduceIte,reduceCtorEq,nA,nS,nM,nB,nE,nL,nT,nN,iL,iT,iE,iA,iM,iS,iG,iB,iN,iZ,h,hz,Xi t,h1,Yb _ _ hk,XD (show k<9223372036854775807 by omega),hb0]<;>with_reducible rfl,Iff.rfl,λhc=>⟨trivial,by simp only[go_sem,reduceIte,↓reduceIte,reduceCtorEq,nA,nS,nM,nB,nE,nL,nT,nN,iL,iT,iE,iA,iM,iS,iG,iB,iN,iZ,h,Xi t]⟩⟩) () trivial (t.data.toList.length+1) (Nat.le_refl _)
  rw[hb0] at hr
  rcases hq with⟨s',e1,_,e3⟩ | ⟨x,s',e1,e3⟩
  ·simp only[go_sem,reduceIte,↓reduceIte,reduceCtorEq,nA,nS,nM,nB,nE,nL,nT,nN,iL,iT,iE,iA,iM,iS,iG,iB,iN,iZ,h,h1,h2,Xi t,hr,e3,ha,ZT e1]
  ·simp only[go_sem,reduceIte,↓reduceIte,reduceCtorEq,nA,nS,nM,nB,nE,nL,nT,nN,iL,iT,iE,iA,iM,iS,iG,iB,iN,iZ,h,h1,h2,Xi t,hr,e3,ha,Zi e1]) (rfl)
@[go_sem] def Xrn(t:ByteArray)(lo hi:Int)(hb:hi<=1000000):s88.F [.s t,.i .i64 lo,.i .i64 hi,.fn 90 []]=some (.b (Xch U1 lo hi t),[.u,.u,.u,.u]):=Xm (t.data.toList.length+1) rfl rfl (λcx h=>by
 by_cases h1:(t.size:Int)<lo
 ·simp only[go_sem,reduceIte,↓reduceIte,reduceCtorEq,nA,nS,nM,nB,nE,nL,nT,nN,iL,iT,iE,iA,iM,iS,iG,iB,iN,iZ,h,h1,Zu h1]
 by_cases h2:hi<(t.size:Int)
 ·simp only[go_sem,reduceIte,↓reduceIte,reduceCtorEq,nA,nS,nM,nB,nE,nL,nT,nN,iL,iT,iE,iA,iM,iS,iG,iB,iN,iZ,h,h1,h2,ZV h2]
 have hx:t.data.toList.length<=9223372036854775806:=by rw[<-Xi]; omega
 have ha:=Qc (p:=U1) h1 h2
 rw[Xi t] at h1 h2
 ·have hb0:=XR Tryz.f88 0 _ _ rfl rfl
  obtain⟨r,hr,hq⟩:=YL (cx:=cx) (blk:=0) (body:=Zt Tryz.f88 0) t.data.toList (λk (s:Unit)=>⟨E [(0,.s t),(3,.fn 90 []),(21,.i .i64 t.size),(22,.i .i64 k)],B []⟩) (λs=>⟨E [],B []⟩) (λx s=>!U1 x) (λx s=>()) (λx s=>(.ret,⟨E [(8,.b false)],B []⟩)) (λk s=>True)
    (λs hI G=>by simp only[go_sem,reduceIte,↓reduceIte,reduceCtorEq,nA,nS,nM,nB,nE,nL,nT,nN,iL,iT,iE,iA,iM,iS,iG,iB,iN,iZ,h,Int.lt_irrefl,hb0,Xi t]) (λk hk s hI=>by
     have h1:((k:Int)<(t.data.toList.length:Int)):=Int.ofNat_lt.2 hk
     have hz:=Xal t k hk
     exact⟨_,_,_,λG=>by simp only[go_sem,reduceIte,↓reduceIte,reduceCtorEq,nA,nS,nM,nB,nE,nL,nT,nN,iL,iT,iE,iA,iM,iS,iG,iB,iN,iZ,h,hz,Xi t,h1,Yb _ _ hk,XD (show k<9223372036854775807 by omega),hb0]<;>with_reducible rfl,Iff.rfl,λhc=>⟨trivial,by simp only[go_sem,reduceIte,↓reduceIte,reduceCtorEq,nA,nS,nM,nB,nE,nL,nT,nN,iL,iT,iE,iA,iM,iS,iG,iB,iN,iZ,h,Xi t]⟩⟩) () trivial (t.data.toList.length+1) (Nat.le_refl _)
  rw[hb0] at hr
  rcases hq with⟨s',e1,_,e3⟩ | ⟨x,s',e1,e3⟩
  ·simp only[go_sem,reduceIte,↓reduceIte,reduceCtorEq,nA,nS,nM,nB,nE,nL,nT,nN,iL,iT,iE,iA,iM,iS,iG,iB,iN,iZ,h,h1,h2,Xi t,hr,e3,ha,ZT e1]
  ·simp only[go_sem,reduceIte,↓reduceIte,reduceCtorEq,nA,nS,nM,nB,nE,nL,nT,nN,iL,iT,iE,iA,iM,iS,iG,iB,iN,iZ,h,h1,h2,Xi t,hr,e3,ha,Zi e1]) (rfl)
@[go_sem] def Xp9(t:ByteArray)(lo hi:Int)(hb:hi<=1000000):s88.F [.s t,.i .i64 lo,.i .i64 hi,.fn 142 []]=some (.b (Xch Z6 lo hi t),[.u,.u,.u,.u]):=Xm (t.data.toList.length+1) rfl rfl (λcx h=>by
 by_cases h1:(t.size:Int)<lo
 ·simp only[go_sem,reduceIte,↓reduceIte,reduceCtorEq,nA,nS,nM,nB,nE,nL,nT,nN,iL,iT,iE,iA,iM,iS,iG,iB,iN,iZ,h,h1,Zu h1]
 by_cases h2:hi<(t.size:Int)
 ·simp only[go_sem,reduceIte,↓reduceIte,reduceCtorEq,nA,nS,nM,nB,nE,nL,nT,nN,iL,iT,iE,iA,iM,iS,iG,iB,iN,iZ,h,h1,h2,ZV h2]
 have hx:t.data.toList.length<=9223372036854775806:=by rw[<-Xi]; omega
 have ha:=Qc (p:=Z6) h1 h2
 rw[Xi t] at h1 h2
 ·have hb0:=XR Tryz.f88 0 _ _ rfl rfl
  obtain⟨r,hr,hq⟩:=YL (cx:=cx) (blk:=0) (body:=Zt Tryz.f88 0) t.data.toList (λk (s:Unit)=>⟨E [(0,.s t),(3,.fn 142 []),(21,.i .i64 t.size),(22,.i .i64 k)],B []⟩) (λs=>⟨E [],B []⟩) (λx s=>!Z6 x) (λx s=>()) (λx s=>(.ret,⟨E [(8,.b false)],B []⟩)) (λk s=>True)
    (λs hI G=>by simp only[go_sem,reduceIte,↓reduceIte,reduceCtorEq,nA,nS,nM,nB,nE,nL,nT,nN,iL,iT,iE,iA,iM,iS,iG,iB,iN,iZ,h,Int.lt_irrefl,hb0,Xi t]) (λk hk s hI=>by
     have h1:((k:Int)<(t.data.toList.length:Int)):=Int.ofNat_lt.2 hk
     have hz:=Xal t k hk
     exact⟨_,_,_,λG=>by simp only[go_sem,reduceIte,↓reduceIte,reduceCtorEq,nA,nS,nM,nB,nE,nL,nT,nN,iL,iT,iE,iA,iM,iS,iG,iB,iN,iZ,h,hz,Xi t,h1,Yb _ _ hk,XD (show k<9223372036854775807 by omega),hb0]<;>with_reducible rfl,Iff.rfl,λhc=>⟨trivial,by simp only[go_sem,reduceIte,↓reduceIte,reduceCtorEq,nA,nS,nM,nB,nE,nL,nT,nN,iL,iT,iE,iA,iM,iS,iG,iB,iN,iZ,h,Xi t]⟩⟩) () trivial (t.data.toList.length+1) (Nat.le_refl _)
  rw[hb0] at hr
  rcases hq with⟨s',e1,_,e3⟩ | ⟨x,s',e1,e3⟩
  ·simp only[go_sem,reduceIte,↓reduceIte,reduceCtorEq,nA,nS,nM,nB,nE,nL,nT,nN,iL,iT,iE,iA,iM,iS,iG,iB,iN,iZ,h,h1,h2,Xi t,hr,e3,ha,ZT e1]
  ·simp only[go_sem,reduceIte,↓reduceIte,reduceCtorEq,nA,nS,nM,nB,nE,nL,nT,nN,iL,iT,iE,iA,iM,iS,iG,iB,iN,iZ,h,h1,h2,Xi t,hr,e3,ha,Zi e1]) (rfl)
end
end Go.Vm.A
