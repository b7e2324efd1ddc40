/- Functions of the program, walked by the evaluator. -/
import Derived.Test.YtpoannkeaajngaaGreatDoorWb
import Derived.Test.YtpoannkeaajngaaGreatDoorWa
import Derived.Test.YtpoannkeaajngaaGreatDoorFa
set_option linter.unusedVariables false
set_option linter.unusedSimpArgs false
set_option autoImplicit false
set_option maxRecDepth 100000
set_option maxHeartbeats 4000000
set_option linter.defProp false
namespace Go.Vm.A
open Go.Proofs
open Nat renaming reduceAdd -> nA, reduceSub -> nS, reduceMul -> nM, reduceBEq -> nB, reduceEqDiff -> nE, reduceLeDiff -> nL, reduceLT -> nT, reduceBneDiff -> nN
open Int renaming reduceLE -> iL, reduceLT -> iT, reduceEq -> iE, reduceAdd -> iA, reduceMul -> iM, reduceSub -> iS, reduceNeg -> iG, reduceBEq -> iB, reduceBNe -> iN, reduceToNat -> iZ
noncomputable section
def Xln:SP Tryz.prog:=mkS tyA 117 Tryz.f117 [XnU] {md:=[.rw 2,.ro 1],wk:=true,rg:=[(0,[0,1],[0]),(1,[0,1,5],[0]),(2,[0,1,5,8],[0]),(3,[0,1,5],[0]),(4,[0,1,5],[0]),(5,[0,4],[0])],lv:=[(0,[0,1,5],[0])],out:=[(0,[0,5],[0])],rets:=some ([0,4],[0])} Tryz.func117 (by kernel_rfl)
@[go_sem] def XEw:Xln.g=117/\Xln.fs=⟨[.rw 2,.ro 1],Xln.F,true⟩:=⟨nr rfl,nr rfl⟩
@[go_sem] def XEx(code:List UInt8)(a K:Int)(h1:lOk a=true)(h2:nOk K=true):Xln.F [.agg [.sl .ro 1 (code.map Xn),.i .i64 a],.i .i64 K]=some (.sl .mut 2 ((Xbj code a K).2.map (Xb .mut)),[.agg [.sl .ro 1 (code.map Xn),.i .i64 (Xbj code a K).1],.u]):=Xm (200) rfl rfl (λcx h=>by
 have hk0:=h2
 have ha0:=h1
 simp only[nOk,lOk,decide_eq_true_eq] at hk0 ha0
 have hb0:=XR Tryz.f117 0 _ _ rfl rfl
 obtain⟨hI,hr⟩:=YK (cx:=cx) (blk:=0) (body:=Zt Tryz.f117 0) (List.range K.toNat) (λk (s:Int×List Xd)=>⟨E [(0,.p ⟨false,0,[],0⟩),(1,.i .i64 (K-k)),(5,.sl .mut 2 (s.2.map (Xb .mut)))],B [(0,[.sl .ro 1 (code.map Xn),.i .i64 s.1])]⟩) (λs=>⟨E [(0,.p ⟨false,0,[],0⟩),(5,.sl .mut 2 (s.2.map (Xb .mut)))],B [(0,[.sl .ro 1 (code.map Xn),.i .i64 s.1])]⟩) (λx s=>(QM code s.1,s.2++[Q6 code s.1])) (λk s=>LiI a k s)
   (λs hI G=>by simp only[go_sem,reduceIte,↓reduceIte,reduceCtorEq,nA,nS,nM,nB,nE,nL,nT,nN,iL,iT,iE,iA,iM,iS,iG,iB,iN,iZ,h,Int.lt_irrefl,hb0,List.length_range,show ¬(0<K-(K.toNat:Int)) from by omega]) (λk hk s hI=>by
    have h1:((k:Int)<((List.range K.toNat).length:Int)):=Int.ofNat_lt.2 hk
    simp only[List.length_range] at hk h1
    rcases s with⟨b,out⟩
    obtain⟨q1,q2,q3⟩:=id hI
    simp only at q1 q2 q3
    have t1:0<K-(k:Int):=by omega
    have t2:(IntKind.i64).wrap (K-(k:Int)-1)=K-((k+1:Nat):Int):=by rw[YC (by omega) (by omega)]; omega
    have t3:(out.length+1)*32<=140737488355328:=by omega
    have t4:∀x y,out.map (Xb .mut)++[[.s x,.s y]]=(out++[Xd.mk x y]).map (Xb .mut):=λx y=>by simp[Xb]
    have t5:bOk b=true:=by simp only[bOk,decide_eq_true_eq]; omega
    have hJ:=liI code k (b,out) hI
    all_goals exact⟨hJ,_,λG=>by simp only[go_sem,reduceIte,↓reduceIte,reduceCtorEq,nA,nS,nM,nB,nE,nL,nT,nN,iL,iT,iE,iA,iM,iS,iG,iB,iN,iZ,h,t1,t2,t3,t4,t5,h1,Yb _ _ hk,XD (show k<9223372036854775807 by omega),hb0]<;>with_reducible rfl,by simp only[go_sem,reduceIte,↓reduceIte,reduceCtorEq,nA,nS,nM,nB,nE,nL,nT,nN,iL,iT,iE,iA,iM,iS,iG,iB,iN,iZ,h]⟩) (a,[]) (by unfold LiI; simp) 200 (by simp; omega)
 rw[hb0] at hr
 rw[show K-((0:Nat):Int)=K from by simp] at hr
 simp only[go_sem,reduceIte,↓reduceIte,reduceCtorEq,nA,nS,nM,nB,nE,nL,nT,nN,iL,iT,iE,iA,iM,iS,iG,iB,iN,iZ,h,Xbj,hr]) (rfl)
def dOk(a:Int):Bool:=decide (0<=a/\a<=700000)
def Xe1(code:List UInt8)(a:Int):Int×List Xd:=Xbj code (a+1+1+1+1) (XZ code (a+1+1+1) [0,0,1,2])
def Xjw(code:List UInt8)(a:Int):Request:=⟨Yw code a [⟨#[71,69,84]⟩,⟨#[71,69,84]⟩,⟨#[71,69,84]⟩,⟨#[72,69,65,68]⟩],Yw code (a+1) [⟨#[97,46,99,111,109]⟩,⟨#[65,46,99,111,109]⟩,⟨#[98,46,111,114,103]⟩],Yw code (a+1+1) [⟨#[47]⟩,⟨#[47,120]⟩,⟨#[47,121,63,98,61,50,38,97,61,49]⟩,⟨#[47,121,63,97,61,49,38,98,61,50]⟩,⟨#[47,121,63,97,61,49,38,38,98,61,50]⟩,⟨#[47,122,63]⟩,⟨#[47,120]⟩],(Xe1 code a).2⟩
def YX(code:List UInt8){a:Int}(xs:List Int)(h:aOk a=true)(hx:0<xs.length):XZ code a xs∈xs:=by
 obtain⟨i,e,hi⟩:=Xf3 code xs h hx
 have:XZ code a xs=xs[i]:=by unfold XZ; rw[e]; simp[List.getD,hi]
 rw[this]; exact List.getElem_mem hi
def Xbz(code:List UInt8){a:Int}(h:dOk a=true):a<=(Xe1 code a).1/\(Xe1 code a).1<=a+10/\(Xe1 code a).2.length<=2:=by
 have h':=h
 simp only[dOk,decide_eq_true_eq] at h'
 have p:aOk (a+1+1+1)=true:=by simp only[aOk,decide_eq_true_eq]; omega
 have m:=YX code [0,0,1,2] p (by simp)
 simp only[List.mem_cons,List.not_mem_nil,or_false] at m
 have:=Xdj code (a+1+1+1+1) (XZ code (a+1+1+1) [0,0,1,2])
 unfold LiI at this
 unfold Xe1
 omega
def s63:SP Tryz.prog:=mkS tyA 63 Tryz.f63 [s28,s37,Xln] {md:=[.rw 2],wk:=true,rets:=some ([0,2,16],[0,2])} Tryz.func63 (by kernel_rfl)
@[go_sem] def d63:s63.g=63/\s63.fs=⟨[.rw 2],s63.F,true⟩:=⟨nr rfl,nr rfl⟩
@[go_sem] def e63(code:List UInt8)(a:Int)(h0:dOk a=true):s63.F [.agg [.sl .ro 1 (code.map Xn),.i .i64 a]]=some (.agg (Zs .mut (Xjw code a)),[.agg [.sl .ro 1 (code.map Xn),.i .i64 (Xe1 code a).1]]):=Xm (0) rfl rfl (λcx h=>by
 have hd:=h0
 simp only[dOk,decide_eq_true_eq] at hd
 have h1:bOk a=true:=by simp only[bOk,decide_eq_true_eq]; omega
 have p0:aOk (a)=true:=by have:=ZI h1 0 (by omega) (by omega); rwa [show a+(0:Int)=a by omega] at this
 have p1:aOk (a+1)=true:=by have:=ZI h1 1 (by omega) (by omega); rwa [show a+(1:Int)=a+1 by omega] at this
 have p2:aOk (a+1+1)=true:=by have:=ZI h1 2 (by omega) (by omega); rwa [show a+(2:Int)=a+1+1 by omega] at this
 have p3:aOk (a+1+1+1)=true:=by have:=ZI h1 3 (by omega) (by omega); rwa [show a+(3:Int)=a+1+1+1 by omega] at this
 have p4:lOk (a+1+1+1+1)=true:=by simp only[lOk,decide_eq_true_eq]; omega
 have p5:nOk (XZ code (a+1+1+1) [0,0,1,2])=true:=by
  have m:=YX code [0,0,1,2] p3 (by simp)
  simp only[List.mem_cons,List.not_mem_nil,or_false] at m
  simp only[nOk,decide_eq_true_eq]; omega
 simp only[go_sem,reduceIte,↓reduceIte,reduceCtorEq,nA,nS,nM,nB,nE,nL,nT,nN,iL,iT,iE,iA,iM,iS,iG,iB,iN,iZ,h,Xjw,Xe1,p0,p1,p2,p3,p4,p5]) (rfl)
def Yn(c:UInt8)(t:ByteArray):Nat->ByteArray
 | 0=>t
 | k+1=>Yn c t k++⟨#[c]⟩
def Ym(c:UInt8)(t:ByteArray)(k:Nat):(Yn c t k).size=t.size+k:=by
 induction k with
 | zero=>rfl
 | succ k ih=>unfold Yn; rw[ByteArray.size_append,ih]; show t.size+k+1=_; omega
def XaK(code:List UInt8)(a:Int):Nat:=if XZ code (a+999) [1000,1001]=1000 then 999 else 1000
def Xbp(code:List UInt8)(a:Int):XaK code a<=1000/\999<=XaK code a:=by unfold XaK; split<;>omega
def sOk(t:ByteArray):Bool:=decide (t.size=1)
def Xon:SP Tryz.prog:=mkS tyA 118 Tryz.f118 [s37] {md:=[.rw 2,.ro 1],wk:=true,rg:=[(0,[0,1],[0]),(1,[0,1,10],[0]),(2,[0,1],[0]),(3,[0,4],[0])],lv:=[(0,[0,1],[0])],out:=[(0,[0,1],[0])],rets:=some ([0,4],[0])} Tryz.func118 (by kernel_rfl)
@[go_sem] def XEy:Xon.g=118/\Xon.fs=⟨[.rw 2,.ro 1],Xon.F,true⟩:=⟨nr rfl,nr rfl⟩
@[go_sem] def XEz(code:List UInt8)(a:Int)(t:ByteArray)(h1:bOk a=true)(h2:sOk t=true):Xon.F [.agg [.sl .ro 1 (code.map Xn),.i .i64 a],.s t]=some (.s (Yn 32 t (XaK code a)),[.agg [.sl .ro 1 (code.map Xn),.i .i64 (a+XaK code a+1)],.u]):=Xm (1001) rfl rfl (λcx h=>by
 have ha:=h1
 have hz:=h2
 simp only[bOk,sOk,decide_eq_true_eq] at ha hz
 have hM0:=Xbp code a
 obtain⟨M,hM⟩:∃M,XaK code a=M:=⟨_,rfl⟩
 rw[hM] at hM0
 have e1:aOk (a+M)=true:=by simp only[aOk,decide_eq_true_eq]; omega
 have e2:=Ym 32 t M
 have e3:¬((t.size+M:Nat):Int)<XZ code (a+M) [1000,1001]:=by
  have m1:=YX code [1000,1001] e1 (by simp)
  simp only[List.mem_cons,List.not_mem_nil,or_false] at m1
  by_cases c:XZ code (a+999) [1000,1001]=1000
  ·have:M=999:=by rw[<-hM,XaK,if_pos c]
   subst this
   have:XZ code (a+(999:Nat)) [1000,1001]=1000:=c
   omega
  ·have:M=1000:=by rw[<-hM,XaK,if_neg c]
   subst this
   rcases m1 with e | e<;>rw[e]<;>omega
 have hb0:=XR Tryz.f118 0 _ _ rfl rfl
 obtain⟨hI,hr⟩:=YK (cx:=cx) (blk:=0) (body:=Zt Tryz.f118 0) (List.range M) (λk (s:Unit)=>⟨E [(0,.p ⟨false,0,[],0⟩),(1,.s (Yn 32 t k))],B [(0,[.sl .ro 1 (code.map Xn),.i .i64 (a+k)])]⟩) (λs=>⟨E [(0,.p ⟨false,0,[],0⟩),(1,.s (Yn 32 t M))],B [(0,[.sl .ro 1 (code.map Xn),.i .i64 (a+M+1)])]⟩) (λx s=>()) (λk s=>True)
   (λs hI G=>by simp only[go_sem,reduceIte,↓reduceIte,reduceCtorEq,nA,nS,nM,nB,nE,nL,nT,nN,iL,iT,iE,iA,iM,iS,iG,iB,iN,iZ,h,Int.lt_irrefl,hb0,List.length_range,e1,e2,e3]) (λk hk s hI=>by
    have h1:((k:Int)<((List.range M).length:Int)):=Int.ofNat_lt.2 hk
    simp only[List.length_range] at hk h1
    have t1:aOk (a+k)=true:=by simp only[aOk,decide_eq_true_eq]; omega
    have m1:=YX code [1000,1001] t1 (by simp)
    simp only[List.mem_cons,List.not_mem_nil,or_false] at m1
    have z1:=Ym 32 t k
    have t2:((t.size+k:Nat):Int)<XZ code (a+k) [1000,1001]:=by
     by_cases hk9:k=999
     ·subst hk9
      have:¬XZ code (a+999) [1000,1001]=1000:=λe=>by rw[<-hM,XaK,if_pos e] at hk; omega
      rcases m1 with e | e
      ·exact absurd e this
      ·rw[e]; omega
     ·rcases m1 with e | e<;>rw[e]<;>omega
    have t3:t.size+k+(#[32]:Array UInt8).size<=9223372036854775807:=by simp; omega
    have t4:a+(k:Int)+1=a+((k+1:Nat):Int):=by omega
    have t5:Yn 32 t k++⟨#[32]⟩=Yn 32 t (k+1):=rfl
    exact⟨trivial,_,λG=>by simp only[go_sem,reduceIte,↓reduceIte,reduceCtorEq,nA,nS,nM,nB,nE,nL,nT,nN,iL,iT,iE,iA,iM,iS,iG,iB,iN,iZ,h,t1,z1,t2,t3,t4,t5,h1,Yb _ _ hk,XD (show k<9223372036854775807 by omega),hb0]<;>with_reducible rfl,by simp only[go_sem,reduceIte,↓reduceIte,reduceCtorEq,nA,nS,nM,nB,nE,nL,nT,nN,iL,iT,iE,iA,iM,iS,iG,iB,iN,iZ,h]⟩) () trivial 1001 (by simp; omega)
 rw[hb0] at hr
 rw[show a+((0:Nat):Int)=a from by simp,show Yn 32 t 0=t from rfl] at hr
 simp only[go_sem,reduceIte,↓reduceIte,reduceCtorEq,nA,nS,nM,nB,nE,nL,nT,nN,iL,iT,iE,iA,iM,iS,iG,iB,iN,iZ,h,hr,hM]) (rfl)
def Uv(code:List UInt8)(a:Int):Int×List Xd:=Xbj code (a+1) (XZ code a [0,1,2,3,5])
def XgA(code:List UInt8)(b:Int)(l:Nat):Nat:=(XZ code (b+1) [20,21]-l).toNat
def QS(code:List UInt8)(s:Int×List Xd)(m:Nat):Int×List Xd:=(List.range m).foldl (λs _=>(QM code s.1,s.2++[Q6 code s.1])) s
def QN(code:List UInt8)(a:Int):Int×List Xd :=
 let b:=(Uv code a).1
 let l:=(Uv code a).2
 let k:=XW code b 20
 if k=0 then(b+1+1,l++[⟨Yw code (b+1) [⟨#[]⟩,⟨#[97,32,98]⟩,⟨#[120,58]⟩],⟨#[118]⟩⟩])
 else if k=1 then(b+1+1,l++[⟨⟨#[120]⟩,Yw code (b+1) [⟨#[32,118]⟩,⟨#[118,9]⟩,⟨#[1]⟩,⟨#[10]⟩]⟩])
 else if k=2 then(b+1+XaK code (b+1)+1+1,l++[⟨⟨#[120]⟩,(Yn 32 ⟨#[118]⟩ (XaK code (b+1))).extract 0 (XZ code (b+1+XaK code (b+1)+1) [200,201]).toNat++⟨#[118]⟩⟩])
 else if k=3 then QS code (b+1+1,l) (XgA code b l.length)
 else if k=4 then(b+1+1,l++[⟨⟨#[120]⟩,Yn 119 ⟨#[]⟩ (XZ code (b+1) [200,201]).toNat⟩])
 else(b+1,l)
def Xe2(code:List UInt8)(s:Int×List Xd)(m:Nat):s.1<=(QS code s m).1/\(QS code s m).1<=s.1+3*m/\(QS code s m).2.length=s.2.length+m:=by
 unfold QS
 induction m with
 | zero=>simp
 | succ m ih =>
  rw[List.range_succ,List.foldl_append]
  have:=Xdi code ((List.range m).foldl (λs _=>(QM code s.1,s.2++[Q6 code s.1])) s).1
  simp only[List.foldl_cons,List.foldl_nil,List.length_append,List.length_cons,List.length_nil]
  omega
def Xe3(code:List UInt8){a:Int}(h:aOk a=true):a+1<=(Uv code a).1/\(Uv code a).1<=a+16/\(Uv code a).2.length<=5/\nOk (XZ code a [0,1,2,3,5])=true:=by
 have m:=YX code [0,1,2,3,5] h (by simp)
 simp only[List.mem_cons,List.not_mem_nil,or_false] at m
 have:=Xdj code (a+1) (XZ code a [0,1,2,3,5])
 unfold LiI at this
 unfold Uv
 simp only[nOk,decide_eq_true_eq]
 omega
def s65:SP Tryz.prog:=mkS tyA 65 Tryz.f65 [s28,s37,s64,Xln,Xon,XnU] {md:=[.rw 2],wk:=true,rg:=[(0,[0],[0]),(1,[0,3],[0]),(2,[0,3,13],[0]),(3,[0,3,13,14],[0]),(4,[0,3],[0]),(5,[0,3,13,23],[0]),(6,[0,3],[0]),(7,[0,3,13,32],[0]),(8,[0,3],[0]),(9,[0,3,13,45],[0]),(10,[0,3,4],[0]),(11,[0,3,4,53],[0]),(12,[0,3,4],[0]),(13,[0,3,59],[0]),(14,[0,3,5],[0]),(15,[0,3,5,6],[0]),(16,[0,3,5,6,67],[0]),(17,[0,3,5,6],[0]),(18,[0,3],[0]),(19,[0,2],[0])],lv:=[(1,[0,3,4],[0]),(3,[0,3,5,6],[0])],out:=[(1,[0,3],[0]),(3,[0,3,5],[0])],rets:=some ([0,2],[0])} Tryz.func65 (by kernel_rfl)
@[go_sem] def d65:s65.g=65/\s65.fs=⟨[.rw 2],s65.F,true⟩:=⟨nr rfl,nr rfl⟩
@[go_sem] def e65(code:List UInt8)(a:Int)(h1:dOk a=true):s65.F [.agg [.sl .ro 1 (code.map Xn),.i .i64 a]]=some (.sl .mut 2 ((QN code a).2.map (Xb .mut)),[.agg [.sl .ro 1 (code.map Xn),.i .i64 (QN code a).1]]):=Xm (300) rfl rfl (λcx h=>by
 have ha:=h1
 simp only[dOk,decide_eq_true_eq] at ha
 have p0:aOk a=true:=by simp only[aOk,decide_eq_true_eq]; omega
 have p1:lOk (a+1)=true:=by simp only[lOk,decide_eq_true_eq]; omega
 obtain⟨i1,i2,i3,i4⟩:=Xe3 code p0
 obtain⟨⟨b,l⟩,hb⟩:∃s,Uv code a=s:=⟨_,rfl⟩
 rw[hb] at i1 i2 i3
 simp only at i1 i2 i3
 have hb':Xbj code (a+1) (XZ code a [0,1,2,3,5])=(b,l):=hb
 have p2:aOk b=true:=by simp only[aOk,decide_eq_true_eq]; omega
 have p3:aOk (b+1)=true:=by simp only[aOk,decide_eq_true_eq]; omega
 have p4:bOk (b+1)=true:=by simp only[bOk,decide_eq_true_eq]; omega
 have t3:(l.length+1)*32<=140737488355328:=by omega
 have t4:∀x y,l.map (Xb .mut)++[[.s x,.s y]]=(l++[Xd.mk x y]).map (Xb .mut):=λx y=>by simp[Xb]
 obtain⟨k,hk⟩:∃k,XW code b 20=k:=⟨_,rfl⟩
 by_cases c0:k=0
 ·subst c0
  simp only[go_sem,reduceIte,↓reduceIte,reduceCtorEq,nA,nS,nM,nB,nE,nL,nT,nN,iL,iT,iE,iA,iM,iS,iG,iB,iN,iZ,h,QN,hb,hb',hk,i4,p0,p1,p2,p3,p4,t3,t4]
 have d0:(k==0)=false:=by simpa using c0
 by_cases c1:k=1
 ·subst c1
  simp only[go_sem,reduceIte,↓reduceIte,reduceCtorEq,nA,nS,nM,nB,nE,nL,nT,nN,iL,iT,iE,iA,iM,iS,iG,iB,iN,iZ,h,QN,hb,hb',hk,i4,p0,p1,p2,p3,p4,t3,t4]
 have d1:(k==1)=false:=by simpa using c1
 by_cases c2:k=2
 ·subst c2
  have so:sOk ⟨#[118]⟩=true:=rfl
  have le:=Xbp code (b+1)
  obtain⟨M,hM⟩:∃M,XaK code (b+1)=M:=⟨_,rfl⟩
  rw[hM] at le
  have p5:aOk (b+1+M+1)=true:=by simp only[aOk,decide_eq_true_eq]; omega
  have m1:=YX code [200,201] p5 (by simp)
  simp only[List.mem_cons,List.not_mem_nil,or_false] at m1
  obtain⟨K,hK⟩:∃K,XZ code (b+1+M+1) [200,201]=K:=⟨_,rfl⟩
  rw[hK] at m1
  have z1:=Ym 32 ⟨#[118]⟩ M
  have z2:(Yn 32 ⟨#[118]⟩ M).size=M+1:=by rw[z1]; exact Nat.add_comm 1 M
  have z3:((Yn 32 ⟨#[118]⟩ M).extract 0 K.toNat).size+(#[118]:Array UInt8).size<=9223372036854775807:=by rw[ByteArray.size_extract]; simp; omega
  have k1:0<=K:=by omega
  have k2:K<=((M+1:Nat):Int):=by omega
  simp only[go_sem,reduceIte,↓reduceIte,reduceCtorEq,nA,nS,nM,nB,nE,nL,nT,nN,iL,iT,iE,iA,iM,iS,iG,iB,iN,iZ,h,QN,hb,hb',hk,i4,p0,p1,p2,p3,p4,t3,t4,so,hM,p5,hK,z2,z3,k1,k2]
 have d2:(k==2)=false:=by simpa using c2
 by_cases c3:k=3
 ·subst c3
  have m1:=YX code [20,21] p3 (by simp)
  simp only[List.mem_cons,List.not_mem_nil,or_false] at m1
  obtain⟨K,hK⟩:∃K,XZ code (b+1) [20,21]=K:=⟨_,rfl⟩
  obtain⟨M,hM⟩:∃M,XgA code b l.length=M:=⟨_,rfl⟩
  have hM1:=hM
  unfold XgA at hM1
  rw[hK] at m1 hM1
  have hKM:¬(((l.length+M:Nat):Int)<K):=by omega
  have hb0:=XR Tryz.f65 0 _ _ rfl rfl
  obtain⟨hI,hr1⟩:=YK (cx:=cx) (blk:=1) (body:=Zt Tryz.f65 0) (List.range M) (λk (s:Int×List Xd)=>⟨E [(0,.p ⟨false,0,[],0⟩),(3,.sl .mut 2 (s.2.map (Xb .mut))),(4,.i .i64 K)],B [(0,[.sl .ro 1 (code.map Xn),.i .i64 s.1])]⟩) (λs=>⟨E [(0,.p ⟨false,0,[],0⟩),(3,.sl .mut 2 (s.2.map (Xb .mut)))],B [(0,[.sl .ro 1 (code.map Xn),.i .i64 s.1])]⟩) (λx s=>(QM code s.1,s.2++[Q6 code s.1])) (λk s=>b+2<=s.1/\s.1<=b+2+3*k/\s.2.length=l.length+k)
    (λs hI G=>by simp only[go_sem,reduceIte,↓reduceIte,reduceCtorEq,nA,nS,nM,nB,nE,nL,nT,nN,iL,iT,iE,iA,iM,iS,iG,iB,iN,iZ,h,Int.lt_irrefl,hb0,List.length_range,List.length_take,List.length_map,hI.2.2,Nat.min_self,hKM]) (λk hk s hI=>by
     have h1:((k:Int)<((List.range M).length:Int)):=Int.ofNat_lt.2 hk
     simp only[List.length_range] at hk h1
     rcases s with⟨b',out⟩
     obtain⟨q1,q2,q3⟩:=id hI
     simp only at q1 q2 q3
     have t1:(out.length:Int)<K:=by omega
     have t3:(out.length+1)*32<=140737488355328:=by omega
     have t4:∀x y,out.map (Xb .mut)++[[.s x,.s y]]=(out++[Xd.mk x y]).map (Xb .mut):=λx y=>by simp[Xb]
     have t5:bOk b'=true:=by simp only[bOk,decide_eq_true_eq]; omega
     have le:=Xdi code b'
     have hJ:b+2<=QM code b'/\QM code b'<=b+2+3*((k+1:Nat):Int)/\(out++[Q6 code b']).length=l.length+(k+1):=by simp only[List.length_append,List.length_cons,List.length_nil]; omega
     all_goals exact⟨hJ,_,λG=>by simp only[go_sem,reduceIte,↓reduceIte,reduceCtorEq,nA,nS,nM,nB,nE,nL,nT,nN,iL,iT,iE,iA,iM,iS,iG,iB,iN,iZ,h,t1,t3,t4,t5,h1,Yb _ _ hk,XD (show k<9223372036854775807 by omega),hb0]<;>with_reducible rfl,by simp only[go_sem,reduceIte,↓reduceIte,reduceCtorEq,nA,nS,nM,nB,nE,nL,nT,nN,iL,iT,iE,iA,iM,iS,iG,iB,iN,iZ,h]⟩) (b+1+1,l) (by simp; omega) 300 (by simp; omega)
  rw[hb0] at hr1
  simp only[go_sem,reduceIte,↓reduceIte,reduceCtorEq,nA,nS,nM,nB,nE,nL,nT,nN,iL,iT,iE,iA,iM,iS,iG,iB,iN,iZ,h,QN,hb,hb',hk,i4,p0,p1,p2,p3,p4,t3,t4,QS,hM,hK,hr1]
 have d3:(k==3)=false:=by simpa using c3
 by_cases c4:k=4
 ·subst c4
  have m1:=YX code [200,201] p3 (by simp)
  simp only[List.mem_cons,List.not_mem_nil,or_false] at m1
  obtain⟨K,hK⟩:∃K,XZ code (b+1) [200,201]=K:=⟨_,rfl⟩
  rw[hK] at m1
  have hz:(Yn 119 ⟨#[]⟩ K.toNat).size=K.toNat:=by rw[Ym]; exact Nat.zero_add _
  have hb1:=XR Tryz.f65 1 _ _ rfl rfl
  obtain⟨hI,hr2⟩:=YK (cx:=cx) (blk:=3) (body:=Zt Tryz.f65 1) (List.range K.toNat) (λk (s:Unit)=>⟨E [(0,.p ⟨false,0,[],0⟩),(3,.sl .mut 2 (l.map (Xb .mut))),(5,.s (Yn 119 ⟨#[]⟩ k)),(6,.i .i64 K)],B [(0,[.sl .ro 1 (code.map Xn),.i .i64 (b+1+1)])]⟩) (λs=>⟨E [(0,.p ⟨false,0,[],0⟩),(3,.sl .mut 2 (l.map (Xb .mut))),(5,.s (Yn 119 ⟨#[]⟩ K.toNat))],B [(0,[.sl .ro 1 (code.map Xn),.i .i64 (b+1+1)])]⟩) (λx s=>()) (λk s=>True)
    (λs hI G=>by simp only[go_sem,reduceIte,↓reduceIte,reduceCtorEq,nA,nS,nM,nB,nE,nL,nT,nN,iL,iT,iE,iA,iM,iS,iG,iB,iN,iZ,h,Int.lt_irrefl,hb1,List.length_range,hz,show ¬((K.toNat:Int)<K) from by omega]) (λk hk s hI=>by
     have h1:((k:Int)<((List.range K.toNat).length:Int)):=Int.ofNat_lt.2 hk
     simp only[List.length_range] at hk h1
     have z1:=Ym 119 ⟨#[]⟩ k
     have z2:(ByteArray.mk #[]).size=0:=rfl
     rw[z2,Nat.zero_add] at z1
     have t1:(k:Int)<K:=by omega
     have t3:k+(#[119]:Array UInt8).size<=9223372036854775807:=by simp; omega
     have t5:Yn 119 ⟨#[]⟩ k++⟨#[119]⟩=Yn 119 ⟨#[]⟩ (k+1):=rfl
     exact⟨trivial,_,λG=>by simp only[go_sem,reduceIte,↓reduceIte,reduceCtorEq,nA,nS,nM,nB,nE,nL,nT,nN,iL,iT,iE,iA,iM,iS,iG,iB,iN,iZ,h,z1,t1,t3,t5,h1,Yb _ _ hk,XD (show k<9223372036854775807 by omega),hb1]<;>with_reducible rfl,by simp only[go_sem,reduceIte,↓reduceIte,reduceCtorEq,nA,nS,nM,nB,nE,nL,nT,nN,iL,iT,iE,iA,iM,iS,iG,iB,iN,iZ,h]⟩) () trivial 300 (by simp; omega)
  rw[hb1] at hr2
  rw[show Yn 119 ⟨#[]⟩ 0=⟨#[]⟩ from rfl] at hr2
  simp only[go_sem,reduceIte,↓reduceIte,reduceCtorEq,nA,nS,nM,nB,nE,nL,nT,nN,iL,iT,iE,iA,iM,iS,iG,iB,iN,iZ,h,QN,hb,hb',hk,i4,p0,p1,p2,p3,p4,t3,t4,hK,hr2]
 have d4:(k==4)=false:=by simpa using c4
 simp only[go_sem,reduceIte,↓reduceIte,reduceCtorEq,nA,nS,nM,nB,nE,nL,nT,nN,iL,iT,iE,iA,iM,iS,iG,iB,iN,iZ,h,QN,hb,hb',hk,i4,p0,p1,p2,p3,p4,t3,t4,c0,d0,c1,d1,c2,d2,c3,d3,c4,d4]) (rfl)
def Xdk(code:List UInt8){a:Int}(xs:List ByteArray)(N:Nat)(h:aOk a=true)(hx:0<xs.length)(hs:∀x∈xs,x.size<=N):(Yw code a xs).size<=N:=by
 have:=Xbo code (n:=xs.length) h (by omega)
 obtain⟨i,e,hi⟩:∃i:Nat,XW code a xs.length=(i:Int)/\i<xs.length:=⟨(XW code a xs.length).toNat,by omega,by omega⟩
 have:Yw code a xs=xs[i]:=by unfold Yw; rw[e]; simp[List.getD,hi]
 rw[this]; exact hs _ (List.getElem_mem hi)
def XdX(code:List UInt8){a:Int}(h:dOk a=true):(Xjw code a).Path.size<=20:=by
 simp only[dOk,decide_eq_true_eq] at h
 refine Xdk code _ 20 (by simp only[aOk,decide_eq_true_eq]; omega) (by simp) λx hx=>?_
 simp only[List.mem_cons,List.not_mem_nil,or_false] at hx
 rcases hx with rfl | rfl | rfl | rfl | rfl | rfl | rfl<;>decide
def eOk(a:Int):Bool:=decide (0<=a/\a<=600000)
def Xjx(code:List UInt8)(p:Int)(l:Nat):Nat:=(XZ code (p+1) [100,101]-l).toNat
def Zh(code:List UInt8)(a:Int):Int×Request :=
 let r:=Xjw code a
 let p:=(Xe1 code a).1
 let k:=XW code p 14
 if k=0 then(p+1+1,{r with Method:=Yw code (p+1) [⟨#[80,79,83,84]⟩,⟨#[103,101,116]⟩,⟨#[]⟩]})
 else if k=1 then(p+1+1,{r with Host:=Yw code (p+1) [⟨#[]⟩,⟨#[97,32,98]⟩,⟨#[97,47,98]⟩,⟨#[97,46,99,111,109,58,56,48]⟩]})
 else if k=2 then(p+1+1,{r with Path:=Yw code (p+1) [⟨#[]⟩,⟨#[120]⟩,⟨#[47,97,32,98]⟩,⟨#[47,1]⟩,⟨#[47,97,34,98]⟩]})
 else if k=3 then(p+1,{r with Headers:=r.Headers++[⟨⟨#[104,79,83,84]⟩,⟨#[113]⟩⟩]})
 else if k=4 then((QN code (p+1)).1,{r with Headers:=(QN code (p+1)).2})
 else if k=5 then(p+1+1,{r with Path:=Yn 112 r.Path (Xjx code p r.Path.size)})
 else(p+1,r)
def s26:SP Tryz.prog:=mkS tyA 26 Tryz.f26 [s28,s37,s63,s64,s65] {md:=[.rw 2],wk:=true,rg:=[(0,[0,2],[0,2,3]),(1,[0,2,3],[0,2,3]),(2,[0,2,3,8],[0,2,3]),(3,[0,2,3,8,9],[0,2,3]),(4,[0,2,3],[0,2,3]),(5,[0,2,3,8,15],[0,2,3]),(6,[0,2,3],[0,2,3]),(7,[0,2,3,8,21],[0,2,3]),(8,[0,2,3],[0,2,3]),(9,[0,2,3,8,27],[0,2,3]),(10,[0,2,3],[0,2,3]),(11,[0,2,3,8,35],[0,2,3]),(12,[0,2,3],[0,2,3]),(13,[0,2,3,40],[0,2,3]),(14,[0,2,3,4],[0,2,3]),(15,[0,2,3,4,49],[0,2,3]),(16,[0,2,3,4],[0,2,3]),(17,[0,2],[0,2,3])],lv:=[(1,[0,2,3,4],[0,2,3])],out:=[(1,[0,2,3],[0,2,3])],rets:=some ([0,2],[0,2,3])} Tryz.func26 (by kernel_rfl)
@[go_sem] def d26:s26.g=26/\s26.fs=⟨[.rw 2],s26.F,true⟩:=⟨nr rfl,nr rfl⟩
@[go_sem] def e26(code:List UInt8)(a:Int)(h1:eOk a=true):s26.F [.agg [.sl .ro 1 (code.map Xn),.i .i64 a]]=some (.agg (Zs .mut (Zh code a).2),[.agg [.sl .ro 1 (code.map Xn),.i .i64 (Zh code a).1]]):=Xm (300) rfl rfl (λcx h=>by
 have ha:=h1
 simp only[eOk,decide_eq_true_eq] at ha
 have p0:dOk a=true:=by simp only[dOk,decide_eq_true_eq]; omega
 have i1:=Xbz code p0
 have i2:=XdX code p0
 have i3:(Xjw code a).Headers.length<=2:=i1.2.2
 obtain⟨p,hp⟩:∃p,(Xe1 code a).1=p:=⟨_,rfl⟩
 obtain⟨r,hr⟩:∃r,Xjw code a=r:=⟨_,rfl⟩
 rw[hp] at i1
 rw[hr] at i2 i3
 have p2:aOk p=true:=by simp only[aOk,decide_eq_true_eq]; omega
 have p3:aOk (p+1)=true:=by simp only[aOk,decide_eq_true_eq]; omega
 have p4:dOk (p+1)=true:=by simp only[dOk,decide_eq_true_eq]; omega
 have t3:(r.Headers.length+1)*32<=140737488355328:=by omega
 have t4:∀x y,r.Headers.map (Xb .mut)++[[.s x,.s y]]=(r.Headers++[Xd.mk x y]).map (Xb .mut):=λx y=>by simp[Xb]
 obtain⟨k,hk⟩:∃k,XW code p 14=k:=⟨_,rfl⟩
 by_cases c0:k=0
 ·subst c0
  simp only[go_sem,reduceIte,↓reduceIte,reduceCtorEq,nA,nS,nM,nB,nE,nL,nT,nN,iL,iT,iE,iA,iM,iS,iG,iB,iN,iZ,h,Zh,hr,hp,hk,p0,p2,p3,p4,t3,t4]
 have d0:(k==0)=false:=by simpa using c0
 by_cases c1:k=1
 ·subst c1
  simp only[go_sem,reduceIte,↓reduceIte,reduceCtorEq,nA,nS,nM,nB,nE,nL,nT,nN,iL,iT,iE,iA,iM,iS,iG,iB,iN,iZ,h,Zh,hr,hp,hk,p0,p2,p3,p4,t3,t4]
 have d1:(k==1)=false:=by simpa using c1
 by_cases c2:k=2
 ·subst c2
  simp only[go_sem,reduceIte,↓reduceIte,reduceCtorEq,nA,nS,nM,nB,nE,nL,nT,nN,iL,iT,iE,iA,iM,iS,iG,iB,iN,iZ,h,Zh,hr,hp,hk,p0,p2,p3,p4,t3,t4]
 have d2:(k==2)=false:=by simpa using c2
 by_cases c3:k=3
 ·subst c3
  simp only[go_sem,reduceIte,↓reduceIte,reduceCtorEq,nA,nS,nM,nB,nE,nL,nT,nN,iL,iT,iE,iA,iM,iS,iG,iB,iN,iZ,h,Zh,hr,hp,hk,p0,p2,p3,p4,t3,t4]
 have d3:(k==3)=false:=by simpa using c3
 by_cases c4:k=4
 ·subst c4
  simp only[go_sem,reduceIte,↓reduceIte,reduceCtorEq,nA,nS,nM,nB,nE,nL,nT,nN,iL,iT,iE,iA,iM,iS,iG,iB,iN,iZ,h,Zh,hr,hp,hk,p0,p2,p3,p4,t3,t4]
 have d4:(k==4)=false:=by simpa using c4
 by_cases c5:k=5
 ·subst c5
  have m1:=YX code [100,101] p3 (by simp)
  simp only[List.mem_cons,List.not_mem_nil,or_false] at m1
  obtain⟨K,hK⟩:∃K,XZ code (p+1) [100,101]=K:=⟨_,rfl⟩
  obtain⟨M,hM⟩:∃M,Xjx code p r.Path.size=M:=⟨_,rfl⟩
  have hM1:=hM
  unfold Xjx at hM1
  rw[hK] at m1 hM1
  have hz:=Ym 112 r.Path M
  have hKM:¬(((r.Path.size+M:Nat):Int)<K):=by omega
  have hb0:=XR Tryz.f26 0 _ _ rfl rfl
  obtain⟨hI,hr1⟩:=YK (cx:=cx) (blk:=1) (body:=Zt Tryz.f26 0) (List.range M) (λk (s:Unit)=>⟨E [(0,.p ⟨false,0,[],0⟩),(2,.p ⟨false,2,[],0⟩),(3,.p ⟨false,3,[],0⟩),(4,.i .i64 K)],B [(0,[.sl .ro 1 (code.map Xn),.i .i64 (p+1+1)]),(2,[.s ⟨#[]⟩,.s ⟨#[]⟩,.s ⟨#[]⟩,.sl .mut 2 []]),(3,[.s r.Method,.s r.Host,.s (Yn 112 r.Path k),.sl .mut 2 (r.Headers.map (Xb .mut))])]⟩) (λs=>⟨E [(0,.p ⟨false,0,[],0⟩),(2,.p ⟨false,2,[],0⟩),(3,.p ⟨false,3,[],0⟩)],B [(0,[.sl .ro 1 (code.map Xn),.i .i64 (p+1+1)]),(2,[.s ⟨#[]⟩,.s ⟨#[]⟩,.s ⟨#[]⟩,.sl .mut 2 []]),(3,[.s r.Method,.s r.Host,.s (Yn 112 r.Path M),.sl .mut 2 (r.Headers.map (Xb .mut))])]⟩) (λx s=>()) (λk s=>True)
    (λs hI G=>by simp only[go_sem,reduceIte,↓reduceIte,reduceCtorEq,nA,nS,nM,nB,nE,nL,nT,nN,iL,iT,iE,iA,iM,iS,iG,iB,iN,iZ,h,Int.lt_irrefl,hb0,List.length_range,hz,hKM]) (λk hk s hI=>by
     have h1:((k:Int)<((List.range M).length:Int)):=Int.ofNat_lt.2 hk
     simp only[List.length_range] at hk h1
     have z1:=Ym 112 r.Path k
     have t1:((r.Path.size+k:Nat):Int)<K:=by omega
     have t3:r.Path.size+k+(#[112]:Array UInt8).size<=9223372036854775807:=by simp; omega
     have t5:Yn 112 r.Path k++⟨#[112]⟩=Yn 112 r.Path (k+1):=rfl
     exact⟨trivial,_,λG=>by simp only[go_sem,reduceIte,↓reduceIte,reduceCtorEq,nA,nS,nM,nB,nE,nL,nT,nN,iL,iT,iE,iA,iM,iS,iG,iB,iN,iZ,h,z1,t1,t3,t5,h1,Yb _ _ hk,XD (show k<9223372036854775807 by omega),hb0]<;>with_reducible rfl,by simp only[go_sem,reduceIte,↓reduceIte,reduceCtorEq,nA,nS,nM,nB,nE,nL,nT,nN,iL,iT,iE,iA,iM,iS,iG,iB,iN,iZ,h]⟩) () trivial 300 (by simp; omega)
  rw[hb0] at hr1
  rw[show Yn 112 r.Path 0=r.Path from rfl] at hr1
  simp only[go_sem,reduceIte,↓reduceIte,reduceCtorEq,nA,nS,nM,nB,nE,nL,nT,nN,iL,iT,iE,iA,iM,iS,iG,iB,iN,iZ,h,Zh,hr,hp,hk,p0,p2,p3,p4,t3,t4,hM,hK,hr1]
 have d5:(k==5)=false:=by simpa using c5
 simp only[go_sem,reduceIte,↓reduceIte,reduceCtorEq,nA,nS,nM,nB,nE,nL,nT,nN,iL,iT,iE,iA,iM,iS,iG,iB,iN,iZ,h,Zh,hr,hp,hk,p0,p2,p3,p4,t3,t4,c0,d0,c1,d1,c2,d2,c3,d3,c4,d4,c5,d5]) (rfl)
end
end Go.Vm.A
