/- Functions of the program, walked by the evaluator. -/
import Derived.Test.YtebnbhjcfanddaaGreatDoorWb
import Derived.Test.YtebnbhjcfanddaaGreatDoorWa
import Derived.Test.YtebnbhjcfanddaaGreatDoorFa
set_option linter.unusedVariables false
set_option linter.unusedSimpArgs false
set_option autoImplicit false
set_option maxRecDepth 100000
set_option maxHeartbeats 4000000
set_option linter.defProp false
namespace Go.Vm.A
open Go.Proofs
open Nat renaming reduceAdd -> nA, reduceSub -> nS, reduceMul -> nM, reduceBEq -> nB, reduceEqDiff -> nE, reduceLeDiff -> nL, reduceLT -> nT, reduceBneDiff -> nN
open Int renaming reduceLE -> iL, reduceLT -> iT, reduceEq -> iE, reduceAdd -> iA, reduceMul -> iM, reduceSub -> iS, reduceNeg -> iG, reduceBEq -> iB, reduceBNe -> iN, reduceToNat -> iZ
noncomputable section
def Ul(m:Meta):List Int:=[m.At,m.Age,m.Life,m.Swr,m.Sie]
def U7(pl:Pl):∀(j:Nat) (xs:List Int),Yd pl j (xs.map λa=>AV.i .i64 a)=xs.map λa=>AV.i .i64 a
 | _,[]=>rfl
 | j,x :: xs=>by
  rw[List.map_cons,Yd,U7 pl (j+1) xs]; rfl
def QE(kp kr:Pl->Bool):∀xs:List Int,XZ kp kr (xs.map λa=>AV.i .i64 a)=xs.map λa=>AV.i .i64 a
 | []=>rfl
 | x :: xs=>by
  rw[List.map_cons,XZ,QE kp kr xs]; rfl
def XN(m:Meta):Int:=if((Ul m).any λx=>!Ym x)=true then 3 else 0
def Xhj{α:Type}{f:α->AV}{xs:List α}{n k:Nat}(hn:n=xs.length)(h:k<xs.length):Xhz n (xs.map f) (k:Int)=some (f xs[k]):=by
 subst hn
 unfold Xhz Zj
 rw[if_pos (by simp),if_pos (by omega)]
 simp[h]
def Xm3:SP Tryz.prog:=mkS tyA 114 Tryz.f114 [Xm2] {md:=[.ro 1],rg:=[(0,[1],[1]),(1,[30],[]),(2,[2],[]),(3,[2],[])],rets:=some ([2],[])} Tryz.func114 (by kernel_rfl)
@[go_sem] def XDt:Xm3.g=114/\Xm3.fs=⟨[.ro 1],Xm3.F,false⟩:=⟨nr rfl,nr rfl⟩
@[go_sem] def XDu(mAt q0 q1 q2 q3:Int)(q4 q5:Bool):Xm3.F [.agg [.i .i64 mAt,.i .i64 q0,.i .i64 q1,.i .i64 q2,.i .i64 q3,.b q4,.b q5]]=some (.i .i64 (XN (Meta.mk mAt q0 q1 q2 q3 q4 q5)),[.u]):=Xm (0) rfl rfl (λcx h=>by
 have hu:XN (Meta.mk mAt q0 q1 q2 q3 q4 q5)=if(!Ym mAt||(!Ym q0||(!Ym q1||(!Ym q2||(!Ym q3||false)))))=true then 3 else 0:=rfl
 cases cmAt:Ym mAt
 ·simp only[go_sem,reduceIte,↓reduceIte,nA,nB,nE,nL,h,hu,cmAt]
 cases cmAge:Ym q0
 ·simp only[go_sem,reduceIte,↓reduceIte,nA,nB,nE,nL,h,hu,cmAt,cmAge]
 cases cmLife:Ym q1
 ·simp only[go_sem,reduceIte,↓reduceIte,nA,nB,nE,nL,h,hu,cmAt,cmAge,cmLife]
 cases cmSwr:Ym q2
 ·simp only[go_sem,reduceIte,↓reduceIte,nA,nB,nE,nL,h,hu,cmAt,cmAge,cmLife,cmSwr]
 cases cmSie:Ym q3
 ·simp only[go_sem,reduceIte,↓reduceIte,nA,nB,nE,nL,h,hu,cmAt,cmAge,cmLife,cmSwr,cmSie]
 simp only[go_sem,reduceIte,↓reduceIte,nA,nB,nE,nL,h,hu,cmAt,cmAge,cmLife,cmSwr,cmSie]) (rfl)
def XdF(t:ByteArray):Bool:=decide (1<=(t.size:Int))&&decide ((t.size:Int)<=500)
def Xhk(c:UInt8):Bool:=Qg c||Qs c||((c.toNat:Int)==46)||((c.toNat:Int)==45)
def Xhl:List UInt8:=[47,63,61,38,58,64,44,59,40,41]
def Xhm(c:UInt8):Bool:=Uk c||Xhl.contains c
def Xi9(c:UInt8):decide (0<=ixB ⟨#[47,63,61,38,58,64,44,59,40,41]⟩ c)=Xhl.contains c:=Xhg Xhl c
@[go_sem] def Xli(xs:List UInt8):xs.map XaA=xs.map Xx:=nr rfl
def XeJ(c:UInt8):UInt8:=if 65<=(c.toNat:Int)/\(c.toNat:Int)<=90 then c+32 else c
def ZR(t:ByteArray):ByteArray:=⟨(t.data.toList.map XeJ).toArray⟩
def Zy(xs:List UInt8)(k:Nat):List UInt8:=(xs.take k).map XeJ++xs.drop k
def Xco(xs:List UInt8):Zy xs 0=xs:=by simp[Zy]
def XdG(xs:List UInt8):Zy xs xs.length=xs.map XeJ:=by simp[Zy]
def XdH(xs:List UInt8)(k:Nat)(h:k<=xs.length):(Zy xs k).length=xs.length:=by simp[Zy]; omega
def XcY(xs:List UInt8)(k:Nat)(h:k<xs.length):(Zy xs k)[k]?=some xs[k]:=by
 unfold Zy
 rw[List.getElem?_append_right (by simp; omega)]
 simp[Nat.min_eq_left (Nat.le_of_lt h),h]
def Xcp(xs:List UInt8)(k:Nat)(h:k<xs.length):(Zy xs k).set k (XeJ xs[k])=Zy xs (k+1):=by
 unfold Zy
 rw[List.set_append_right _ _ (by simp; omega)]
 rw[List.length_map,List.length_take,Nat.min_eq_left (Nat.le_of_lt h),Nat.sub_self,List.drop_eq_getElem_cons h,List.set_cons_zero]
 have e:(xs.take (k+1)).map XeJ=(xs.take k).map XeJ++[XeJ xs[k]]:=by
  rw[List.take_add_one,List.getElem?_eq_getElem h,Option.toList_some,List.map_append]; rfl
 rw[e]
 simp
def Xcq(xs:List UInt8)(k:Nat)(h:k<xs.length)(hc:XeJ xs[k]=xs[k]):Zy xs (k+1)=Zy xs k:=by
 rw[<-Xcp xs k h,hc]
 have:=XcY xs k h
 obtain⟨h1,h2⟩:=List.getElem?_eq_some_iff.1 this
 rw[<-h2]
 exact List.set_getElem_self h1
def XfO(xs:List UInt8)(k:Nat)(h:k<xs.length):((Zy xs k).map Xx).getD k []=[.i .u8 xs[k].toNat]:=by
 rw[List.getD_eq_getElem?_getD,List.getElem?_map,XcY xs k h]; rfl
def Xhn(xs:List UInt8)(k:Nat)(h:k<xs.length):((Zy xs k).map Xx)[k]?=some [.i .u8 xs[k].toNat]:=by
 rw[List.getElem?_map,XcY xs k h]; rfl
def Xho{c:UInt8}(h:(c.toNat:Int)<=90):(c+32).toNat=c.toNat+32:=by
 rw[UInt8.toNat_add]
 have:(32:UInt8).toNat=32:=rfl
 rw[this]
 omega
def Xhp(xs:List UInt8)(k:Nat)(h:k<xs.length) :
  (65<=(xs[k].toNat:Int)/\(xs[k].toNat:Int)<=90/\((IntKind.u8).wrap ((IntKind.u8).wrap ((xs[k].toNat:Int)+97)-65)=((XeJ xs[k]).toNat:Int))/\((IntKind.u8).wrap ((xs[k].toNat:Int)+32)=((XeJ xs[k]).toNat:Int))/\((Zy xs k).map Xx).set k [.i .u8 (XeJ xs[k]).toNat]=(Zy xs (k+1)).map Xx/\True) \/
  (¬65<=(xs[k].toNat:Int)/\True/\True/\True/\True/\Zy xs (k+1)=Zy xs k)\/(65<=(xs[k].toNat:Int)/\¬(xs[k].toNat:Int)<=90/\True/\True/\True/\Zy xs (k+1)=Zy xs k):=by
 by_cases a1:65<=(xs[k].toNat:Int)
 ·by_cases a2:(xs[k].toNat:Int)<=90
  ·refine .inl ⟨a1,a2,?_,?_,?_,trivial⟩
   ·have hl:XeJ xs[k]=xs[k]+32:=if_pos ⟨a1,a2⟩
    rw[hl,Xho a2]
    simp only[IntKind.wrap,IntKind.bits,IntKind.signed]
    simp
    omega
   ·have hl:XeJ xs[k]=xs[k]+32:=if_pos ⟨a1,a2⟩
    rw[hl,Xho a2]
    simp only[IntKind.wrap,IntKind.bits,IntKind.signed]
    simp
    omega
   ·rw[<-Xcp xs k h,List.map_set]; rfl
  ·exact .inr (.inr ⟨a1,a2,trivial,trivial,trivial,Xcq xs k h (if_neg λx=>a2 x.2)⟩)
 ·exact .inr (.inl ⟨a1,trivial,trivial,trivial,trivial,Xcq xs k h (if_neg λx=>a1 x.1)⟩)
def okN(n:ByteArray):Bool:=decide (n.size<=9223372036854775806)
def Qh{hs:List Xg}(h:Xj hs=0):hs.length<=20:=by
 unfold Xj at h
 split at h
 ·cases h
 ·omega
def runS_any{α:Type}{p:α->Bool}:∀{xs:List α} {u u':Unit},UQ (λx _=>p x) (λ_ _=>()) xs u=.inl u'->xs.any p=false
 | [],_,_,_=>rfl
 | x :: xs,u,u',h=>by
  rw[Y2] at h
  split at h
  ·cases h
  ·rename_i hc
   simp only[List.any_cons,runS_any h,Bool.or_false]
   simpa using hc
def XdI{α:Type}{p:α->Bool}:∀{xs:List α} {u:Unit} {q:α×Unit},UQ (λx _=>p x) (λ_ _=>()) xs u=.inr q->xs.any p=true
 | [],_,_,h=>by cases h
 | x :: xs,u,q,h=>by
  rw[Y2] at h
  split at h
  ·rename_i hc; simp[hc]
  ·simp only[List.any_cons,XdI h,Bool.or_true]
def Xbr(s:Int):Bool:=s !=200&&s !=404&&s !=410
def Xc(e:Xt):Int :=
 if XdF e.Key=false then 2 else if(Xbr e.Status||!within e.Pins 0 20)=true then 3 else if(Xj e.Headers !=0)=true then Xj e.Headers
 else if(decide (2000<(e.Body.length:Int))||decide (10<(e.Tags.length:Int)))=true then 2 else XN e.Meta
def XfP{s:Int}(h:Xbr s=false):s=200\/(s≠200/\s=404)\/(s≠200/\s≠404/\s=410):=by
 unfold Xbr at h
 simp only[Bool.and_eq_false_iff,bne_eq_false_iff_eq] at h
 omega
def QS{e:Xt}(h:Xc e=0):Xj e.Headers=0:=by
 unfold Xc at h
 split at h
 ·cases h
 split at h
 ·cases h
 split at h
 ·rename_i hc; rw[h] at hc; exact absurd hc (by decide)
 ·rename_i hc; simpa using hc
def s49:SP Tryz.prog:=mkS tyA 49 Tryz.f49 [s51,s52,Xm3] {md:=[.ro 1],rg:=[(0,[1],[1]),(1,[1,13],[1]),(2,[2],[]),(3,[1,32],[1]),(4,[2],[]),(5,[1,3],[1]),(6,[1,3,37],[1]),(7,[2],[]),(8,[1,48],[1]),(9,[2],[]),(10,[2],[])],rets:=some ([2],[])} Tryz.func49 (by kernel_rfl)
@[go_sem] def d49:s49.g=49/\s49.fs=⟨[.ro 1],s49.F,false⟩:=⟨nr rfl,nr rfl⟩
@[go_sem] def e49(q6:ByteArray)(q7:Int)(q8:List Xg)(q9:List UInt8)(q10 q11 q12 q13 q14:Int)(q15 q16:Bool)(q17:List ByteArray)(q18:Int)(h0:smL XO (Xt.mk q6 q7 q8 q9 (Meta.mk q10 q11 q12 q13 q14 q15 q16) q17 q18).Headers):s49.F [.agg [.s q6,.i .i64 q7,.sl .ro 2 (q8.map (Xa .ro)),.sl .ro 1 (q9.map Xx),.i .i64 q10,.i .i64 q11,.i .i64 q12,.i .i64 q13,.i .i64 q14,.b q15,.b q16,.sl .ro 1 (q17.map Zw),.i .i64 q18]]=some (.i .i64 (Xc (Xt.mk q6 q7 q8 q9 (Meta.mk q10 q11 q12 q13 q14 q15 q16) q17 q18)),[.u]):=Xm (0) rfl rfl (λcx h=>by
 have hku:XdF q6=(decide (1<=(q6.size:Int))&&decide ((q6.size:Int)<=500)):=rfl
 by_cases k1:(q6.size:Int)<1
 ·have hk:XdF q6=false:=by rw[hku]; simp; omega
  simp only[go_sem,reduceIte,↓reduceIte,nA,nB,nE,nL,h,k1,hk,Xc]
 by_cases k2:500<(q6.size:Int)
 ·have hk:XdF q6=false:=by rw[hku]; simp; omega
  simp only[go_sem,reduceIte,↓reduceIte,nA,nB,nE,nL,h,k1,k2,hk,Xc]
 have hk:XdF q6=true:=by rw[hku]; simp; omega
 cases hp:Xbr q7
 rotate_left
 ·have hp':=hp
  unfold Xbr at hp'
  simp only[Bool.and_eq_true] at hp'
  obtain⟨⟨s1,s2⟩,s3⟩:=hp'
  simp only[go_sem,reduceIte,↓reduceIte,nA,nB,nE,nL,h,k1,k2,hk,Xc,hp,s1,s2,s3]
 rcases XfP hp with rfl | ⟨s1,rfl⟩ | ⟨s1,s2,rfl⟩
 ·cases w1:within q18 0 20
  ·simp only[go_sem,reduceIte,↓reduceIte,nA,nB,nE,nL,h,k1,k2,hk,Xc,hp,w1]
  by_cases z:Xj q8=0
  rotate_left
  ·have z':(Xj q8 !=0)=true:=by simpa using z
   simp only[go_sem,reduceIte,↓reduceIte,nA,nB,nE,nL,h,k1,k2,hk,Xc,hp,w1,z']
  have z':(Xj q8 !=0)=false:=by simpa using z
  by_cases b1:2000<(q9.length:Int)
  ·simp only[go_sem,reduceIte,↓reduceIte,nA,nB,nE,nL,h,k1,k2,hk,Xc,hp,w1,z,b1]
  by_cases b2:10<(q17.length:Int)
  ·simp only[go_sem,reduceIte,↓reduceIte,nA,nB,nE,nL,h,k1,k2,hk,Xc,hp,w1,z,b1,b2]
  simp only[go_sem,reduceIte,↓reduceIte,nA,nB,nE,nL,h,k1,k2,hk,Xc,hp,w1,z,b1,b2]
 ·cases w1:within q18 0 20
  ·simp only[go_sem,reduceIte,↓reduceIte,nA,nB,nE,nL,iN,h,k1,k2,hk,Xc,hp,w1]
  by_cases z:Xj q8=0
  rotate_left
  ·have z':(Xj q8 !=0)=true:=by simpa using z
   simp only[go_sem,reduceIte,↓reduceIte,nA,nB,nE,nL,iN,h,k1,k2,hk,Xc,hp,w1,z']
  have z':(Xj q8 !=0)=false:=by simpa using z
  by_cases b1:2000<(q9.length:Int)
  ·simp only[go_sem,reduceIte,↓reduceIte,nA,nB,nE,nL,iN,h,k1,k2,hk,Xc,hp,w1,z,b1]
  by_cases b2:10<(q17.length:Int)
  ·simp only[go_sem,reduceIte,↓reduceIte,nA,nB,nE,nL,iN,h,k1,k2,hk,Xc,hp,w1,z,b1,b2]
  simp only[go_sem,reduceIte,↓reduceIte,nA,nB,nE,nL,iN,h,k1,k2,hk,Xc,hp,w1,z,b1,b2]
 ·cases w1:within q18 0 20
  ·simp only[go_sem,reduceIte,↓reduceIte,nA,nB,nE,nL,iN,h,k1,k2,hk,Xc,hp,w1]
  by_cases z:Xj q8=0
  rotate_left
  ·have z':(Xj q8 !=0)=true:=by simpa using z
   simp only[go_sem,reduceIte,↓reduceIte,nA,nB,nE,nL,iN,h,k1,k2,hk,Xc,hp,w1,z']
  have z':(Xj q8 !=0)=false:=by simpa using z
  by_cases b1:2000<(q9.length:Int)
  ·simp only[go_sem,reduceIte,↓reduceIte,nA,nB,nE,nL,iN,h,k1,k2,hk,Xc,hp,w1,z,b1]
  by_cases b2:10<(q17.length:Int)
  ·simp only[go_sem,reduceIte,↓reduceIte,nA,nB,nE,nL,iN,h,k1,k2,hk,Xc,hp,w1,z,b1,b2]
  simp only[go_sem,reduceIte,↓reduceIte,nA,nB,nE,nL,iN,h,k1,k2,hk,Xc,hp,w1,z,b1,b2]) (rfl)
def Xm4(a b:Int):Int:=if 1000000000000000<a+b then 1000000000000000 else a+b
def XV(m:Meta)(now:Int):Int:=if(XN m !=0)=true then XN m else if(!Ym now||decide (now<m.At))=true then 3 else 0
def Xbs(m:Meta)(now:Int):Int:=Xm4 m.Age (now-m.At)
def XeK(m:Meta)(now:Int):Y7:=if(XV m now !=0)=true then⟨3,0⟩ else⟨0,Xbs m now⟩
def XdJ{m:Meta}(h:XN m=0):Ym m.At=true/\Ym m.Age=true:=by
 unfold XN at h
 split at h
 ·cases h
 ·rename_i hc
  have h1:=List.any_eq_false.1 (by simpa using hc:((Ul m).any λx=>!Ym x)=false)
  exact⟨by simpa using h1 m.At (by simp[Ul]),by simpa using h1 m.Age (by simp[Ul])⟩
def Xgl{m:Meta}{now:Int}(h:XV m now=0):XN m=0/\Ym now=true/\m.At<=now:=by
 unfold XV at h
 split at h
 ·rename_i hc; rw[h] at hc; exact absurd hc (by decide)
 split at h
 ·cases h
 ·rename_i h1 h2
  refine⟨by simpa using h1,?_⟩
  simp only[Bool.or_eq_true,Bool.not_eq_true',decide_eq_true_eq,not_or,Bool.not_eq_false] at h2
  exact⟨h2.1,by omega⟩
def U8{m:Meta}{now:Int}(h:XV m now=0):(IntKind.i64).wrap (now-m.At)=now-m.At/\(Ym m.Age=true/\0<=now-m.At/\now-m.At<=1000000000000000)/\0<=Xbs m now/\Xbs m now<=1000000000000000:=by
 obtain⟨h1,h2,h3⟩:=Xgl h
 obtain⟨h4,h5⟩:=XdJ h1
 have a1:=U6.1 h2
 have a2:=U6.1 h4
 have a3:=U6.1 h5
 refine⟨Yl (by omega) (by omega),⟨h5,by omega,by omega⟩,?_⟩
 unfold Xbs Xm4
 split<;>omega
def US(m:Meta):XN m=0\/XN m=3:=by unfold XN; split<;>simp
def s67:SP Tryz.prog:=mkS tyA 67 Tryz.f67 [Xm3,Xm2] {md:=[.ro 1,.ro 1],rg:=[(0,[0,1],[]),(1,[0,1,5],[]),(2,[0,1,5,11],[]),(3,[4],[]),(4,[23],[]),(5,[4],[]),(6,[4],[])],rets:=some ([4],[])} Tryz.func67 (by kernel_rfl)
@[go_sem] def d67:s67.g=67/\s67.fs=⟨[.ro 1,.ro 1],s67.F,false⟩:=⟨nr rfl,nr rfl⟩
@[go_sem] def e67(mAt q0 q1 q2 q3:Int)(q4 q5:Bool)(now:Int):s67.F [.pr [.i .i64 mAt,.i .i64 q0,.i .i64 q1,.i .i64 q2,.i .i64 q3,.b q4,.b q5],.i .i64 now]=some (.i .i64 (XV (Meta.mk mAt q0 q1 q2 q3 q4 q5) now),[.u,.u]):=Xm (0) rfl rfl (λcx h=>by
 have hu:XV (Meta.mk mAt q0 q1 q2 q3 q4 q5) now=if(XN (Meta.mk mAt q0 q1 q2 q3 q4 q5) !=0)=true then XN (Meta.mk mAt q0 q1 q2 q3 q4 q5) else if(!Ym now||decide (now<mAt))=true then 3 else 0:=rfl
 rcases US (Meta.mk mAt q0 q1 q2 q3 q4 q5) with z | z
 rotate_left
 ·simp only[go_sem,reduceIte,↓reduceIte,nA,nB,nE,iN,h,z,hu]
 rcases Bool.eq_false_or_eq_true (Ym now) with a1 | a1
 rotate_left
 ·simp only[go_sem,reduceIte,↓reduceIte,nA,nB,nE,h,z,a1,hu]
 by_cases a2:now<mAt<;>simp only[go_sem,reduceIte,↓reduceIte,nA,nB,nE,nL,h,z,a1,a2,hu]) (rfl)
def XnI:SP Tryz.prog:=mkS tyA 204 Tryz.f204 [] {md:=[.ro 1],rg:=[(0,[0],[]),(1,[3],[]),(2,[3,4],[]),(3,[3,4,10],[]),(4,[3,4],[]),(5,[3,4,24],[]),(6,[3,4],[]),(7,[2],[])],lv:=[(0,[3,4],[])],out:=[(0,[3],[])],rets:=some ([2],[])} Tryz.func204 (by kernel_rfl)
@[go_sem] def XDv:XnI.g=204/\XnI.fs=⟨[.ro 1],XnI.F,false⟩:=⟨nr rfl,nr rfl⟩
@[go_sem] def XDw(t:ByteArray)(h0:t.size<=9223372036854775806):XnI.F [.s t]=some (.s (ZR t),[.u]):=Xm (t.data.toList.length+1) rfl rfl (λcx h=>by
 have hz:t.data.toList.length<=9223372036854775807:=by rw[<-Xo]; omega
 have hx:t.data.toList.length<=9223372036854775806:=by rw[<-Xo]; exact h0
 have hb0:=XG Tryz.f204 0 _ _ rfl rfl
 obtain⟨hI,hr⟩:=YB (cx:=cx) (blk:=0) (body:=Za Tryz.f204 0) t.data.toList (λk (s:Unit)=>⟨E [(3,.sl .mut 1 ((Zy t.data.toList k).map Xx)),(4,.i .i64 k)],B []⟩) (λs=>⟨E [(3,.sl .mut 1 ((t.data.toList.map XeJ).map Xx))],B []⟩) (λx s=>s) (λk s=>True)
   (λs hI G=>by simp only[go_sem,reduceIte,↓reduceIte,nB,nE,h,Int.lt_irrefl,hb0,XdG t.data.toList,List.length_map]) (λk hk s hI=>by
    have h1:((k:Int)<(t.data.toList.length:Int)):=Int.ofNat_lt.2 hk
    have g1:=XfO t.data.toList k hk
    have g2:=Xhn t.data.toList k hk
    have g3:=XdH t.data.toList k (Nat.le_of_lt hk)
    have g4:(List.take t.data.toList.length ((Zy t.data.toList k).map Xx))=(Zy t.data.toList k).map Xx:=List.take_of_length_le (by rw[List.length_map,g3]; exact Nat.le_refl _)
    rcases Xhp t.data.toList k hk with⟨a1,a2,w1,w2,hs,hv⟩ | ⟨a1,a2,w1,w2,hs,hv⟩ | ⟨a1,a2,w1,w2,hs,hv⟩
    all_goals exact⟨trivial,_,λG=>by simp only[go_sem,reduceIte,↓reduceIte,nB,nE,h,g1,g2,g3,g4,a1,a2,w2,hs,List.length_map,h1,X0 _ _ hk,Xz (show k<9223372036854775807 by omega),hb0]<;>with_reducible rfl,by simp only[go_sem,reduceIte,↓reduceIte,nB,h,hv]⟩) () trivial (t.data.toList.length+1) (Nat.le_refl _)
 rw[hb0] at hr
 rw[Xco] at hr
 simp only[go_sem,reduceIte,↓reduceIte,nB,nE,h,hz,hr,Xo t,ZR]) (rfl)
def XnJ:SP Tryz.prog:=mkS tyA 174 Tryz.f174 [XnI] {md:=[.ro 1,.ro 1],rets:=some ([4],[])} Tryz.func174 (by kernel_rfl)
@[go_sem] def XDx:XnJ.g=174/\XnJ.fs=⟨[.ro 1,.ro 1],XnJ.F,false⟩:=⟨nr rfl,nr rfl⟩
@[go_sem] def XDy(a b:ByteArray)(h0:(a.size<=9223372036854775806/\b.size<=9223372036854775806)):XnJ.F [.s a,.s b]=some (.b (eqv (ZR a) (ZR b)),[.u,.u]):=Xm (0) rfl rfl (λcx h=>by
 simp only[go_sem,reduceIte,↓reduceIte,nB,h,h0.1,h0.2,ZP]) (rfl)
def ZJ(hs:List Xg)(n:ByteArray):List Xg:=hs.filter λx=>!eqv (ZR x.Name) (ZR n)
def Xbt(hs:List Xg)(n:ByteArray):(ZJ hs n).length<=hs.length:=List.length_filter_le _ _
def Xbu{α:Type}(p:α->Bool):∀(xs s:List α),xs.foldl (λs x=>if p x=true then s else s++[x]) s=s++xs.filter λx=>!p x
 | [],s=>by simp
 | x :: xs,s=>by
  rw[List.foldl_cons,Xbu p xs]
  cases hp:p x<;>simp[hp]
def XeL{α:Type}(p:α->Bool):∀(xs:List α) (m:Nat),XdC p xs m =-1\/∃i,i<xs.length/\XdC p xs m=((m+i:Nat):Int)
 | [],_=>.inl rfl
 | x :: xs,m=>by
  rw[XdC]
  split
  ·exact .inr ⟨0,by simp,by simp⟩
  ·rcases XeL p xs (m+1) with h | ⟨i,h1,h2⟩
   ·exact .inl h
   ·exact .inr ⟨i+1,by simp; omega,by rw[h2]; congr 1; omega⟩
def Xlj{α:Type}(p:α->Bool)(xs:List α)(h:¬XdC p xs 0<0):∃i,i<xs.length/\XdC p xs 0=(i:Int):=by
 rcases XeL p xs 0 with h1 | ⟨i,h1,h2⟩
 ·rw[h1] at h; exact absurd (by decide) h
 ·exact⟨i,h1,by rw[h2,Nat.zero_add]⟩
def setV(n v:ByteArray):List Xg->List Xg
 | []=>[⟨n,v⟩]
 | x :: r=>if eqv (ZR x.Name) (ZR n)=true then⟨n,v⟩ :: ZJ r n else x :: setV n v r
def QF(x:Xg)(r:List Xg)(n:ByteArray):ZJ (x :: r) n=if eqv (ZR x.Name) (ZR n)=true then ZJ r n else x :: ZJ r n:=by
 unfold ZJ
 rw[List.filter_cons]
 cases eqv (ZR x.Name) (ZR n)<;>rfl
def XfQ{n v:ByteArray}:∀(hs:List Xg) (m:Nat),XdC (λx:Xg=>eqv (ZR x.Name) (ZR n)) hs m<0->setV n v hs=ZJ hs n++[⟨n,v⟩]
 | [],_,_=>rfl
 | x :: r,m,h=>by
  rw[XdC] at h
  split at h
  ·omega
  ·rename_i hc; rw[setV,QF,if_neg hc,if_neg hc,XfQ r (m+1) h]; rfl
def XfR{n v:ByteArray}:∀(hs:List Xg) (m i:Nat),XdC (λx:Xg=>eqv (ZR x.Name) (ZR n)) hs m=((m+i:Nat):Int)->setV n v hs=(ZJ hs n).take i++[⟨n,v⟩]++(ZJ hs n).drop i/\i<=(ZJ hs n).length
 | [],m,i,h=>by rw[XdC] at h; omega
 | x :: r,m,i,h=>by
  rw[XdC] at h
  split at h
  ·rename_i hc
   obtain rfl:i=0:=by omega
   rw[setV,QF,if_pos hc,if_pos hc]
   exact⟨rfl,Nat.zero_le _⟩
  ·rename_i hc
   rcases XeL (λx:Xg=>eqv (ZR x.Name) (ZR n)) r (m+1) with h1 | ⟨q,h1,h2⟩
   ·omega
   ·obtain rfl:i=q+1:=by omega
    obtain⟨k1,k2⟩:=XfR (v:=v) r (m+1) q (by omega)
    rw[setV,QF,if_neg hc,if_neg hc,k1]
    exact⟨rfl,by simpa using k2⟩
def XcZ(n v:ByteArray):∀hs:List Xg,(setV n v hs).length<=hs.length+1
 | []=>Nat.le_refl _
 | x :: r=>by
  rw[setV]
  split
  ·have:=Xbt r n; simp only[List.length_cons]; omega
  ·have:=XcZ n v r; simp only[List.length_cons]; omega
def XeM{n v:ByteArray}(hn:n.size<=1048576)(hv:v.size<=1048576):∀{hs:List Xg},XkD XO hs->XkD XO (setV n v hs)
 | [],_=>λx hx=>by obtain rfl:=List.mem_singleton.1 hx; exact⟨hn,hv⟩
 | y :: r,h=>by
  rw[setV]
  split
  ·intro x hx
   rcases List.mem_cons.1 hx with rfl | hx
   ·exact⟨hn,hv⟩
   ·exact h x (List.mem_cons_of_mem _ ((List.mem_filter.1 hx).1))
  ·intro x hx
   rcases List.mem_cons.1 hx with rfl | hx
   ·exact h x (List.mem_cons_self ..)
   ·exact XeM hn hv (λz hz=>h z (List.mem_cons_of_mem _ hz)) x hx
def Xhb(n v:ByteArray)(s:List Xg×Bool)(x:Xg):List Xg×Bool:=if eqv (ZR x.Name) (ZR n)=true then(if s.2=true then s else(s.1++[⟨n,v⟩],true)) else(s.1++[x],s.2)
def Xhq(n v:ByteArray):∀(hs acc:List Xg),hs.foldl (λs x=>Xhb n v s x) (acc,true)=(acc++ZJ hs n,true)
 | [],acc=>by simp[ZJ]
 | x :: r,acc=>by
  rw[List.foldl_cons,QF]
  unfold Xhb
  cases c:eqv (ZR x.Name) (ZR n)
  ·rw[if_neg (by decide),if_neg (by decide)]
   have:=Xhq n v r (acc++[x])
   unfold Xhb at this
   rw[this]; simp
  ·rw[if_pos rfl,if_pos rfl,if_pos rfl]
   exact Xhq n v r acc
def XkO(n v:ByteArray):∀(hs acc:List Xg),hs.foldl (λs x=>Xhb n v s x) (acc,false)=(acc++setV n v hs,true)\/(hs.foldl (λs x=>Xhb n v s x) (acc,false)=(acc++ZJ hs n,false)/\setV n v hs=ZJ hs n++[⟨n,v⟩])
 | [],acc=>.inr ⟨by simp[ZJ],rfl⟩
 | x :: r,acc=>by
  rw[List.foldl_cons,QF,setV]
  unfold Xhb
  cases c:eqv (ZR x.Name) (ZR n)
  ·rw[if_neg (by decide),if_neg (by decide)]
   have h:=XkO n v r (acc++[x])
   unfold Xhb at h
   rcases h with h | ⟨h1,h2⟩
   ·exact .inl (by rw[h]; simp)
   ·exact .inr ⟨by rw[h1]; simp,by rw[if_neg (by decide),h2]; rfl⟩
  ·have hz:∀(a b:List Xg×Bool),(if(acc,false).2=true then a else b)=b:=λa b=>if_neg (λe=>by cases e)
   rw[if_pos rfl,hz,if_pos rfl]
   have h:=Xhq n v r (acc++[⟨n,v⟩])
   unfold Xhb at h
   exact .inl (by rw[h]; simp)
def XnK:SP Tryz.prog:=mkS tyA 127 Tryz.f127 [XnJ] {md:=[.ro 1,.ro 1],rg:=[(0,[0,3],[3]),(1,[0,3,5],[3]),(2,[0,3,5,6],[3]),(3,[0,3,5,6,7],[3]),(4,[0,3,5,6,7,12],[3]),(5,[0,3,5,6,7],[3]),(6,[0,3,5,6,7,23],[3]),(7,[0,3,5,6,7],[3]),(8,[0,3,5,6,7,32],[3]),(9,[0,3,5,7],[3]),(10,[0,3,5,6,7],[3]),(11,[3,5,38],[3]),(12,[5],[]),(13,[4],[])],lv:=[(0,[0,3,5,6,7],[3])],out:=[(0,[3,5,6],[3])],rets:=some ([4],[]),plan:=[(6,(.take 0 (.take 1 (.take 2 (.take 3 (.take 4 (.take 5 (.take 6 (.one 7 (.take 8 .done))))))))))],fz:=[3]} Tryz.func127 (by kernel_rfl)
@[go_sem] def XDz:XnK.g=127/\XnK.fs=⟨[.ro 1,.ro 1],XnK.F,false⟩:=⟨nr rfl,nr rfl⟩
@[go_sem] def XDA(hs:List Xg)(name value:ByteArray)(h0:(hs.length<=1000/\smL XO hs/\okN name=true)):XnK.F [.sl .ro 2 (hs.map (Xa .ro)),.agg [.s name,.s value]]=some (.sl .mut 2 ((setV name value hs).map (Xa .mut)),[.u,.u]):=Xm (hs.length+1) rfl rfl (λcx h=>by
 have hl:=h0.1
 have hx:hs.length<=9223372036854775806:=by omega
 have hb0:=XG Tryz.f127 0 _ _ rfl rfl
 obtain⟨hI,hr⟩:=YB (cx:=cx) (blk:=0) (body:=Za Tryz.f127 0) hs (λk (s:List Xg×Bool)=>⟨E [(0,.sl .ro 2 (hs.map (Xa .ro))),(3,.pr [.s name,.s value]),(5,.sl .mut 2 (s.1.map (Xa .mut))),(6,.b s.2),(7,.i .i64 k)],B [(3,[])]⟩) (λs=>⟨E [(3,.pr [.s name,.s value]),(5,.sl .mut 2 (s.1.map (Xa .mut))),(6,.b s.2)],B [(3,[])]⟩) (λx s=>Xhb name value s x) (λk s=>s.1.length<=k+1)
   (λs hI G=>by simp only[go_sem,reduceIte,↓reduceIte,nB,nE,h,Int.lt_irrefl,hb0]) (λk hk s hI=>by
    have h1:((k:Int)<(hs.length:Int)):=Int.ofNat_lt.2 hk
    have t3:(s.1.length+1)*32<=140737488355328:=by omega
    have t4:s.1.map (Xa .mut)++[[.s hs[k].Name,.s hs[k].Value]]=(s.1++[hs[k]]).map (Xa .mut):=by simp[Xa]
    have t5:s.1.map (Xa .mut)++[[.s name,.s value]]=(s.1++[Xg.mk name value]).map (Xa .mut):=by simp[Xa]
    obtain⟨u1,u2⟩:=h0.2.1.2 _ (List.getElem_mem hk)
    have n1:hs[k].Name.size<=9223372036854775806/\name.size<=9223372036854775806:=⟨by have:hs[k].Name.size<=1048576:=u1; omega,of_decide_eq_true h0.2.2⟩
    have hJ:(Xhb name value s hs[k]).1.length<=k+1+1:=by
     unfold Xhb; split<;>(try split)<;>(try simp only[List.length_append,List.length_cons,List.length_nil])<;>omega
    rcases Bool.eq_false_or_eq_true (eqv (ZR hs[k].Name) (ZR name)) with d1 | d1<;>rcases Bool.eq_false_or_eq_true s.2 with d2 | d2
    all_goals exact⟨hJ,_,λG=>by simp only[go_sem,reduceIte,↓reduceIte,nA,nM,nB,nE,nL,nT,h,t3,t4,t5,YJ (Xa .ro) hs k hk,n1,d1,d2,Xa,h1,X0 _ _ hk,Xz (show k<9223372036854775807 by omega),hb0]<;>with_reducible rfl,by simp only[go_sem,reduceIte,↓reduceIte,nB,h,Xhb,d1,d2]⟩) ([],false) (by simp) (hs.length+1) (Nat.le_refl _)
 rw[hb0] at hr
 rcases XkO name value hs [] with h1 | ⟨h1,h2⟩
 ·rw[List.nil_append] at h1
  rw[h1] at hr
  simp only[go_sem,reduceIte,↓reduceIte,nA,nM,nB,nE,nT,h,hr]
 ·rw[List.nil_append] at h1
  rw[h1] at hr
  have hd:=Xbt hs name
  have t3:((ZJ hs name).length+1)*32<=140737488355328:=by omega
  have t4:(ZJ hs name).map (Xa .mut)++[[.s name,.s value]]=(setV name value hs).map (Xa .mut):=by rw[h2,List.map_append]; rfl
  simp only[go_sem,reduceIte,↓reduceIte,nA,nM,nB,nE,nL,nT,h,hr,t3,t4,List.length_map]) (by simp only[go_sem,Zl,XB])
def Xhr(a b:ByteArray):(a++b).data.toList=a.data.toList++b.data.toList:=by simp[ByteArray.data_append]
def Xlk{a b:ByteArray}(h:a.data.toList=b.data.toList):a=b:=by
 cases a; cases b
 congr 1
 exact Array.ext' h
def Xbv{n:Int}(h0:0<=n)(h:n<10):Xbo n=⟨#[UInt8.ofNat (48+n).toNat]⟩:=by
 unfold Xbo Lib.itoa
 rw[if_neg (by omega),Lib.decDigits,dif_pos (by omega)]
 congr 4; omega
def Xhs{n:Int}(h0:0<=n)(h:¬n<10):Xbo n=Xbo (n.tdiv 10)++⟨#[UInt8.ofNat (48+n.tmod 10).toNat]⟩:=by
 have h1:n.tdiv 10=n / 10:=Int.tdiv_eq_ediv_of_nonneg h0
 have h2:n.tmod 10=n%10:=Int.tmod_eq_emod_of_nonneg h0
 rw[h1,h2]
 unfold Xbo Lib.itoa
 rw[if_neg (by omega),if_neg (by omega),Lib.decDigits,dif_neg (by omega)]
 apply Xlk
 rw[Xhr]
 have e1:(n / 10).toNat=n.toNat / 10:=by omega
 have e2:(48+n%10).toNat=48+n.toNat%10:=by omega
 rw[e1,e2]
def XfS{n:Int}(h:0<=n)(h1:n<=255):(IntKind.u8).wrap n=n:=by unfold IntKind.wrap; simp[IntKind.bits,IntKind.signed]; omega
def Xht(n:Int)(h0:0<=n):∀k:Nat,n<10^(k+1)->(Xbo n).size<=k+1:=by
 intro k
 induction k generalizing n with
 | zero=>intro h; rw[Xbv h0 (by simpa using h)]; exact Nat.le_refl _
 | succ k ih =>
  intro h
  by_cases c:n<10
  ·rw[Xbv h0 c]; show 1<=_; omega
  ·rw[Xhs h0 c,ByteArray.size_append]
   have h1:n.tdiv 10=n / 10:=Int.tdiv_eq_ediv_of_nonneg h0
   have:=ih (n.tdiv 10) (by rw[h1]; omega) (by rw[h1,Int.pow_succ] at *; omega)
   show(Xbo (n.tdiv 10)).size+1<=_
   omega
end
end Go.Vm.A
