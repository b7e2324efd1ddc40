/- Functions of the program, walked by the evaluator. -/
import Derived.Test.YtbgfaonlbpkfhaaGreatDoorWb
import Derived.Test.YtbgfaonlbpkfhaaGreatDoorWa
import Derived.Test.YtbgfaonlbpkfhaaGreatDoorFa
import Derived.Test.YtbgfaonlbpkfhaaGreatDoorFb
set_option linter.unusedVariables false
set_option linter.unusedSimpArgs false
set_option autoImplicit false
set_option maxRecDepth 100000
set_option maxHeartbeats 4000000
set_option linter.defProp false
namespace Go.Vm.A
open Go.Proofs
open Nat renaming reduceAdd -> nA, reduceSub -> nS, reduceMul -> nM, reduceBEq -> nB, reduceEqDiff -> nE, reduceLeDiff -> nL, reduceLT -> nT, reduceBneDiff -> nN
open Int renaming reduceLE -> iL, reduceLT -> iT, reduceEq -> iE, reduceAdd -> iA, reduceMul -> iM, reduceSub -> iS, reduceNeg -> iG, reduceBEq -> iB, reduceBNe -> iN, reduceToNat -> iZ
noncomputable section
def s34:SP Tryz.prog:=mkS tyA 34 Tryz.f34 [s49,s85,s86,s87,s88,s89] {md:=[.ro 1],rg:=[(0,[1],[1]),(1,[1,3],[1]),(2,[1,3,13],[1]),(3,[2],[]),(4,[1,50],[1]),(5,[2],[]),(6,[1,4],[1]),(7,[1,4,55],[1]),(8,[2],[]),(9,[1,5],[1]),(10,[1,5,61],[1]),(11,[2],[]),(12,[2],[])],rets:=some ([2],[])} Tryz.func34 (by kernel_rfl)
@[go_sem] def d34:s34.g=34/\s34.fs=⟨[.ro 1],s34.F,false⟩:=⟨nr rfl,nr rfl⟩
@[go_sem] def e34(q0 q1 q2 q3 q4 q5 q6 q7:Int)(q8:List ByteArray)(q9 q10 q11 q12 q13 q14 q15 q16:Int):s34.F [.agg [.i .i64 q0,.i .i64 q1,.i .i64 q2,.i .i64 q3,.i .i64 q4,.i .i64 q5,.i .i64 q6,.i .i64 q7,.sl .ro 1 (q8.map Ye),.i .i64 q9,.i .i64 q10,.i .i64 q11,.i .i64 q12,.i .i64 q13,.i .i64 q14,.i .i64 q15,.i .i64 q16]]=some (.i .i64 (XJ (Config.mk q0 q1 q2 q3 q4 q5 q6 q7 q8 (Lanes.mk q9 q10 q11) (Rules.mk q12 q13 q14 q15 q16))),[.u]):=Xb (0) rfl rfl (λcx h=>by
 by_cases z0:Yr q0 q1=0
 rotate_left
 ·have y0:(Yr q0 q1 !=0)=true:=by simpa using z0
  simp only[go_sem,reduceIte,↓reduceIte,nA,nB,nE,nL,h,y0,XJ,ZH,Xm]
 have y0:(Yr q0 q1 !=0)=false:=by simpa using z0
 cases h0:within q2 0 q0
 ·simp only[go_sem,reduceIte,↓reduceIte,nA,nB,nE,nL,iN,h,y0,h0,XJ,ZH,Xm]
 cases h1:XC q3
 ·simp only[go_sem,reduceIte,↓reduceIte,nA,nB,nE,nL,iN,h,y0,h0,h1,XJ,ZH,Xm]
 cases h2:within q4 0 1000000
 ·simp only[go_sem,reduceIte,↓reduceIte,nA,nB,nE,nL,iN,h,y0,h0,h1,h2,XJ,ZH,Xm]
 cases h3:within q5 1 1000000
 ·simp only[go_sem,reduceIte,↓reduceIte,nA,nB,nE,nL,iN,h,y0,h0,h1,h2,h3,XJ,ZH,Xm]
 cases h4:within q6 0 1000000
 ·simp only[go_sem,reduceIte,↓reduceIte,nA,nB,nE,nL,iN,h,y0,h0,h1,h2,h3,h4,XJ,ZH,Xm]
 cases h5:within q7 1 10
 ·simp only[go_sem,reduceIte,↓reduceIte,nA,nB,nE,nL,iN,h,y0,h0,h1,h2,h3,h4,h5,XJ,ZH,Xm]
 by_cases x0:YZ q8=0
 rotate_left
 ·have w0:(YZ q8 !=0)=true:=by simpa using x0
  simp only[go_sem,reduceIte,↓reduceIte,nA,nB,nE,nL,h,y0,h0,h1,h2,h3,h4,h5,w0,XJ,ZH,Xm]
 have w0:(YZ q8 !=0)=false:=by simpa using x0
 by_cases x1:Yn ⟨q9,q10,q11⟩=0
 rotate_left
 ·have w1:(Yn ⟨q9,q10,q11⟩ !=0)=true:=by simpa using x1
  simp only[go_sem,reduceIte,↓reduceIte,nA,nB,nE,nL,h,y0,h0,h1,h2,h3,h4,h5,w0,w1,XJ,ZH,Xm]
 have w1:(Yn ⟨q9,q10,q11⟩ !=0)=false:=by simpa using x1
 by_cases v:Zi ⟨q12,q13,q14,q15,q16⟩=0
 ·simp only[go_sem,reduceIte,↓reduceIte,nA,nB,nE,nL,h,y0,h0,h1,h2,h3,h4,h5,w0,w1,v,XJ,ZH,Xm,UY]
 ·have v':(Zi ⟨q12,q13,q14,q15,q16⟩ !=0)=true:=by simpa using v
  simp only[go_sem,reduceIte,↓reduceIte,nA,nB,nE,nL,h,y0,h0,h1,h2,h3,h4,h5,w0,w1,v',XJ,ZH,Xm]) (rfl)
def Qg(b:Bulk)(id:Int):Int:=U6 (λx=>x.Id==id) b.Queue 0
def XgN{α:Type}(p:α->Bool):∀(xs:List α) (m k:Nat) (h:k<xs.length),p xs[k]=true->(U6 p xs m !=((m+k:Nat):Int))=(xs.take k).any p
 | [],_,_,h,_=>absurd h (by simp)
 | x :: xs,m,0,_,hp=>by
  have hp':p x=true:=hp
  rw[U6,if_pos hp']; simp
 | x :: xs,m,k+1,h,hp=>by
  rw[U6,List.take_succ_cons,List.any_cons]
  by_cases hx:p x=true
  ·rw[if_pos hx,hx]; simp; omega
  ·rw[if_neg hx]
   have hx':p x=false:=by simpa using hx
   have:=XgN p xs (m+1) k (by simpa using h) (by simpa using hp)
   rw[hx',Bool.false_or,<-this]
   congr 2; omega
def Xc0{α:Type}(p:α->Bool)(xs:List α)(k:Nat)(h:k<xs.length)(hp:p xs[k]=true):(U6 p xs 0 !=(k:Int))=(xs.take k).any p:=by
 have:=XgN p xs 0 k h hp
 rwa [Nat.zero_add] at this
def XkG{α:Type}(p:α->Bool):∀(xs:List α) (m:Nat),U6 p xs m =-1\/∃i,i<xs.length/\U6 p xs m=((m+i:Nat):Int)
 | [],_=>.inl rfl
 | x :: xs,m=>by
  rw[U6]
  split
  ·exact .inr ⟨0,by simp,by simp⟩
  ·rcases XkG p xs (m+1) with h | ⟨i,h1,h2⟩
   ·exact .inl h
   ·exact .inr ⟨i+1,by simp; omega,by rw[h2]; congr 1; omega⟩
def Xed{α:Type}(p:α->Bool)(xs:List α)(h:¬U6 p xs 0<0):∃i,i<xs.length/\U6 p xs 0=(i:Int):=by
 rcases XkG p xs 0 with h1 | ⟨i,h1,h2⟩
 ·rw[h1] at h; exact absurd (by decide) h
 ·exact⟨i,h1,by rw[h2,Nat.zero_add]⟩
def XhX(y x:ZM):Bool:=y.Id==x.Id
def Yf(b:Bulk)(l:Lanes):Int :=
 if(Yn l !=0)=true then Yn l else if within b.Busy 0 l.Slots=false then 3 else if l.Cap<(b.Queue.length:Int) then 2
 else if(b.Queue.any λx=>!(XC x.Id&&XC x.Due))=true then 3 else if dup XhX [] b.Queue=true then 6 else 0
def Xcr{l:Lanes}(h:Yn l=0):1<=l.Slots/\l.Slots<=8/\0<=l.Cap/\l.Cap<=8:=by
 unfold Yn at h
 split at h
 ·rename_i hc
  simp only[Bool.and_eq_true,XdP] at hc
  omega
 ·cases h
def XoO(ms:List Z2):Bool:=ms.any λx=>!XC x.At
def QK(ms:List Z2):Bool:=(ms.zip ms.tail).any λp=>decide (p.2.At<p.1.At)
def XG(b:Breaker):Int :=
 if(within b.State 0 2&&XC b.Since&&within b.Out 0 5)=false then 3
 else if 60<(b.Marks.length:Int) then 2
 else if XoO b.Marks=true then 3
 else if QK b.Marks=true then 1
 else if((b.State !=0&&decide (0<(b.Marks.length:Int)))||(b.State !=2&&b.Out !=0))=true then 8 else 0
def XiY{ms:List Z2}(h:XoO ms=false){m:Z2}(hm:m∈ms):XC m.At=true:=by
 have:=List.any_eq_false.1 h m hm
 simpa using this
def XgO{α:Type}(ms:List α):(ms.zip ms.tail).length=ms.length-1:=by simp
def Xee{α:Type}(ms:List α)(k:Nat)(h:k<(ms.zip ms.tail).length):(ms.zip ms.tail)[k]=(ms[k]'(by simp at h; omega),ms[k+1]'(by simp at h; omega)):=by simp
def Xef{b:Breaker}(h:XG b=0):(0<=b.State/\b.State<=2)/\(0<=b.Since/\b.Since<=1000000000000000)/\(0<=b.Out/\b.Out<=5)/\b.Marks.length<=60/\XoO b.Marks=false/\QK b.Marks=false/\(b.State≠0->b.Marks=[])/\(b.State≠2->b.Out=0):=by
 unfold XG at h
 split at h
 ·cases h
 split at h
 ·cases h
 split at h
 ·cases h
 split at h
 ·cases h
 split at h
 ·cases h
 rename_i h1 h2 h3 h4 h5
 simp only[Bool.and_eq_false_iff,not_or,Bool.not_eq_false,XdP,XfS] at h1
 simp only[Bool.or_eq_true,Bool.and_eq_true,bne_iff_ne,ne_eq,decide_eq_true_eq,not_or,not_and,Classical.not_not] at h5
 refine⟨by omega,by omega,by omega,by omega,by simpa using h3,by simpa using h4,λhs=>?_,h5.2⟩
 have:=h5.1 hs
 cases hm:b.Marks with
 | nil=>rfl
 | cons x r=>rw[hm] at this; simp at this
def Xju(now:Int)(b:Breaker):Bool:=decide (now<b.Since)||b.Marks.any λx=>decide (now<x.At)
def UT(o:Origin):Bool:=!QI o.Host||!eqv (QH o.Host) o.Host
def XE(v:Shield)(o:Origin):Int:=Zr [if UT o=true then 5 else 0,Yf o.Bulk v.Config.Lanes,XG o.Breaker,if Xju v.Now o.Breaker=true then 3 else 0]
def XaR(y x:Origin):Bool:=eqv y.Host x.Host
def YD(v:Shield):Int:=if(Zr (v.Origins.map (XE v)) !=0)=true then Zr (v.Origins.map (XE v)) else if dup XaR [] v.Origins=true then 6 else 0
def X8(os:List Origin)(h:ByteArray):Int:=U6 (λx=>eqv x.Host h) os 0
def s76:SP Tryz.prog:=mkS tyA 76 Tryz.f76 [] {md:=[.ro 1,.ro 1],rg:=[(0,[0,1],[]),(1,[0,1,5],[]),(2,[0,1,5,12],[]),(3,[0,1,5],[]),(4,[0,1,5,24],[]),(5,[4],[]),(6,[4],[])],lv:=[(0,[0,1,5],[])],out:=[(0,[],[])],rets:=some ([4],[])} Tryz.func76 (by kernel_rfl)
@[go_sem] def d76:s76.g=76/\s76.fs=⟨[.ro 1,.ro 1],s76.F,false⟩:=⟨nr rfl,nr rfl⟩
@[go_sem] def e76(q17 q18 q19 q20 q21 q22 q23 q24:Int)(q25:List ByteArray)(q26 q27 q28 q29 q30 q31 q32 q33 q34 q35 q36 q37:Int)(q38 q39:List XK)(q40:List Origin)(q41:List Xl)(host:ByteArray)(h0:(Shield.mk (Config.mk q17 q18 q19 q20 q21 q22 q23 q24 q25 (Lanes.mk q26 q27 q28) (Rules.mk q29 q30 q31 q32 q33)) q34 q35 (Store.mk q36 q37 q38 q39) q40 q41).Origins.length<=9223372036854775806):s76.F [.pr [.i .i64 q17,.i .i64 q18,.i .i64 q19,.i .i64 q20,.i .i64 q21,.i .i64 q22,.i .i64 q23,.i .i64 q24,.sl .ro 1 (q25.map Ye),.i .i64 q26,.i .i64 q27,.i .i64 q28,.i .i64 q29,.i .i64 q30,.i .i64 q31,.i .i64 q32,.i .i64 q33,.i .i64 q34,.i .i64 q35,.i .i64 q36,.i .i64 q37,.sl .ro 13 (q38.map (Xa .ro)),.sl .ro 13 (q39.map (Xa .ro)),.sl .ro 7 (q40.map (Xe .ro)),.sl .ro 11 (q41.map (Xc .ro))],.s host]=some (.i .i64 (X8 (Shield.mk (Config.mk q17 q18 q19 q20 q21 q22 q23 q24 q25 (Lanes.mk q26 q27 q28) (Rules.mk q29 q30 q31 q32 q33)) q34 q35 (Store.mk q36 q37 q38 q39) q40 q41).Origins host),[.u,.u]):=Xb (q40.length+1) rfl rfl (λcx h=>by
 have hx:=h0
 simp only at hx
 have hb0:=Xg Tryz.f76 0 _ _ rfl rfl
 obtain⟨r,hr,hq⟩:=Xq (cx:=cx) (blk:=0) (body:=XN Tryz.f76 0) q40 (λk (s:Nat)=>⟨E [(0,.pr [.i .i64 q17,.i .i64 q18,.i .i64 q19,.i .i64 q20,.i .i64 q21,.i .i64 q22,.i .i64 q23,.i .i64 q24,.sl .ro 1 (q25.map Ye),.i .i64 q26,.i .i64 q27,.i .i64 q28,.i .i64 q29,.i .i64 q30,.i .i64 q31,.i .i64 q32,.i .i64 q33,.i .i64 q34,.i .i64 q35,.i .i64 q36,.i .i64 q37,.sl .ro 13 (q38.map (Xa .ro)),.sl .ro 13 (q39.map (Xa .ro)),.sl .ro 7 (q40.map (Xe .ro)),.sl .ro 11 (q41.map (Xc .ro))]),(1,.s host),(5,.i .i64 k)],B []⟩) (λs=>⟨E [],B []⟩) (λx s=>eqv x.Host host) (λx s=>s+1) (λx s=>(.ret,⟨E [(4,.i .i64 s)],B []⟩)) (λk s=>k=s)
   (λs hI G=>by simp only[go_sem,reduceIte,↓reduceIte,nA,nB,nE,nL,h,Int.lt_irrefl,hb0,hI]) (λk hk s hI=>by
    have h1:((k:Int)<(q40.length:Int)):=Int.ofNat_lt.2 hk
    obtain rfl:=hI
    exact⟨_,_,_,λG=>by simp only[go_sem,reduceIte,↓reduceIte,nA,nB,nE,nL,h,Xi (Xe .ro) q40 _ hk,XH,h1,Xh _ _ hk,Xd (show k<9223372036854775807 by omega),hb0]<;>with_reducible rfl,Iff.rfl,λhc=>⟨rfl,by simp only[go_sem,reduceIte,↓reduceIte,nB,h]⟩⟩) 0 rfl (q40.length+1) (Nat.le_refl _)
 rw[hb0] at hr
 rcases hq with⟨s',e1,_,e3⟩ | ⟨x,s',e1,e3⟩
 ·simp only[go_sem,reduceIte,↓reduceIte,nB,nE,iG,h,hr,e3,X8,ZJ e1]
 ·simp only[go_sem,reduceIte,↓reduceIte,nB,h,hr,e3,X8,Zc e1]) (rfl)
def XqT:SP Tryz.prog:=mkS tyA 114 Tryz.f114 [XqN,XqO] {md:=[.ro 1],rg:=[(0,[0],[]),(1,[0,11],[]),(2,[2],[]),(3,[0,3],[]),(4,[0,3,15],[]),(5,[0,3],[]),(6,[0,3,41],[]),(7,[2],[]),(8,[2],[])],lv:=[(0,[0,3],[])],out:=[(0,[],[])],rets:=some ([2],[])} Tryz.func114 (by kernel_rfl)
@[go_sem] def XJA:XqT.g=114/\XqT.fs=⟨[.ro 1],XqT.F,false⟩:=⟨nr rfl,nr rfl⟩
@[go_sem] def XJB(t:ByteArray):XqT.F [.s t]=some (.b (QI t),[.u]):=Xb (t.data.toList.length+1) rfl rfl (λcx h=>by
 have hu:QI t=XdR XcW 1 60 t:=rfl
 by_cases h1:(t.size:Int)<1
 ·simp only[go_sem,reduceIte,↓reduceIte,nB,nE,h,h1,hu,Qy h1]
 by_cases h2:60<(t.size:Int)
 ·simp only[go_sem,reduceIte,↓reduceIte,nB,nE,h,h1,h2,hu,Ue h2]
 have hx:t.data.toList.length<=9223372036854775806:=by rw[<-Xr]; omega
 have ha:=UF (p:=XcW) h1 h2
 rw[Xr t] at h1 h2
 ·have hb0:=Xg Tryz.f114 0 _ _ rfl rfl
  obtain⟨r,hr,hq⟩:=YH (cx:=cx) (blk:=0) (body:=XN Tryz.f114 0) t.data.toList (λk (s:Unit)=>⟨E [(0,.s t),(3,.i .i64 k)],B []⟩) (λs=>⟨E [],B []⟩) (λx s=>!XcW x) (λx s=>()) (λx s=>(.ret,⟨E [(2,.b false)],B []⟩)) (λk s=>True)
    (λs hI G=>by simp only[go_sem,reduceIte,↓reduceIte,nB,nE,h,Int.lt_irrefl,hb0,Xr t]) (λk hk s hI=>by
     have h1:((k:Int)<(t.data.toList.length:Int)):=Int.ofNat_lt.2 hk
     have hz:=Xcn t k hk
     have hu:XcW t.data.toList[k]=(Q1 t.data.toList[k]||UB t.data.toList[k]||((t.data.toList[k].toNat:Int)==46)||((t.data.toList[k].toNat:Int)==45)):=rfl
     by_cases c0:XcW t.data.toList[k]=true
     ·skip
      have c9:=c0
      rw[hu] at c0
      cases a1:Q1 t.data.toList[k]<;>cases a2:UB t.data.toList[k]<;>cases a3:((t.data.toList[k].toNat:Int)==46)<;>cases a4:((t.data.toList[k].toNat:Int)==45)<;>first | (exfalso; rw[a1,a2,a3,a4] at c0; exact absurd c0 (by decide)) | skip
      all_goals exact .inr ⟨by rw[c9]; rfl,trivial,_,λG=>by simp only[go_sem,reduceIte,↓reduceIte,nB,nE,h,hz,Xr t,bne,a1,a2,a3,a4,h1,Xh _ _ hk,Xd (show k<9223372036854775807 by omega),hb0]<;>with_reducible rfl,by simp only[go_sem,reduceIte,↓reduceIte,nB,h]⟩
     ·have c1:XcW t.data.toList[k]=false:=by simpa using c0
      have c2:=c1
      rw[hu] at c2
      simp only[Bool.or_eq_false_iff] at c2
      obtain⟨⟨⟨b1,b2⟩,b3⟩,b4⟩:=c2
      all_goals exact .inl ⟨by rw[c1]; rfl,λG=>by simp only[go_sem,reduceIte,↓reduceIte,nB,nE,h,hz,Xr t,bne,b1,b2,b3,b4,h1,Xh _ _ hk,hb0]⟩) () trivial (t.data.toList.length+1) (Nat.le_refl _)
  rw[hb0] at hr
  rcases hq with⟨s',e1,_,e3⟩ | ⟨x,s',e1,e3⟩
  ·simp only[go_sem,reduceIte,↓reduceIte,nB,nE,h,h1,h2,Xr t,hr,e3,hu,ha,ZV e1]
  ·simp only[go_sem,reduceIte,↓reduceIte,nB,nE,h,h1,h2,Xr t,hr,e3,hu,ha,Zk e1]) (rfl)
def XoP:SP Tryz.prog:=mkS tyA 115 Tryz.f115 [] {md:=[.ro 1],rg:=[(0,[0],[]),(1,[3],[]),(2,[3,4],[]),(3,[3,4,10],[]),(4,[3,4],[]),(5,[3,4,24],[]),(6,[3,4],[]),(7,[2],[])],lv:=[(0,[3,4],[])],out:=[(0,[3],[])],rets:=some ([2],[])} Tryz.func115 (by kernel_rfl)
@[go_sem] def XJC:XoP.g=115/\XoP.fs=⟨[.ro 1],XoP.F,false⟩:=⟨nr rfl,nr rfl⟩
@[go_sem] def XJD(t:ByteArray)(h0:t.size<=9223372036854775806):XoP.F [.s t]=some (.s (QH t),[.u]):=Xb (t.data.toList.length+1) rfl rfl (λcx h=>by
 have hz:t.data.toList.length<=9223372036854775807:=by rw[<-Xr]; omega
 have hx:t.data.toList.length<=9223372036854775806:=by rw[<-Xr]; exact h0
 have hb0:=Xg Tryz.f115 0 _ _ rfl rfl
 obtain⟨hI,hr⟩:=X0 (cx:=cx) (blk:=0) (body:=XN Tryz.f115 0) t.data.toList (λk (s:Unit)=>⟨E [(3,.sl .mut 1 ((Q2 t.data.toList k).map Yq)),(4,.i .i64 k)],B []⟩) (λs=>⟨E [(3,.sl .mut 1 ((t.data.toList.map XhV).map Yq))],B []⟩) (λx s=>s) (λk s=>True)
   (λs hI G=>by simp only[go_sem,reduceIte,↓reduceIte,nB,nE,h,Int.lt_irrefl,hb0,XgH t.data.toList,List.length_map]) (λk hk s hI=>by
    have h1:((k:Int)<(t.data.toList.length:Int)):=Int.ofNat_lt.2 hk
    have g1:=XiT t.data.toList k hk
    have g2:=Xkv t.data.toList k hk
    have g3:=XgI t.data.toList k (Nat.le_of_lt hk)
    have g4:(List.take t.data.toList.length ((Q2 t.data.toList k).map Yq))=(Q2 t.data.toList k).map Yq:=List.take_of_length_le (by rw[List.length_map,g3]; exact Nat.le_refl _)
    rcases Xkx t.data.toList k hk with⟨a1,a2,w1,w2,hs,hv⟩ | ⟨a1,a2,w1,w2,hs,hv⟩ | ⟨a1,a2,w1,w2,hs,hv⟩
    all_goals exact⟨trivial,_,λG=>by simp only[go_sem,reduceIte,↓reduceIte,nB,nE,h,g1,g2,g3,g4,a1,a2,w2,hs,List.length_map,h1,Xh _ _ hk,Xd (show k<9223372036854775807 by omega),hb0]<;>with_reducible rfl,by simp only[go_sem,reduceIte,↓reduceIte,nB,h,hv]⟩) () trivial (t.data.toList.length+1) (Nat.le_refl _)
 rw[hb0] at hr
 rw[Xfh] at hr
 simp only[go_sem,reduceIte,↓reduceIte,nB,nE,h,hz,hr,Xr t,QH]) (rfl)
def XkH(ws:List ZM)(x:ZM):(ws.any λy=>x.Id==y.Id)=ws.any λy=>XhX y x:=by
 congr 1; funext y
 unfold XhX
 rw[Bool.eq_iff_iff,beq_iff_eq,beq_iff_eq]
 exact eq_comm
def Xr7:SP Tryz.prog:=mkS tyA 116 Tryz.f116 [s49,s86,s88] {md:=[.ro 1,.ro 1],rg:=[(0,[2,3],[2,3]),(1,[2,3,5],[2,3]),(2,[2,3,5,12],[2,3]),(3,[4],[]),(4,[2,3,19],[2,3]),(5,[4],[]),(6,[2,25],[2]),(7,[4],[]),(8,[2,6],[2]),(9,[2,6,30],[2]),(10,[2,6],[2]),(11,[2,6,50],[2]),(12,[4],[]),(13,[2,7],[2]),(14,[2,7,55],[2]),(15,[2,7],[2]),(16,[2,7,8],[2]),(17,[2,7,8,60],[2]),(18,[2,7,8],[2]),(19,[2,7,8,75],[2]),(20,[4],[]),(21,[4],[])],lv:=[(0,[2,6],[2]),(2,[2,7],[2]),(4,[2,7,8],[2])],out:=[(0,[2],[2]),(2,[],[]),(4,[2,7],[2])],rets:=some ([4],[]),plan:=[(19,(.take 0 (.take 1 (.take 2 (.take 3 (.take 4 (.take 5 (.take 6 (.take 7 (.take 8 (.take 9 (.take 10 (.take 11 (.take 12 .done))))))))))))))],fz:=[2,3]} Tryz.func116 (by kernel_rfl)
@[go_sem] def XJE:Xr7.g=116/\Xr7.fs=⟨[.ro 1,.ro 1],Xr7.F,false⟩:=⟨nr rfl,nr rfl⟩
@[go_sem] def XJF(q42:Int)(q43:List ZM)(q44 q45 q46:Int):Xr7.F [.agg [.i .i64 q42,.sl .ro 2 (q43.map (XF .ro))],.agg [.i .i64 q44,.i .i64 q45,.i .i64 q46]]=some (.i .i64 (Yf (Bulk.mk q42 q43) (Lanes.mk q44 q45 q46)),[.u,.u]):=Xb (9) rfl rfl (λcx h=>by
 by_cases z:Yn (Lanes.mk q44 q45 q46)=0
 rotate_left
 ·have z':(Yn (Lanes.mk q44 q45 q46) !=0)=true:=by simpa using z
  simp only[go_sem,reduceIte,↓reduceIte,nA,nB,nE,h,z',Yf]
 have hl:=Xcr z
 simp only at hl
 cases b1:within q42 0 q44
 ·simp only[go_sem,reduceIte,↓reduceIte,nA,nB,nE,nL,h,z,b1,Yf]
 by_cases b2:q45<(q43.length:Int)
 ·simp only[go_sem,reduceIte,↓reduceIte,nA,nB,nE,nL,h,z,b1,b2,Yf]
 have hx:q43.length<=9223372036854775806:=by omega
 have hx9:q43.length<=8:=by omega
 have hb0:=Xg Tryz.f116 0 _ _ rfl rfl
 obtain⟨z0,hz0,hqz0⟩:=Xq (cx:=cx) (blk:=0) (body:=XN Tryz.f116 0) q43 (λk (s:Unit)=>⟨E [(2,.pr [.i .i64 q42,.sl .ro 2 (q43.map (XF .ro))]),(6,.i .i64 k)],B [(2,[])]⟩) (λs=>⟨E [(2,.pr [.i .i64 q42,.sl .ro 2 (q43.map (XF .ro))])],B [(2,[])]⟩) (λx s=>!(XC x.Id&&XC x.Due)) (λx s=>()) (λx s=>(.ret,⟨E [(4,.i .i64 3)],B []⟩)) (λk s=>True)
   (λs hI G=>by simp only[go_sem,reduceIte,↓reduceIte,nB,nE,h,Int.lt_irrefl,hb0]) (λk hk s hI=>by
    have h1:((k:Int)<(q43.length:Int)):=Int.ofNat_lt.2 hk
    rcases Bool.eq_false_or_eq_true (XC q43[k].Id) with d1 | d1
    rotate_left
    ·have hC:(!(XC q43[k].Id&&XC q43[k].Due))=true:=by rw[d1]; rfl
     exact⟨True,inferInstance,⟨E [],B []⟩,λG=>by rw[if_pos trivial]; simp only[go_sem,reduceIte,↓reduceIte,nA,nB,nE,nL,h,Xi (XF .ro) q43 k hk,d1,h1,Xh _ _ hk,hb0],⟨λ_=>hC,λ_=>trivial⟩,λhc=>absurd (hC.symm.trans hc) (by decide)⟩
    rcases Bool.eq_false_or_eq_true (XC q43[k].Due) with d2 | d2
    rotate_left
    ·have hC:(!(XC q43[k].Id&&XC q43[k].Due))=true:=by rw[d1,d2]; rfl
     exact⟨True,inferInstance,⟨E [],B []⟩,λG=>by rw[if_pos trivial]; simp only[go_sem,reduceIte,↓reduceIte,nA,nB,nE,nL,h,Xi (XF .ro) q43 k hk,d1,d2,h1,Xh _ _ hk,hb0],⟨λ_=>hC,λ_=>trivial⟩,λhc=>absurd (hC.symm.trans hc) (by decide)⟩
    ·have hC:(!(XC q43[k].Id&&XC q43[k].Due))=false:=by rw[d1,d2]; rfl
     exact⟨False,inferInstance,_,λG=>by rw[if_neg (λh=>h)]; simp only[go_sem,reduceIte,↓reduceIte,nA,nB,nE,nL,h,Xi (XF .ro) q43 k hk,d1,d2,h1,Xh _ _ hk,Xd (show k<9223372036854775807 by omega),hb0]<;>with_reducible rfl,⟨λh=>h.elim,λh=>absurd (h.symm.trans hC) (by decide)⟩,λhc=>⟨trivial,by simp only[go_sem,reduceIte,↓reduceIte,nB,h]⟩⟩) () trivial 9 (by omega)
 rw[hb0] at hz0
 rcases hqz0 with⟨s0,e1,_,e3⟩ | ⟨x,s0,e1,e3⟩
 rotate_left
 ·have b3:=QJ e1
  simp only[go_sem,reduceIte,↓reduceIte,nA,nB,nE,nL,h,z,b1,b2,hz0,e3,b3,Yf]
 have b3:=runS_any e1
 have hb1:=Xg Tryz.f116 1 _ _ rfl rfl
 obtain⟨z1,hz1,hqz1⟩:=Xq (cx:=cx) (blk:=2) (body:=XN Tryz.f116 1) q43 (λk (s:List ZM)=>⟨E [(2,.pr [.i .i64 q42,.sl .ro 2 (q43.map (XF .ro))]),(7,.i .i64 k)],B [(2,[])]⟩) (λs=>⟨E [],B []⟩) (λx s=>s.any λy=>XhX y x) (λx s=>s++[x]) (λx s=>(.ret,⟨E [(4,.i .i64 6)],B []⟩)) (λk s=>s=q43.take k)
   (λs hI G=>by simp only[go_sem,reduceIte,↓reduceIte,nB,nE,h,Int.lt_irrefl,hb1]) (λk hk s hI=>by
    have h1:((k:Int)<(q43.length:Int)):=Int.ofNat_lt.2 hk
    obtain⟨q,hq0⟩:∃q,q=k:=⟨k,rfl⟩
    have hq1:q<q43.length:=by omega
    have hlen:(q43.take q).length=q:=by rw[List.length_take]; omega
    have hb2:=Xg Tryz.f116 2 _ _ rfl rfl
    obtain⟨r2,hr2,hqr2⟩:=Xq (cx:=cx) (blk:=4) (body:=XN Tryz.f116 2) (q43.take q) (λk (s:Unit)=>⟨E [(2,.pr [.i .i64 q42,.sl .ro 2 (q43.map (XF .ro))]),(7,.i .i64 q),(8,.i .i64 k)],B [(2,[])]⟩) (λs=>⟨E [(2,.pr [.i .i64 q42,.sl .ro 2 (q43.map (XF .ro))]),(7,.i .i64 q)],B [(2,[])]⟩) (λx s=>q43[q].Id==x.Id) (λx s=>()) (λx s=>(.ret,⟨E [(4,.i .i64 6)],B []⟩)) (λk s=>True)
      (λs hI G=>by simp only[go_sem,reduceIte,↓reduceIte,nB,nE,h,Int.lt_irrefl,hb2,hlen,Int.lt_irrefl]) (λk hk s hI=>by
       have h1:((k:Int)<((q43.take q).length:Int)):=Int.ofNat_lt.2 hk
       have hk2:k<q:=by rw[List.length_take] at hk; omega
       have hk3:k<q43.length:=by omega
       have hkq:(k:Int)<(q:Int):=by omega
       have e1:(q43.take q)[k]=q43[k]:=by simp
       have i1:=Xh q43.length k hk3
       have i2:=Xh q43.length q hq1
       have w1:=Xd (show k<9223372036854775807 by omega)
       all_goals exact⟨_,_,_,λG=>by simp only[go_sem,reduceIte,↓reduceIte,nA,nB,nE,nL,h,hkq,i1,i2,w1,Xi (XF .ro) q43 k hk3,Xi (XF .ro) q43 q hq1,hb2]<;>with_reducible rfl,by rw[e1],λhc=>⟨trivial,by simp only[go_sem,reduceIte,↓reduceIte,nB,nE,h]⟩⟩) () trivial 9 (by rw[List.length_take]; omega)
    rw[hb2] at hr2
    subst hq0
    have hfl:=XkH (q43.take q) q43[q]
    have hy:r2=(if(s.any λy=>XhX y q43[q])=true then some (.ret,⟨E [(4,.i .i64 6)],B []⟩) else some (.ex 4,⟨E [(2,.pr [.i .i64 q42,.sl .ro 2 (q43.map (XF .ro))]),(7,.i .i64 q)],B [(2,[])]⟩)):=by
     subst hI
     rcases hqr2 with⟨s',e1,_,e3⟩ | ⟨x,s',e1,e3⟩
     ·rw[<-hfl,runS_any e1,e3]; rfl
     ·rw[<-hfl,QJ e1,e3]; rfl
    rw[hy] at hr2
    exact⟨_,_,_,λG=>by simp only[go_sem,reduceIte,↓reduceIte,nB,nE,h,hr2,h1,Xd (show q<9223372036854775807 by omega),hb1]<;>with_reducible rfl,Iff.rfl,λhc=>⟨(by rw[hI]; exact(ZN q43 q hk).symm),by simp only[go_sem,reduceIte,↓reduceIte,nB,h]⟩⟩) [] rfl 9 (by omega)
 rw[hb1] at hz1
 rcases hqz1 with⟨s1,k1,_,k3⟩ | ⟨x,s1,k1,k3⟩
 ·have k2:=XaO k1
  simp only[go_sem,reduceIte,↓reduceIte,nA,nB,nE,nL,h,z,b1,b2,hz0,e3,b3,hz1,k3,k2,Yf]
 ·have k2:=XaP k1
  simp only[go_sem,reduceIte,↓reduceIte,nA,nB,nE,nL,h,z,b1,b2,hz0,e3,b3,hz1,k3,k2,Yf]) (rfl)
def Xr8:SP Tryz.prog:=mkS tyA 117 Tryz.f117 [s49,s86] {md:=[.ro 1],rg:=[(0,[1],[1]),(1,[1,20],[1]),(2,[2],[]),(3,[1,24],[1]),(4,[2],[]),(5,[1,3],[1]),(6,[1,3,29],[1]),(7,[1,3],[1]),(8,[1,3,39],[1]),(9,[2],[]),(10,[1,4],[1]),(11,[1,4,44],[1]),(12,[1,4],[1]),(13,[1,4,60],[1]),(14,[2],[]),(15,[79],[]),(16,[2],[]),(17,[2],[])],lv:=[(0,[1,3],[1]),(2,[1,4],[1])],out:=[(0,[1],[1]),(2,[1],[1])],rets:=some ([2],[]),plan:=[(13,(.take 0 (.take 1 (.take 2 (.take 3 (.take 4 (.take 5 (.take 6 (.take 7 (.take 8 (.take 9 (.take 10 (.take 11 (.take 12 (.take 13 .done)))))))))))))))]} Tryz.func117 (by kernel_rfl)
@[go_sem] def XJG:Xr8.g=117/\Xr8.fs=⟨[.ro 1],Xr8.F,false⟩:=⟨nr rfl,nr rfl⟩
@[go_sem] def XJH(q47 q48 q49:Int)(q50:List Z2)(h0:(Breaker.mk q47 q48 q49 q50).Marks.length<=1048576):Xr8.F [.agg [.i .i64 q47,.i .i64 q48,.i .i64 q49,.sl .ro 2 (q50.map (XL .ro))]]=some (.i .i64 (XG (Breaker.mk q47 q48 q49 q50)),[.u]):=Xb ((Breaker.mk q47 q48 q49 q50).Marks.length+1) rfl rfl (λcx h=>by
 have hx:=h0
 simp only at hx
 by_cases c0:(within q47 0 2&&XC q48&&within q49 0 5)=false
 ·simp only[go_sem,reduceIte,↓reduceIte,nA,nB,nE,nL,h,XG,c0]
  all_goals (cases hw1:within q47 0 2<;>cases hw2:XC q48<;>cases hw3:within q49 0 5<;>simp_all)
 simp only[Bool.not_eq_false,Bool.and_eq_true] at c0
 obtain⟨⟨d1,d2⟩,d3⟩:=c0
 by_cases c1:60<(q50.length:Int)
 ·simp only[go_sem,reduceIte,↓reduceIte,nA,nB,nE,nL,h,XG,d1,d2,d3,c1]
 have hb0:=Xg Tryz.f117 0 _ _ rfl rfl
 obtain⟨r,hr,hq⟩:=Xq (cx:=cx) (blk:=0) (body:=XN Tryz.f117 0) q50 (λk (s:Unit)=>⟨E [(1,.p ⟨false,1,[],0⟩),(3,.i .i64 k)],B [(1,[.i .i64 q47,.i .i64 q48,.i .i64 q49,.sl .ro 2 (q50.map (XL .ro))])]⟩) (λs=>⟨E [(1,.p ⟨false,1,[],0⟩)],B [(1,[.i .i64 q47,.i .i64 q48,.i .i64 q49,.sl .ro 2 (q50.map (XL .ro))])]⟩) (λx s=>!XC x.At) (λx s=>()) (λx s=>(.ret,⟨E [(2,.i .i64 3)],B []⟩)) (λk s=>True)
   (λs hI G=>by simp only[go_sem,reduceIte,↓reduceIte,nA,nB,nE,h,Int.lt_irrefl,hb0]) (λk hk s hI=>by
    have h1:((k:Int)<(q50.length:Int)):=Int.ofNat_lt.2 hk
    exact⟨_,_,_,λG=>by simp only[go_sem,reduceIte,↓reduceIte,nA,nB,nE,nL,h,Xi (XL .ro) q50 _ hk,h1,Xh _ _ hk,Xd (show k<9223372036854775807 by omega),hb0]<;>with_reducible rfl,Iff.rfl,λhc=>⟨trivial,by simp only[go_sem,reduceIte,↓reduceIte,nB,h]⟩⟩) () trivial (q50.length+1) (Nat.le_refl _)
 rw[hb0] at hr
 rcases hq with⟨s',a1,_,a3⟩ | ⟨x,s',a1,a3⟩
 case inr =>
  have c2:XoO q50=true:=(XbX a1).1
  simp only[go_sem,reduceIte,↓reduceIte,nA,nB,nE,nL,h,hr,a3,XG,d1,d2,d3,c1,c2]
 have c2:XoO q50=false:=runS_any a1
 have hb1:=Xg Tryz.f117 1 _ _ rfl rfl
 obtain⟨r2,hr2,hqr2⟩:=Xq (cx:=cx) (blk:=2) (body:=XN Tryz.f117 1) (q50.zip q50.tail) (λk (s:Unit)=>⟨E [(1,.p ⟨false,1,[],0⟩),(4,.i .i64 ((k+1:Nat):Int))],B [(1,[.i .i64 q47,.i .i64 q48,.i .i64 q49,.sl .ro 2 (q50.map (XL .ro))])]⟩) (λs=>⟨E [(1,.p ⟨false,1,[],0⟩)],B [(1,[.i .i64 q47,.i .i64 q48,.i .i64 q49,.sl .ro 2 (q50.map (XL .ro))])]⟩) (λx s=>decide (x.2.At<x.1.At)) (λx s=>()) (λx s=>(.ret,⟨E [(2,.i .i64 1)],B []⟩)) (λk s=>True)
   (λs hI G=>by simp only[go_sem,reduceIte,↓reduceIte,nA,nB,nE,h,hb1,show ¬((((q50.zip q50.tail).length+1:Nat):Int)<(q50.length:Int)) by simp; omega]) (λk hk s hI=>by
    have h1:((k:Int)<((q50.zip q50.tail).length:Int)):=Int.ofNat_lt.2 hk
    have hk2:k+1<q50.length:=by simp at hk; omega
    have h3:=Xee q50 k hk
    rw[h3]
    have i0:((k+1:Nat):Int)<(q50.length:Int):=Int.ofNat_lt.2 hk2
    have i2:(IntKind.i64).wrap (((k+1:Nat):Int)-1)=(k:Int):=by rw[Xo (by omega) (by omega)]; omega
    have i3:(IntKind.i64).wrap (((k+1:Nat):Int)+1)=((k+1+1:Nat):Int):=Xd (by omega)
    exact⟨_,_,_,λG=>by simp only[go_sem,reduceIte,↓reduceIte,nA,nB,nE,nL,h,i0,i2,i3,Xh q50.length _ hk2,Xh q50.length k (by omega),Xi (XL .ro) q50 _ hk2,Xi (XL .ro) q50 k (by omega),hb1]<;>with_reducible rfl,by simp,λhc=>⟨trivial,by simp only[go_sem,reduceIte,↓reduceIte,nB,h]⟩⟩) () trivial (q50.length+1) (by simp<;>omega)
 rw[hb1] at hr2
 rcases hqr2 with⟨s',b1,_,b3⟩ | ⟨x,s',b1,b3⟩
 case inr =>
  have c5:QK q50=true:=(XbX b1).1
  simp only[go_sem,reduceIte,↓reduceIte,nA,nB,nE,nL,h,hr,a3,hr2,b3,XG,d1,d2,d3,c1,c2,c5]
 have c5:QK q50=false:=runS_any b1
 simp only[go_sem,reduceIte,↓reduceIte,nA,nB,nE,nL,h,hr,a3,hr2,b3,XG,d1,d2,d3,c1,c2,c5]
 all_goals (cases e1:q47 !=0<;>cases e2:q47 !=2<;>cases e3:q49 !=0<;>cases e4:decide (0<(q50.length:Int))<;>simp_all)) (rfl)
def XoQ(b:Breaker):Int:=((b.Marks[b.Marks.length-1]?).map (·.At)).getD 0
def XgP{b:Breaker}(h:0<b.Marks.length):XoQ b=(b.Marks[b.Marks.length-1]'(by omega)).At:=by
 unfold XoQ
 rw[List.getElem?_eq_getElem (by omega)]; rfl
def Xeg{ms:List Z2}(h:QK ms=false):∀(j i:Nat) (hj:i+j<ms.length),(ms[i]'(by omega)).At<=(ms[i+j]'hj).At
 | 0,i,hj=>Int.le_refl _
 | j+1,i,hj=>by
  have h1:=Xeg h j i (by omega)
  have h2:¬(ms[i+(j+1)]'hj).At<(ms[i+j]'(by omega)).At:=by
   have hk:i+j<(ms.zip ms.tail).length:=by rw[XgO]; omega
   have h3:=List.any_eq_false.1 h _ (List.getElem_mem hk)
   rw[Xee] at h3
   exact λhlt=>h3 (decide_eq_true hlt)
  omega
def XkI{b:Breaker}(h:XG b=0)(now:Int):Xju now b=(decide (now<b.Since)||(decide (0<(b.Marks.length:Int))&&decide (now<XoQ b))):=by
 have hu:=(Xef h).2.2.2.2.2.1
 unfold Xju
 congr 1
 by_cases hl:0<b.Marks.length
 ·have hl':(0:Int)<(b.Marks.length:Int):=by omega
  rw[decide_eq_true hl',Bool.true_and,XgP hl]
  by_cases c:now<(b.Marks[b.Marks.length-1]'(by omega)).At
  ·rw[decide_eq_true c]
   exact List.any_eq_true.2 ⟨_,List.getElem_mem (by omega),decide_eq_true c⟩
  ·rw[decide_eq_false c]
   refine List.any_eq_false.2 λx hx=>?_
   obtain⟨i,hi,rfl⟩:=List.getElem_of_mem hx
   have:=Xeg hu (b.Marks.length-1-i) i (by omega)
   have e:i+(b.Marks.length-1-i)=b.Marks.length-1:=by omega
   simp only[e] at this
   simp only[decide_eq_true_eq]
   omega
 ·have h0:b.Marks=[]:=List.length_eq_zero_iff.1 (by omega)
  rw[h0]; rfl
def Xcc{t:ByteArray}(h:QI t=true):t.size<=9223372036854775806:=by
 have h1:XdR XcW 1 60 t=true:=h
 unfold XdR at h1
 simp only[Bool.and_eq_true,decide_eq_true_eq] at h1
 omega
def s51:SP Tryz.prog:=mkS tyA 51 Tryz.f51 [s76,XqT,XoP,Xr7,Xr8] {md:=[.ro 1],rg:=[(0,[0],[]),(1,[0,14],[]),(2,[2],[]),(3,[0,3],[]),(4,[0,3,21],[]),(5,[0,3],[]),(6,[0,3,4,27],[4]),(7,[0,3,4,27,42],[4]),(8,[2],[]),(9,[0,3,4,5,27],[4]),(10,[0,3,4,5,27,52],[4]),(11,[2],[]),(12,[0,3,4,6,27],[4]),(13,[0,3,4,6,27,58],[4]),(14,[2],[]),(15,[0,3,4,7,27],[4]),(16,[0,3,90],[]),(17,[2],[]),(18,[0,8],[]),(19,[0,8,97],[]),(20,[0,8],[]),(21,[0,8,111],[]),(22,[2],[]),(23,[2],[])],lv:=[(0,[0,3],[]),(2,[0,8],[])],out:=[(0,[0],[]),(2,[],[])],rets:=some ([2],[]),plan:=[(7,(.take 0 (.take 1 (.one 2 (.take 3 (.take 4 (.take 5 (.take 6 (.take 8 (.take 9 (.one 7 (.take 10 (.take 11 .done))))))))))))),(9,(.take 0 (.take 1 (.take 2 (.take 3 (.take 4 (.take 5 (.take 6 (.one 7 (.one 8 .done)))))))))),(16,(.take 0 (.take 1 (.take 2 (.take 3 (.take 4 (.take 5 (.take 6 (.take 7 (.take 8 (.take 9 (.take 10 (.take 11 (.take 12 (.take 13 (.take 14 (.take 15 (.take 16 (.take 17 (.take 18 (.take 19 (.take 20 (.take 21 (.take 22 (.take 23 (.take 24 (.take 25 (.take 26 .done))))))))))))))))))))))))))))]} Tryz.func51 (by kernel_rfl)
@[go_sem] def d51:s51.g=51/\s51.fs=⟨[.ro 1],s51.F,false⟩:=⟨nr rfl,nr rfl⟩
@[go_sem] def e51(q17 q18 q19 q20 q21 q22 q23 q24:Int)(q25:List ByteArray)(q26 q27 q28 q29 q30 q31 q32 q33 q34 q35 q36 q37:Int)(q38 q39:List XK)(q40:List Origin)(q41:List Xl)(h0:YS (Shield.mk (Config.mk q17 q18 q19 q20 q21 q22 q23 q24 q25 (Lanes.mk q26 q27 q28) (Rules.mk q29 q30 q31 q32 q33)) q34 q35 (Store.mk q36 q37 q38 q39) q40 q41)):s51.F [.pr [.i .i64 q17,.i .i64 q18,.i .i64 q19,.i .i64 q20,.i .i64 q21,.i .i64 q22,.i .i64 q23,.i .i64 q24,.sl .ro 1 (q25.map Ye),.i .i64 q26,.i .i64 q27,.i .i64 q28,.i .i64 q29,.i .i64 q30,.i .i64 q31,.i .i64 q32,.i .i64 q33,.i .i64 q34,.i .i64 q35,.i .i64 q36,.i .i64 q37,.sl .ro 13 (q38.map (Xa .ro)),.sl .ro 13 (q39.map (Xa .ro)),.sl .ro 7 (q40.map (Xe .ro)),.sl .ro 11 (q41.map (Xc .ro))]]=some (.i .i64 (if(6:Int)<((Shield.mk (Config.mk q17 q18 q19 q20 q21 q22 q23 q24 q25 (Lanes.mk q26 q27 q28) (Rules.mk q29 q30 q31 q32 q33)) q34 q35 (Store.mk q36 q37 q38 q39) q40 q41).Origins.length:Int) then 2 else YD (Shield.mk (Config.mk q17 q18 q19 q20 q21 q22 q23 q24 q25 (Lanes.mk q26 q27 q28) (Rules.mk q29 q30 q31 q32 q33)) q34 q35 (Store.mk q36 q37 q38 q39) q40 q41)),[.u]):=Xb (q40.length+1) rfl rfl (λcx h=>by
 have hO:=h0.2.2.2.2.1
 simp only at hO
 have hx:q40.length<=9223372036854775806:=by have:=hO.1; omega
 have hu:YD (Shield.mk (Config.mk q17 q18 q19 q20 q21 q22 q23 q24 q25 (Lanes.mk q26 q27 q28) (Rules.mk q29 q30 q31 q32 q33)) q34 q35 (Store.mk q36 q37 q38 q39) q40 q41)=(if(Zr (q40.map (XE (Shield.mk (Config.mk q17 q18 q19 q20 q21 q22 q23 q24 q25 (Lanes.mk q26 q27 q28) (Rules.mk q29 q30 q31 q32 q33)) q34 q35 (Store.mk q36 q37 q38 q39) q40 q41))) !=0)=true then Zr (q40.map (XE (Shield.mk (Config.mk q17 q18 q19 q20 q21 q22 q23 q24 q25 (Lanes.mk q26 q27 q28) (Rules.mk q29 q30 q31 q32 q33)) q34 q35 (Store.mk q36 q37 q38 q39) q40 q41))) else if dup XaR [] q40=true then 6 else 0):=rfl
 by_cases h6:(6:Int)<(q40.length:Int)
 ·simp only[go_sem,reduceIte,↓reduceIte,nA,nB,nE,nL,h,h6]
 have hb0:=Xg Tryz.f51 0 _ _ rfl rfl
 obtain⟨z0,hz0,hqz0⟩:=Xq (cx:=cx) (blk:=0) (body:=XN Tryz.f51 0) q40 (λk (s:Unit)=>⟨E [(0,.pr [.i .i64 q17,.i .i64 q18,.i .i64 q19,.i .i64 q20,.i .i64 q21,.i .i64 q22,.i .i64 q23,.i .i64 q24,.sl .ro 1 (q25.map Ye),.i .i64 q26,.i .i64 q27,.i .i64 q28,.i .i64 q29,.i .i64 q30,.i .i64 q31,.i .i64 q32,.i .i64 q33,.i .i64 q34,.i .i64 q35,.i .i64 q36,.i .i64 q37,.sl .ro 13 (q38.map (Xa .ro)),.sl .ro 13 (q39.map (Xa .ro)),.sl .ro 7 (q40.map (Xe .ro)),.sl .ro 11 (q41.map (Xc .ro))]),(3,.i .i64 k)],B []⟩) (λs=>⟨E [(0,.pr [.i .i64 q17,.i .i64 q18,.i .i64 q19,.i .i64 q20,.i .i64 q21,.i .i64 q22,.i .i64 q23,.i .i64 q24,.sl .ro 1 (q25.map Ye),.i .i64 q26,.i .i64 q27,.i .i64 q28,.i .i64 q29,.i .i64 q30,.i .i64 q31,.i .i64 q32,.i .i64 q33,.i .i64 q34,.i .i64 q35,.i .i64 q36,.i .i64 q37,.sl .ro 13 (q38.map (Xa .ro)),.sl .ro 13 (q39.map (Xa .ro)),.sl .ro 7 (q40.map (Xe .ro)),.sl .ro 11 (q41.map (Xc .ro))])],B []⟩) (λx s=>XE (Shield.mk (Config.mk q17 q18 q19 q20 q21 q22 q23 q24 q25 (Lanes.mk q26 q27 q28) (Rules.mk q29 q30 q31 q32 q33)) q34 q35 (Store.mk q36 q37 q38 q39) q40 q41) x !=0) (λx s=>()) (λx s=>(.ret,⟨E [(2,.i .i64 (XE (Shield.mk (Config.mk q17 q18 q19 q20 q21 q22 q23 q24 q25 (Lanes.mk q26 q27 q28) (Rules.mk q29 q30 q31 q32 q33)) q34 q35 (Store.mk q36 q37 q38 q39) q40 q41) x))],B []⟩)) (λk s=>True)
   (λs hI G=>by simp only[go_sem,reduceIte,↓reduceIte,nA,nB,nE,nL,h,Int.lt_irrefl,hb0]) (λk hk s hI=>by
    have h1:((k:Int)<(q40.length:Int)):=Int.ofNat_lt.2 hk
    have hm:q40[k].Breaker.Marks.length<=1048576:=(hO.2 _ (List.getElem_mem hk)).2.2.2.2.2.1
    have hu:XE (Shield.mk (Config.mk q17 q18 q19 q20 q21 q22 q23 q24 q25 (Lanes.mk q26 q27 q28) (Rules.mk q29 q30 q31 q32 q33)) q34 q35 (Store.mk q36 q37 q38 q39) q40 q41) q40[k]=Zr [if UT q40[k]=true then 5 else 0,Yf (Bulk.mk q40[k].Bulk.Busy q40[k].Bulk.Queue) (Lanes.mk q26 q27 q28),XG (Breaker.mk q40[k].Breaker.State q40[k].Breaker.Since q40[k].Breaker.Out q40[k].Breaker.Marks),if Xju q34 (Breaker.mk q40[k].Breaker.State q40[k].Breaker.Since q40[k].Breaker.Out q40[k].Breaker.Marks)=true then 3 else 0]:=rfl
    have ht:UT q40[k]=(!QI q40[k].Host||!eqv (QH q40[k].Host) q40[k].Host):=rfl
    simp only[Xm,UY] at hu
    cases a1:QI q40[k].Host
    ·have hX:XE (Shield.mk (Config.mk q17 q18 q19 q20 q21 q22 q23 q24 q25 (Lanes.mk q26 q27 q28) (Rules.mk q29 q30 q31 q32 q33)) q34 q35 (Store.mk q36 q37 q38 q39) q40 q41) q40[k]=5:=by rw[hu,ht,a1]; rfl
     have hC:(XE (Shield.mk (Config.mk q17 q18 q19 q20 q21 q22 q23 q24 q25 (Lanes.mk q26 q27 q28) (Rules.mk q29 q30 q31 q32 q33)) q34 q35 (Store.mk q36 q37 q38 q39) q40 q41) q40[k] !=0)=true:=by rw[hX]; rfl
     exact⟨True,inferInstance,⟨E [],B []⟩,λG=>by rw[if_pos trivial]; simp only[go_sem,reduceIte,↓reduceIte,nA,nB,nE,nL,h,Xi (Xe .ro) q40 k hk,a1,hX,h1,Xh _ _ hk,hb0],⟨λ_=>hC,λ_=>trivial⟩,λhc=>absurd (hC.symm.trans hc) (by decide)⟩
    have hs:q40[k].Host.size<=9223372036854775806:=Xcc a1
    cases a2:eqv (QH q40[k].Host) q40[k].Host
    ·have hX:XE (Shield.mk (Config.mk q17 q18 q19 q20 q21 q22 q23 q24 q25 (Lanes.mk q26 q27 q28) (Rules.mk q29 q30 q31 q32 q33)) q34 q35 (Store.mk q36 q37 q38 q39) q40 q41) q40[k]=5:=by rw[hu,ht,a1,a2]; rfl
     have hC:(XE (Shield.mk (Config.mk q17 q18 q19 q20 q21 q22 q23 q24 q25 (Lanes.mk q26 q27 q28) (Rules.mk q29 q30 q31 q32 q33)) q34 q35 (Store.mk q36 q37 q38 q39) q40 q41) q40[k] !=0)=true:=by rw[hX]; rfl
     exact⟨True,inferInstance,⟨E [],B []⟩,λG=>by rw[if_pos trivial]; simp only[go_sem,reduceIte,↓reduceIte,nA,nB,nE,nL,h,Xi (Xe .ro) q40 k hk,XH,a1,a2,hs,hX,h1,Xh _ _ hk,hb0],⟨λ_=>hC,λ_=>trivial⟩,λhc=>absurd (hC.symm.trans hc) (by decide)⟩
    have ht':UT q40[k]=false:=by rw[ht,a1,a2]; rfl
    rw[ht'] at hu
    by_cases z1:Yf (Bulk.mk q40[k].Bulk.Busy q40[k].Bulk.Queue) (Lanes.mk q26 q27 q28)=0
    rotate_left
    ·have z1':(Yf (Bulk.mk q40[k].Bulk.Busy q40[k].Bulk.Queue) (Lanes.mk q26 q27 q28) !=0)=true:=by simpa using z1
     have hX:XE (Shield.mk (Config.mk q17 q18 q19 q20 q21 q22 q23 q24 q25 (Lanes.mk q26 q27 q28) (Rules.mk q29 q30 q31 q32 q33)) q34 q35 (Store.mk q36 q37 q38 q39) q40 q41) q40[k]=Yf (Bulk.mk q40[k].Bulk.Busy q40[k].Bulk.Queue) (Lanes.mk q26 q27 q28):=by rw[hu]; simp[z1]
     have hC:(XE (Shield.mk (Config.mk q17 q18 q19 q20 q21 q22 q23 q24 q25 (Lanes.mk q26 q27 q28) (Rules.mk q29 q30 q31 q32 q33)) q34 q35 (Store.mk q36 q37 q38 q39) q40 q41) q40[k] !=0)=true:=by rw[hX]; exact z1'
     exact⟨True,inferInstance,⟨E [],B []⟩,λG=>by rw[if_pos trivial]; simp only[go_sem,reduceIte,↓reduceIte,nA,nB,nE,nL,h,Xi (Xe .ro) q40 k hk,XH,a1,a2,hs,z1',hX,h1,Xh _ _ hk,hb0],⟨λ_=>hC,λ_=>trivial⟩,λhc=>absurd (hC.symm.trans hc) (by decide)⟩
    by_cases z2:XG (Breaker.mk q40[k].Breaker.State q40[k].Breaker.Since q40[k].Breaker.Out q40[k].Breaker.Marks)=0
    rotate_left
    ·have z2':(XG (Breaker.mk q40[k].Breaker.State q40[k].Breaker.Since q40[k].Breaker.Out q40[k].Breaker.Marks) !=0)=true:=by simpa using z2
     have hX:XE (Shield.mk (Config.mk q17 q18 q19 q20 q21 q22 q23 q24 q25 (Lanes.mk q26 q27 q28) (Rules.mk q29 q30 q31 q32 q33)) q34 q35 (Store.mk q36 q37 q38 q39) q40 q41) q40[k]=XG (Breaker.mk q40[k].Breaker.State q40[k].Breaker.Since q40[k].Breaker.Out q40[k].Breaker.Marks):=by rw[hu]; simp[z1,z2]
     have hC:(XE (Shield.mk (Config.mk q17 q18 q19 q20 q21 q22 q23 q24 q25 (Lanes.mk q26 q27 q28) (Rules.mk q29 q30 q31 q32 q33)) q34 q35 (Store.mk q36 q37 q38 q39) q40 q41) q40[k] !=0)=true:=by rw[hX]; exact z2'
     exact⟨True,inferInstance,⟨E [],B []⟩,λG=>by rw[if_pos trivial]; simp only[go_sem,reduceIte,↓reduceIte,nA,nB,nE,nL,h,Xi (Xe .ro) q40 k hk,XH,a1,a2,hs,hm,z1,z2',hX,h1,Xh _ _ hk,hb0],⟨λ_=>hC,λ_=>trivial⟩,λhc=>absurd (hC.symm.trans hc) (by decide)⟩
    have hl:=XkI z2 q34
    rw[hl] at hu
    simp only at hu
    by_cases c1:q34<q40[k].Breaker.Since
    ·have hX:XE (Shield.mk (Config.mk q17 q18 q19 q20 q21 q22 q23 q24 q25 (Lanes.mk q26 q27 q28) (Rules.mk q29 q30 q31 q32 q33)) q34 q35 (Store.mk q36 q37 q38 q39) q40 q41) q40[k]=3:=by rw[hu,z1,z2,decide_eq_true c1]; rfl
     have hC:(XE (Shield.mk (Config.mk q17 q18 q19 q20 q21 q22 q23 q24 q25 (Lanes.mk q26 q27 q28) (Rules.mk q29 q30 q31 q32 q33)) q34 q35 (Store.mk q36 q37 q38 q39) q40 q41) q40[k] !=0)=true:=by rw[hX]; rfl
     exact⟨True,inferInstance,⟨E [],B []⟩,λG=>by rw[if_pos trivial]; simp only[go_sem,reduceIte,↓reduceIte,nA,nB,nE,nL,h,Xi (Xe .ro) q40 k hk,XH,a1,a2,hs,hm,z1,z2,c1,hX,h1,Xh _ _ hk,hb0],⟨λ_=>hC,λ_=>trivial⟩,λhc=>absurd (hC.symm.trans hc) (by decide)⟩
    by_cases c2:0<(q40[k].Breaker.Marks.length:Int)
    rotate_left
    ·have hX:XE (Shield.mk (Config.mk q17 q18 q19 q20 q21 q22 q23 q24 q25 (Lanes.mk q26 q27 q28) (Rules.mk q29 q30 q31 q32 q33)) q34 q35 (Store.mk q36 q37 q38 q39) q40 q41) q40[k]=0:=by rw[hu,z1,z2,decide_eq_false c1,decide_eq_false c2]; rfl
     have hC:(XE (Shield.mk (Config.mk q17 q18 q19 q20 q21 q22 q23 q24 q25 (Lanes.mk q26 q27 q28) (Rules.mk q29 q30 q31 q32 q33)) q34 q35 (Store.mk q36 q37 q38 q39) q40 q41) q40[k] !=0)=false:=by rw[hX]; rfl
     exact⟨False,inferInstance,_,λG=>by rw[if_neg (λh=>h)]; simp only[go_sem,reduceIte,↓reduceIte,nA,nB,nE,nL,h,Xi (Xe .ro) q40 k hk,XH,a1,a2,hs,hm,z1,z2,c1,c2,h1,Xh _ _ hk,Xd (show k<9223372036854775807 by omega),hb0]<;>with_reducible rfl,⟨λh=>h.elim,λh=>absurd (h.symm.trans hC) (by decide)⟩,λhc=>⟨trivial,by simp only[go_sem,reduceIte,↓reduceIte,nB,h]⟩⟩
    have c4:q40[k].Breaker.Marks.length-1<q40[k].Breaker.Marks.length:=by omega
    have w0:(IntKind.i64).wrap ((q40[k].Breaker.Marks.length:Int)-1)=((q40[k].Breaker.Marks.length-1:Nat):Int):=by rw[Xo (by omega) (by omega)]; omega
    have i0:=Xh q40[k].Breaker.Marks.length _ c4
    have g0:=Xi (XL .ro) q40[k].Breaker.Marks _ c4
    have hla:=XgP (b:=(Breaker.mk q40[k].Breaker.State q40[k].Breaker.Since q40[k].Breaker.Out q40[k].Breaker.Marks)) (by simp only; omega)
    simp only at hla
    by_cases c3:q34<(q40[k].Breaker.Marks[q40[k].Breaker.Marks.length-1]'c4).At
    ·have hX:XE (Shield.mk (Config.mk q17 q18 q19 q20 q21 q22 q23 q24 q25 (Lanes.mk q26 q27 q28) (Rules.mk q29 q30 q31 q32 q33)) q34 q35 (Store.mk q36 q37 q38 q39) q40 q41) q40[k]=3:=by rw[hu,hla,z1,z2,decide_eq_false c1,decide_eq_true c2,decide_eq_true c3]; rfl
     have hC:(XE (Shield.mk (Config.mk q17 q18 q19 q20 q21 q22 q23 q24 q25 (Lanes.mk q26 q27 q28) (Rules.mk q29 q30 q31 q32 q33)) q34 q35 (Store.mk q36 q37 q38 q39) q40 q41) q40[k] !=0)=true:=by rw[hX]; rfl
     exact⟨True,inferInstance,⟨E [],B []⟩,λG=>by rw[if_pos trivial]; simp only[go_sem,reduceIte,↓reduceIte,nA,nB,nE,nL,h,Xi (Xe .ro) q40 k hk,XH,a1,a2,hs,hm,z1,z2,c1,c2,w0,i0,g0,c3,hX,h1,Xh _ _ hk,hb0],⟨λ_=>hC,λ_=>trivial⟩,λhc=>absurd (hC.symm.trans hc) (by decide)⟩
    ·have hX:XE (Shield.mk (Config.mk q17 q18 q19 q20 q21 q22 q23 q24 q25 (Lanes.mk q26 q27 q28) (Rules.mk q29 q30 q31 q32 q33)) q34 q35 (Store.mk q36 q37 q38 q39) q40 q41) q40[k]=0:=by rw[hu,hla,z1,z2,decide_eq_false c1,decide_eq_true c2,decide_eq_false c3]; rfl
     have hC:(XE (Shield.mk (Config.mk q17 q18 q19 q20 q21 q22 q23 q24 q25 (Lanes.mk q26 q27 q28) (Rules.mk q29 q30 q31 q32 q33)) q34 q35 (Store.mk q36 q37 q38 q39) q40 q41) q40[k] !=0)=false:=by rw[hX]; rfl
     exact⟨False,inferInstance,_,λG=>by rw[if_neg (λh=>h)]; simp only[go_sem,reduceIte,↓reduceIte,nA,nB,nE,nL,h,Xi (Xe .ro) q40 k hk,XH,a1,a2,hs,hm,z1,z2,c1,c2,w0,i0,g0,c3,h1,Xh _ _ hk,Xd (show k<9223372036854775807 by omega),hb0]<;>with_reducible rfl,⟨λh=>h.elim,λh=>absurd (h.symm.trans hC) (by decide)⟩,λhc=>⟨trivial,by simp only[go_sem,reduceIte,↓reduceIte,nB,h]⟩⟩) () trivial (q40.length+1) (Nat.le_refl _)
 rw[hb0] at hz0
 rcases hqz0 with⟨s0,e1,_,e3⟩ | ⟨x,s0,e1,e3⟩
 rotate_left
 ·have e2:=Z9 e1
  have e4:(XE (Shield.mk (Config.mk q17 q18 q19 q20 q21 q22 q23 q24 q25 (Lanes.mk q26 q27 q28) (Rules.mk q29 q30 q31 q32 q33)) q34 q35 (Store.mk q36 q37 q38 q39) q40 q41) x !=0)=true:=XaQ e1
  simp only[go_sem,reduceIte,↓reduceIte,nA,nB,nE,nL,h,h6,hz0,e3,e2,e4,hu]
 have e2:=Z8 e1
 have hb1:=Xg Tryz.f51 1 _ _ rfl rfl
 obtain⟨z1,hz1,hqz1⟩:=Xq (cx:=cx) (blk:=2) (body:=XN Tryz.f51 1) q40 (λk (s:List Origin)=>⟨E [(0,.pr [.i .i64 q17,.i .i64 q18,.i .i64 q19,.i .i64 q20,.i .i64 q21,.i .i64 q22,.i .i64 q23,.i .i64 q24,.sl .ro 1 (q25.map Ye),.i .i64 q26,.i .i64 q27,.i .i64 q28,.i .i64 q29,.i .i64 q30,.i .i64 q31,.i .i64 q32,.i .i64 q33,.i .i64 q34,.i .i64 q35,.i .i64 q36,.i .i64 q37,.sl .ro 13 (q38.map (Xa .ro)),.sl .ro 13 (q39.map (Xa .ro)),.sl .ro 7 (q40.map (Xe .ro)),.sl .ro 11 (q41.map (Xc .ro))]),(8,.i .i64 k)],B []⟩) (λs=>⟨E [],B []⟩) (λx s=>s.any λy=>XaR y x) (λx s=>s++[x]) (λx s=>(.ret,⟨E [(2,.i .i64 6)],B []⟩)) (λk s=>s=q40.take k)
   (λs hI G=>by simp only[go_sem,reduceIte,↓reduceIte,nA,nB,nE,nL,h,Int.lt_irrefl,hb1]) (λk hk s hI=>by
    have h1:((k:Int)<(q40.length:Int)):=Int.ofNat_lt.2 hk
    have hit:=Xc0 (λx:Origin=>eqv x.Host q40[k].Host) q40 k hk (QS _)
    have hwu:X8 q40 q40[k].Host=U6 (λx:Origin=>eqv x.Host q40[k].Host) q40 0:=rfl
    have c3:((q40.take k).any λy=>XaR y q40[k])=(q40.take k).any λx=>eqv x.Host q40[k].Host:=rfl
    subst hI
    exact⟨_,_,_,λG=>by simp only[go_sem,reduceIte,↓reduceIte,nA,nB,nE,nL,h,Xi (Xe .ro) q40 k hk,hx,hwu,hit,h1,Xh _ _ hk,Xd (show k<9223372036854775807 by omega),hb1]<;>with_reducible rfl,by rw[c3],λhc=>⟨(ZN q40 k hk).symm,by simp only[go_sem,reduceIte,↓reduceIte,nB,h]⟩⟩) [] rfl (q40.length+1) (Nat.le_refl _)
 rw[hb1] at hz1
 rcases hqz1 with⟨s1,k1,_,k3⟩ | ⟨x,s1,k1,k3⟩
 ·have k2:=XaO k1
  simp only[go_sem,reduceIte,↓reduceIte,nA,nB,nE,nL,h,h6,hz0,e3,e2,hz1,k3,k2,hu]
 ·have k2:=XaP k1
  simp only[go_sem,reduceIte,↓reduceIte,nA,nB,nE,nL,h,h6,hz0,e3,e2,hz1,k3,k2,hu]) (rfl)
end
end Go.Vm.A
