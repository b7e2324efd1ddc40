/- Functions of the program, walked by the evaluator. -/
import Derived.Test.YtbgfaonlbpkfhaaGreatDoorWb
import Derived.Test.YtbgfaonlbpkfhaaGreatDoorWa
import Derived.Test.YtbgfaonlbpkfhaaGreatDoorFa
import Derived.Test.YtbgfaonlbpkfhaaGreatDoorFk
import Derived.Test.YtbgfaonlbpkfhaaGreatDoorFc
import Derived.Test.YtbgfaonlbpkfhaaGreatDoorFd
import Derived.Test.YtbgfaonlbpkfhaaGreatDoorFe
import Derived.Test.YtbgfaonlbpkfhaaGreatDoorFh
import Derived.Test.YtbgfaonlbpkfhaaGreatDoorFi
import Derived.Test.YtbgfaonlbpkfhaaGreatDoorFj
import Derived.Test.YtbgfaonlbpkfhaaGreatDoorGa
set_option linter.unusedVariables false
set_option linter.unusedSimpArgs false
set_option autoImplicit false
set_option maxRecDepth 100000
set_option maxHeartbeats 4000000
set_option linter.defProp false
namespace Go.Vm.A
open Go.Proofs
open Nat renaming reduceAdd -> nA, reduceSub -> nS, reduceMul -> nM, reduceBEq -> nB, reduceEqDiff -> nE, reduceLeDiff -> nL, reduceLT -> nT, reduceBneDiff -> nN
open Int renaming reduceLE -> iL, reduceLT -> iT, reduceEq -> iE, reduceAdd -> iA, reduceMul -> iM, reduceSub -> iS, reduceNeg -> iG, reduceBEq -> iB, reduceBNe -> iN, reduceToNat -> iZ
noncomputable section
def Xei:∀{xs:List Int} (_:Zr xs=0) (x:Int) (_:x∈xs),x=0
 | y :: ys,h,x,hx=>by
  rw[Xm] at h
  split at h
  ·rename_i c; rw[h] at c; exact absurd c (by decide)
  ·rename_i c
   rcases List.mem_cons.1 hx with rfl | hx
   ·simpa using c
   ·exact Xei h x hx
def Xmz{α:Type}(p:α->Bool)(xs:List α)(h:0<=U6 p xs 0):∃i:Nat,U6 p xs 0=(i:Int)/\i<xs.length/\(∀x,xs[i]?=some x->p x=true)/\∀j x,j<i->xs[j]?=some x->p x=false:=by
 have key:∀(xs:List α) (k:Nat),0<=U6 p xs k->∃i:Nat,U6 p xs k=((k+i:Nat):Int)/\i<xs.length/\(∀x,xs[i]?=some x->p x=true)/\∀j x,j<i->xs[j]?=some x->p x=false:=by
  intro xs
  induction xs with
  | nil=>intro k h; simp[U6] at h
  | cons x xs ih =>
   intro k h
   rw[U6] at h ⊢
   by_cases hc:p x=true
   ·rw[if_pos hc]
    exact⟨0,rfl,by simp,λy hy=>by simp at hy; rw[<-hy]; exact hc,λj y hj=>absurd hj (by omega)⟩
   ·rw[if_neg hc] at h ⊢
    obtain⟨i,h1,h2,h3,h4⟩:=ih (k+1) h
    refine⟨i+1,by rw[h1]; omega,by simp; omega,λy hy=>h3 y (by simpa using hy),λj y hj hy=>?_⟩
    cases j with
    | zero=>simp at hy; rw[<-hy]; simpa using hc
    | succ j=>exact h4 j y (by omega) (by simpa using hy)
 obtain⟨i,h1,h2⟩:=key xs 0 h
 exact⟨i,by rw[h1]; omega,h2⟩
def Xvd(fs:List Xl)(host:ByteArray):Int:=fs.foldl (λs f=>if(f.Out&&eqv (QH f.Get.Host) host)=true then s+1 else s) 0
def Xi0{os:List Origin}{h:ByteArray}(i:Nat)(e:X8 os h=(i:Int)):∃hi:i<os.length,os[i].Host=h:=by
 have h0:0<=U6 (λx:Origin=>eqv x.Host h) os 0:=by have:X8 os h=U6 (λx:Origin=>eqv x.Host h) os 0:=rfl; omega
 obtain⟨j,e1,e2,e3,_⟩:=Xmz (λx:Origin=>eqv x.Host h) os h0
 have hij:j=i:=by have:X8 os h=U6 (λx:Origin=>eqv x.Host h) os 0:=rfl; omega
 subst hij
 exact⟨e2,Yx.1 (e3 _ (List.getElem?_eq_getElem e2))⟩
def Xi1{os:List Origin}{host:ByteArray}(i:Nat)(hi:X8 os host=(i:Int)):∀(fs:List Xl) (s:Int×Int) (_:∀f∈fs,0<=Qz os f),(fs.foldl (λs f=>Yv os (i:Int) s f) s).1=fs.foldl (λs f=>if(f.Out&&eqv (QH f.Get.Host) host)=true then s+1 else s) s.1
 | [],s,_=>rfl
 | f :: fs,s,h=>by
  rw[List.foldl_cons,List.foldl_cons,Xi1 i hi fs _ (λx hx=>h x (by simp[hx]))]
  congr 1
  have hp:=h f (by simp)
  unfold Yv
  cases c:eqv (QH f.Get.Host) host with
  | true =>
   have hpl:Qz os f=(i:Int):=by unfold Qz; rw[Yx.1 c]; exact hi
   rw[hpl]
   cases f.Out<;>simp
  | false =>
   have hn:Qz os f≠(i:Int):=λe=>by
    obtain⟨h1,h2⟩:=Xi0 i hi
    obtain⟨h3,h4⟩:=Xi0 (os:=os) (h:=QH f.Get.Host) i e
    have:QH f.Get.Host=host:=h4.symm.trans h2
    rw[this,QS] at c
    cases c
   have hn':(Qz os f !=(i:Int))=true:=by simpa using hn
   rw[if_pos hn']
   simp
def XgS{os:List Origin}{host:ByteArray}(hi:X8 os host<0):∀(fs:List Xl) (s:Int) (_:∀f∈fs,0<=Qz os f),fs.foldl (λs f=>if(f.Out&&eqv (QH f.Get.Host) host)=true then s+1 else s) s=s
 | [],s,_=>rfl
 | f :: fs,s,h=>by
  have hp:=h f (by simp)
  have c:eqv (QH f.Get.Host) host=false:=by
   cases c:eqv (QH f.Get.Host) host with
   | false=>rfl
   | true=>unfold Qz at hp; rw[Yx.1 c] at hp; omega
  rw[List.foldl_cons,c,Bool.and_false]
  exact XgS hi fs s (λx hx=>h x (by simp[hx]))
def Xjv{v:Shield}(h:XT v=0):∀f∈v.Flights,0<=Qz v.Origins f:=by
 have hf:UZ v=true:=by
  unfold XT at h
  have:=Xei h _ (show(if(!UZ v)=true then(8:Int) else 0)∈_ by simp)
  cases c:UZ v with
  | true=>rfl
  | false=>rw[c] at this; cases this
 unfold UZ at hf
 simp only[Bool.and_eq_true] at hf
 intro f hm
 have:=List.all_eq_true.1 hf.1.1 f hm
 unfold YK at this
 simp only[Bool.and_eq_true,decide_eq_true_eq] at this
 exact this.1.2
def Xjw{v:Shield}(h:XT v=0)(host:ByteArray):XfZ v host=⟨0,Xvd v.Flights host⟩:=by
 have hp:=Xjv h
 unfold XfZ Xvd
 rw[if_neg (by rw[h]; decide)]
 split
 ·rename_i c; rw[XgS c _ _ hp]
 ·rename_i c
  have hc:¬U6 (λx:Origin=>eqv x.Host host) v.Origins 0<0:=c
  obtain⟨i,_,e⟩:=Xed _ _ hc
  have e':X8 v.Origins host=(i:Int):=e
  rw[e']
  unfold X5
  rw[Xi1 i e' _ _ hp]
def s22:SP Tryz.prog:=mkS tyA 22 Tryz.f22 [s18,s73] {md:=[.ro 1,.ro 1],rg:=[(0,[1,2,4],[2,4]),(1,[1,2,4,5],[2,4]),(2,[1,2,4,5,11],[2,4]),(3,[4],[4]),(4,[1,2,4,6],[2,4]),(5,[1,2,4,6,7],[2,4]),(6,[1,2,4,6,7,18],[2,4]),(7,[1,2,4,6,7],[2,4]),(8,[1,2,4,6,7,35],[2,4]),(9,[1,2,4,6,7],[2,4]),(10,[4],[4])],lv:=[(0,[1,2,4,6,7],[2,4])],out:=[(0,[4,6],[4])],rets:=some ([4],[4]),fz:=[2]} Tryz.func22 (by kernel_rfl)
@[go_sem] def d22:s22.g=22/\s22.fs=⟨[.ro 1,.ro 1],s22.F,false⟩:=⟨nr rfl,nr rfl⟩
@[go_sem] def e22(q0 q1 q2 q3 q4 q5 q6 q7:Int)(q8:List ByteArray)(q9 q10 q11 q12 q13 q14 q15 q16 q17 q18 q19 q20:Int)(q21 q22:List XK)(q23:List Origin)(q24:List Xl)(host:ByteArray)(h0:YS (Shield.mk (Config.mk q0 q1 q2 q3 q4 q5 q6 q7 q8 (Lanes.mk q9 q10 q11) (Rules.mk q12 q13 q14 q15 q16)) q17 q18 (Store.mk q19 q20 q21 q22) q23 q24)):s22.F [.agg [.i .i64 q0,.i .i64 q1,.i .i64 q2,.i .i64 q3,.i .i64 q4,.i .i64 q5,.i .i64 q6,.i .i64 q7,.sl .ro 1 (q8.map Ye),.i .i64 q9,.i .i64 q10,.i .i64 q11,.i .i64 q12,.i .i64 q13,.i .i64 q14,.i .i64 q15,.i .i64 q16,.i .i64 q17,.i .i64 q18,.i .i64 q19,.i .i64 q20,.sl .ro 13 (q21.map (Xa .ro)),.sl .ro 13 (q22.map (Xa .ro)),.sl .ro 7 (q23.map (Xe .ro)),.sl .ro 11 (q24.map (Xc .ro))],.s host]=some (.agg (ZT .ro (XfZ (Shield.mk (Config.mk q0 q1 q2 q3 q4 q5 q6 q7 q8 (Lanes.mk q9 q10 q11) (Rules.mk q12 q13 q14 q15 q16)) q17 q18 (Store.mk q19 q20 q21 q22) q23 q24) host)),[.u,.u]):=Xb (q24.length+1) rfl rfl (λcx h=>by
 have h2:=h0.2.2.2.2.2
 simp only at h2
 have hx:=h2.1
 by_cases z:XT (Shield.mk (Config.mk q0 q1 q2 q3 q4 q5 q6 q7 q8 (Lanes.mk q9 q10 q11) (Rules.mk q12 q13 q14 q15 q16)) q17 q18 (Store.mk q19 q20 q21 q22) q23 q24)=0
 rotate_left
 ·have z':(XT (Shield.mk (Config.mk q0 q1 q2 q3 q4 q5 q6 q7 q8 (Lanes.mk q9 q10 q11) (Rules.mk q12 q13 q14 q15 q16)) q17 q18 (Store.mk q19 q20 q21 q22) q23 q24) !=0)=true:=by simpa using z
  simp only[go_sem,reduceIte,↓reduceIte,nA,nB,nE,h,h0,z',XfZ]
 have hb0:=Xg Tryz.f22 0 _ _ rfl rfl
 obtain⟨hI,hr⟩:=X0 (cx:=cx) (blk:=0) (body:=XN Tryz.f22 0) q24 (λk (s:Int)=>⟨E [(1,.s host),(2,.pr [.i .i64 q0,.i .i64 q1,.i .i64 q2,.i .i64 q3,.i .i64 q4,.i .i64 q5,.i .i64 q6,.i .i64 q7,.sl .ro 1 (q8.map Ye),.i .i64 q9,.i .i64 q10,.i .i64 q11,.i .i64 q12,.i .i64 q13,.i .i64 q14,.i .i64 q15,.i .i64 q16,.i .i64 q17,.i .i64 q18,.i .i64 q19,.i .i64 q20,.sl .ro 13 (q21.map (Xa .ro)),.sl .ro 13 (q22.map (Xa .ro)),.sl .ro 7 (q23.map (Xe .ro)),.sl .ro 11 (q24.map (Xc .ro))]),(4,.p ⟨false,4,[],0⟩),(6,.i .i64 s),(7,.i .i64 k)],B [(2,[]),(4,[.i .i64 0,.i .i64 0])]⟩) (λs=>⟨E [(4,.p ⟨false,4,[],0⟩),(6,.i .i64 s)],B [(4,[.i .i64 0,.i .i64 0])]⟩) (λx s=>if(x.Out&&eqv (QH x.Get.Host) host)=true then s+1 else s) (λk s=>(0<=s/\s<=k))
   (λs hI G=>by simp only[go_sem,reduceIte,↓reduceIte,nB,nE,h,Int.lt_irrefl,hb0]) (λk hk s hI=>by
    have h1:((k:Int)<(q24.length:Int)):=Int.ofNat_lt.2 hk
    obtain⟨i1,i2⟩:=hI
    have hh:q24[k].Get.Host.size<=9223372036854775806:=by have:q24[k].Get.Host.size<=1048576:=(h2.2 _ (List.getElem_mem hk)).2.2.2.2.2.2.1.2.1; omega
    have hJ:0<=(if(q24[k].Out&&eqv (QH q24[k].Get.Host) host)=true then s+1 else s)/\(if(q24[k].Out&&eqv (QH q24[k].Get.Host) host)=true then s+1 else s)<=((k+1:Nat):Int):=by split<;>omega
    have w1:(IntKind.i64).wrap (s+1)=s+1:=Xo (by omega) (by omega)
    rcases Bool.eq_false_or_eq_true q24[k].Out with d1 | d1<;>rcases Bool.eq_false_or_eq_true (eqv (QH q24[k].Get.Host) host) with d2 | d2
    all_goals exact⟨hJ,_,λG=>by simp only[go_sem,reduceIte,↓reduceIte,nA,nB,nE,nL,h,w1,hh,d1,d2,XH,Xi (Xc .ro) q24 k hk,h1,Xh _ _ hk,Xd (show k<9223372036854775807 by omega),hb0]<;>with_reducible rfl,by simp only[go_sem,reduceIte,↓reduceIte,nB,h,d1,d2]⟩) 0 (by simp) (q24.length+1) (Nat.le_refl _)
 rw[hb0] at hr
 have ho:=Xjw z host
 simp only[go_sem,reduceIte,↓reduceIte,nA,nB,nE,h,h0,z,hr,ho,Xvd]) (rfl)
def s23:SP Tryz.prog:=mkS tyA 23 Tryz.f23 [s20,s65,s74] {md:=[.ro 1,.ro 1],rg:=[(0,[1,2,4],[2,4]),(1,[1,2,4,5],[2,4]),(2,[1,2,4,5,12],[2,4]),(3,[4],[4]),(4,[2,4,6],[2,4]),(5,[2,4,6,19],[2,4]),(6,[4],[4]),(7,[4,7],[4]),(8,[4],[4])],rets:=some ([4],[4]),al:=[21]} Tryz.func23 (by kernel_rfl)
@[go_sem] def d23:s23.g=23/\s23.fs=⟨[.ro 1,.ro 1],s23.F,false⟩:=⟨nr rfl,nr rfl⟩
@[go_sem] def e23(q0 q1 q2 q3 q4 q5 q6 q7:Int)(q8:List ByteArray)(q9 q10 q11 q12 q13 q14 q15 q16 q17 q18 q19 q20:Int)(q21 q22:List XK)(q23:List Origin)(q24:List Xl)(host:ByteArray)(h0:YS (Shield.mk (Config.mk q0 q1 q2 q3 q4 q5 q6 q7 q8 (Lanes.mk q9 q10 q11) (Rules.mk q12 q13 q14 q15 q16)) q17 q18 (Store.mk q19 q20 q21 q22) q23 q24)):s23.F [.agg [.i .i64 q0,.i .i64 q1,.i .i64 q2,.i .i64 q3,.i .i64 q4,.i .i64 q5,.i .i64 q6,.i .i64 q7,.sl .ro 1 (q8.map Ye),.i .i64 q9,.i .i64 q10,.i .i64 q11,.i .i64 q12,.i .i64 q13,.i .i64 q14,.i .i64 q15,.i .i64 q16,.i .i64 q17,.i .i64 q18,.i .i64 q19,.i .i64 q20,.sl .ro 13 (q21.map (Xa .ro)),.sl .ro 13 (q22.map (Xa .ro)),.sl .ro 7 (q23.map (Xe .ro)),.sl .ro 11 (q24.map (Xc .ro))],.s host]=some (.agg (ZT .ro (XfZ (Shield.mk (Config.mk q0 q1 q2 q3 q4 q5 q6 q7 q8 (Lanes.mk q9 q10 q11) (Rules.mk q12 q13 q14 q15 q16)) q17 q18 (Store.mk q19 q20 q21 q22) q23 q24) host)),[.u,.u]):=Xb (0) rfl rfl (λcx h=>by
 have h2:=h0.2.2.2.2.2
 simp only at h2
 have h3:q23.length<=9223372036854775806:=by have:=h0.2.2.2.2.1.1; simp only at this; omega
 by_cases z:XT (Shield.mk (Config.mk q0 q1 q2 q3 q4 q5 q6 q7 q8 (Lanes.mk q9 q10 q11) (Rules.mk q12 q13 q14 q15 q16)) q17 q18 (Store.mk q19 q20 q21 q22) q23 q24)=0
 rotate_left
 ·have z':(XT (Shield.mk (Config.mk q0 q1 q2 q3 q4 q5 q6 q7 q8 (Lanes.mk q9 q10 q11) (Rules.mk q12 q13 q14 q15 q16)) q17 q18 (Store.mk q19 q20 q21 q22) q23 q24) !=0)=true:=by simpa using z
  simp only[go_sem,reduceIte,↓reduceIte,nA,nB,nE,h,h0,z',XfZ]
 by_cases c:X8 q23 host<0<;>simp only[go_sem,reduceIte,↓reduceIte,nA,nB,nE,h,h0,z,h2,h3,c,XfZ]) (rfl)
def s5:SP Tryz.prog:=mkS tyA 5 Tryz.f5 [s17,s19,s21,s22,s23,s24] {md:=[.ro 1,.ro 1],rg:=[(0,[1,2],[2]),(1,[1,2,11],[2]),(2,[4],[]),(3,[1,2,5],[2]),(4,[1,2,5],[2]),(5,[1,2,16],[2]),(6,[4],[]),(7,[1,2,6],[2,6]),(8,[1,2,6,7],[2,6,7]),(9,[2,6,7,8],[2,6,7,8]),(10,[2,7,29],[2,7]),(11,[4],[]),(12,[34],[]),(13,[4],[]),(14,[4],[])],rets:=some ([4],[]),plan:=[(12,(.take 0 (.take 1 (.one 2 (.one 3 (.take 4 .done))))))]} Tryz.func5 (by kernel_rfl)
@[go_sem] def d5:s5.g=5/\s5.fs=⟨[.ro 1,.ro 1],s5.F,false⟩:=⟨nr rfl,nr rfl⟩
def e5(q25 q26 q27 q28 q29 q30 q31 q32:Int)(q33:List ByteArray)(q34 q35 q36 q37 q38 q39 q40 q41 q42 q43 q44 q45:Int)(q46 q47:List XK)(q48:List Origin)(q49:List Xl)(host:ByteArray)(h0:Xbj (Shield.mk (Config.mk q25 q26 q27 q28 q29 q30 q31 q32 q33 (Lanes.mk q34 q35 q36) (Rules.mk q37 q38 q39 q40 q41)) q42 q43 (Store.mk q44 q45 q46 q47) q48 q49)/\Xb3 host):s5.F [.agg [.i .i64 q25,.i .i64 q26,.i .i64 q27,.i .i64 q28,.i .i64 q29,.i .i64 q30,.i .i64 q31,.i .i64 q32,.sl .ro 1 (q33.map Ye),.i .i64 q34,.i .i64 q35,.i .i64 q36,.i .i64 q37,.i .i64 q38,.i .i64 q39,.i .i64 q40,.i .i64 q41,.i .i64 q42,.i .i64 q43,.i .i64 q44,.i .i64 q45,.sl .ro 13 (q46.map (Xa .ro)),.sl .ro 13 (q47.map (Xa .ro)),.sl .ro 7 (q48.map (Xe .ro)),.sl .ro 11 (q49.map (Xc .ro))],.s host]=some (.b true,[.u,.u]):=Xb (0) rfl rfl (λcx h=>by
 by_cases hc1:(1048576:Int)<host.size
 ·simp only[go_sem,reduceIte,↓reduceIte,nA,nB,nE,h,hc1]
 have hs1:host.size<=1048576:=by omega
 have h0_0:=h0.1
 by_cases hc0:Qu (Shield.mk (Config.mk q25 q26 q27 q28 q29 q30 q31 q32 q33 (Lanes.mk q34 q35 q36) (Rules.mk q37 q38 q39 q40 q41)) q42 q43 (Store.mk q44 q45 q46 q47) q48 q49) 1048576<0
 ·simp only[go_sem,reduceIte,↓reduceIte,nA,nB,nE,h,hc0,h0_0,hc1]
 obtain⟨hs0,hl0⟩:=US _ _ h0_0 (by decide) (by decide) (show 0<=Qu (Shield.mk (Config.mk q25 q26 q27 q28 q29 q30 q31 q32 q33 (Lanes.mk q34 q35 q36) (Rules.mk q37 q38 q39 q40 q41)) q42 q43 (Store.mk q44 q45 q46 q47) q48 q49) 1048576 by omega)
 obtain⟨R,hR⟩:∃R,XfZ (Shield.mk (Config.mk q25 q26 q27 q28 q29 q30 q31 q32 q33 (Lanes.mk q34 q35 q36) (Rules.mk q37 q38 q39 q40 q41)) q42 q43 (Store.mk q44 q45 q46 q47) q48 q49) host=R:=⟨_,rfl⟩
 have hsm:=Xbp (XfZ (Shield.mk (Config.mk q25 q26 q27 q28 q29 q30 q31 q32 q33 (Lanes.mk q34 q35 q36) (Rules.mk q37 q38 q39 q40 q41)) q42 q43 (Store.mk q44 q45 q46 q47) q48 q49) host)
 rw[hR] at hsm
 simp only[go_sem,reduceIte,↓reduceIte,nA,nB,nE,h,hc1,hc0,hs0,h0_0,hR,hsm,QS]) (rfl)
end
end Go.Vm.A
