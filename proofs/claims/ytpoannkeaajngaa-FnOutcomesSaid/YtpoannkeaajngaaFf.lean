/- Functions of the program, walked by the evaluator. -/
import Derived.Test.YtpoannkeaajngaaWb
import Derived.Test.YtpoannkeaajngaaWa
import Derived.Test.YtpoannkeaajngaaFa
import Derived.Test.YtpoannkeaajngaaFb
import Derived.Test.YtpoannkeaajngaaFe
set_option linter.unusedVariables false
set_option linter.unusedSimpArgs false
set_option autoImplicit false
set_option maxRecDepth 100000
set_option maxHeartbeats 4000000
set_option linter.defProp false
namespace Go.Vm.A
open Go.Proofs
open Nat renaming reduceAdd -> nA, reduceSub -> nS, reduceMul -> nM, reduceBEq -> nB, reduceEqDiff -> nE, reduceLeDiff -> nL, reduceLT -> nT, reduceBneDiff -> nN
open Int renaming reduceLE -> iL, reduceLT -> iT, reduceEq -> iE, reduceAdd -> iA, reduceMul -> iM, reduceSub -> iS, reduceNeg -> iG, reduceBEq -> iB, reduceBNe -> iN, reduceToNat -> iZ
noncomputable section
def s37:SP Try.prog:=mkS tyA 37 Try.f37 [s38,s44] {md:=[.mv,.ro 1],rg:=[(0,[0,1],[]),(1,[0,1,5],[]),(2,[0,1,5,12],[]),(3,[0,4],[]),(4,[0,1,5,6],[]),(5,[0,1,5,6,19],[]),(6,[0,1,5,6],[]),(7,[0,1,5,6,7,22],[7]),(8,[0,1,5,6,7,22,29],[7]),(9,[0,1,5,6],[]),(10,[0,1,5,6],[]),(11,[0,5],[]),(12,[0,4],[])],lv:=[(0,[0,1,5,6],[])],out:=[(0,[0,5],[])],rets:=some ([0,4],[])} Try.func37 (by kernel_rfl)
@[go_sem] def d37:s37.g=37/\s37.fs=⟨[.mv,.ro 1],s37.F,false⟩:=⟨nr rfl,nr rfl⟩
@[go_sem] def XnA(xs:List XQ)(w q0 q1 q2 q3 t:Int)(hb:xs.length<=1048576)(h0:Xku (λx=>XF x.At=true/\0<=w/\w<=1000000) xs):s37.F [.sl .mut 2 (xs.map (Xb .mut)),.fn 38 [.pr [.i .i64 w,.i .i64 q0,.i .i64 q1,.i .i64 q2,.i .i64 q3],.pr [.i .i64 t]]]=some (.sl .mut 2 ((xs.filter (λx=>!(decide (Z2 x.At w<=t)))).map (Xb .mut)),[.u,.u]):=Xy (xs.length+1) rfl rfl (λcx h=>by
 have hx:xs.length<=9223372036854775806:=by omega
 rcases Int.lt_or_le (XaU (λ(x:XQ)=>decide (Z2 x.At w<=t)) xs 0) 0 with hn | hn
 ·have hm1:=Xd1 (λ(x:XQ)=>decide (Z2 x.At w<=t)) xs 0 hn
  have hf:=Xff (λ(x:XQ)=>decide (Z2 x.At w<=t)) xs hm1
  simp only[go_sem,reduceIte,↓reduceIte,reduceCtorEq,nA,nS,nM,nB,nE,nL,nT,nN,iL,iT,iE,iA,iM,iS,iG,iB,iN,iZ,h,hx,h0,hm1,hf]
 ·obtain⟨i,hi0,hi1,hi2,hi3⟩:=XgS (λ(x:XQ)=>decide (Z2 x.At w<=t)) xs hn
  have w1:(IntKind.i64).wrap ((i:Int)+1)=((i+1:Nat):Int):=XJ (by omega)
  have hb0:=Yk Try.f37 0 _ _ rfl rfl
  obtain⟨hI,hr⟩:=YU (cx:=cx) (blk:=0) (body:=Qz Try.f37 0) (xs.drop (i+1)) (λk (s:List XQ×Nat)=>⟨E [(0,.sl .mut 2 (s.1.map (Xb .mut))),(1,.fn 38 [.pr [.i .i64 w,.i .i64 q0,.i .i64 q1,.i .i64 q2,.i .i64 q3],.pr [.i .i64 t]]),(5,.i .i64 (s.2:Nat)),(6,.i .i64 ((i+1+k:Nat):Int))],B []⟩) (λs=>⟨E [(0,.sl .mut 2 (s.1.map (Xb .mut))),(5,.i .i64 (s.2:Nat))],B []⟩) (λx s=>(if decide (Z2 x.At w<=t) then s else(s.1.set s.2 x,s.2+1))) (λk s=>XiW (λ(x:XQ)=>decide (Z2 x.At w<=t)) xs (i+1+k) s)
    (λs hI G=>by simp only[go_sem,reduceIte,↓reduceIte,reduceCtorEq,nA,nS,nM,nB,nE,nL,nT,nN,iL,iT,iE,iA,iM,iS,iG,iB,iN,iZ,h,Int.lt_irrefl,hb0,XgU hI,show List.take xs.length (List.map (Xb .mut) s.1)=List.map (Xb .mut) s.1 from List.take_of_length_le (by rw[List.length_map,hI.1]; exact Nat.le_refl _),show ¬(((i+1+(xs.drop (i+1)).length:Nat):Int)<(xs.length:Int)) by simp; omega]) (λk hk s hI=>by
     have h1:((k:Int)<((xs.drop (i+1)).length:Int)):=Int.ofNat_lt.2 hk
     have hkl:i+1+k<xs.length:=by simp at hk; omega
     have hget:(xs.drop (i+1))[k]=xs[i+1+k]:=by simp
     have hlen:s.1.length=xs.length:=hI.1
     have hsi:s.2<s.1.length:=by have:=hI.2.2.2; omega
     have hcur:s.1[i+1+k]'(by omega)=xs[i+1+k]:=XgT hI hkl
     have j1:(((i+1+k:Nat):Int)<(xs.length:Int)):=Int.ofNat_lt.2 hkl
     have j2:(IntKind.i64).wrap (((i+1+k:Nat):Int)+1)=((i+1+(k+1):Nat):Int):=XJ (by omega)
     have j3:(IntKind.i64).wrap (((s.2:Nat):Int)+1)=((s.2+1:Nat):Int):=XJ (by omega)
     have j4:=YN (Xb .mut) s.1 (i+1+k) (by omega)
     rw[hcur] at j4
     have j6:=XbG (Xb .mut) s.1 (i+1+k) (by omega)
     rw[hcur] at j6
     have j7:=XbG (Xb .mut) s.1 s.2 hsi
     have j5:(s.1.map (Xb .mut)).set s.2 ((Xb .mut) xs[i+1+k])=(s.1.set s.2 xs[i+1+k]).map (Xb .mut):=(List.map_set).symm
     have j8:List.take xs.length (List.map (Xb .mut) s.1)=List.map (Xb .mut) s.1:=List.take_of_length_le (by rw[List.length_map,hlen]; exact Nat.le_refl _)
     simp only[Xb] at j5
     have h2:=h0 _ (List.getElem_mem hkl)
     simp only at h2
     by_cases hd:decide (Z2 xs[i+1+k].At w<=t)=true
     all_goals have hd':=hd
     all_goals try simp only[decide_eq_true_eq] at hd'
     all_goals exact⟨by rw[hget]; exact Xfh hI (by omega),_,λG=>by simp only[go_sem,reduceIte,↓reduceIte,reduceCtorEq,nA,nS,nM,nB,nE,nL,nT,nN,iL,iT,iE,iA,iM,iS,iG,iB,iN,iZ,h,j1,j2,j3,j4,j5,j6,j7,j8,hlen,Yg xs.length _ hkl,Yg xs.length s.2 (by omega),h2,hd,hd',h1,Yg _ _ hk,XJ (show k<9223372036854775807 by omega),hb0]<;>with_reducible rfl,by simp only[go_sem,reduceIte,↓reduceIte,reduceCtorEq,nA,nS,nM,nB,nE,nL,nT,nN,iL,iT,iE,iA,iM,iS,iG,iB,iN,iZ,h,hget,hd,hd']⟩) (xs,i) (Xfg hi1 hi2 hi3) (xs.length+1) (by simp<;>omega)
  rw[hb0] at hr
  generalize List.foldl _ _ _=q at hI hr
  have e9:=XgV hI (by simp<;>omega)
  have e8:q.1.length=xs.length:=hI.1
  have e7:q.2<=xs.length:=by have h1:=hI.2.2.2; simp only[List.length_drop] at h1; omega
  have e6:(0:Int)<=(q.2:Int):=by omega
  have e5:(q.2:Int)<=(xs.length:Int):=by omega
  have e4:((i:Int) ==-1)=false:=by simp<;>omega
  have c1:(Yh 2 q.2 (xs.length-q.2) (q.1.map (Xb .mut))).length=xs.length:=by rw[UF (by rw[List.length_map]; omega),List.length_map,e8]
  have c2:(Yh 2 q.2 (xs.length-q.2) (q.1.map (Xb .mut))).take q.2=(xs.filter (λx=>!(decide (Z2 x.At w<=t)))).map (Xb .mut):=by rw[XaX _ _ _ _ (by rw[List.length_map]; omega),<-List.map_take,e9]
  have e3:q.2+(xs.length-q.2)<=xs.length:=by omega
  simp only[go_sem,reduceIte,↓reduceIte,reduceCtorEq,nA,nS,nM,nB,nE,nL,nT,nN,iL,iT,iE,iA,iM,iS,iG,iB,iN,iZ,h,hx,h0,hi0,w1,hr,e8,e7,e6,e5,e4,e3,c1,c2,Int.toNat_natCast,Nat.sub_zero]) (by simp only[go_sem,reduceIte,↓reduceIte,reduceCtorEq,nA,nS,nM,nB,nE,nL,nT,nN,iL,iT,iE,iA,iM,iS,iG,iB,iN,iZ,Uo,XW])
def s17:SP Try.prog:=mkS tyA 17 Try.f17 [s21,s37] {md:=[.rw 4,.ro 1,.ro 1,.ro 1],rg:=[(0,[0,3,5,6,46],[0,5,6]),(1,[0,3,5,6,12,46],[0,5,6]),(2,[0,3,5,6,12,13,46],[0,5,6]),(3,[0,3,5,6,46],[0,5,6]),(4,[0,5,6,46],[0,5,6]),(5,[0,5,6,41,46],[0,5,6]),(6,[0,5,6,46],[0,5,6]),(7,[0,5,6,8,46],[0,5,6]),(8,[0,6,46,70],[0,6]),(9,[0,46],[0]),(10,[0,3,6,46,75],[0,6]),(11,[0,6,46,77],[0,6]),(12,[0,46],[0]),(13,[0,46],[0])],rets:=some ([0,46],[0]),plan:=[(4,(.take 0 (.take 1 (.take 2 (.take 3 (.take 4 (.take 5 (.take 6 (.take 7 (.one 8 (.one 9 (.one 10 (.take 11 (.one 12 .done)))))))))))))),(8,(.take 0 (.take 1 (.take 2 (.take 3 (.take 4 (.take 5 (.take 6 (.take 7 (.take 10 (.take 11 (.take 12 (.take 13 (.one 8 (.take 9 (.take 14 (.take 15 .done)))))))))))))))))],fz:=[5,6]} Try.func17 (by kernel_rfl)
@[go_sem] def d17:s17.g=17/\s17.fs=⟨[.rw 4,.ro 1,.ro 1,.ro 1],s17.F,false⟩:=⟨nr rfl,nr rfl⟩
@[go_sem] def e17(q4 q5 q6:Int)(bMarks:List XQ)(q7 q0 q1 q2 q3 now:Int)(good:Bool)(hf:Xd (Breaker.mk q4 q5 q6 bMarks)=0)(hg:Xr (Xf.mk q7 q0 q1 q2 q3)=0):s17.F [.agg [.i .i64 q4,.i .i64 q5,.i .i64 q6,.sl .mut 2 (bMarks.map (Xb .mut))],.agg [.i .i64 q7,.i .i64 q0,.i .i64 q1,.i .i64 q2,.i .i64 q3],.i .i64 now,.b good]=some (.tup [],[.agg (ZH .mut (X6 (Breaker.mk q4 q5 q6 bMarks) (Xf.mk q7 q0 q1 q2 q3) now good)),.u,.u,.u]):=Xy (0) rfl rfl (λcx h=>by
 have hB:=Xn hf
 have hR:=X3 hg
 simp only at hB hR
 have hk1:=Qf (Breaker.mk q4 q5 q6 bMarks) (Xf.mk q7 q0 q1 q2 q3) now
 simp only at hk1
 obtain⟨K,hK⟩:∃K,Ue (Breaker.mk q4 q5 q6 bMarks) (Xf.mk q7 q0 q1 q2 q3) now++[XQ.mk now good]=K:=⟨_,rfl⟩
 have hKl:K.length=(Ue (Breaker.mk q4 q5 q6 bMarks) (Xf.mk q7 q0 q1 q2 q3) now).length+1:=by rw[<-hK]; simp
 have hA:(Ue (Breaker.mk q4 q5 q6 bMarks) (Xf.mk q7 q0 q1 q2 q3) now).map (Xb .mut)++[[.i .i64 now,.b good]]=K.map (Xb .mut):=by rw[<-hK]; simp[Xb]
 have hs:List.take (K.length-1) (List.drop 1 (K.map (Xb .mut)))=(K.drop 1).map (Xb .mut):=by rw[List.take_of_length_le (by simp),List.map_drop]
 have hP:((Ue (Breaker.mk q4 q5 q6 bMarks) (Xf.mk q7 q0 q1 q2 q3) now).length+1)*16<=140737488355328:=by omega
 obtain⟨M,hM⟩:∃M,Yf (Breaker.mk q4 q5 q6 bMarks) (Xf.mk q7 q0 q1 q2 q3) now good=M:=⟨_,rfl⟩
 have hM2:M=if 60<(K.length:Int) then K.drop 1 else K:=by rw[<-hM]; unfold Yf; rw[hK]
 have hMl:M.length<=61:=by rw[<-hM]; exact Z3 _ _ _ _ hB.2.2.2.1
 have hb1:=UL M
 have w2:(IntKind.i64).wrap (1000*QI M)=1000*QI M:=Xv (by omega) (by omega)
 have w3:(IntKind.i64).wrap (q1*(M.length:Int))=q1*(M.length:Int):=Q2 (by omega) (by omega) (by omega) (by omega)
 have hq1:K.length<=1000:=by omega
 have hq2:(K.drop 1).length<=1000:=by simp; omega
 have hq3:(1:Int)<=(K.length:Int):=by omega
 have hq4:1+(K.length-1)<=K.length:=by omega
 have hq5:1+(K.length-1)=K.length:=by omega
 have hE:Xku (λx=>XF x.At=true/\0<=q7/\q7<=1000000) bMarks:=λx hx=>⟨ZW hB.2.2.2.2.1 hx,by omega,by omega⟩
 have hx1:bMarks.length<=1048576:=by omega
 by_cases s1:q4=1
 ·subst s1
  simp only[go_sem,reduceIte,↓reduceIte,reduceCtorEq,nA,nS,nM,nB,nE,nL,nT,nN,iL,iT,iE,iA,iM,iS,iG,iB,iN,iZ,h,X6]
 by_cases s2:q4=2
 ·subst s2
  have hm:bMarks=[]:=hB.2.2.2.2.2.2.1 (by decide)
  cases good
  ·simp only[go_sem,reduceIte,↓reduceIte,reduceCtorEq,nA,nS,nM,nB,nE,nL,nT,nN,iL,iT,iE,iA,iM,iS,iG,iB,iN,iZ,h,X6]
  ·simp only[go_sem,reduceIte,↓reduceIte,reduceCtorEq,nA,nS,nM,nB,nE,nL,nT,nN,iL,iT,iE,iA,iM,iS,iG,iB,iN,iZ,h,X6]
 have s0:q4=0:=by omega
 subst s0
 have ho:q6=0:=hB.2.2.2.2.2.2.2 (by decide)
 have hkd:(bMarks.filter λx=>!decide (Z2 x.At q7<=now))=Ue (Breaker.mk 0 q5 q6 bMarks) (Xf.mk q7 q0 q1 q2 q3) now:=rfl
 by_cases c:60<(K.length:Int)
 ·rw[if_pos c] at hM2
  by_cases d1:q0<=(M.length:Int)<;>by_cases d2:q1*(M.length:Int)<=1000*QI M
  all_goals have hz1:=d1
  all_goals have hz2:=d2
  all_goals rw[hM2] at d1 d2 w2 w3
  all_goals simp only[go_sem,reduceIte,↓reduceIte,reduceCtorEq,nA,nS,nM,nB,nE,nL,nT,nN,iL,iT,iE,iA,iM,iS,iG,iB,iN,iZ,h,X6,hE,hx1,hkd,hA,hP,c,hs,hM,hz1,hz2,d1,d2,w2,w3,hq1,hq2,hq3,hq4,hq5,hM2,s1,s2]
 ·rw[if_neg c] at hM2
  by_cases d1:q0<=(M.length:Int)<;>by_cases d2:q1*(M.length:Int)<=1000*QI M
  all_goals have hz1:=d1
  all_goals have hz2:=d2
  all_goals rw[hM2] at d1 d2 w2 w3
  all_goals simp only[go_sem,reduceIte,↓reduceIte,reduceCtorEq,nA,nS,nM,nB,nE,nL,nT,nN,iL,iT,iE,iA,iM,iS,iG,iB,iN,iZ,h,X6,hE,hx1,hkd,hA,hP,c,hs,hM,hz1,hz2,d1,d2,w2,w3,hq1,hq2,hq3,hq4,hq5,hM2,s1,s2]) (by simp only[go_sem,reduceIte,↓reduceIte,reduceCtorEq,nA,nS,nM,nB,nE,nL,nT,nN,iL,iT,iE,iA,iM,iS,iG,iB,iN,iZ,Uo,XW,X4,X8])
def X1(b:Breaker)(r:Xf)(now:Int)(good:Bool):XU:=if XD b r now=0 then⟨0,X6 b r now good⟩ else⟨XD b r now,⟨0,0,0,[]⟩⟩
def Ur(ms:List XQ)(h:ms.length<=1048576):smL ZB ms:=⟨h,λx _=>XdW x⟩
def s6:SP Try.prog:=mkS tyA 6 Try.f6 [s15,s16,s17] {md:=[.ro 1,.ro 1,.ro 1,.ro 1],rg:=[(0,[2,3,4,5,8,25],[4,5,8,10]),(1,[2,3,4,5,8,9,25],[4,5,8,10]),(2,[2,3,4,5,8,9,16,25],[4,5,8,10]),(3,[8,25],[8,10]),(4,[2,3,5,8,10,25],[5,8,10]),(5,[8,10,25],[8,10]),(6,[8,25],[8,10])],rets:=some ([8,25],[8,10])} Try.func6 (by kernel_rfl)
@[go_sem] def d6:s6.g=6/\s6.fs=⟨[.ro 1,.ro 1,.ro 1,.ro 1],s6.F,false⟩:=⟨nr rfl,nr rfl⟩
@[go_sem] def e6(q4 q5 q6:Int)(bMarks:List XQ)(q7 q0 q1 q2 q3 now:Int)(good:Bool)(h0:smL ZB (Breaker.mk q4 q5 q6 bMarks).Marks):s6.F [.agg [.i .i64 q4,.i .i64 q5,.i .i64 q6,.sl .ro 2 (bMarks.map (Xb .ro))],.agg [.i .i64 q7,.i .i64 q0,.i .i64 q1,.i .i64 q2,.i .i64 q3],.i .i64 now,.b good]=some (.agg (Yl .mut (X1 (Breaker.mk q4 q5 q6 bMarks) (Xf.mk q7 q0 q1 q2 q3) now good)),[.u,.u,.u,.u]):=Xy (0) rfl rfl (λcx h=>by
 have hx:=h0.1
 simp only at hx
 by_cases c:XD (Breaker.mk q4 q5 q6 bMarks) (Xf.mk q7 q0 q1 q2 q3) now=0
 ·have c1:=Z0 c
  simp only[go_sem,reduceIte,↓reduceIte,reduceCtorEq,nA,nS,nM,nB,nE,nL,nT,nN,iL,iT,iE,iA,iM,iS,iG,iB,iN,iZ,h,X1,c,c1.1,c1.2.1,hx,h0]
 ·have c1:(XD (Breaker.mk q4 q5 q6 bMarks) (Xf.mk q7 q0 q1 q2 q3) now !=0)=true:=by simpa using c
  simp only[go_sem,reduceIte,↓reduceIte,reduceCtorEq,nA,nS,nM,nB,nE,nL,nT,nN,iL,iT,iE,iA,iM,iS,iG,iB,iN,iZ,h,X1,c,c1,hx,h0]) (by simp only[go_sem,reduceIte,↓reduceIte,reduceCtorEq,nA,nS,nM,nB,nE,nL,nT,nN,iL,iT,iE,iA,iM,iS,iG,iB,iN,iZ,Uo,XW,X4,X8])
def s43:SP Try.prog:=mkS tyA 43 Try.f43 [] {md:=[.ro 1,.ro 1,.ro 1],rets:=some ([6],[])} Try.func43 (by kernel_rfl)
@[go_sem] def d43:s43.g=43/\s43.fs=⟨[.ro 1,.ro 1,.ro 1],s43.F,false⟩:=⟨nr rfl,nr rfl⟩
@[go_sem] def e43(a b c:Int):s43.F [.i .i64 a,.i .i64 b,.i .i64 c]=some (.b (within a b c),[.u,.u,.u]):=Xy (0) rfl rfl (λcx h=>by
 simp only[go_sem,reduceIte,↓reduceIte,reduceCtorEq,nA,nS,nM,nB,nE,nL,nT,nN,iL,iT,iE,iA,iM,iS,iG,iB,iN,iZ,h,within]
 by_cases h:b<=a<;>simp[h]) (rfl)
def s41:SP Try.prog:=mkS tyA 41 Try.f41 [s43] {md:=[.ro 1],rets:=some ([2],[])} Try.func41 (by kernel_rfl)
@[go_sem] def d41:s41.g=41/\s41.fs=⟨[.ro 1],s41.F,false⟩:=⟨nr rfl,nr rfl⟩
@[go_sem] def e41(a:Int):s41.F [.i .i64 a]=some (.b (XF a),[.u]):=Xy (0) rfl rfl (λcx h=>by
 simp only[go_sem,reduceIte,↓reduceIte,reduceCtorEq,nA,nS,nM,nB,nE,nL,nT,nN,iL,iT,iE,iA,iM,iS,iG,iB,iN,iZ,h,XF]) (rfl)
def s22:SP Try.prog:=mkS tyA 22 Try.f22 [s41,s43] {md:=[.ro 1],rg:=[(0,[1],[1]),(1,[1,20],[1]),(2,[2],[]),(3,[1,24],[1]),(4,[2],[]),(5,[1,3],[1]),(6,[1,3,29],[1]),(7,[1,3],[1]),(8,[1,3,39],[1]),(9,[2],[]),(10,[1,4],[1]),(11,[1,4,44],[1]),(12,[1,4],[1]),(13,[1,4,60],[1]),(14,[2],[]),(15,[79],[]),(16,[2],[]),(17,[2],[])],lv:=[(0,[1,3],[1]),(2,[1,4],[1])],out:=[(0,[1],[1]),(2,[1],[1])],rets:=some ([2],[]),plan:=[(13,(.take 0 (.take 1 (.take 2 (.take 3 (.take 4 (.take 5 (.take 6 (.take 7 (.take 8 (.take 9 (.take 10 (.take 11 (.take 12 (.take 13 .done)))))))))))))))]} Try.func22 (by kernel_rfl)
@[go_sem] def d22:s22.g=22/\s22.fs=⟨[.ro 1],s22.F,false⟩:=⟨nr rfl,nr rfl⟩
@[go_sem] def e22(q4 q5 q6:Int)(bMarks:List XQ)(h0:(Breaker.mk q4 q5 q6 bMarks).Marks.length<=1048576):s22.F [.agg [.i .i64 q4,.i .i64 q5,.i .i64 q6,.sl .ro 2 (bMarks.map (Xb .ro))]]=some (.i .i64 (Xd (Breaker.mk q4 q5 q6 bMarks)),[.u]):=Xy ((Breaker.mk q4 q5 q6 bMarks).Marks.length+1) rfl rfl (λcx h=>by
 have hx:=h0
 simp only at hx
 by_cases c0:(within q4 0 2&&XF q5&&within q6 0 5)=false
 ·simp only[go_sem,reduceIte,↓reduceIte,reduceCtorEq,nA,nS,nM,nB,nE,nL,nT,nN,iL,iT,iE,iA,iM,iS,iG,iB,iN,iZ,h,Xd,c0]
  all_goals (cases hw1:within q4 0 2<;>cases hw2:XF q5<;>cases hw3:within q6 0 5<;>simp_all)
 simp only[Bool.not_eq_false,Bool.and_eq_true] at c0
 obtain⟨⟨d1,d2⟩,d3⟩:=c0
 by_cases c1:60<(bMarks.length:Int)
 ·simp only[go_sem,reduceIte,↓reduceIte,reduceCtorEq,nA,nS,nM,nB,nE,nL,nT,nN,iL,iT,iE,iA,iM,iS,iG,iB,iN,iZ,h,Xd,d1,d2,d3,c1]
 have hb0:=Yk Try.f22 0 _ _ rfl rfl
 obtain⟨r,hr,hq⟩:=ZV (cx:=cx) (blk:=0) (body:=Qz Try.f22 0) bMarks (λk (s:Unit)=>⟨E [(1,.p ⟨false,1,[],0⟩),(3,.i .i64 k)],B [(1,[.i .i64 q4,.i .i64 q5,.i .i64 q6,.sl .ro 2 (bMarks.map (Xb .ro))])]⟩) (λs=>⟨E [(1,.p ⟨false,1,[],0⟩)],B [(1,[.i .i64 q4,.i .i64 q5,.i .i64 q6,.sl .ro 2 (bMarks.map (Xb .ro))])]⟩) (λx s=>!XF x.At) (λx s=>()) (λx s=>(.ret,⟨E [(2,.i .i64 3)],B []⟩)) (λk s=>True)
   (λs hI G=>by simp only[go_sem,reduceIte,↓reduceIte,reduceCtorEq,nA,nS,nM,nB,nE,nL,nT,nN,iL,iT,iE,iA,iM,iS,iG,iB,iN,iZ,h,Int.lt_irrefl,hb0,hx]) (λk hk s hI=>by
    have h1:((k:Int)<(bMarks.length:Int)):=Int.ofNat_lt.2 hk
    exact⟨_,_,_,λG=>by simp only[go_sem,reduceIte,↓reduceIte,reduceCtorEq,nA,nS,nM,nB,nE,nL,nT,nN,iL,iT,iE,iA,iM,iS,iG,iB,iN,iZ,h,YN (Xb .ro) bMarks _ hk,h1,Yg _ _ hk,XJ (show k<9223372036854775807 by omega),hb0]<;>with_reducible rfl,Iff.rfl,λhc=>⟨trivial,by simp only[go_sem,reduceIte,↓reduceIte,reduceCtorEq,nA,nS,nM,nB,nE,nL,nT,nN,iL,iT,iE,iA,iM,iS,iG,iB,iN,iZ,h]⟩⟩) () trivial (bMarks.length+1) (Nat.le_refl _)
 rw[hb0] at hr
 rcases hq with⟨s',a1,_,a3⟩ | ⟨x,s',a1,a3⟩
 case inr =>
  have c2:XiV bMarks=true:=(Uc a1).1
  simp only[go_sem,reduceIte,↓reduceIte,reduceCtorEq,nA,nS,nM,nB,nE,nL,nT,nN,iL,iT,iE,iA,iM,iS,iG,iB,iN,iZ,h,hr,a3,Xd,d1,d2,d3,c1,c2]
 have c2:XiV bMarks=false:=Xak a1
 have hb1:=Yk Try.f22 1 _ _ rfl rfl
 obtain⟨r2,hr2,hqr2⟩:=ZV (cx:=cx) (blk:=2) (body:=Qz Try.f22 1) (bMarks.zip bMarks.tail) (λk (s:Unit)=>⟨E [(1,.p ⟨false,1,[],0⟩),(4,.i .i64 ((k+1:Nat):Int))],B [(1,[.i .i64 q4,.i .i64 q5,.i .i64 q6,.sl .ro 2 (bMarks.map (Xb .ro))])]⟩) (λs=>⟨E [(1,.p ⟨false,1,[],0⟩)],B [(1,[.i .i64 q4,.i .i64 q5,.i .i64 q6,.sl .ro 2 (bMarks.map (Xb .ro))])]⟩) (λx s=>decide (x.2.At<x.1.At)) (λx s=>()) (λx s=>(.ret,⟨E [(2,.i .i64 1)],B []⟩)) (λk s=>True)
   (λs hI G=>by simp only[go_sem,reduceIte,↓reduceIte,reduceCtorEq,nA,nS,nM,nB,nE,nL,nT,nN,iL,iT,iE,iA,iM,iS,iG,iB,iN,iZ,h,Int.lt_irrefl,hb1,show ¬((((bMarks.zip bMarks.tail).length+1:Nat):Int)<(bMarks.length:Int)) by simp; omega]) (λk hk s hI=>by
    have h1:((k:Int)<((bMarks.zip bMarks.tail).length:Int)):=Int.ofNat_lt.2 hk
    have hk2:k+1<bMarks.length:=by simp at hk; omega
    have h3:=Xci bMarks k hk
    rw[h3]
    have i0:((k+1:Nat):Int)<(bMarks.length:Int):=Int.ofNat_lt.2 hk2
    have i2:(IntKind.i64).wrap (((k+1:Nat):Int)-1)=(k:Int):=by rw[Xv (by omega) (by omega)]; omega
    have i3:(IntKind.i64).wrap (((k+1:Nat):Int)+1)=((k+1+1:Nat):Int):=XJ (by omega)
    exact⟨_,_,_,λG=>by simp only[go_sem,reduceIte,↓reduceIte,reduceCtorEq,nA,nS,nM,nB,nE,nL,nT,nN,iL,iT,iE,iA,iM,iS,iG,iB,iN,iZ,h,i0,i2,i3,Yg bMarks.length _ hk2,Yg bMarks.length k (by omega),YN (Xb .ro) bMarks _ hk2,YN (Xb .ro) bMarks k (by omega),h1,Yg _ _ hk,XJ (show k<9223372036854775807 by omega),hb1]<;>with_reducible rfl,by simp,λhc=>⟨trivial,by simp only[go_sem,reduceIte,↓reduceIte,reduceCtorEq,nA,nS,nM,nB,nE,nL,nT,nN,iL,iT,iE,iA,iM,iS,iG,iB,iN,iZ,h]⟩⟩) () trivial (bMarks.length+1) (by simp<;>omega)
 rw[hb1] at hr2
 rcases hqr2 with⟨s',b1,_,b3⟩ | ⟨x,s',b1,b3⟩
 case inr =>
  have c5:Yc bMarks=true:=(Uc b1).1
  simp only[go_sem,reduceIte,↓reduceIte,reduceCtorEq,nA,nS,nM,nB,nE,nL,nT,nN,iL,iT,iE,iA,iM,iS,iG,iB,iN,iZ,h,hr,a3,hr2,b3,Xd,d1,d2,d3,c1,c2,c5]
 have c5:Yc bMarks=false:=Xak b1
 simp only[go_sem,reduceIte,↓reduceIte,reduceCtorEq,nA,nS,nM,nB,nE,nL,nT,nN,iL,iT,iE,iA,iM,iS,iG,iB,iN,iZ,h,hr,a3,hr2,b3,Xd,d1,d2,d3,c1,c2,c5]
 all_goals (cases e1:q4 !=0<;>cases e2:q4 !=2<;>cases e3:q6 !=0<;>cases e4:decide (0<(bMarks.length:Int))<;>simp_all)) (rfl)
def s40:SP Try.prog:=mkS tyA 40 Try.f40 [s43] {md:=[.ro 1],rg:=[(0,[1],[1]),(1,[30],[]),(2,[2],[]),(3,[2],[])],rets:=some ([2],[])} Try.func40 (by kernel_rfl)
@[go_sem] def d40:s40.g=40/\s40.fs=⟨[.ro 1],s40.F,false⟩:=⟨nr rfl,nr rfl⟩
@[go_sem] def e40(q7 q0 q1 q2 q3:Int):s40.F [.agg [.i .i64 q7,.i .i64 q0,.i .i64 q1,.i .i64 q2,.i .i64 q3]]=some (.i .i64 (Xr (Xf.mk q7 q0 q1 q2 q3)),[.u]):=Xy (0) rfl rfl (λcx h=>by
 simp only[go_sem,reduceIte,↓reduceIte,reduceCtorEq,nA,nS,nM,nB,nE,nL,nT,nN,iL,iT,iE,iA,iM,iS,iG,iB,iN,iZ,h]
 simp only[Xr]
 cases within q7 1 1000000<;>cases within q0 1 50<;>cases within q1 1 1000<;>cases within q2 0 1000000<;>cases within q3 1 5<;>rfl) (rfl)
def s18:SP Try.prog:=mkS tyA 18 Try.f18 [s22,s40,s41] {md:=[.ro 1,.ro 1,.ro 1],rg:=[(0,[0,1,2],[]),(1,[0,1,2,7],[]),(2,[0,1,2,7,15],[]),(3,[6],[]),(4,[0,2,8],[]),(5,[0,2,8,22],[]),(6,[6],[]),(7,[0,2,34],[]),(8,[6],[]),(9,[0,2,9],[]),(10,[54],[]),(11,[6],[]),(12,[6],[])],rets:=some ([6],[])} Try.func18 (by kernel_rfl)
@[go_sem] def d18:s18.g=18/\s18.fs=⟨[.ro 1,.ro 1,.ro 1],s18.F,false⟩:=⟨nr rfl,nr rfl⟩
@[go_sem] def e18(q4 q5 q6:Int)(bMarks:List XQ)(q7 q0 q1 q2 q3 now:Int)(h0:(Breaker.mk q4 q5 q6 bMarks).Marks.length<=1048576):s18.F [.pr [.i .i64 q4,.i .i64 q5,.i .i64 q6,.sl .ro 2 (bMarks.map (Xb .ro))],.pr [.i .i64 q7,.i .i64 q0,.i .i64 q1,.i .i64 q2,.i .i64 q3],.i .i64 now]=some (.i .i64 (XD (Breaker.mk q4 q5 q6 bMarks) (Xf.mk q7 q0 q1 q2 q3) now),[.u,.u,.u]):=Xy (0) rfl rfl (λcx h=>by
 simp only[XD]
 by_cases c1:Xd (Breaker.mk q4 q5 q6 bMarks)=0
 ·by_cases c2:Xr (Xf.mk q7 q0 q1 q2 q3)=0
  ·have hl:=Xd0 (ms:=bMarks) now (Xn c1).2.2.2.2.2.1
   rcases Nat.eq_zero_or_pos bMarks.length with hp | hp
   ·have hp0:¬(0:Int)<(bMarks.length:Int):=by omega
    have hl2:(bMarks.any λx=>decide (now<x.At))=false:=by rw[List.length_eq_zero_iff.1 hp]; rfl
    simp only[go_sem,reduceIte,↓reduceIte,reduceCtorEq,nA,nS,nM,nB,nE,nL,nT,nN,iL,iT,iE,iA,iM,iS,iG,iB,iN,iZ,h,h0,c1,c2,hp0,hl2]
    cases XF now<;>by_cases d1:now<q5<;>simp[d1]
   ·have hp1:(0:Int)<(bMarks.length:Int):=by omega
    have w1:(IntKind.i64).wrap ((bMarks.length:Int)-1)=((bMarks.length-1:Nat):Int):=by rw[Xv (by have:=h0; simp only at this; omega) (by have:=h0; simp only at this; omega)]; omega
    rw[Xel hp] at hl
    have hk:bMarks.length-1<bMarks.length:=by omega
    simp only[go_sem,reduceIte,↓reduceIte,reduceCtorEq,nA,nS,nM,nB,nE,nL,nT,nN,iL,iT,iE,iA,iM,iS,iG,iB,iN,iZ,h,h0,c1,c2,hp1,w1,Yg _ _ hk,YN (Xb .ro) bMarks _ hk,hl]
    cases XF now<;>by_cases d1:now<q5<;>by_cases d2:now<bMarks[bMarks.length-1].At<;>simp[d1,d2]
  ·have c2':(Xr (Xf.mk q7 q0 q1 q2 q3) !=0)=true:=by simpa using c2
   simp only[go_sem,reduceIte,↓reduceIte,reduceCtorEq,nA,nS,nM,nB,nE,nL,nT,nN,iL,iT,iE,iA,iM,iS,iG,iB,iN,iZ,h,h0,c1,c2,c2']
 ·have c1':(Xd (Breaker.mk q4 q5 q6 bMarks) !=0)=true:=by simpa using c1
  simp only[go_sem,reduceIte,↓reduceIte,reduceCtorEq,nA,nS,nM,nB,nE,nL,nT,nN,iL,iT,iE,iA,iM,iS,iG,iB,iN,iZ,h,h0,c1,c1']) (rfl)
end
end Go.Vm.A
