/- Functions of the program, walked by the evaluator. -/
import Derived.Test.YtebnbhjcfanddaaDoorWb
import Derived.Test.YtebnbhjcfanddaaDoorWa
import Derived.Test.YtebnbhjcfanddaaDoorFa
set_option linter.unusedVariables false
set_option linter.unusedSimpArgs false
set_option autoImplicit false
set_option maxRecDepth 100000
set_option maxHeartbeats 4000000
set_option linter.defProp false
namespace Go.Vm.A
open Go.Proofs
open Nat renaming reduceAdd -> nA, reduceSub -> nS, reduceMul -> nM, reduceBEq -> nB, reduceEqDiff -> nE, reduceLeDiff -> nL, reduceLT -> nT, reduceBneDiff -> nN
open Int renaming reduceLE -> iL, reduceLT -> iT, reduceEq -> iE, reduceAdd -> iA, reduceMul -> iM, reduceSub -> iS, reduceNeg -> iG, reduceBEq -> iB, reduceBNe -> iN, reduceToNat -> iZ
noncomputable section
def s12:SP Tryd.prog:=mkS tyA 12 Tryd.f12 [s32] {md:=[.ro 1],rg:=[(0,[1,2],[1,2]),(1,[2,3,4],[2]),(2,[2,3,10],[2]),(3,[2],[2]),(4,[2],[2])],rets:=some ([2],[2]),al:=[5],fz:=[1]} Tryd.func12 (by kernel_rfl)
@[go_sem] def d12:s12.g=12/\s12.fs=⟨[.ro 1],s12.F,false⟩:=⟨nr rfl,nr rfl⟩
@[go_sem] def e12(y0 oId:Int)(y1:ByteArray)(y2:Int)(y3:List Xj)(y4:List UInt8)(y5 y6 y7:ByteArray)(oRequestHeaders:List Xj)(h0:Xe3 (Out.mk y0 oId y1 (Response.mk y2 y3 y4) (Request.mk y5 y6 y7 oRequestHeaders))):s12.F [.agg [.i .i64 y0,.i .i64 oId,.s y1,.i .i64 y2,.sl .ro 2 (y3.map (Xc .ro)),.sl .ro 1 (y4.map XH),.s y5,.s y6,.s y7,.sl .ro 2 (oRequestHeaders.map (Xc .ro))]]=some (.agg (Yz .mut (X4 (Out.mk y0 oId y1 (Response.mk y2 y3 y4) (Request.mk y5 y6 y7 oRequestHeaders)))),[.u]):=XI (0) rfl rfl (λcx h=>by
 rcases Bool.eq_false_or_eq_true (Xcd (Out.mk y0 oId y1 (Response.mk y2 y3 y4) (Request.mk y5 y6 y7 oRequestHeaders))) with c | c
 ·simp only[go_sem,reduceIte,↓reduceIte,reduceCtorEq,nA,nS,nM,nB,nE,nL,nT,nN,iL,iT,iE,iA,iM,iS,iG,iB,iN,iZ,h,h0,c,X4]
 ·cases d:y0==1<;>simp only[go_sem,reduceIte,↓reduceIte,reduceCtorEq,nA,nS,nM,nB,nE,nL,nT,nN,iL,iT,iE,iA,iM,iS,iG,iB,iN,iZ,h,h0,c,d,X4]) (by simp only[go_sem,reduceIte,↓reduceIte,reduceCtorEq,nA,nS,nM,nB,nE,nL,nT,nN,iL,iT,iE,iA,iM,iS,iG,iB,iN,iZ,QP,XG,XX,XV])
def s70:SP Tryd.prog:=mkS tyA 70 Tryd.f70 [] {md:=[.ro 1],rg:=[(0,[1,2],[1,2,3]),(1,[1,2,3],[1,2,3]),(2,[1,2,3],[1,2,3]),(3,[2,3],[2,3]),(4,[2],[2,3])],rets:=some ([2],[2,3])} Tryd.func70 (by kernel_rfl)
@[go_sem] def d70:s70.g=70/\s70.fs=⟨[.ro 1],s70.F,false⟩:=⟨nr rfl,nr rfl⟩
@[go_sem] def e70(y8 y9:ByteArray)(h0:XW (Xj.mk y8 y9)):s70.F [.agg [.s y8,.s y9]]=some (.agg (Xc .mut (Xj.mk y8 y9)),[.u]):=XI (0) rfl rfl (λcx h=>by
 obtain⟨q0,q1⟩:=h0
 simp only[go_sem,reduceIte,↓reduceIte,reduceCtorEq,nA,nS,nM,nB,nE,nL,nT,nN,iL,iT,iE,iA,iM,iS,iG,iB,iN,iZ,h,q0,q1]) (by simp only[go_sem,reduceIte,↓reduceIte,reduceCtorEq,nA,nS,nM,nB,nE,nL,nT,nN,iL,iT,iE,iA,iM,iS,iG,iB,iN,iZ,QP,XG,XX,XV])
def s43:SP Tryd.prog:=mkS tyA 43 Tryd.f43 [s70] {md:=[.ro 1],rg:=[(0,[0],[]),(1,[0,3],[]),(2,[0,3,4],[]),(3,[0,3,4,11],[]),(4,[0,3,4],[]),(5,[0,3,4],[]),(6,[2],[])],lv:=[(0,[0,3,4],[])],out:=[(0,[3],[])],rets:=some ([2],[])} Tryd.func43 (by kernel_rfl)
@[go_sem] def d43:s43.g=43/\s43.fs=⟨[.ro 1],s43.F,false⟩:=⟨nr rfl,nr rfl⟩
@[go_sem] def e43(xs:List Xj)(h0:smL XW xs):s43.F [.sl .ro 2 (xs.map (Xc .ro))]=some (.sl .mut 2 (xs.map (Xc .mut)),[.u]):=XI (xs.length+1) rfl rfl (λcx h=>by
 have hb:=YW Tryd.f43 0 _ _ rfl rfl
 have hx:=h0.1
 have c1:((xs.length:Int)*(32:Nat)<=140737488355328):=by omega
 have c2:0<=(xs.length:Int):=by omega
 have hr:=(Zf (cx:=cx) (blk:=0) (body:=UL Tryd.f43 0) xs (λk (_:Unit)=>⟨E [(0,.sl .ro 2 (xs.map (Xc .ro))),(3,.sl .mut 2 (Y0 (Xc .mut) [.s ⟨#[]⟩,.s ⟨#[]⟩] xs k)),(4,.i .i64 k)],B []⟩) (λ_=>⟨E [(3,.sl .mut 2 (xs.map (Xc .mut)))],B []⟩) (λ_ _=>()) (λ_ _=>True)
  (λl _ G=>by simp only[go_sem,reduceIte,↓reduceIte,reduceCtorEq,nA,nS,nM,nB,nE,nL,nT,nN,iL,iT,iE,iA,iM,iS,iG,iB,iN,iZ,h,Int.lt_irrefl,hb,XbE]) (λk hk l _=>by
   have h1:((k:Int)<(xs.length:Int)):=Int.ofNat_lt.2 hk
   have h2:=h0.2 _ (List.getElem_mem hk)
   have h3:(Y0 (Xc .mut) [.s ⟨#[]⟩,.s ⟨#[]⟩] xs k).set k [.s xs[k].Name,.s xs[k].Value]=Y0 (Xc .mut) [.s ⟨#[]⟩,.s ⟨#[]⟩] xs (k+1):=XbG (Xc .mut) [.s ⟨#[]⟩,.s ⟨#[]⟩] xs k hk
   exact⟨trivial,_,λG=>by simp only[go_sem,reduceIte,↓reduceIte,reduceCtorEq,nA,nS,nM,nB,nE,nL,nT,nN,iL,iT,iE,iA,iM,iS,iG,iB,iN,iZ,h,h2,h3,Zp (Xc .ro) xs k hk,UO (Xc .mut) [.s ⟨#[]⟩,.s ⟨#[]⟩] xs k hk,XaO (Xc .mut) [.s ⟨#[]⟩,.s ⟨#[]⟩] xs k hk,XbF (Xc .mut) [.s ⟨#[]⟩,.s ⟨#[]⟩] xs k (Nat.le_of_lt hk),h1,YN _ _ hk,X7 (show k<9223372036854775807 by omega),hb]<;>with_reducible rfl,by simp only[go_sem,reduceIte,↓reduceIte,reduceCtorEq,nA,nS,nM,nB,nE,nL,nT,nN,iL,iT,iE,iA,iM,iS,iG,iB,iN,iZ,h]⟩) () trivial (xs.length+1) (Nat.le_refl _)).2
 rw[hb] at hr
 simp only[go_sem,reduceIte,↓reduceIte,reduceCtorEq,nA,nS,nM,nB,nE,nL,nT,nN,iL,iT,iE,iA,iM,iS,iG,iB,iN,iZ,h,c1,c2,Int.toNat_natCast,XaN (Xc .mut) [.s ⟨#[]⟩,.s ⟨#[]⟩],hr]) (by simp only[go_sem,reduceIte,↓reduceIte,reduceCtorEq,nA,nS,nM,nB,nE,nL,nT,nN,iL,iT,iE,iA,iM,iS,iG,iB,iN,iZ,QP,XG])
def s44:SP Tryd.prog:=mkS tyA 44 Tryd.f44 [] {md:=[.ro 1],rg:=[(0,[0],[]),(1,[0,3],[]),(2,[0,3,4],[]),(3,[0,3,4,11],[]),(4,[0,3,4],[]),(5,[0,3,4],[]),(6,[2],[])],lv:=[(0,[0,3,4],[])],out:=[(0,[3],[])],rets:=some ([2],[])} Tryd.func44 (by kernel_rfl)
@[go_sem] def d44:s44.g=44/\s44.fs=⟨[.ro 1],s44.F,false⟩:=⟨nr rfl,nr rfl⟩
@[go_sem] def e44(xs:List UInt8)(h0:smL Xea xs):s44.F [.sl .ro 1 (xs.map XH)]=some (.sl .mut 1 (xs.map XH),[.u]):=XI (xs.length+1) rfl rfl (λcx h=>by
 have hb:=YW Tryd.f44 0 _ _ rfl rfl
 have hx:=h0.1
 have c1:((xs.length:Int)*1<=140737488355328):=by omega
 have c2:0<=(xs.length:Int):=by omega
 have hr:=(Zf (cx:=cx) (blk:=0) (body:=UL Tryd.f44 0) xs (λk (_:Unit)=>⟨E [(0,.sl .ro 1 (xs.map XH)),(3,.sl .mut 1 (Y0 XH [.i .u8 0] xs k)),(4,.i .i64 k)],B []⟩) (λ_=>⟨E [(3,.sl .mut 1 (xs.map XH))],B []⟩) (λ_ _=>()) (λ_ _=>True)
  (λl _ G=>by simp only[go_sem,reduceIte,↓reduceIte,reduceCtorEq,nA,nS,nM,nB,nE,nL,nT,nN,iL,iT,iE,iA,iM,iS,iG,iB,iN,iZ,h,Int.lt_irrefl,hb,XbE]) (λk hk l _=>by
   have h1:((k:Int)<(xs.length:Int)):=Int.ofNat_lt.2 hk
   have h2:=h0.2 _ (List.getElem_mem hk)
   have h3:(Y0 XH [.i .u8 0] xs k).set k [.i .u8 xs[k].toNat]=Y0 XH [.i .u8 0] xs (k+1):=XbG XH [.i .u8 0] xs k hk
   exact⟨trivial,_,λG=>by simp only[go_sem,reduceIte,↓reduceIte,reduceCtorEq,nA,nS,nM,nB,nE,nL,nT,nN,iL,iT,iE,iA,iM,iS,iG,iB,iN,iZ,h,h2,h3,Zp XH xs k hk,UO XH [.i .u8 0] xs k hk,XaO XH [.i .u8 0] xs k hk,XbF XH [.i .u8 0] xs k (Nat.le_of_lt hk),h1,YN _ _ hk,X7 (show k<9223372036854775807 by omega),hb]<;>with_reducible rfl,by simp only[go_sem,reduceIte,↓reduceIte,reduceCtorEq,nA,nS,nM,nB,nE,nL,nT,nN,iL,iT,iE,iA,iM,iS,iG,iB,iN,iZ,h]⟩) () trivial (xs.length+1) (Nat.le_refl _)).2
 rw[hb] at hr
 simp only[go_sem,reduceIte,↓reduceIte,reduceCtorEq,nA,nS,nM,nB,nE,nL,nT,nN,iL,iT,iE,iA,iM,iS,iG,iB,iN,iZ,h,c1,c2,Int.toNat_natCast,XaN XH [.i .u8 0],hr]) (by simp only[go_sem,reduceIte,↓reduceIte,reduceCtorEq,nA,nS,nM,nB,nE,nL,nT,nN,iL,iT,iE,iA,iM,iS,iG,iB,iN,iZ,QP,XG])
def s19:SP Tryd.prog:=mkS tyA 19 Tryd.f19 [s43,s44] {md:=[.ro 1],rg:=[(0,[1,2],[1,2,3]),(1,[1,2,3],[1,2,3]),(2,[1,2,3],[1,2,3]),(3,[1,2,3],[1,2,3]),(4,[2,3],[2,3]),(5,[2],[2,3])],rets:=some ([2],[2,3])} Tryd.func19 (by kernel_rfl)
@[go_sem] def d19:s19.g=19/\s19.fs=⟨[.ro 1],s19.F,false⟩:=⟨nr rfl,nr rfl⟩
@[go_sem] def e19(y10:Int)(y11:List Xj)(y12:List UInt8)(h0:QO (Response.mk y10 y11 y12)):s19.F [.agg [.i .i64 y10,.sl .ro 2 (y11.map (Xc .ro)),.sl .ro 1 (y12.map XH)]]=some (.agg (ZJ .mut (Response.mk y10 y11 y12)),[.u]):=XI (0) rfl rfl (λcx h=>by
 obtain⟨q0,q1,q2⟩:=h0
 simp only[go_sem,reduceIte,↓reduceIte,reduceCtorEq,nA,nS,nM,nB,nE,nL,nT,nN,iL,iT,iE,iA,iM,iS,iG,iB,iN,iZ,h,q0,q1,q2]) (by simp only[go_sem,reduceIte,↓reduceIte,reduceCtorEq,nA,nS,nM,nB,nE,nL,nT,nN,iL,iT,iE,iA,iM,iS,iG,iB,iN,iZ,QP,XG,XX,XV])
def s33:SP Tryd.prog:=mkS tyA 33 Tryd.f33 [s43] {md:=[.ro 1],rg:=[(0,[1,2],[1,2,3]),(1,[1,2,3],[1,2,3]),(2,[1,2,3],[1,2,3]),(3,[1,2,3],[1,2,3]),(4,[1,2,3],[1,2,3]),(5,[2,3],[2,3]),(6,[2],[2,3])],rets:=some ([2],[2,3])} Tryd.func33 (by kernel_rfl)
@[go_sem] def d33:s33.g=33/\s33.fs=⟨[.ro 1],s33.F,false⟩:=⟨nr rfl,nr rfl⟩
@[go_sem] def e33(y13 y14 y15:ByteArray)(y11:List Xj)(h0:Ut (Request.mk y13 y14 y15 y11)):s33.F [.agg [.s y13,.s y14,.s y15,.sl .ro 2 (y11.map (Xc .ro))]]=some (.agg (Ql .mut (Request.mk y13 y14 y15 y11)),[.u]):=XI (0) rfl rfl (λcx h=>by
 obtain⟨q0,q1,q2,q3⟩:=h0
 simp only[go_sem,reduceIte,↓reduceIte,reduceCtorEq,nA,nS,nM,nB,nE,nL,nT,nN,iL,iT,iE,iA,iM,iS,iG,iB,iN,iZ,h,q0,q1,q2,q3]) (by simp only[go_sem,reduceIte,↓reduceIte,reduceCtorEq,nA,nS,nM,nB,nE,nL,nT,nN,iL,iT,iE,iA,iM,iS,iG,iB,iN,iZ,QP,XG,XX,XV])
def s13:SP Tryd.prog:=mkS tyA 13 Tryd.f13 [s19,s33] {md:=[.ro 1],rg:=[(0,[1,2],[1,2,3]),(1,[1,2,3],[1,2,3]),(2,[1,2,3],[1,2,3]),(3,[1,2,3],[1,2,3]),(4,[1,2,3],[1,2,3]),(5,[1,2,3],[1,2,3]),(6,[2,3],[2,3]),(7,[2],[2,3])],rets:=some ([2],[2,3])} Tryd.func13 (by kernel_rfl)
@[go_sem] def d13:s13.g=13/\s13.fs=⟨[.ro 1],s13.F,false⟩:=⟨nr rfl,nr rfl⟩
@[go_sem] def e13(y16 xId:Int)(y17:ByteArray)(y18:Int)(y19:List Xj)(y20:List UInt8)(y21 y22 y23:ByteArray)(y24:List Xj)(h0:Xe3 (Out.mk y16 xId y17 (Response.mk y18 y19 y20) (Request.mk y21 y22 y23 y24))):s13.F [.agg [.i .i64 y16,.i .i64 xId,.s y17,.i .i64 y18,.sl .ro 2 (y19.map (Xc .ro)),.sl .ro 1 (y20.map XH),.s y21,.s y22,.s y23,.sl .ro 2 (y24.map (Xc .ro))]]=some (.agg (Xig .mut (Out.mk y16 xId y17 (Response.mk y18 y19 y20) (Request.mk y21 y22 y23 y24))),[.u]):=XI (0) rfl rfl (λcx h=>by
 obtain⟨q0,q1,q2,q3,q4⟩:=h0
 simp only[go_sem,reduceIte,↓reduceIte,reduceCtorEq,nA,nS,nM,nB,nE,nL,nT,nN,iL,iT,iE,iA,iM,iS,iG,iB,iN,iZ,h,q0,q1,q2,q3,q4]) (by simp only[go_sem,reduceIte,↓reduceIte,reduceCtorEq,nA,nS,nM,nB,nE,nL,nT,nN,iL,iT,iE,iA,iM,iS,iG,iB,iN,iZ,QP,XG,XX,XV])
def s35:SP Tryd.prog:=mkS tyA 35 Tryd.f35 [] {md:=[.ro 1,.ro 1,.ro 1],rets:=some ([6],[])} Tryd.func35 (by kernel_rfl)
@[go_sem] def d35:s35.g=35/\s35.fs=⟨[.ro 1,.ro 1,.ro 1],s35.F,false⟩:=⟨nr rfl,nr rfl⟩
@[go_sem] def e35(a b c:Int):s35.F [.i .i64 a,.i .i64 b,.i .i64 c]=some (.b (within a b c),[.u,.u,.u]):=XI (0) rfl rfl (λcx h=>by
 simp only[go_sem,reduceIte,↓reduceIte,reduceCtorEq,nA,nS,nM,nB,nE,nL,nT,nN,iL,iT,iE,iA,iM,iS,iG,iB,iN,iZ,h,within]
 by_cases h:b<=a<;>simp[h]) (rfl)
def s34:SP Tryd.prog:=mkS tyA 34 Tryd.f34 [s35] {md:=[.ro 1],rets:=some ([2],[])} Tryd.func34 (by kernel_rfl)
@[go_sem] def d34:s34.g=34/\s34.fs=⟨[.ro 1],s34.F,false⟩:=⟨nr rfl,nr rfl⟩
@[go_sem] def e34(a:Int):s34.F [.i .i64 a]=some (.b (QQ a),[.u]):=XI (0) rfl rfl (λcx h=>by
 simp only[go_sem,reduceIte,↓reduceIte,reduceCtorEq,nA,nS,nM,nB,nE,nL,nT,nN,iL,iT,iE,iA,iM,iS,iG,iB,iN,iZ,h,QQ]) (rfl)
def s63:SP Tryd.prog:=⟨63,⟨[.ro 1,.ro 1],Xld,false⟩,Xle Tryd.func63 (by kernel_rfl) rfl Xll (λn w h0 h1 ht=>Go.Proofs.Tryd.fmtBelow n w h0 h1 ht)⟩
@[go_sem] def d63:s63.g=63/\s63.fs=⟨[.ro 1,.ro 1],s63.F,false⟩:=⟨nr rfl,nr rfl⟩
@[go_sem] def e63(n:Int)(h0:-9223372036854775808<=n/\n<=9223372036854775807):s63.F [.i .i64 n,.i .i64 10]=some (.s (YZ n),[.u,.u]):=by
 show Xld [.i .i64 n,.i .i64 10]=_
 rw[Xj8]
 exact if_pos h0
def s36:SP Tryd.prog:=mkS tyA 36 Tryd.f36 [s63] {md:=[.ro 1],rets:=some ([2],[])} Tryd.func36 (by kernel_rfl)
@[go_sem] def d36:s36.g=36/\s36.fs=⟨[.ro 1],s36.F,false⟩:=⟨nr rfl,nr rfl⟩
@[go_sem] def e36(k:Int)(h0:(-9223372036854775808<=k/\k<=9223372036854775807)):s36.F [.i .i64 k]=some (.s (YZ k),[.u]):=XI (0) rfl rfl (λcx h=>by
 simp only[go_sem,reduceIte,↓reduceIte,reduceCtorEq,nA,nS,nM,nB,nE,nL,nT,nN,iL,iT,iE,iA,iM,iS,iG,iB,iN,iZ,h,h0]) (rfl)
def s89:SP Tryd.prog:=mkS tyA 89 Tryd.f89 [] {md:=[.ro 1],rg:=[(0,[0],[]),(1,[3],[]),(2,[3,8,9,10],[]),(3,[3,8,9,10,11],[]),(4,[3,4,5,8,9,10],[]),(5,[3,4,5,8,9,10,20],[]),(6,[3,8,9,10],[]),(7,[3,8,9,10],[]),(8,[2],[])],lv:=[(0,[3,8,9,10],[])],out:=[(0,[3],[])],rets:=some ([2],[])} Tryd.func89 (by kernel_rfl)
@[go_sem] def d89:s89.g=89/\s89.fs=⟨[.ro 1],s89.F,false⟩:=⟨nr rfl,nr rfl⟩
@[go_sem] def e89(t:ByteArray)(h0:t.size<=9223372036854775806):s89.F [.s t]=some (.s (QG t),[.u]):=XI (t.data.toList.length+1) rfl rfl (λcx h=>by
 have hz:t.data.toList.length<=9223372036854775807:=by rw[<-QF]; omega
 have hx:t.data.toList.length<=9223372036854775806:=by rw[<-QF]; exact h0
 have hb0:=YW Tryd.f89 0 _ _ rfl rfl
 obtain⟨hI,hr⟩:=Zf (cx:=cx) (blk:=0) (body:=UL Tryd.f89 0) t.data.toList (λk (s:Unit)=>⟨E [(3,.sl .mut 1 ((Y1 t.data.toList k).map XH)),(8,.rf ⟨true,3,[],0⟩ 1 0 t.data.toList.length),(9,.i .i64 t.data.toList.length),(10,.i .i64 k)],B []⟩) (λs=>⟨E [(3,.sl .mut 1 ((t.data.toList.map Xc1).map XH))],B []⟩) (λx s=>s) (λk s=>True)
   (λs hI G=>by simp only[go_sem,reduceIte,↓reduceIte,reduceCtorEq,nA,nS,nM,nB,nE,nL,nT,nN,iL,iT,iE,iA,iM,iS,iG,iB,iN,iZ,h,Int.lt_irrefl,hb0,Q2 t.data.toList t.data.toList.length (Nat.le_refl _),Xca t.data.toList,List.length_map]) (λk hk s hI=>by
    have h1:((k:Int)<(t.data.toList.length:Int)):=Int.ofNat_lt.2 hk
    have g1:=XdR t.data.toList k hk
    have g2:=Xfc t.data.toList k hk
    have g3:=Q2 t.data.toList k (Nat.le_of_lt hk)
    have g4:(List.take t.data.toList.length ((Y1 t.data.toList k).map XH))=(Y1 t.data.toList k).map XH:=List.take_of_length_le (by rw[List.length_map,g3]; exact Nat.le_refl _)
    rcases Xfe t.data.toList k hk with⟨a1,a2,w1,w2,hs,hv⟩ | ⟨a1,a2,w1,w2,hs,hv⟩ | ⟨a1,a2,w1,w2,hs,hv⟩
    all_goals exact⟨trivial,_,λG=>by simp only[go_sem,reduceIte,↓reduceIte,reduceCtorEq,nA,nS,nM,nB,nE,nL,nT,nN,iL,iT,iE,iA,iM,iS,iG,iB,iN,iZ,h,g1,g2,g3,g4,a1,a2,w1,w2,hs,List.length_map,h1,YN _ _ hk,X7 (show k<9223372036854775807 by omega),hb0]<;>with_reducible rfl,by simp only[go_sem,reduceIte,↓reduceIte,reduceCtorEq,nA,nS,nM,nB,nE,nL,nT,nN,iL,iT,iE,iA,iM,iS,iG,iB,iN,iZ,h,hv]⟩) () trivial (t.data.toList.length+1) (Nat.le_refl _)
 rw[hb0] at hr
 rw[Xa7] at hr
 simp only[go_sem,reduceIte,↓reduceIte,reduceCtorEq,nA,nS,nM,nB,nE,nL,nT,nN,iL,iT,iE,iA,iM,iS,iG,iB,iN,iZ,h,hz,hr,QF t,QG]) (rfl)
def s75:SP Tryd.prog:=mkS tyA 75 Tryd.f75 [s89] {md:=[.ro 1,.ro 1],rets:=some ([4],[])} Tryd.func75 (by kernel_rfl)
@[go_sem] def d75:s75.g=75/\s75.fs=⟨[.ro 1,.ro 1],s75.F,false⟩:=⟨nr rfl,nr rfl⟩
@[go_sem] def e75(a b:ByteArray)(h0:(a.size<=9223372036854775806/\b.size<=9223372036854775806)):s75.F [.s a,.s b]=some (.b (eqv (QG a) (QG b)),[.u,.u]):=XI (0) rfl rfl (λcx h=>by
 simp only[go_sem,reduceIte,↓reduceIte,reduceCtorEq,nA,nS,nM,nB,nE,nL,nT,nN,iL,iT,iE,iA,iM,iS,iG,iB,iN,iZ,h,h0.1,h0.2,Zg]) (rfl)
def s64:SP Tryd.prog:=mkS tyA 64 Tryd.f64 [s75] {md:=[.ro 1,.ro 1],rg:=[(0,[0,1],[]),(1,[0,1,5],[]),(2,[0,1,5,9,10,11],[]),(3,[0,1,5,9,10,11,12],[]),(4,[0,1,5,7,9,10,11],[7]),(5,[0,1,5,7,9,10,11,18],[7]),(6,[0,1,5,9,10,11],[]),(7,[0,1,5,9,10,11],[]),(8,[4],[])],lv:=[(0,[0,1,5,9,10,11],[])],out:=[(0,[5],[])],rets:=some ([4],[])} Tryd.func64 (by kernel_rfl)
@[go_sem] def d64:s64.g=64/\s64.fs=⟨[.ro 1,.ro 1],s64.F,false⟩:=⟨nr rfl,nr rfl⟩
@[go_sem] def e64(hs:List Xj)(name:ByteArray)(h0:(hs.length<=20/\smL XW hs/\okN name=true)):s64.F [.sl .ro 2 (hs.map (Xc .ro)),.s name]=some (.sl .mut 1 ((ZT hs name).map XbD),[.u,.u]):=XI (hs.length+1) rfl rfl (λcx h=>by
 have hl:=h0.1
 have hx:hs.length<=9223372036854775806:=by omega
 have hb0:=YW Tryd.f64 0 _ _ rfl rfl
 obtain⟨hI,hr⟩:=Zf (cx:=cx) (blk:=0) (body:=UL Tryd.f64 0) hs (λk (s:List ByteArray)=>⟨E [(0,.sl .ro 2 (hs.map (Xc .ro))),(1,.s name),(5,.sl .mut 1 (s.map XbD)),(9,.sl .ro 2 (hs.map (Xc .ro))),(10,.i .i64 hs.length),(11,.i .i64 k)],B []⟩) (λs=>⟨E [(5,.sl .mut 1 (s.map XbD))],B []⟩) (λx s=>(if eqv (QG x.Name) (QG name)=true then s++[x.Value] else s)) (λk s=>s.length<=k)
   (λs hI G=>by simp only[go_sem,reduceIte,↓reduceIte,reduceCtorEq,nA,nS,nM,nB,nE,nL,nT,nN,iL,iT,iE,iA,iM,iS,iG,iB,iN,iZ,h,Int.lt_irrefl,hb0,h0.1]) (λk hk s hI=>by
    have h1:((k:Int)<(hs.length:Int)):=Int.ofNat_lt.2 hk
    have t3:(s.length+1)*16<=140737488355328:=by omega
    have t4:s.map XbD++[[.s hs[k].Value]]=(s++[hs[k].Value]).map XbD:=by simp[XbD]
    obtain⟨u1,u2⟩:=h0.2.1.2 _ (List.getElem_mem hk)
    have n1:hs[k].Name.size<=9223372036854775806/\name.size<=9223372036854775806:=⟨by have:hs[k].Name.size<=1048576:=u1; omega,of_decide_eq_true h0.2.2⟩
    cases d1:eqv (QG hs[k].Name) (QG name)
    all_goals exact⟨by split<;>(try simp only[List.length_append,List.length_cons,List.length_nil])<;>omega,_,λG=>by simp only[go_sem,reduceIte,↓reduceIte,reduceCtorEq,nA,nS,nM,nB,nE,nL,nT,nN,iL,iT,iE,iA,iM,iS,iG,iB,iN,iZ,h,t3,t4,Zp (Xc .ro) hs k hk,n1,d1,h1,YN _ _ hk,X7 (show k<9223372036854775807 by omega),hb0]<;>with_reducible rfl,by simp only[go_sem,reduceIte,↓reduceIte,reduceCtorEq,nA,nS,nM,nB,nE,nL,nT,nN,iL,iT,iE,iA,iM,iS,iG,iB,iN,iZ,h,d1]⟩) [] (by simp) (hs.length+1) (Nat.le_refl _)
 rw[hb0] at hr
 have hff:=XiI (λx:Xj=>eqv (QG x.Name) (QG name)) (λx=>x.Value) hs []
 simp only[List.nil_append] at hff
 rw[hff] at hr
 simp only[go_sem,reduceIte,↓reduceIte,reduceCtorEq,nA,nS,nM,nB,nE,nL,nT,nN,iL,iT,iE,iA,iM,iS,iG,iB,iN,iZ,h,hr,ZT]) (by simp only[go_sem,reduceIte,↓reduceIte,reduceCtorEq,nA,nS,nM,nB,nE,nL,nT,nN,iL,iT,iE,iA,iM,iS,iG,iB,iN,iZ,QP,XG])
def s37:SP Tryd.prog:=mkS tyA 37 Tryd.f37 [s64] {md:=[.ro 1,.ro 1],rg:=[(0,[0,1],[]),(1,[6],[]),(2,[6,12],[]),(3,[4,5],[]),(4,[4,5],[])],rets:=some ([4,5],[])} Tryd.func37 (by kernel_rfl)
@[go_sem] def d37:s37.g=37/\s37.fs=⟨[.ro 1,.ro 1],s37.F,false⟩:=⟨nr rfl,nr rfl⟩
@[go_sem] def e37(hs:List Xj)(name:ByteArray)(h0:(hs.length<=20/\smL XW hs/\okN name=true)):s37.F [.sl .ro 2 (hs.map (Xc .ro)),.s name]=some (.tup [.s (Xbb hs name),.b (U9 hs name)],[.u,.u]):=XI (0) rfl rfl (λcx h=>by
 cases hv:ZT hs name with
 | nil =>
  obtain⟨a1,a2⟩:=Xbc hv
  simp only[go_sem,reduceIte,↓reduceIte,reduceCtorEq,nA,nS,nM,nB,nE,nL,nT,nN,iL,iT,iE,iA,iM,iS,iG,iB,iN,iZ,h,h0,hv,a1,a2]
 | cons v r =>
  obtain⟨a1,a2⟩:=Xag hv
  have a3:(((r.length+1:Nat):Int)==0)=false:=by simp; omega
  have a4:YH (r.length+1) 0=some 0:=YN _ 0 (by omega)
  simp only[go_sem,reduceIte,↓reduceIte,reduceCtorEq,nA,nS,nM,nB,nE,nL,nT,nN,iL,iT,iE,iA,iM,iS,iG,iB,iN,iZ,h,h0,hv,a1,a2,a3,a4]) (rfl)
@[go_sem] def Xne(hs:List Xj)(name:ByteArray)(h0:(hs.length<=1048576/\smL XW hs/\okN name=true)):s64.F [.sl .ro 2 (hs.map (Xc .ro)),.s name]=some (.sl .mut 1 ((ZT hs name).map XbD),[.u,.u]):=XI (hs.length+1) rfl rfl (λcx h=>by
 have hl:=h0.1
 have hx:hs.length<=9223372036854775806:=by omega
 have hb0:=YW Tryd.f64 0 _ _ rfl rfl
 obtain⟨hI,hr⟩:=Zf (cx:=cx) (blk:=0) (body:=UL Tryd.f64 0) hs (λk (s:List ByteArray)=>⟨E [(0,.sl .ro 2 (hs.map (Xc .ro))),(1,.s name),(5,.sl .mut 1 (s.map XbD)),(9,.sl .ro 2 (hs.map (Xc .ro))),(10,.i .i64 hs.length),(11,.i .i64 k)],B []⟩) (λs=>⟨E [(5,.sl .mut 1 (s.map XbD))],B []⟩) (λx s=>(if eqv (QG x.Name) (QG name)=true then s++[x.Value] else s)) (λk s=>s.length<=k)
   (λs hI G=>by simp only[go_sem,reduceIte,↓reduceIte,reduceCtorEq,nA,nS,nM,nB,nE,nL,nT,nN,iL,iT,iE,iA,iM,iS,iG,iB,iN,iZ,h,Int.lt_irrefl,hb0,h0.1]) (λk hk s hI=>by
    have h1:((k:Int)<(hs.length:Int)):=Int.ofNat_lt.2 hk
    have t3:(s.length+1)*16<=140737488355328:=by omega
    have t4:s.map XbD++[[.s hs[k].Value]]=(s++[hs[k].Value]).map XbD:=by simp[XbD]
    obtain⟨u1,u2⟩:=h0.2.1.2 _ (List.getElem_mem hk)
    have n1:hs[k].Name.size<=9223372036854775806/\name.size<=9223372036854775806:=⟨by have:hs[k].Name.size<=1048576:=u1; omega,of_decide_eq_true h0.2.2⟩
    cases d1:eqv (QG hs[k].Name) (QG name)
    all_goals exact⟨by split<;>(try simp only[List.length_append,List.length_cons,List.length_nil])<;>omega,_,λG=>by simp only[go_sem,reduceIte,↓reduceIte,reduceCtorEq,nA,nS,nM,nB,nE,nL,nT,nN,iL,iT,iE,iA,iM,iS,iG,iB,iN,iZ,h,t3,t4,Zp (Xc .ro) hs k hk,n1,d1,h1,YN _ _ hk,X7 (show k<9223372036854775807 by omega),hb0]<;>with_reducible rfl,by simp only[go_sem,reduceIte,↓reduceIte,reduceCtorEq,nA,nS,nM,nB,nE,nL,nT,nN,iL,iT,iE,iA,iM,iS,iG,iB,iN,iZ,h,d1]⟩) [] (by simp) (hs.length+1) (Nat.le_refl _)
 rw[hb0] at hr
 have hff:=XiI (λx:Xj=>eqv (QG x.Name) (QG name)) (λx=>x.Value) hs []
 simp only[List.nil_append] at hff
 rw[hff] at hr
 simp only[go_sem,reduceIte,↓reduceIte,reduceCtorEq,nA,nS,nM,nB,nE,nL,nT,nN,iL,iT,iE,iA,iM,iS,iG,iB,iN,iZ,h,hr,ZT]) (by simp only[go_sem,reduceIte,↓reduceIte,reduceCtorEq,nA,nS,nM,nB,nE,nL,nT,nN,iL,iT,iE,iA,iM,iS,iG,iB,iN,iZ,QP,XG])
@[go_sem] def Xnf(hs:List Xj)(name:ByteArray)(h0:(hs.length<=1048576/\smL XW hs/\okN name=true)):s37.F [.sl .ro 2 (hs.map (Xc .ro)),.s name]=some (.tup [.s (Xbb hs name),.b (U9 hs name)],[.u,.u]):=XI (0) rfl rfl (λcx h=>by
 cases hv:ZT hs name with
 | nil =>
  obtain⟨a1,a2⟩:=Xbc hv
  simp only[go_sem,reduceIte,↓reduceIte,reduceCtorEq,nA,nS,nM,nB,nE,nL,nT,nN,iL,iT,iE,iA,iM,iS,iG,iB,iN,iZ,h,h0,hv,a1,a2]
 | cons v r =>
  obtain⟨a1,a2⟩:=Xag hv
  have a3:(((r.length+1:Nat):Int)==0)=false:=by simp; omega
  have a4:YH (r.length+1) 0=some 0:=YN _ 0 (by omega)
  simp only[go_sem,reduceIte,↓reduceIte,reduceCtorEq,nA,nS,nM,nB,nE,nL,nT,nN,iL,iT,iE,iA,iM,iS,iG,iB,iN,iZ,h,h0,hv,a1,a2,a3,a4]) (rfl)
def s14:SP Tryd.prog:=mkS tyA 14 Tryd.f14 [s34,s35,s36,s37] {md:=[.ro 1],rg:=[(0,[1,2],[1,2]),(1,[1,2,31],[1,2]),(2,[2],[2]),(3,[1,2,35],[1,2]),(4,[2],[2]),(5,[1,2,3],[1,2]),(6,[2,3,5],[2]),(7,[2,3,78],[2]),(8,[2,3],[2]),(9,[2],[2])],rets:=some ([2],[2]),al:=[71],plan:=[(4,(.take 0 (.take 1 (.take 5 (.take 6 (.take 9 (.take 10 (.take 11 (.take 15 (.take 16 (.take 17 (.take 18 (.one 2 (.take 3 (.take 4 (.take 7 (.take 8 (.one 12 (.take 13 (.take 14 (.one 19 (.take 20 (.take 21 (.one 22 .done)))))))))))))))))))))))),(5,(.take 0 (.take 1 (.take 5 (.take 6 (.take 7 (.take 9 (.take 10 (.take 11 (.one 2 (.take 3 (.take 4 (.take 8 (.take 12 (.one 13 .done)))))))))))))))],fz:=[1]} Tryd.func14 (by kernel_rfl)
@[go_sem] def d14:s14.g=14/\s14.fs=⟨[.ro 1],s14.F,false⟩:=⟨nr rfl,nr rfl⟩
@[go_sem] def e14(y0 oId:Int)(y1:ByteArray)(y2:Int)(y3:List Xj)(y4:List UInt8)(y5 y6 y7:ByteArray)(oRequestHeaders:List Xj)(h0:Xe3 (Out.mk y0 oId y1 (Response.mk y2 y3 y4) (Request.mk y5 y6 y7 oRequestHeaders))):s14.F [.agg [.i .i64 y0,.i .i64 oId,.s y1,.i .i64 y2,.sl .ro 2 (y3.map (Xc .ro)),.sl .ro 1 (y4.map XH),.s y5,.s y6,.s y7,.sl .ro 2 (oRequestHeaders.map (Xc .ro))]]=some (.agg (Yz .mut (X4 (Out.mk y0 oId y1 (Response.mk y2 y3 y4) (Request.mk y5 y6 y7 oRequestHeaders)))),[.u]):=XI (0) rfl rfl (λcx h=>by
 have hS:y1.size<=1048576:=h0.2.2.1
 have hH:y6.size<=1048576:=h0.2.2.2.2.2.1
 have hP:y7.size<=1048576:=h0.2.2.2.2.2.2.1
 have hR:smL XW oRequestHeaders:=h0.2.2.2.2.2.2.2
 have hB:y4.length<=1048576:=h0.2.2.2.1.2.2.1
 have l1:(⟨#[97,110,115,119,101,114,32]⟩:ByteArray).size=7:=rfl
 have l2:(⟨#[32]⟩:ByteArray).size=1:=rfl
 have l3:(⟨#[102,101,116,99,104,32]⟩:ByteArray).size=6:=rfl
 have l4:(⟨#[32,105,102]⟩:ByteArray).size=3:=rfl
 have b1:oRequestHeaders.length<=1048576/\smL XW oRequestHeaders/\okN ⟨#[73,102,45,78,111,110,101,45,77,97,116,99,104]⟩=true:=⟨hR.1,hR,by decide⟩
 have b2:oRequestHeaders.length<=1048576/\smL XW oRequestHeaders/\okN ⟨#[105,102,45,110,111,110,101,45,109,97,116,99,104]⟩=true:=⟨hR.1,hR,by decide⟩
 have lo:U9 oRequestHeaders ⟨#[105,102,45,110,111,110,101,45,109,97,116,99,104]⟩=U9 oRequestHeaders ⟨#[73,102,45,78,111,110,101,45,77,97,116,99,104]⟩:=XdS (by rfl) _
 have hob:Xcd (Out.mk y0 oId y1 (Response.mk y2 y3 y4) (Request.mk y5 y6 y7 oRequestHeaders))=((y0 !=1&&y0 !=2)||!QQ oId||(y0==1&&!within y2 0 999)):=rfl
 rcases Bool.eq_false_or_eq_true (QQ oId) with t1 | t1
 rotate_left
 ·by_cases k1:y0=1
  ·have k1e:(y0==1)=true:=by simpa using k1
   have k1n:(y0 !=1)=false:=by simpa using k1
   simp only[go_sem,reduceIte,↓reduceIte,reduceCtorEq,nA,nS,nM,nB,nE,nL,nT,nN,iL,iT,iE,iA,iM,iS,iG,iB,iN,iZ,h,t1,k1e,k1n,hob,X4,Yu,Yv]
  have k1e:(y0==1)=false:=by simpa using k1
  have k1n:(y0 !=1)=true:=by simpa using k1
  by_cases k2:y0=2
  ·have k2e:(y0==2)=true:=by simpa using k2
   have k2n:(y0 !=2)=false:=by simpa using k2
   simp only[go_sem,reduceIte,↓reduceIte,reduceCtorEq,nA,nS,nM,nB,nE,nL,nT,nN,iL,iT,iE,iA,iM,iS,iG,iB,iN,iZ,h,t1,k1e,k1n,k2e,k2n,hob,X4,Yu,Yv]
  ·have k2e:(y0==2)=false:=by simpa using k2
   have k2n:(y0 !=2)=true:=by simpa using k2
   simp only[go_sem,reduceIte,↓reduceIte,reduceCtorEq,nA,nS,nM,nB,nE,nL,nT,nN,iL,iT,iE,iA,iM,iS,iG,iB,iN,iZ,h,t1,k1e,k1n,k2e,k2n,hob,X4,Yu,Yv]
 have i1:=XdP.1 t1
 have i2:0<=oId/\oId<=1000000000000000000:=by omega
 have i3:-9223372036854775808<=oId/\oId<=9223372036854775807:=by omega
 have z1:=Xbd i2.1 i2.2
 by_cases k1:y0=1
 ·have k1e:(y0==1)=true:=by simpa using k1
  have k1n:(y0 !=1)=false:=by simpa using k1
  rcases Bool.eq_false_or_eq_true (within y2 0 999) with w1 | w1
  rotate_left
  ·simp only[go_sem,reduceIte,↓reduceIte,reduceCtorEq,nA,nS,nM,nB,nE,nL,nT,nN,iL,iT,iE,iA,iM,iS,iG,iB,iN,iZ,h,t1,k1e,k1n,w1,hob,X4,Yu,Yv]
  have j1:=XbH.1 w1
  have j2:0<=y2/\y2<=1000000000000000000:=by omega
  have j3:-9223372036854775808<=y2/\y2<=9223372036854775807:=by omega
  have z2:=Xbd j2.1 j2.2
  have m2:(0:Int)<=(y4.length:Int)/\(y4.length:Int)<=1000000000000000000:=by omega
  have m3:-9223372036854775808<=(y4.length:Int)/\(y4.length:Int)<=9223372036854775807:=by omega
  have z3:=Xbd m2.1 m2.2
  have p1:7+(YZ oId).size<=9223372036854775807:=by omega
  have p2:7+(YZ oId).size+1<=9223372036854775807:=by omega
  have p3:7+(YZ oId).size+1+y1.size<=9223372036854775807:=by omega
  have p4:7+(YZ oId).size+1+y1.size+1<=9223372036854775807:=by omega
  have p5:7+(YZ oId).size+1+y1.size+1+(YZ y2).size<=9223372036854775807:=by omega
  have p6:7+(YZ oId).size+1+y1.size+1+(YZ y2).size+1<=9223372036854775807:=by omega
  have p7:7+(YZ oId).size+1+y1.size+1+(YZ y2).size+1+(YZ (y4.length:Int)).size<=9223372036854775807:=by omega
  simp only[go_sem,reduceIte,↓reduceIte,reduceCtorEq,nA,nS,nM,nB,nE,nL,nT,nN,iL,iT,iE,iA,iM,iS,iG,iB,iN,iZ,h,t1,k1e,k1n,w1,hob,i2,i3,j2,j3,m2,m3,p1,p2,p3,p4,p5,p6,p7,l1,l2,l3,l4,ByteArray.size_append,X4,Yu,Yv]
 have k1e:(y0==1)=false:=by simpa using k1
 have k1n:(y0 !=1)=true:=by simpa using k1
 by_cases k2:y0=2
 rotate_left
 ·have k2e:(y0==2)=false:=by simpa using k2
  have k2n:(y0 !=2)=true:=by simpa using k2
  simp only[go_sem,reduceIte,↓reduceIte,reduceCtorEq,nA,nS,nM,nB,nE,nL,nT,nN,iL,iT,iE,iA,iM,iS,iG,iB,iN,iZ,h,t1,k1e,k1n,k2e,k2n,hob,X4,Yu,Yv]
 have k2e:(y0==2)=true:=by simpa using k2
 have k2n:(y0 !=2)=false:=by simpa using k2
 have q1:6+(YZ oId).size<=9223372036854775807:=by omega
 have q2:6+(YZ oId).size+1<=9223372036854775807:=by omega
 have q3:6+(YZ oId).size+1+y6.size<=9223372036854775807:=by omega
 have q4:6+(YZ oId).size+1+y6.size+y7.size<=9223372036854775807:=by omega
 have q5:6+(YZ oId).size+1+y6.size+y7.size+3<=9223372036854775807:=by omega
 rcases Bool.eq_false_or_eq_true (U9 oRequestHeaders ⟨#[73,102,45,78,111,110,101,45,77,97,116,99,104]⟩) with v1 | v1
 ·simp only[go_sem,reduceIte,↓reduceIte,reduceCtorEq,nA,nS,nM,nB,nE,nL,nT,nN,iL,iT,iE,iA,iM,iS,iG,iB,iN,iZ,h,t1,k1e,k1n,k2e,k2n,hob,i2,i3,b1,b2,lo,v1,q1,q2,q3,q4,q5,l1,l2,l3,l4,ByteArray.size_append,X4,Yu,Yv]
 ·simp only[go_sem,reduceIte,↓reduceIte,reduceCtorEq,nA,nS,nM,nB,nE,nL,nT,nN,iL,iT,iE,iA,iM,iS,iG,iB,iN,iZ,h,t1,k1e,k1n,k2e,k2n,hob,i2,i3,b1,b2,lo,v1,q1,q2,q3,q4,q5,l1,l2,l3,l4,ByteArray.size_append,X4,Yu,Yv]) (by simp only[go_sem,reduceIte,↓reduceIte,reduceCtorEq,nA,nS,nM,nB,nE,nL,nT,nN,iL,iT,iE,iA,iM,iS,iG,iB,iN,iZ,QP,XG,XX,XV])
def s15:SP Tryd.prog:=mkS tyA 15 Tryd.f15 [] {md:=[.ro 1,.ro 1],rg:=[(0,[2,3],[2,3]),(1,[2,3,9],[2,3]),(2,[4],[]),(3,[14],[]),(4,[4],[]),(5,[4],[])],rets:=some ([4],[])} Tryd.func15 (by kernel_rfl)
@[go_sem] def d15:s15.g=15/\s15.fs=⟨[.ro 1,.ro 1],s15.F,false⟩:=⟨nr rfl,nr rfl⟩
@[go_sem] def e15(y25:Int)(y26:ByteArray)(y27:Int)(y28:ByteArray)(h0:XcY (Xt.mk y25 y26)):s15.F [.agg [.i .i64 y25,.s y26],.agg [.i .i64 y27,.s y28]]=some (.b (eqv (Xt.mk y25 y26) (Xt.mk y27 y28)),[.u,.u]):=XI (0) rfl rfl (λcx h=>by
 obtain⟨q0,q1⟩:=h0
 simp only[go_sem,reduceIte,↓reduceIte,reduceCtorEq,nA,nS,nM,nB,nE,nL,nT,nN,iL,iT,iE,iA,iM,iS,iG,iB,iN,iZ,h,Z1,Zg,ZC,q0,q1]
 simp only[Qj,Q0,Xt.eqv (Xt.mk y25 y26) (Xt.mk y27 y28),Xku,QN,Xe1,Bool.and_true]) (rfl)
def s79:SP Tryd.prog:=mkS tyA 79 Tryd.f79 [] {md:=[.ro 1,.ro 1],rg:=[(0,[2,3],[2,3]),(1,[2,3,9],[2,3]),(2,[4],[]),(3,[14],[]),(4,[4],[]),(5,[4],[])],rets:=some ([4],[])} Tryd.func79 (by kernel_rfl)
@[go_sem] def d79:s79.g=79/\s79.fs=⟨[.ro 1,.ro 1],s79.F,false⟩:=⟨nr rfl,nr rfl⟩
@[go_sem] def e79(y8 y9 y29 y30:ByteArray)(h0:XW (Xj.mk y8 y9)):s79.F [.agg [.s y8,.s y9],.agg [.s y29,.s y30]]=some (.b (eqv (Xj.mk y8 y9) (Xj.mk y29 y30)),[.u,.u]):=XI (0) rfl rfl (λcx h=>by
 obtain⟨q0,q1⟩:=h0
 simp only[go_sem,reduceIte,↓reduceIte,reduceCtorEq,nA,nS,nM,nB,nE,nL,nT,nN,iL,iT,iE,iA,iM,iS,iG,iB,iN,iZ,h,Z1,Zg,ZC,q0,q1]
 simp only[Qj,Q0,Xj.eqv (Xj.mk y8 y9) (Xj.mk y29 y30),Xku,QN,Xe1,Bool.and_true]) (rfl)
def s49:SP Tryd.prog:=mkS tyA 49 Tryd.f49 [s79] {md:=[.ro 1,.ro 1],rg:=[(0,[0,1],[]),(1,[0,1,10],[]),(2,[4],[]),(3,[0,1,5],[]),(4,[0,1,5,14],[]),(5,[0,1,5],[]),(6,[0,1,5,26],[]),(7,[4],[]),(8,[4],[])],lv:=[(0,[0,1,5],[])],out:=[(0,[],[])],rets:=some ([4],[]),plan:=[(6,(.take 0 (.take 1 (.take 2 (.take 3 (.take 4 (.take 5 (.take 6 (.take 7 (.one 8 (.take 9 .done)))))))))))]} Tryd.func49 (by kernel_rfl)
@[go_sem] def d49:s49.g=49/\s49.fs=⟨[.ro 1,.ro 1],s49.F,false⟩:=⟨nr rfl,nr rfl⟩
@[go_sem] def e49(xs ys:List Xj)(h0:smL XW xs):s49.F [.sl .ro 2 (xs.map (Xc .ro)),.sl .ro 2 (ys.map (Xc .ro))]=some (.b (eqv xs ys),[.u,.u]):=XI (xs.length+1) rfl rfl (λcx h=>by
 have hb:=YW Tryd.f49 0 _ _ rfl rfl
 have hx:=h0.1
 by_cases hl:xs.length=ys.length
 ·obtain⟨r,hr,hq⟩:=Uo (cx:=cx) (blk:=0) (body:=UL Tryd.f49 0) (xs.zip ys) (λk (_:Unit)=>⟨E [(0,.sl .ro 2 (xs.map (Xc .ro))),(1,.sl .ro 2 (ys.map (Xc .ro))),(5,.i .i64 k)],B []⟩) (λ_=>⟨E [],B []⟩) (λx _=>!eqv x.1 x.2) (λ_ _=>()) (λ_ _=>(.ret,⟨E [(4,.b false)],B []⟩)) (λ_ _=>True)
   (λl _ G=>by simp only[go_sem,reduceIte,↓reduceIte,reduceCtorEq,nA,nS,nM,nB,nE,nL,nT,nN,iL,iT,iE,iA,iM,iS,iG,iB,iN,iZ,h,UP hl,hl,Int.lt_irrefl,hb]) (λk hk l _=>by
    have hk:k<xs.length:=by rwa [UP hl] at hk
    have h1:((k:Int)<(xs.length:Int)):=Int.ofNat_lt.2 hk
    have h2:=h0.2 _ (List.getElem_mem hk)
    have h3:(xs.zip ys)[k]=(xs[k],ys[k]'(by omega)):=by simp
    rw[h3]
    cases hc:eqv xs[k] (ys[k]'(by omega))
    ·exact .inl ⟨rfl,λG=>by simp only[go_sem,reduceIte,↓reduceIte,reduceCtorEq,nA,nS,nM,nB,nE,nL,nT,nN,iL,iT,iE,iA,iM,iS,iG,iB,iN,iZ,h,hc,Zp (Xc .ro) xs k hk,Zp (Xc .ro) ys k (by omega),YN ys.length k (by omega),h2,h1,YN _ _ hk,X7 (show k<9223372036854775807 by omega),hb]⟩
    ·exact .inr ⟨rfl,trivial,_,λG=>by simp only[go_sem,reduceIte,↓reduceIte,reduceCtorEq,nA,nS,nM,nB,nE,nL,nT,nN,iL,iT,iE,iA,iM,iS,iG,iB,iN,iZ,h,hc,Zp (Xc .ro) xs k hk,Zp (Xc .ro) ys k (by omega),YN ys.length k (by omega),h2,h1,YN _ _ hk,X7 (show k<9223372036854775807 by omega),hb]<;>with_reducible rfl,by simp only[go_sem,reduceIte,↓reduceIte,reduceCtorEq,nA,nS,nM,nB,nE,nL,nT,nN,iL,iT,iE,iA,iM,iS,iG,iB,iN,iZ,h]⟩) () trivial (xs.length+1) (by rw[UP hl]; exact Nat.le_refl _)
  rw[hb] at hr
  have hl2:((xs.length:Int) !=(ys.length:Int))=false:=by simp[hl]
  rcases hq with⟨s',e1,e2,e3⟩ | ⟨x,s',e1,e3⟩
  ·simp only[go_sem,reduceIte,↓reduceIte,reduceCtorEq,nA,nS,nM,nB,nE,nL,nT,nN,iL,iT,iE,iA,iM,iS,iG,iB,iN,iZ,h,hl2,hr,e3,XdM hl e1]
  ·simp only[go_sem,reduceIte,↓reduceIte,reduceCtorEq,nA,nS,nM,nB,nE,nL,nT,nN,iL,iT,iE,iA,iM,iS,iG,iB,iN,iZ,h,hl2,hr,e3,XdN hl e1]
 ·have hl2:((xs.length:Int) !=(ys.length:Int))=true:=by simpa using λh=>hl (Int.ofNat_inj.1 h)
  simp only[go_sem,reduceIte,↓reduceIte,reduceCtorEq,nA,nS,nM,nB,nE,nL,nT,nN,iL,iT,iE,iA,iM,iS,iG,iB,iN,iZ,h,hl2,Xgy hl]) (rfl)
def s50:SP Tryd.prog:=mkS tyA 50 Tryd.f50 [] {md:=[.ro 1,.ro 1],rg:=[(0,[0,1],[]),(1,[0,1,10],[]),(2,[4],[]),(3,[0,1,5],[]),(4,[0,1,5,14],[]),(5,[0,1,5],[]),(6,[0,1,5,25],[]),(7,[4],[]),(8,[4],[])],lv:=[(0,[0,1,5],[])],out:=[(0,[],[])],rets:=some ([4],[]),plan:=[(6,(.take 0 (.take 1 (.take 2 (.take 3 (.take 4 (.take 5 (.take 6 (.take 7 (.take 8 .done))))))))))]} Tryd.func50 (by kernel_rfl)
@[go_sem] def d50:s50.g=50/\s50.fs=⟨[.ro 1,.ro 1],s50.F,false⟩:=⟨nr rfl,nr rfl⟩
@[go_sem] def e50(xs ys:List UInt8)(h0:smL Xea xs):s50.F [.sl .ro 1 (xs.map XH),.sl .ro 1 (ys.map XH)]=some (.b (eqv xs ys),[.u,.u]):=XI (xs.length+1) rfl rfl (λcx h=>by
 have hb:=YW Tryd.f50 0 _ _ rfl rfl
 have hx:=h0.1
 by_cases hl:xs.length=ys.length
 ·obtain⟨r,hr,hq⟩:=Uo (cx:=cx) (blk:=0) (body:=UL Tryd.f50 0) (xs.zip ys) (λk (_:Unit)=>⟨E [(0,.sl .ro 1 (xs.map XH)),(1,.sl .ro 1 (ys.map XH)),(5,.i .i64 k)],B []⟩) (λ_=>⟨E [],B []⟩) (λx _=>!eqv x.1 x.2) (λ_ _=>()) (λ_ _=>(.ret,⟨E [(4,.b false)],B []⟩)) (λ_ _=>True)
   (λl _ G=>by simp only[go_sem,reduceIte,↓reduceIte,reduceCtorEq,nA,nS,nM,nB,nE,nL,nT,nN,iL,iT,iE,iA,iM,iS,iG,iB,iN,iZ,h,UP hl,hl,Int.lt_irrefl,hb]) (λk hk l _=>by
    have hk:k<xs.length:=by rwa [UP hl] at hk
    have h1:((k:Int)<(xs.length:Int)):=Int.ofNat_lt.2 hk
    have h2:=h0.2 _ (List.getElem_mem hk)
    have h3:(xs.zip ys)[k]=(xs[k],ys[k]'(by omega)):=by simp
    rw[h3]
    cases hc:eqv xs[k] (ys[k]'(by omega))
    ·exact .inl ⟨rfl,λG=>by simp only[go_sem,reduceIte,↓reduceIte,reduceCtorEq,nA,nS,nM,nB,nE,nL,nT,nN,iL,iT,iE,iA,iM,iS,iG,iB,iN,iZ,h,hc,Zp XH xs k hk,Zp XH ys k (by omega),YN ys.length k (by omega),Xd9,h1,YN _ _ hk,X7 (show k<9223372036854775807 by omega),hb]⟩
    ·exact .inr ⟨rfl,trivial,_,λG=>by simp only[go_sem,reduceIte,↓reduceIte,reduceCtorEq,nA,nS,nM,nB,nE,nL,nT,nN,iL,iT,iE,iA,iM,iS,iG,iB,iN,iZ,h,hc,Zp XH xs k hk,Zp XH ys k (by omega),YN ys.length k (by omega),Xd9,h1,YN _ _ hk,X7 (show k<9223372036854775807 by omega),hb]<;>with_reducible rfl,by simp only[go_sem,reduceIte,↓reduceIte,reduceCtorEq,nA,nS,nM,nB,nE,nL,nT,nN,iL,iT,iE,iA,iM,iS,iG,iB,iN,iZ,h]⟩) () trivial (xs.length+1) (by rw[UP hl]; exact Nat.le_refl _)
  rw[hb] at hr
  have hl2:((xs.length:Int) !=(ys.length:Int))=false:=by simp[hl]
  rcases hq with⟨s',e1,e2,e3⟩ | ⟨x,s',e1,e3⟩
  ·simp only[go_sem,reduceIte,↓reduceIte,reduceCtorEq,nA,nS,nM,nB,nE,nL,nT,nN,iL,iT,iE,iA,iM,iS,iG,iB,iN,iZ,h,hl2,hr,e3,XdM hl e1]
  ·simp only[go_sem,reduceIte,↓reduceIte,reduceCtorEq,nA,nS,nM,nB,nE,nL,nT,nN,iL,iT,iE,iA,iM,iS,iG,iB,iN,iZ,h,hl2,hr,e3,XdN hl e1]
 ·have hl2:((xs.length:Int) !=(ys.length:Int))=true:=by simpa using λh=>hl (Int.ofNat_inj.1 h)
  simp only[go_sem,reduceIte,↓reduceIte,reduceCtorEq,nA,nS,nM,nB,nE,nL,nT,nN,iL,iT,iE,iA,iM,iS,iG,iB,iN,iZ,h,hl2,Xgy hl]) (rfl)
end
end Go.Vm.A
