/- Functions of the program, walked by the evaluator. -/
import Derived.Test.YtpoannkeaajngaaWb
import Derived.Test.YtpoannkeaajngaaWa
import Derived.Test.YtpoannkeaajngaaFa
import Derived.Test.YtpoannkeaajngaaFb
import Derived.Test.YtpoannkeaajngaaFc
import Derived.Test.YtpoannkeaajngaaFd
import Derived.Test.YtpoannkeaajngaaFe
import Derived.Test.YtpoannkeaajngaaFf
set_option linter.unusedVariables false
set_option linter.unusedSimpArgs false
set_option autoImplicit false
set_option maxRecDepth 100000
set_option maxHeartbeats 4000000
set_option linter.defProp false
namespace Go.Vm.A
open Go.Proofs
open Nat renaming reduceAdd -> nA, reduceSub -> nS, reduceMul -> nM, reduceBEq -> nB, reduceEqDiff -> nE, reduceLeDiff -> nL, reduceLT -> nT, reduceBneDiff -> nN
open Int renaming reduceLE -> iL, reduceLT -> iT, reduceEq -> iE, reduceAdd -> iA, reduceMul -> iM, reduceSub -> iS, reduceNeg -> iG, reduceBEq -> iB, reduceBNe -> iN, reduceToNat -> iZ
noncomputable section
def s19:SP Try.prog:=mkS tyA 19 Try.f19 [] {md:=[.ro 1],rg:=[(0,[0,2],[2,3]),(1,[0,2,3],[2,3]),(2,[2,3],[2,3]),(3,[2],[2,3])],rets:=some ([2],[2,3])} Try.func19 (by kernel_rfl)
@[go_sem] def d19:s19.g=19/\s19.fs=⟨[.ro 1],s19.F,false⟩:=⟨nr rfl,nr rfl⟩
@[go_sem] def e19(z0 z1 z2:Int)(z3:List XQ)(h0:smL ZB (Breaker.mk z0 z1 z2 z3).Marks):s19.F [.pr [.i .i64 z0,.i .i64 z1,.i .i64 z2,.sl .ro 2 (z3.map (Xb .ro))]]=some (.agg (ZH .mut (Breaker.mk z0 z1 z2 z3)),[.u]):=Xy (0) rfl rfl (λcx h=>by
 have h1:(z3.map (Xb .ro)).all (·.all plain)=true:=by simp[Xb,plain]
 have h2:z3.length*16<=140737488355328:=by have:=h0.1; simp only at this; omega
 have h3:z3.map (Xb .ro)=z3.map (Xb .mut):=rfl
 simp only[go_sem,reduceIte,↓reduceIte,reduceCtorEq,nA,nS,nM,nB,nE,nL,nT,nN,iL,iT,iE,iA,iM,iS,iG,iB,iN,iZ,h,h1,h2]
 rw[h3]) (by simp only[go_sem,reduceIte,↓reduceIte,reduceCtorEq,nA,nS,nM,nB,nE,nL,nT,nN,iL,iT,iE,iA,iM,iS,iG,iB,iN,iZ,Uo,XW,X4,X8])
def s7:SP Try.prog:=mkS tyA 7 Try.f7 [s18,s19,s20] {md:=[.ro 1,.ro 1,.ro 1,.ro 1],wk:=true,rg:=[(0,[2,3,4,5,8,21],[4,5,8,10]),(1,[2,3,4,5,8,9,21],[4,5,8,10]),(2,[2,3,4,5,8,9,14,21],[4,5,8,10]),(3,[8,21],[8,10]),(4,[2,3,5,8,10,21],[5,8,10]),(5,[8,10,21],[8,10]),(6,[8,21],[8,10])],rets:=some ([8,21],[8,10]),fz:=[5],ws:=[(3,[(false,8,4)])]} Try.func7 (by kernel_rfl)
@[go_sem] def d7:s7.g=7/\s7.fs=⟨[.ro 1,.ro 1,.ro 1,.ro 1],s7.F,true⟩:=⟨nr rfl,nr rfl⟩
@[go_sem] def e7(z0 z1 z2:Int)(z3:List XQ)(z4 z5 z6 z7 z8 now:Int)(good:Bool)(h0:smL ZB (Breaker.mk z0 z1 z2 z3).Marks):s7.F [.agg [.i .i64 z0,.i .i64 z1,.i .i64 z2,.sl .ro 2 (z3.map (Xb .ro))],.agg [.i .i64 z4,.i .i64 z5,.i .i64 z6,.i .i64 z7,.i .i64 z8],.i .i64 now,.b good]=some (.agg [.i .i64 (X1 (Breaker.mk z0 z1 z2 z3) (Xf.mk z4 z5 z6 z7 z8) now good).Code,.i .i64 (X1 (Breaker.mk z0 z1 z2 z3) (Xf.mk z4 z5 z6 z7 z8) now good).Breaker.State,.i .i64 (X1 (Breaker.mk z0 z1 z2 z3) (Xf.mk z4 z5 z6 z7 z8) now good).Breaker.Since,.i .i64 (X1 (Breaker.mk z0 z1 z2 z3) (Xf.mk z4 z5 z6 z7 z8) now good).Breaker.Out,.sl .app 2 ((X1 (Breaker.mk z0 z1 z2 z3) (Xf.mk z4 z5 z6 z7 z8) now good).Breaker.Marks.map (Xb .ro))],[.u,.u,.u,.u]):=Xy (0) rfl rfl (λcx h=>by
 have hx:=h0.1
 simp only at hx
 by_cases c:XD (Breaker.mk z0 z1 z2 z3) (Xf.mk z4 z5 z6 z7 z8) now=0
 ·have c1:=Z0 c
  simp only[go_sem,reduceIte,↓reduceIte,reduceCtorEq,nA,nS,nM,nB,nE,nL,nT,nN,iL,iT,iE,iA,iM,iS,iG,iB,iN,iZ,h,X1,c,c1.1,c1.2.1,hx,h0]
 ·have c1:(XD (Breaker.mk z0 z1 z2 z3) (Xf.mk z4 z5 z6 z7 z8) now !=0)=true:=by simpa using c
  simp only[go_sem,reduceIte,↓reduceIte,reduceCtorEq,nA,nS,nM,nB,nE,nL,nT,nN,iL,iT,iE,iA,iM,iS,iG,iB,iN,iZ,h,X1,c,c1,hx,h0]) (rfl)
def XbO(b:Breaker):YK:=if(Xd b !=0)=true then⟨Xd b,0⟩ else⟨0,QI b.Marks⟩
def s8:SP Try.prog:=mkS tyA 8 Try.f8 [s10,s21] {md:=[.ro 1],rg:=[(0,[1,2],[1,2]),(1,[1,2,3],[1,2]),(2,[1,2,3,7],[1,2]),(3,[2],[2]),(4,[2],[2])],rets:=some ([2],[2]),fz:=[1]} Try.func8 (by kernel_rfl)
@[go_sem] def d8:s8.g=8/\s8.fs=⟨[.ro 1],s8.F,false⟩:=⟨nr rfl,nr rfl⟩
@[go_sem] def e8(z0 z1 z2:Int)(z3:List XQ)(h0:smL ZB (Breaker.mk z0 z1 z2 z3).Marks):s8.F [.agg [.i .i64 z0,.i .i64 z1,.i .i64 z2,.sl .ro 2 (z3.map (Xb .ro))]]=some (.agg (Y3 .mut (XbO (Breaker.mk z0 z1 z2 z3))),[.u]):=Xy (0) rfl rfl (λcx h=>by
 have hx:=h0.1
 simp only at hx
 by_cases c:Xd (Breaker.mk z0 z1 z2 z3)=0
 ·have hl:z3.length<=1000:=by have:=(Xn c).2.2.2.1; simp only at this; omega
  simp only[go_sem,reduceIte,↓reduceIte,reduceCtorEq,nA,nS,nM,nB,nE,nL,nT,nN,iL,iT,iE,iA,iM,iS,iG,iB,iN,iZ,h,XbO,c,hx,hl,h0]
 ·have c1:(Xd (Breaker.mk z0 z1 z2 z3) !=0)=true:=by simpa using c
  simp only[go_sem,reduceIte,↓reduceIte,reduceCtorEq,nA,nS,nM,nB,nE,nL,nT,nN,iL,iT,iE,iA,iM,iS,iG,iB,iN,iZ,h,XbO,c1,hx,h0]) (by simp only[go_sem,reduceIte,↓reduceIte,reduceCtorEq,nA,nS,nM,nB,nE,nL,nT,nN,iL,iT,iE,iA,iM,iS,iG,iB,iN,iZ,Uo,XW,X4,X8])
def s9:SP Try.prog:=mkS tyA 9 Try.f9 [s22,s23] {md:=[.ro 1],rg:=[(0,[1,2],[1,2]),(1,[1,2,3],[1,2]),(2,[1,2,3,7],[1,2]),(3,[2],[2]),(4,[2],[2])],rets:=some ([2],[2]),fz:=[1]} Try.func9 (by kernel_rfl)
@[go_sem] def d9:s9.g=9/\s9.fs=⟨[.ro 1],s9.F,false⟩:=⟨nr rfl,nr rfl⟩
@[go_sem] def e9(z0 z1 z2:Int)(z3:List XQ)(h0:smL ZB (Breaker.mk z0 z1 z2 z3).Marks):s9.F [.agg [.i .i64 z0,.i .i64 z1,.i .i64 z2,.sl .ro 2 (z3.map (Xb .ro))]]=some (.agg (Y3 .mut (XbO (Breaker.mk z0 z1 z2 z3))),[.u]):=Xy (0) rfl rfl (λcx h=>by
 have hx:=h0.1
 simp only at hx
 by_cases c:Xd (Breaker.mk z0 z1 z2 z3)=0
 ·have hl:z3.length<=1000:=by have:=(Xn c).2.2.2.1; simp only at this; omega
  simp only[go_sem,reduceIte,↓reduceIte,reduceCtorEq,nA,nS,nM,nB,nE,nL,nT,nN,iL,iT,iE,iA,iM,iS,iG,iB,iN,iZ,h,XbO,c,hx,hl,h0]
 ·have c1:(Xd (Breaker.mk z0 z1 z2 z3) !=0)=true:=by simpa using c
  simp only[go_sem,reduceIte,↓reduceIte,reduceCtorEq,nA,nS,nM,nB,nE,nL,nT,nN,iL,iT,iE,iA,iM,iS,iG,iB,iN,iZ,h,XbO,c1,hx,h0]) (by simp only[go_sem,reduceIte,↓reduceIte,reduceCtorEq,nA,nS,nM,nB,nE,nL,nT,nN,iL,iT,iE,iA,iM,iS,iG,iB,iN,iZ,Uo,XW,X4,X8])
def s30:SP Try.prog:=mkS tyA 30 Try.f30 [] {md:=[.ro 1,.ro 1],rg:=[(0,[0,1],[]),(1,[0,1,10],[]),(2,[4],[]),(3,[0,1,12,13],[]),(4,[0,1,12,13,14],[]),(5,[0,1,5,12,13],[]),(6,[0,1,12,13,24],[]),(7,[4],[]),(8,[0,1,12,13],[]),(9,[4],[])],lv:=[(0,[0,1,12,13],[])],out:=[(0,[],[])],rets:=some ([4],[]),plan:=[(6,(.take 0 (.take 1 (.take 2 (.take 3 (.take 4 (.take 5 (.take 6 (.take 7 (.take 8 .done))))))))))]} Try.func30 (by kernel_rfl)
@[go_sem] def d30:s30.g=30/\s30.fs=⟨[.ro 1,.ro 1],s30.F,false⟩:=⟨nr rfl,nr rfl⟩
@[go_sem] def e30(xs ys:List XQ)(h0:smL ZB xs):s30.F [.sl .ro 2 (xs.map (Xb .ro)),.sl .ro 2 (ys.map (Xb .ro))]=some (.b (eqv xs ys),[.u,.u]):=Xy (xs.length+1) rfl rfl (λcx h=>by
 have hx:=h0.1
 by_cases hl:xs.length=ys.length
 ·have hb0:=Yk Try.f30 0 _ _ rfl rfl
  obtain⟨r,hr,hq⟩:=ZV (cx:=cx) (blk:=0) (body:=Qz Try.f30 0) (xs.zip ys) (λk (s:Unit)=>⟨E [(0,.sl .ro 2 (xs.map (Xb .ro))),(1,.sl .ro 2 (ys.map (Xb .ro))),(12,.i .i64 xs.length),(13,.i .i64 k)],B []⟩) (λs=>⟨E [],B []⟩) (λx s=>!eqv x.1 x.2) (λx s=>s) (λx s=>(.ret,⟨E [(4,.b false)],B []⟩)) (λk s=>True)
    (λs hI G=>by simp only[go_sem,reduceIte,↓reduceIte,reduceCtorEq,nA,nS,nM,nB,nE,nL,nT,nN,iL,iT,iE,iA,iM,iS,iG,iB,iN,iZ,h,Int.lt_irrefl,hb0,XdV hl,hl]) (λk hk s hI=>by
     have h1:((k:Int)<((xs.zip ys).length:Int)):=Int.ofNat_lt.2 hk
     have hk':k<xs.length:=by rwa [XdV hl] at hk
     have h1':((k:Int)<(xs.length:Int)):=Int.ofNat_lt.2 hk'
     have h2:=h0.2 _ (List.getElem_mem hk')
     have h3:(xs.zip ys)[k]=(xs[k],ys[k]'(by omega)):=by simp
     rw[h3]
     have h4:=h2
     obtain⟨u0,u1⟩:=h2
     exact⟨_,_,_,λG=>by simp only[go_sem,reduceIte,↓reduceIte,reduceCtorEq,nA,nS,nM,nB,nE,nL,nT,nN,iL,iT,iE,iA,iM,iS,iG,iB,iN,iZ,h,h1',Yg _ _ hk',Yg ys.length k (by omega),YN (Xb .ro) xs k hk',YN (Xb .ro) ys k (by omega),XJ (show k<9223372036854775807 by omega),h4,Xkt,XQ.eqv xs[k] (ys[k]'(by omega)),u0,u1,Xim,Xc4,XdT,Xc5,XbH,h1,Yg _ _ hk,XJ (show k<9223372036854775807 by omega),hb0]<;>with_reducible rfl,by first | exact Iff.rfl | ((simp only[XQ.eqv xs[k] (ys[k]'(by omega))]<;>simp)<;>done) | ((simp only[XQ.eqv xs[k] (ys[k]'(by omega))]<;>simp[eqv])<;>done) | (simp only[XQ.eqv xs[k] (ys[k]'(by omega))]<;>simp[eqv]<;>(by_cases g:xs[k].Get=(ys[k]'(by omega)).Get<;>simp[g])),λhc=>⟨trivial,by simp only[go_sem,reduceIte,↓reduceIte,reduceCtorEq,nA,nS,nM,nB,nE,nL,nT,nN,iL,iT,iE,iA,iM,iS,iG,iB,iN,iZ,h]⟩⟩) () trivial (xs.length+1) (by rw[XdV hl]; exact Nat.le_refl _)
  rw[hb0] at hr
  have hl2:((xs.length:Int) !=(ys.length:Int))=false:=by simp[hl]
  rcases hq with⟨s',e1,_,e3⟩ | ⟨x,s',e1,e3⟩
  ·simp only[go_sem,reduceIte,↓reduceIte,reduceCtorEq,nA,nS,nM,nB,nE,nL,nT,nN,iL,iT,iE,iA,iM,iS,iG,iB,iN,iZ,h,hl2,hr,e3,XgE hl e1]
  ·simp only[go_sem,reduceIte,↓reduceIte,reduceCtorEq,nA,nS,nM,nB,nE,nL,nT,nN,iL,iT,iE,iA,iM,iS,iG,iB,iN,iZ,h,hl2,hr,e3,XgF hl e1]
 ·have hl2:((xs.length:Int) !=(ys.length:Int))=true:=by simpa using λh=>hl (Int.ofNat_inj.1 h)
  simp only[go_sem,reduceIte,↓reduceIte,reduceCtorEq,nA,nS,nM,nB,nE,nL,nT,nN,iL,iT,iE,iA,iM,iS,iG,iB,iN,iZ,h,hl2,XkB hl]) (rfl)
def s11:SP Try.prog:=mkS tyA 11 Try.f11 [s30] {md:=[.ro 1,.ro 1],rets:=some ([4],[])} Try.func11 (by kernel_rfl)
@[go_sem] def d11:s11.g=11/\s11.fs=⟨[.ro 1,.ro 1],s11.F,false⟩:=⟨nr rfl,nr rfl⟩
@[go_sem] def e11(z9 z10 z11:Int)(z12:List XQ)(z13 z14 z15:Int)(z16:List XQ)(h0:Qe (Breaker.mk z9 z10 z11 z12)):s11.F [.agg [.i .i64 z9,.i .i64 z10,.i .i64 z11,.sl .ro 2 (z12.map (Xb .ro))],.agg [.i .i64 z13,.i .i64 z14,.i .i64 z15,.sl .ro 2 (z16.map (Xb .ro))]]=some (.b (eqv (Breaker.mk z9 z10 z11 z12) (Breaker.mk z13 z14 z15 z16)),[.u,.u]):=Xy (0) rfl rfl (λcx h=>by
 obtain⟨q0,q1,q2,q3⟩:=h0
 simp only[go_sem,reduceIte,↓reduceIte,reduceCtorEq,nA,nS,nM,nB,nE,nL,nT,nN,iL,iT,iE,iA,iM,iS,iG,iB,iN,iZ,h,Xc4,XdT,Xc5,XbH,Xej,XlG,q0,q1,q2,q3]
 simp only[Breaker.eqv (Breaker.mk z9 z10 z11 z12) (Breaker.mk z13 z14 z15 z16),XmP,Xks,XlH,Bool.and_true,Bool.and_assoc]) (rfl)
def Xeo(b:Breaker)(r:Xf)(now:Int)(good:Bool):0<(Yf b r now good).length:=by
 unfold Yf
 split
 ·rename_i hc
  simp only[List.length_drop,List.length_append,List.length_cons,List.length_nil] at hc ⊢
  omega
 ·simp
def s3:SP Try.prog:=mkS tyA 3 Try.f3 [s4,s5,s6,s7,s8,s9,s10,s11] {md:=[.ro 1],rg:=[(0,[0],[]),(1,[0,11],[]),(2,[2],[]),(3,[3,4,5,6],[3,4]),(4,[3,4,5,6,7],[3,4,7]),(5,[3,4,5,6,7,39],[3,4,7]),(6,[2],[]),(7,[3,4,5,6,7,42],[3,4,7]),(8,[2],[]),(9,[3,4,5,6,8],[3,4,7,8]),(10,[3,4,5,6,8,58],[3,4,7,8]),(11,[2],[]),(12,[3,4,5,6,8,60],[3,4,7,8]),(13,[3,4,5,6,8,60,61],[3,4,7,8]),(14,[2],[]),(15,[4,5,6,8,66],[4,7,8]),(16,[2],[]),(17,[4,5,8,9],[4,7,8]),(18,[2],[])],rets:=some ([2],[]),al:=[12],plan:=[(5,(.take 0 (.take 1 (.take 2 (.take 3 (.take 4 (.take 5 (.one 6 (.take 7 (.take 8 (.take 9 (.take 10 (.take 12 (.one 11 (.one 13 (.take 14 (.take 15 .done))))))))))))))))),(10,(.take 0 (.one 1 (.take 2 (.take 3 (.take 4 (.take 5 (.take 6 (.take 7 (.take 8 (.one 9 (.take 10 (.one 11 (.take 12 (.take 13 .done)))))))))))))))]} Try.func3 (by kernel_rfl)
@[go_sem] def d3:s3.g=3/\s3.fs=⟨[.ro 1],s3.F,false⟩:=⟨nr rfl,nr rfl⟩
def e3(code:List UInt8)(h0:okL XiR code):s3.F [.sl .ro 1 (code.map XP)]=some (.b true,[.u]):=Xy (0) rfl rfl (λcx h=>by
 by_cases hb:1048576<(code.length:Int)
 ·simp only[go_sem,reduceIte,↓reduceIte,reduceCtorEq,nA,nS,nM,nB,nE,nL,nT,nN,iL,iT,iE,iA,iM,iS,iG,iB,iN,iZ,h,hb]
 have hcl:code.length<=1048576:=by omega
 have hl:=(Xcj code).1
 obtain⟨S,hS⟩:∃S,Y5 code=S:=⟨_,rfl⟩
 obtain⟨Q,hR⟩:∃Q,Xae code=Q:=⟨_,rfl⟩
 obtain⟨now,hA⟩:∃now,Xfn code=now:=⟨_,rfl⟩
 obtain⟨g,hg⟩:∃g,(YL code 19 2==0)=g:=⟨_,rfl⟩
 rw[hS] at hl
 obtain⟨A,⟨bS,bSi,bO,bM⟩⟩:=S
 obtain⟨rW,rM,rR,rC,rQ⟩:=Q
 simp only at hl
 have hsm:smL ZB bM:=Ur _ (by omega)
 have hMl:bM.length<=1048576:=by omega
 obtain⟨J,hQ⟩:∃J,XbO (Breaker.mk bS bSi bO bM)=J:=⟨_,rfl⟩
 obtain⟨J1,J2⟩:=J
 have hQ2:((J1 !=J1)||(J2 !=J2))=false:=by simp
 by_cases c:XD (Breaker.mk bS bSi bO bM) (Xf.mk rW rM rR rC rQ) now=0
 rotate_left
 ·have hN:X1 (Breaker.mk bS bSi bO bM) (Xf.mk rW rM rR rC rQ) now g=⟨XD (Breaker.mk bS bSi bO bM) (Xf.mk rW rM rR rC rQ) now,⟨0,0,0,[]⟩⟩:=if_neg c
  have c':(XD (Breaker.mk bS bSi bO bM) (Xf.mk rW rM rR rC rQ) now !=0)=true:=by simpa using c
  have c2:(XD (Breaker.mk bS bSi bO bM) (Xf.mk rW rM rR rC rQ) now==0)=false:=by simpa using c
  simp only[go_sem,reduceIte,↓reduceIte,reduceCtorEq,nA,nS,nM,nB,nE,nL,nT,nN,iL,iT,iE,iA,iM,iS,iG,iB,iN,iZ,h,hb,hcl,hS,hR,hA,hg,hsm,hMl,hN,hQ,hQ2,Zc,c',c2]
 have hN:X1 (Breaker.mk bS bSi bO bM) (Xf.mk rW rM rR rC rQ) now g=⟨0,X6 (Breaker.mk bS bSi bO bM) (Xf.mk rW rM rR rC rQ) now g⟩:=if_pos c
 have hc:=XiX c
 have ho:=Xd2 (r:=(Xf.mk rW rM rR rC rQ)) (good:=g) hc.1 hc.2.2
 have hf:=ho.1
 have hu:X6 (Breaker.mk bS bSi bO bM) (Xf.mk rW rM rR rC rQ) now g=if bS=1 then(Breaker.mk bS bSi bO bM) else if bS=2 then(if g=true then⟨0,bSi,0,[]⟩ else⟨1,now,0,[]⟩) else if rM<=((Yf (Breaker.mk bS bSi bO bM) (Xf.mk rW rM rR rC rQ) now g).length:Int)/\rR*((Yf (Breaker.mk bS bSi bO bM) (Xf.mk rW rM rR rC rQ) now g).length:Int)<=1000*QI (Yf (Breaker.mk bS bSi bO bM) (Xf.mk rW rM rR rC rQ) now g) then⟨1,now,0,[]⟩ else⟨0,bSi,bO,Yf (Breaker.mk bS bSi bO bM) (Xf.mk rW rM rR rC rQ) now g⟩:=rfl
 have hB:=Xn hc.1.1
 simp only at hB
 by_cases s1:bS=1
 ·subst s1
  rw[if_pos rfl] at hu
  rw[hu] at hN hf
  have hs2:∀a b c,Qe (Breaker.mk a b c bM):=λ_ _ _=>⟨trivial,trivial,trivial,hsm⟩
  simp only[go_sem,reduceIte,↓reduceIte,reduceCtorEq,nA,nS,nM,nB,nE,nL,nT,nN,iL,iT,iE,iA,iM,iS,iG,iB,iN,iZ,h,hb,hcl,hS,hR,hA,hg,hsm,hMl,hN,hQ,hQ2,Zc,hf,hs2]
 rw[if_neg s1] at hu
 have s1':(bS==1)=false:=by simpa using s1
 by_cases s2:bS=2
 ·subst s2
  rw[if_pos rfl] at hu
  cases hg2:g
  ·rw[hg2] at hu hN hf hg
   simp only[Bool.false_eq_true,if_false] at hu
   rw[hu] at hN hf
   obtain⟨Z,hZ⟩:∃Z:List XQ,[]=Z:=⟨_,rfl⟩
   rw[hZ] at hN hf
   have hZl:Z.length=0:=by rw[<-hZ]; rfl
   have hZm:Z.length<=1048576:=by omega
   have hZs:smL ZB Z:=Ur _ hZm
   have hZi:((Z.length:Int)==0)=true:=by rw[hZl]; rfl
   have hZB:∀a b c,Qe (Breaker.mk a b c Z):=λ_ _ _=>⟨trivial,trivial,trivial,hZs⟩
   simp only[go_sem,reduceIte,↓reduceIte,reduceCtorEq,nA,nS,nM,nB,nE,nL,nT,nN,iL,iT,iE,iA,iM,iS,iG,iB,iN,iZ,h,hb,hcl,hS,hR,hA,hg,hsm,hMl,hN,hQ,hQ2,Zc,hf,hZi,hZB,hZm,hZs,s1',List.length_map]
  ·rw[hg2] at hu hN hf hg
   simp only[if_true] at hu
   rw[hu] at hN hf
   obtain⟨Z,hZ⟩:∃Z:List XQ,[]=Z:=⟨_,rfl⟩
   rw[hZ] at hN hf
   have hZl:Z.length=0:=by rw[<-hZ]; rfl
   have hZm:Z.length<=1048576:=by omega
   have hZs:smL ZB Z:=Ur _ hZm
   have hZi:((Z.length:Int)==0)=true:=by rw[hZl]; rfl
   have hZB:∀a b c,Qe (Breaker.mk a b c Z):=λ_ _ _=>⟨trivial,trivial,trivial,hZs⟩
   simp only[go_sem,reduceIte,↓reduceIte,reduceCtorEq,nA,nS,nM,nB,nE,nL,nT,nN,iL,iT,iE,iA,iM,iS,iG,iB,iN,iZ,h,hb,hcl,hS,hR,hA,hg,hsm,hMl,hN,hQ,hQ2,Zc,hf,hZi,hZB,hZm,hZs,s1',List.length_map]
 rw[if_neg s2] at hu
 have s2':(bS==2)=false:=by simpa using s2
 by_cases c3:rM<=((Yf (Breaker.mk bS bSi bO bM) (Xf.mk rW rM rR rC rQ) now g).length:Int)/\rR*((Yf (Breaker.mk bS bSi bO bM) (Xf.mk rW rM rR rC rQ) now g).length:Int)<=1000*QI (Yf (Breaker.mk bS bSi bO bM) (Xf.mk rW rM rR rC rQ) now g)
 ·rw[if_pos c3] at hu
  rw[hu] at hN hf
  obtain⟨Z,hZ⟩:∃Z:List XQ,[]=Z:=⟨_,rfl⟩
  rw[hZ] at hN hf
  have hZl:Z.length=0:=by rw[<-hZ]; rfl
  have hZm:Z.length<=1048576:=by omega
  have hZs:smL ZB Z:=Ur _ hZm
  have hZi:((Z.length:Int)==0)=true:=by rw[hZl]; rfl
  have hZB:∀a b c,Qe (Breaker.mk a b c Z):=λ_ _ _=>⟨trivial,trivial,trivial,hZs⟩
  obtain⟨K,hK⟩:∃K,XbO ⟨1,now,0,Z⟩=K:=⟨_,rfl⟩
  simp only[go_sem,reduceIte,↓reduceIte,reduceCtorEq,nA,nS,nM,nB,nE,nL,nT,nN,iL,iT,iE,iA,iM,iS,iG,iB,iN,iZ,h,hb,hcl,hS,hR,hA,hg,hsm,hMl,hN,hQ,hQ2,Zc,hf,hZi,hZB,hZm,hZs,s1',s2',hK,List.length_map]
 rw[if_neg c3] at hu
 have hp:=Xeo (Breaker.mk bS bSi bO bM) (Xf.mk rW rM rR rC rQ) now g
 have hml:=(Xn hf).2.2.2.1
 rw[hu] at hN hf hml
 simp only at hml
 obtain⟨L,hL⟩:∃L,Yf (Breaker.mk bS bSi bO bM) (Xf.mk rW rM rR rC rQ) now g=L:=⟨_,rfl⟩
 rw[hL] at hN hf hml hp c3
 have hsL:smL ZB L:=Ur _ (by omega)
 have hLl:L.length<=1048576:=by omega
 have hLB:∀a b c,Qe (Breaker.mk a b c L):=λ_ _ _=>⟨trivial,trivial,trivial,hsL⟩
 have hK:XbO ⟨0,bSi,bO,L⟩=⟨0,QI L⟩:=if_neg (by rw[hf]; decide)
 have hr:=X3 hc.2.1
 simp only at hr
 have hb1:=UL L
 have w2:(IntKind.i64).wrap (1000*QI L)=1000*QI L:=Xv (by omega) (by omega)
 have w3:(IntKind.i64).wrap (rR*(L.length:Int))=rR*(L.length:Int):=Q2 (by omega) (by omega) (by omega) (by omega)
 have q0:(0:Int)<(L.length:Int):=by omega
 by_cases d1:(L.length:Int)<rM
 ·simp only[go_sem,reduceIte,↓reduceIte,reduceCtorEq,nA,nS,nM,nB,nE,nL,nT,nN,iL,iT,iE,iA,iM,iS,iG,iB,iN,iZ,h,hb,hcl,hS,hR,hA,hg,hsm,hMl,hN,hQ,hQ2,Zc,hf,hsL,hLl,hLB,s1',s2',hK,w2,w3,q0,d1,List.length_map]
 ·have d2:1000*QI L<rR*(L.length:Int):=by
   rcases Int.lt_or_le (1000*QI L) (rR*(L.length:Int)) with h | h
   ·exact h
   ·exact absurd ⟨by omega,h⟩ c3
  simp only[go_sem,reduceIte,↓reduceIte,reduceCtorEq,nA,nS,nM,nB,nE,nL,nT,nN,iL,iT,iE,iA,iM,iS,iG,iB,iN,iZ,h,hb,hcl,hS,hR,hA,hg,hsm,hMl,hN,hQ,hQ2,Zc,hf,hsL,hLl,hLB,s1',s2',hK,w2,w3,q0,d1,d2,List.length_map]) (rfl)
end
end Go.Vm.A
