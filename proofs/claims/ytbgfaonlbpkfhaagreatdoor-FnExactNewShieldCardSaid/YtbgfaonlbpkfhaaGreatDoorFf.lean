/- Functions of the program, walked by the evaluator. -/
import Derived.Test.YtbgfaonlbpkfhaaGreatDoorWb
import Derived.Test.YtbgfaonlbpkfhaaGreatDoorWa
import Derived.Test.YtbgfaonlbpkfhaaGreatDoorFb
import Derived.Test.YtbgfaonlbpkfhaaGreatDoorFc
import Derived.Test.YtbgfaonlbpkfhaaGreatDoorFe
set_option linter.unusedVariables false
set_option linter.unusedSimpArgs false
set_option autoImplicit false
set_option maxRecDepth 100000
set_option maxHeartbeats 4000000
set_option linter.defProp false
namespace Go.Vm.A
open Go.Proofs
open Nat renaming reduceAdd -> nA, reduceSub -> nS, reduceMul -> nM, reduceBEq -> nB, reduceEqDiff -> nE, reduceLeDiff -> nL, reduceLT -> nT, reduceBneDiff -> nN
open Int renaming reduceLE -> iL, reduceLT -> iT, reduceEq -> iE, reduceAdd -> iA, reduceMul -> iM, reduceSub -> iS, reduceNeg -> iG, reduceBEq -> iB, reduceBNe -> iN, reduceToNat -> iZ
noncomputable section
def Xph:SP Tryz.prog:=mkS tyA 152 Tryz.f152 [Xpg] {md:=[.ro 1],rg:=[(0,[1,2],[1,2]),(1,[1,2],[1,2]),(2,[2],[1,2])],rets:=some ([2],[1,2])} Tryz.func152 (by kernel_rfl)
@[go_sem] def XGx:Xph.g=152/\Xph.fs=⟨[.ro 1],Xph.F,false⟩:=⟨nr rfl,nr rfl⟩
@[go_sem] def XGy(w0 w1 w2:Int)(w3:List XaQ)(h0:smL Xcf (Breaker.mk w0 w1 w2 w3).Marks):Xph.F [.agg [.i .i64 w0,.i .i64 w1,.i .i64 w2,.sl .ro 2 (w3.map (YV .ro))]]=some (.agg (U4 .mut (Breaker.mk w0 w1 w2 w3)),[.u]):=Xd (0) rfl rfl (λcx h=>by
 simp only[go_sem,reduceIte,↓reduceIte,reduceCtorEq,nA,nS,nM,nB,nE,nL,nT,nN,iL,iT,iE,iA,iM,iS,iG,iB,iN,iZ,h,h0]) (by simp only[go_sem,reduceIte,↓reduceIte,reduceCtorEq,nA,nS,nM,nB,nE,nL,nT,nN,iL,iT,iE,iA,iM,iS,iG,iB,iN,iZ,Y6,XD,XN,XF])
def s78:SP Tryz.prog:=mkS tyA 78 Tryz.f78 [Xpf,Xph] {md:=[.ro 1],rets:=some ([2,7,10],[2]),plan:=[(1,(.take 0 (.take 1 (.take 2 (.take 3 (.take 5 (.take 6 (.one 4 (.one 7 (.take 8 (.one 9 .done)))))))))))]} Tryz.func78 (by kernel_rfl)
@[go_sem] def d78:s78.g=78/\s78.fs=⟨[.ro 1],s78.F,false⟩:=⟨nr rfl,nr rfl⟩
@[go_sem] def e78(w4:ByteArray)(w5:Int)(w6:List XaP)(w7 w8 w9:Int)(w10:List XaQ)(h0:(smL Xce (Origin.mk w4 (Bulk.mk w5 w6) (Breaker.mk w7 w8 w9 w10)).Bulk.Queue/\smL Xcf (Origin.mk w4 (Bulk.mk w5 w6) (Breaker.mk w7 w8 w9 w10)).Breaker.Marks)):s78.F [.agg [.s w4,.i .i64 w5,.sl .ro 2 (w6.map (YU .ro)),.i .i64 w7,.i .i64 w8,.i .i64 w9,.sl .ro 2 (w10.map (YV .ro))]]=some (.agg (Xv .mut (Origin.mk w4 (Bulk.mk w5 w6) (Breaker.mk w7 w8 w9 w10))),[.u]):=Xd (0) rfl rfl (λcx h=>by
 simp only[go_sem,reduceIte,↓reduceIte,reduceCtorEq,nA,nS,nM,nB,nE,nL,nT,nN,iL,iT,iE,iA,iM,iS,iG,iB,iN,iZ,h,h0.1,h0.2]) (by simp only[go_sem,reduceIte,↓reduceIte,reduceCtorEq,nA,nS,nM,nB,nE,nL,nT,nN,iL,iT,iE,iA,iM,iS,iG,iB,iN,iZ,Y6,XD,XN,XF])
def Xoc:SP Tryz.prog:=mkS tyA 100 Tryz.f100 [] {md:=[.ro 1],rg:=[(0,[0],[]),(1,[0,4],[]),(2,[2],[]),(3,[2],[])],rets:=some ([2],[]),nz:=true} Tryz.func100 (by kernel_rfl)
@[go_sem] def XGz:Xoc.g=100/\Xoc.fs=⟨[.ro 1],Xoc.F,false⟩:=⟨nr rfl,nr rfl⟩
@[go_sem] def XGA(xs:List ByteArray)(h0:smL U0 xs):Xoc.F [.sl .ro 1 (xs.map Yf)]=some (.sl .mut 1 (xs.map Yf),[.u]):=XbR (0) rfl rfl (λcx h=>by
 have h0:=h0.1
 have h1:(xs.map Yf).all (·.all plain)=true:=by simp[Yf,plain]
 have h2:xs.length*16<=140737488355328:=by omega
 rcases Nat.eq_zero_or_pos xs.length with hp | hp
 ·obtain rfl:=List.length_eq_zero_iff.1 hp
  simp only[go_sem,reduceIte,↓reduceIte,reduceCtorEq,nA,nS,nM,nB,nE,nL,nT,nN,iL,iT,iE,iA,iM,iS,iG,iB,iN,iZ,h]
 ·simp only[go_sem,reduceIte,↓reduceIte,reduceCtorEq,nA,nS,nM,nB,nE,nL,nT,nN,iL,iT,iE,iA,iM,iS,iG,iB,iN,iZ,h,h1,h2,hp]) (by simp only[go_sem,reduceIte,↓reduceIte,reduceCtorEq,nA,nS,nM,nB,nE,nL,nT,nN,iL,iT,iE,iA,iM,iS,iG,iB,iN,iZ,Y6,XD])
def Xod:SP Tryz.prog:=mkS tyA 228 Tryz.f228 [] {md:=[.ro 1],rg:=[(0,[0],[]),(1,[0,4],[]),(2,[2],[]),(3,[2],[])],rets:=some ([2],[]),nz:=true} Tryz.func228 (by kernel_rfl)
@[go_sem] def XGB:Xod.g=228/\Xod.fs=⟨[.ro 1],Xod.F,false⟩:=⟨nr rfl,nr rfl⟩
@[go_sem] def XGC(xs:List XL)(h0:smL Yv xs):Xod.F [.sl .ro 2 (xs.map (Xl .ro))]=some (.sl .mut 2 (xs.map (Xl .mut)),[.u]):=XbR (0) rfl rfl (λcx h=>by
 have h0:=h0.1
 have h1:(xs.map (Xl .ro)).all (·.all plain)=true:=by simp[Xl,plain]
 have h2:xs.length*32<=140737488355328:=by omega
 have h3:xs.map (Xl .ro)=xs.map (Xl .mut):=rfl
 rcases Nat.eq_zero_or_pos xs.length with hp | hp
 ·obtain rfl:=List.length_eq_zero_iff.1 hp
  simp only[go_sem,reduceIte,↓reduceIte,reduceCtorEq,nA,nS,nM,nB,nE,nL,nT,nN,iL,iT,iE,iA,iM,iS,iG,iB,iN,iZ,h]
 ·simp only[go_sem,reduceIte,↓reduceIte,reduceCtorEq,nA,nS,nM,nB,nE,nL,nT,nN,iL,iT,iE,iA,iM,iS,iG,iB,iN,iZ,h,h1,h2,hp]
  rw[h3]) (by simp only[go_sem,reduceIte,↓reduceIte,reduceCtorEq,nA,nS,nM,nB,nE,nL,nT,nN,iL,iT,iE,iA,iM,iS,iG,iB,iN,iZ,Y6,XD])
def Xpi:SP Tryz.prog:=mkS tyA 261 Tryz.f261 [] {md:=[.ro 1],rg:=[(0,[0],[]),(1,[0,4],[]),(2,[2],[]),(3,[2],[])],rets:=some ([2],[]),nz:=true} Tryz.func261 (by kernel_rfl)
@[go_sem] def XGD:Xpi.g=261/\Xpi.fs=⟨[.ro 1],Xpi.F,false⟩:=⟨nr rfl,nr rfl⟩
@[go_sem] def XGE(xs:List UInt8)(h0:smL Xfv xs):Xpi.F [.sl .ro 1 (xs.map YL)]=some (.sl .mut 1 (xs.map YL),[.u]):=XbR (0) rfl rfl (λcx h=>by
 have h0:=h0.1
 have h1:(xs.map YL).all (·.all plain)=true:=by simp[YL,plain]
 have h2:xs.length*1<=140737488355328:=by omega
 rcases Nat.eq_zero_or_pos xs.length with hp | hp
 ·obtain rfl:=List.length_eq_zero_iff.1 hp
  simp only[go_sem,reduceIte,↓reduceIte,reduceCtorEq,nA,nS,nM,nB,nE,nL,nT,nN,iL,iT,iE,iA,iM,iS,iG,iB,iN,iZ,h]
 ·simp only[go_sem,reduceIte,↓reduceIte,reduceCtorEq,nA,nS,nM,nB,nE,nL,nT,nN,iL,iT,iE,iA,iM,iS,iG,iB,iN,iZ,h,h1,h2,hp]) (by simp only[go_sem,reduceIte,↓reduceIte,reduceCtorEq,nA,nS,nM,nB,nE,nL,nT,nN,iL,iT,iE,iA,iM,iS,iG,iB,iN,iZ,Y6,XD])
def Xpj:SP Tryz.prog:=mkS tyA 227 Tryz.f227 [Xoc,Xod,Xpi] {md:=[.ro 1],rg:=[(0,[1,2],[1,2]),(1,[1,2],[1,2]),(2,[2],[1,2])],rets:=some ([2],[1,2]),plan:=[(1,(.take 0 (.take 1 (.take 3 (.take 4 (.take 6 (.take 7 (.one 2 (.take 9 (.one 5 (.one 8 (.one 10 (.take 11 (.one 12 (.take 13 (.one 14 .done))))))))))))))))]} Tryz.func227 (by kernel_rfl)
@[go_sem] def XGF:Xpj.g=227/\Xpj.fs=⟨[.ro 1],Xpj.F,false⟩:=⟨nr rfl,nr rfl⟩
@[go_sem] def XGG(w11:ByteArray)(w12:Int)(w13:List XL)(w14:List UInt8)(w15 w16 w17 w18 w19:Int)(w20 w21:Bool)(w22:List ByteArray)(w23:Int)(h0:(smL Yv (XM.mk w11 w12 w13 w14 (Meta.mk w15 w16 w17 w18 w19 w20 w21) w22 w23).Headers/\smL Xfv (XM.mk w11 w12 w13 w14 (Meta.mk w15 w16 w17 w18 w19 w20 w21) w22 w23).Body/\smL U0 (XM.mk w11 w12 w13 w14 (Meta.mk w15 w16 w17 w18 w19 w20 w21) w22 w23).Tags)):Xpj.F [.agg [.s w11,.i .i64 w12,.sl .ro 2 (w13.map (Xl .ro)),.sl .ro 1 (w14.map YL),.i .i64 w15,.i .i64 w16,.i .i64 w17,.i .i64 w18,.i .i64 w19,.b w20,.b w21,.sl .ro 1 (w22.map Yf),.i .i64 w23]]=some (.agg (Xa .mut (XM.mk w11 w12 w13 w14 (Meta.mk w15 w16 w17 w18 w19 w20 w21) w22 w23)),[.u]):=Xd (0) rfl rfl (λcx h=>by
 simp only[go_sem,reduceIte,↓reduceIte,reduceCtorEq,nA,nS,nM,nB,nE,nL,nT,nN,iL,iT,iE,iA,iM,iS,iG,iB,iN,iZ,h,h0.1,h0.2.1,h0.2.2]) (by simp only[go_sem,reduceIte,↓reduceIte,reduceCtorEq,nA,nS,nM,nB,nE,nL,nT,nN,iL,iT,iE,iA,iM,iS,iG,iB,iN,iZ,Y6,XD,XN,XF])
def Xd9{α:Type}:∀(xs acc:List α),xs.foldl (λs x=>s++[x]) acc=acc++xs
 | [],acc=>by simp
 | x :: xs,acc=>by rw[List.foldl_cons,Xd9 xs]; simp
def Xoe:SP Tryz.prog:=mkS tyA 168 Tryz.f168 [Xpj] {md:=[.ro 1],rg:=[(0,[0],[]),(1,[0,3],[]),(2,[0,3,7,8,9],[]),(3,[0,3,7,8,9,10],[]),(4,[0,3,5,7,8,9],[5]),(5,[0,3,7,8,9],[]),(6,[0,3,7,8,9],[]),(7,[2],[])],lv:=[(0,[0,3,7,8,9],[])],out:=[(0,[3],[])],rets:=some ([2],[])} Tryz.func168 (by kernel_rfl)
@[go_sem] def XGH:Xoe.g=168/\Xoe.fs=⟨[.ro 1],Xoe.F,false⟩:=⟨nr rfl,nr rfl⟩
@[go_sem] def Xs1(xs:List XM)(h0:smL Y0 xs):Xoe.F [.sl .ro 13 (xs.map (Xa .ro))]=some (.sl .mut 13 (xs.map (Xa .mut)),[.u]):=Xd (xs.length+1) rfl rfl (λcx h=>by
 have hx:=h0.1
 have hb0:=Xn Tryz.f168 0 _ _ rfl rfl
 obtain⟨hI,hr⟩:=XY (cx:=cx) (blk:=0) (body:=Yl Tryz.f168 0) xs (λk (s:List XM)=>⟨E [(0,.sl .ro 13 (xs.map (Xa .ro))),(3,.sl .mut 13 (s.map (Xa .mut))),(7,.sl .ro 13 (xs.map (Xa .ro))),(8,.i .i64 xs.length),(9,.i .i64 k)],B []⟩) (λs=>⟨E [(3,.sl .mut 13 (s.map (Xa .mut)))],B []⟩) (λx s=>s++[x]) (λk s=>s=xs.take k)
   (λs hI G=>by simp only[go_sem,reduceIte,↓reduceIte,reduceCtorEq,nA,nS,nM,nB,nE,nL,nT,nN,iL,iT,iE,iA,iM,iS,iG,iB,iN,iZ,h,Int.lt_irrefl,hb0,hx]) (λk hk s hI=>by
    have h1:((k:Int)<(xs.length:Int)):=Int.ofNat_lt.2 hk
    have hm:=h0.2 _ (List.getElem_mem hk)
    have hl:s.length<=1048576:=by rw[hI,List.length_take]; omega
    have t3:(s.length+1)*152<=140737488355328:=by omega
    have t4:s.map (Xa .mut)++[Xa .mut xs[k]]=(s++[xs[k]]).map (Xa .mut):=by simp
    simp only[Xa] at t4
    have hm':smL Yv xs[k].Headers/\smL Xfv xs[k].Body/\smL U0 xs[k].Tags:=⟨hm.2.2.1,hm.2.2.2.1,hm.2.2.2.2.2.1⟩
    exact⟨by rw[hI]; exact(Xaf xs k hk).symm,_,λG=>by simp only[go_sem,reduceIte,↓reduceIte,reduceCtorEq,nA,nS,nM,nB,nE,nL,nT,nN,iL,iT,iE,iA,iM,iS,iG,iB,iN,iZ,h,t3,t4,XP (Xa .ro) xs k hk,hm',h1,Xp _ _ hk,Xe (show k<9223372036854775807 by omega),hb0]<;>with_reducible rfl,by simp only[go_sem,reduceIte,↓reduceIte,reduceCtorEq,nA,nS,nM,nB,nE,nL,nT,nN,iL,iT,iE,iA,iM,iS,iG,iB,iN,iZ,h]⟩) [] rfl (xs.length+1) (Nat.le_refl _)
 rw[hb0] at hr
 rw[Xd9,List.nil_append] at hr
 simp only[go_sem,reduceIte,↓reduceIte,reduceCtorEq,nA,nS,nM,nB,nE,nL,nT,nN,iL,iT,iE,iA,iM,iS,iG,iB,iN,iZ,h,hr]) (by simp only[go_sem,reduceIte,↓reduceIte,reduceCtorEq,nA,nS,nM,nB,nE,nL,nT,nN,iL,iT,iE,iA,iM,iS,iG,iB,iN,iZ,Y6,XD])
@[go_sem] def Xsu:Xoe.F [.sl .ro 13 []]=some (.sl .mut 13 [],[.u]):=Xs1 [] ⟨Nat.zero_le _,λx hx=>by cases hx⟩
def Xof:SP Tryz.prog:=mkS tyA 101 Tryz.f101 [Xoe] {md:=[.ro 1],rg:=[(0,[1,2],[1,2]),(1,[1,2],[1,2]),(2,[2],[1,2])],rets:=some ([2],[1,2]),plan:=[(1,(.take 0 (.take 1 (.take 3 (.take 4 (.one 2 (.take 6 (.one 5 (.one 7 (.take 8 (.one 9 .done)))))))))))]} Tryz.func101 (by kernel_rfl)
@[go_sem] def XGI:Xof.g=101/\Xof.fs=⟨[.ro 1],Xof.F,false⟩:=⟨nr rfl,nr rfl⟩
@[go_sem] def Xs2(w24 w25:Int)(w26 w27:List XM)(h0:(smL Y0 (Store.mk w24 w25 w26 w27).Trial/\smL Y0 (Store.mk w24 w25 w26 w27).Kept)):Xof.F [.agg [.i .i64 w24,.i .i64 w25,.sl .ro 13 (w26.map (Xa .ro)),.sl .ro 13 (w27.map (Xa .ro))]]=some (.agg (Xcd .mut (Store.mk w24 w25 w26 w27)),[.u]):=Xd (0) rfl rfl (λcx h=>by
 simp only[go_sem,reduceIte,↓reduceIte,reduceCtorEq,nA,nS,nM,nB,nE,nL,nT,nN,iL,iT,iE,iA,iM,iS,iG,iB,iN,iZ,h,h0.1,h0.2]) (by simp only[go_sem,reduceIte,↓reduceIte,reduceCtorEq,nA,nS,nM,nB,nE,nL,nT,nN,iL,iT,iE,iA,iM,iS,iG,iB,iN,iZ,Y6,XD,XN,XF])
@[go_sem] def Xsv(b g:Int):Xof.F [.agg [.i .i64 b,.i .i64 g,.sl .ro 13 [],.sl .ro 13 []]]=some (.agg [.i .i64 b,.i .i64 g,.sl .mut 13 [],.sl .mut 13 []],[.u]):=Xs2 b g [] [] ⟨⟨Nat.zero_le _,λx hx=>by cases hx⟩,⟨Nat.zero_le _,λx hx=>by cases hx⟩⟩
def Xpk:SP Tryz.prog:=mkS tyA 169 Tryz.f169 [Xod] {md:=[.ro 1],rg:=[(0,[1,2],[1,2]),(1,[1,2],[1,2]),(2,[2],[1,2])],rets:=some ([2],[1,2])} Tryz.func169 (by kernel_rfl)
@[go_sem] def XGJ:Xpk.g=169/\Xpk.fs=⟨[.ro 1],Xpk.F,false⟩:=⟨nr rfl,nr rfl⟩
@[go_sem] def XGK(w28 w29 w30:ByteArray)(w31:List XL)(h0:smL Yv (Yt.mk w28 w29 w30 w31).Headers):Xpk.F [.agg [.s w28,.s w29,.s w30,.sl .ro 2 (w31.map (Xl .ro))]]=some (.agg (U5 .mut (Yt.mk w28 w29 w30 w31)),[.u]):=Xd (0) rfl rfl (λcx h=>by
 simp only[go_sem,reduceIte,↓reduceIte,reduceCtorEq,nA,nS,nM,nB,nE,nL,nT,nN,iL,iT,iE,iA,iM,iS,iG,iB,iN,iZ,h,h0]) (by simp only[go_sem,reduceIte,↓reduceIte,reduceCtorEq,nA,nS,nM,nB,nE,nL,nT,nN,iL,iT,iE,iA,iM,iS,iG,iB,iN,iZ,Y6,XD,XN,XF])
def Xpl:SP Tryz.prog:=mkS tyA 170 Tryz.f170 [] {md:=[.ro 1],rg:=[(0,[0],[]),(1,[0,4],[]),(2,[2],[]),(3,[2],[])],rets:=some ([2],[]),nz:=true} Tryz.func170 (by kernel_rfl)
@[go_sem] def XGL:Xpl.g=170/\Xpl.fs=⟨[.ro 1],Xpl.F,false⟩:=⟨nr rfl,nr rfl⟩
@[go_sem] def XGM(xs:List Zc)(h0:smL U6 xs):Xpl.F [.sl .ro 4 (xs.map (XS .ro))]=some (.sl .mut 4 (xs.map (XS .mut)),[.u]):=XbR (0) rfl rfl (λcx h=>by
 have h0:=h0.1
 have h1:(xs.map (XS .ro)).all (·.all plain)=true:=by simp[XS,plain]
 have h2:xs.length*32<=140737488355328:=by omega
 have h3:xs.map (XS .ro)=xs.map (XS .mut):=rfl
 rcases Nat.eq_zero_or_pos xs.length with hp | hp
 ·obtain rfl:=List.length_eq_zero_iff.1 hp
  simp only[go_sem,reduceIte,↓reduceIte,reduceCtorEq,nA,nS,nM,nB,nE,nL,nT,nN,iL,iT,iE,iA,iM,iS,iG,iB,iN,iZ,h]
 ·simp only[go_sem,reduceIte,↓reduceIte,reduceCtorEq,nA,nS,nM,nB,nE,nL,nT,nN,iL,iT,iE,iA,iM,iS,iG,iB,iN,iZ,h,h1,h2,hp]
  rw[h3]) (by simp only[go_sem,reduceIte,↓reduceIte,reduceCtorEq,nA,nS,nM,nB,nE,nL,nT,nN,iL,iT,iE,iA,iM,iS,iG,iB,iN,iZ,Y6,XD])
def Xpm:SP Tryz.prog:=mkS tyA 102 Tryz.f102 [Xpk,Xpl] {md:=[.ro 1],rg:=[(0,[1,2],[1,2]),(1,[1,2],[1,2]),(2,[2],[1,2])],rets:=some ([2],[1,2]),plan:=[(1,(.take 0 (.take 1 (.take 3 (.take 4 (.one 2 (.take 6 (.one 5 (.one 7 (.take 8 (.one 9 .done)))))))))))]} Tryz.func102 (by kernel_rfl)
@[go_sem] def XGN:Xpm.g=102/\Xpm.fs=⟨[.ro 1],Xpm.F,false⟩:=⟨nr rfl,nr rfl⟩
@[go_sem] def XGO(fId:Int)(w32:ByteArray)(w33 w34:Bool)(w35:Int)(w36:Bool)(w37 w38 w39:ByteArray)(w40:List XL)(w41:List Zc)(h0:(smL Yv (Yk.mk fId w32 w33 w34 w35 w36 (Yt.mk w37 w38 w39 w40) w41).Get.Headers/\smL U6 (Yk.mk fId w32 w33 w34 w35 w36 (Yt.mk w37 w38 w39 w40) w41).Waiters)):Xpm.F [.agg [.i .i64 fId,.s w32,.b w33,.b w34,.i .i64 w35,.b w36,.s w37,.s w38,.s w39,.sl .ro 2 (w40.map (Xl .ro)),.sl .ro 4 (w41.map (XS .ro))]]=some (.agg (Xx .mut (Yk.mk fId w32 w33 w34 w35 w36 (Yt.mk w37 w38 w39 w40) w41)),[.u]):=Xd (0) rfl rfl (λcx h=>by
 simp only[go_sem,reduceIte,↓reduceIte,reduceCtorEq,nA,nS,nM,nB,nE,nL,nT,nN,iL,iT,iE,iA,iM,iS,iG,iB,iN,iZ,h,h0.1,h0.2]) (by simp only[go_sem,reduceIte,↓reduceIte,reduceCtorEq,nA,nS,nM,nB,nE,nL,nT,nN,iL,iT,iE,iA,iM,iS,iG,iB,iN,iZ,Y6,XD,XN,XF])
def s40:SP Tryz.prog:=mkS tyA 40 Tryz.f40 [s78,Xoc,Xof,Xpm] {md:=[.ro 1],rg:=[(0,[1,2],[1,2,3]),(1,[1,2,3],[1,2,3]),(2,[1,2,3],[1,2,3]),(3,[1,2,3],[1,2,3]),(4,[1,2,3],[1,2,3]),(5,[1,2,3,22,23,24],[1,2,3]),(6,[1,2,3,22,23,24,25],[1,2,3]),(7,[1,2,3,5,22,23,24],[1,2,3,5]),(8,[1,2,3,22,23,24],[1,2,3]),(9,[1,2,3,22,23,24],[1,2,3]),(10,[2,3,37,38,39],[1,2,3]),(11,[2,3,37,38,39,40],[1,2,3]),(12,[2,3,7,37,38,39],[1,2,3,7]),(13,[2,3,37,38,39],[1,2,3]),(14,[2,3,37,38,39],[1,2,3]),(15,[2],[1,2,3])],lv:=[(0,[1,2,3,22,23,24],[1,2,3]),(2,[2,3,37,38,39],[1,2,3])],out:=[(0,[1,2,3],[1,2,3]),(2,[2,3],[1,2,3])],rets:=some ([2],[1,2,3]),plan:=[(8,(.take 0 (.take 1 (.take 2 (.one 3 (.one 4 (.one 5 (.take 6 (.one 7 .done))))))))),(13,(.take 0 (.take 1 (.take 2 (.one 3 (.one 4 (.one 5 (.take 6 (.one 7 .done)))))))))]} Tryz.func40 (by kernel_rfl)
@[go_sem] def d40:s40.g=40/\s40.fs=⟨[.ro 1],s40.F,false⟩:=⟨nr rfl,nr rfl⟩
@[go_sem] def e40(w42 w43 w44 w45 w46 w47 w48 w49:Int)(vConfigNames:List ByteArray)(w50 w51 w52 w53 w54 w55 w56 w57 w58 w59 w60 w61:Int)(w62 vStoreKept:List XM)(w63:List Origin)(w64:List Yk)(h0:XaH (Shield.mk (Config.mk w42 w43 w44 w45 w46 w47 w48 w49 vConfigNames (Lanes.mk w50 w51 w52) (Rules.mk w53 w54 w55 w56 w57)) w58 w59 (Store.mk w60 w61 w62 vStoreKept) w63 w64)):s40.F [.agg [.i .i64 w42,.i .i64 w43,.i .i64 w44,.i .i64 w45,.i .i64 w46,.i .i64 w47,.i .i64 w48,.i .i64 w49,.sl .ro 1 (vConfigNames.map Yf),.i .i64 w50,.i .i64 w51,.i .i64 w52,.i .i64 w53,.i .i64 w54,.i .i64 w55,.i .i64 w56,.i .i64 w57,.i .i64 w58,.i .i64 w59,.i .i64 w60,.i .i64 w61,.sl .ro 13 (w62.map (Xa .ro)),.sl .ro 13 (vStoreKept.map (Xa .ro)),.sl .ro 7 (w63.map (Xv .ro)),.sl .ro 11 (w64.map (Xx .ro))]]=some (.agg (Xav .mut (Shield.mk (Config.mk w42 w43 w44 w45 w46 w47 w48 w49 vConfigNames (Lanes.mk w50 w51 w52) (Rules.mk w53 w54 w55 w56 w57)) w58 w59 (Store.mk w60 w61 w62 vStoreKept) w63 w64)),[.u]):=Xd (max w63.length w64.length+1) rfl rfl (λcx h=>by
 obtain⟨q0,q1,q2,q3,hS0,hS1⟩:=h0
 have hN:smL U0 vConfigNames:=q0.2.2.2.2.2.2.2.2.1
 have hE:smL Y0 w62/\smL Y0 vStoreKept:=⟨q3.2.2.1,q3.2.2.2⟩
 have hx0:=hS0.1
 have hx1:=hS1.1
 simp only at hx0 hx1
 have hb0:=Xn Tryz.f40 0 _ _ rfl rfl
 obtain⟨hI,hr⟩:=XY (cx:=cx) (blk:=0) (body:=Yl Tryz.f40 0) w63 (λk (s:List Origin)=>⟨E [(1,.p ⟨false,1,[],0⟩),(2,.p ⟨false,2,[],0⟩),(3,.p ⟨false,3,[],0⟩),(22,.sl .ro 7 (w63.map (Xv .ro))),(23,.i .i64 w63.length),(24,.i .i64 k)],B [(1,[.i .i64 w42,.i .i64 w43,.i .i64 w44,.i .i64 w45,.i .i64 w46,.i .i64 w47,.i .i64 w48,.i .i64 w49,.sl .ro 1 (vConfigNames.map Yf),.i .i64 w50,.i .i64 w51,.i .i64 w52,.i .i64 w53,.i .i64 w54,.i .i64 w55,.i .i64 w56,.i .i64 w57,.i .i64 w58,.i .i64 w59,.i .i64 w60,.i .i64 w61,.sl .ro 13 (w62.map (Xa .ro)),.sl .ro 13 (vStoreKept.map (Xa .ro)),.sl .ro 7 (w63.map (Xv .ro)),.sl .ro 11 (w64.map (Xx .ro))]),(2,[.i .i64 0,.i .i64 0,.i .i64 0,.i .i64 0,.i .i64 0,.i .i64 0,.i .i64 0,.i .i64 0,.sl .mut 1 [],.i .i64 0,.i .i64 0,.i .i64 0,.i .i64 0,.i .i64 0,.i .i64 0,.i .i64 0,.i .i64 0,.i .i64 0,.i .i64 0,.i .i64 0,.i .i64 0,.sl .mut 13 [],.sl .mut 13 [],.sl .mut 7 [],.sl .mut 11 []]),(3,[.i .i64 w42,.i .i64 w43,.i .i64 w44,.i .i64 w45,.i .i64 w46,.i .i64 w47,.i .i64 w48,.i .i64 w49,.sl .mut 1 (vConfigNames.map Yf),.i .i64 w50,.i .i64 w51,.i .i64 w52,.i .i64 w53,.i .i64 w54,.i .i64 w55,.i .i64 w56,.i .i64 w57,.i .i64 w58,.i .i64 w59,.i .i64 w60,.i .i64 w61,.sl .mut 13 (w62.map (Xa .mut)),.sl .mut 13 (vStoreKept.map (Xa .mut)),.sl .mut 7 (s.map (Xv .mut)),.sl .mut 11 []])]⟩) (λs=>⟨E [(1,.p ⟨false,1,[],0⟩),(2,.p ⟨false,2,[],0⟩),(3,.p ⟨false,3,[],0⟩)],B [(1,[.i .i64 w42,.i .i64 w43,.i .i64 w44,.i .i64 w45,.i .i64 w46,.i .i64 w47,.i .i64 w48,.i .i64 w49,.sl .ro 1 (vConfigNames.map Yf),.i .i64 w50,.i .i64 w51,.i .i64 w52,.i .i64 w53,.i .i64 w54,.i .i64 w55,.i .i64 w56,.i .i64 w57,.i .i64 w58,.i .i64 w59,.i .i64 w60,.i .i64 w61,.sl .ro 13 (w62.map (Xa .ro)),.sl .ro 13 (vStoreKept.map (Xa .ro)),.sl .ro 7 (w63.map (Xv .ro)),.sl .ro 11 (w64.map (Xx .ro))]),(2,[.i .i64 0,.i .i64 0,.i .i64 0,.i .i64 0,.i .i64 0,.i .i64 0,.i .i64 0,.i .i64 0,.sl .mut 1 [],.i .i64 0,.i .i64 0,.i .i64 0,.i .i64 0,.i .i64 0,.i .i64 0,.i .i64 0,.i .i64 0,.i .i64 0,.i .i64 0,.i .i64 0,.i .i64 0,.sl .mut 13 [],.sl .mut 13 [],.sl .mut 7 [],.sl .mut 11 []]),(3,[.i .i64 w42,.i .i64 w43,.i .i64 w44,.i .i64 w45,.i .i64 w46,.i .i64 w47,.i .i64 w48,.i .i64 w49,.sl .mut 1 (vConfigNames.map Yf),.i .i64 w50,.i .i64 w51,.i .i64 w52,.i .i64 w53,.i .i64 w54,.i .i64 w55,.i .i64 w56,.i .i64 w57,.i .i64 w58,.i .i64 w59,.i .i64 w60,.i .i64 w61,.sl .mut 13 (w62.map (Xa .mut)),.sl .mut 13 (vStoreKept.map (Xa .mut)),.sl .mut 7 (s.map (Xv .mut)),.sl .mut 11 []])]⟩) (λx s=>s++[x]) (λk s=>s=w63.take k)
   (λs hI G=>by simp only[go_sem,reduceIte,↓reduceIte,reduceCtorEq,nA,nS,nM,nB,nE,nL,nT,nN,iL,iT,iE,iA,iM,iS,iG,iB,iN,iZ,h,Int.lt_irrefl,hb0,hx0]) (λk hk s hI=>by
    have h1:((k:Int)<(w63.length:Int)):=Int.ofNat_lt.2 hk
    have hm:=hS0.2 _ (List.getElem_mem hk)
    have hl:s.length<=1048576:=by rw[hI,List.length_take]; omega
    have t3:(s.length+1)*96<=140737488355328:=by omega
    have t4:s.map (Xv .mut)++[Xv .mut w63[k]]=(s++[w63[k]]).map (Xv .mut):=by simp
    simp only[Xv] at t4
    have hm':smL Xce w63[k].Bulk.Queue/\smL Xcf w63[k].Breaker.Marks:=⟨hm.2.1.2,hm.2.2.2.2.2⟩
    exact⟨by rw[hI]; exact(Xaf w63 k hk).symm,_,λG=>by simp only[go_sem,reduceIte,↓reduceIte,reduceCtorEq,nA,nS,nM,nB,nE,nL,nT,nN,iL,iT,iE,iA,iM,iS,iG,iB,iN,iZ,h,t3,t4,XP (Xv .ro) w63 k hk,hm',h1,Xp _ _ hk,Xe (show k<9223372036854775807 by omega),hb0]<;>with_reducible rfl,by simp only[go_sem,reduceIte,↓reduceIte,reduceCtorEq,nA,nS,nM,nB,nE,nL,nT,nN,iL,iT,iE,iA,iM,iS,iG,iB,iN,iZ,h]⟩) [] rfl (max w63.length w64.length+1) (by omega)
 rw[hb0] at hr
 rw[Xd9,List.nil_append] at hr
 have hb1:=Xn Tryz.f40 1 _ _ rfl rfl
 obtain⟨hI,hq⟩:=XY (cx:=cx) (blk:=2) (body:=Yl Tryz.f40 1) w64 (λk (s:List Yk)=>⟨E [(2,.p ⟨false,2,[],0⟩),(3,.p ⟨false,3,[],0⟩),(37,.sl .ro 11 (w64.map (Xx .ro))),(38,.i .i64 w64.length),(39,.i .i64 k)],B [(1,[.i .i64 w42,.i .i64 w43,.i .i64 w44,.i .i64 w45,.i .i64 w46,.i .i64 w47,.i .i64 w48,.i .i64 w49,.sl .ro 1 (vConfigNames.map Yf),.i .i64 w50,.i .i64 w51,.i .i64 w52,.i .i64 w53,.i .i64 w54,.i .i64 w55,.i .i64 w56,.i .i64 w57,.i .i64 w58,.i .i64 w59,.i .i64 w60,.i .i64 w61,.sl .ro 13 (w62.map (Xa .ro)),.sl .ro 13 (vStoreKept.map (Xa .ro)),.sl .ro 7 (w63.map (Xv .ro)),.sl .ro 11 (w64.map (Xx .ro))]),(2,[.i .i64 0,.i .i64 0,.i .i64 0,.i .i64 0,.i .i64 0,.i .i64 0,.i .i64 0,.i .i64 0,.sl .mut 1 [],.i .i64 0,.i .i64 0,.i .i64 0,.i .i64 0,.i .i64 0,.i .i64 0,.i .i64 0,.i .i64 0,.i .i64 0,.i .i64 0,.i .i64 0,.i .i64 0,.sl .mut 13 [],.sl .mut 13 [],.sl .mut 7 [],.sl .mut 11 []]),(3,[.i .i64 w42,.i .i64 w43,.i .i64 w44,.i .i64 w45,.i .i64 w46,.i .i64 w47,.i .i64 w48,.i .i64 w49,.sl .mut 1 (vConfigNames.map Yf),.i .i64 w50,.i .i64 w51,.i .i64 w52,.i .i64 w53,.i .i64 w54,.i .i64 w55,.i .i64 w56,.i .i64 w57,.i .i64 w58,.i .i64 w59,.i .i64 w60,.i .i64 w61,.sl .mut 13 (w62.map (Xa .mut)),.sl .mut 13 (vStoreKept.map (Xa .mut)),.sl .mut 7 (w63.map (Xv .mut)),.sl .mut 11 (s.map (Xx .mut))])]⟩) (λs=>⟨E [(2,.p ⟨false,2,[],0⟩),(3,.p ⟨false,3,[],0⟩)],B [(1,[.i .i64 w42,.i .i64 w43,.i .i64 w44,.i .i64 w45,.i .i64 w46,.i .i64 w47,.i .i64 w48,.i .i64 w49,.sl .ro 1 (vConfigNames.map Yf),.i .i64 w50,.i .i64 w51,.i .i64 w52,.i .i64 w53,.i .i64 w54,.i .i64 w55,.i .i64 w56,.i .i64 w57,.i .i64 w58,.i .i64 w59,.i .i64 w60,.i .i64 w61,.sl .ro 13 (w62.map (Xa .ro)),.sl .ro 13 (vStoreKept.map (Xa .ro)),.sl .ro 7 (w63.map (Xv .ro)),.sl .ro 11 (w64.map (Xx .ro))]),(2,[.i .i64 0,.i .i64 0,.i .i64 0,.i .i64 0,.i .i64 0,.i .i64 0,.i .i64 0,.i .i64 0,.sl .mut 1 [],.i .i64 0,.i .i64 0,.i .i64 0,.i .i64 0,.i .i64 0,.i .i64 0,.i .i64 0,.i .i64 0,.i .i64 0,.i .i64 0,.i .i64 0,.i .i64 0,.sl .mut 13 [],.sl .mut 13 [],.sl .mut 7 [],.sl .mut 11 []]),(3,[.i .i64 w42,.i .i64 w43,.i .i64 w44,.i .i64 w45,.i .i64 w46,.i .i64 w47,.i .i64 w48,.i .i64 w49,.sl .mut 1 (vConfigNames.map Yf),.i .i64 w50,.i .i64 w51,.i .i64 w52,.i .i64 w53,.i .i64 w54,.i .i64 w55,.i .i64 w56,.i .i64 w57,.i .i64 w58,.i .i64 w59,.i .i64 w60,.i .i64 w61,.sl .mut 13 (w62.map (Xa .mut)),.sl .mut 13 (vStoreKept.map (Xa .mut)),.sl .mut 7 (w63.map (Xv .mut)),.sl .mut 11 (s.map (Xx .mut))])]⟩) (λx s=>s++[x]) (λk s=>s=w64.take k)
   (λs hI G=>by simp only[go_sem,reduceIte,↓reduceIte,reduceCtorEq,nA,nS,nM,nB,nE,nL,nT,nN,iL,iT,iE,iA,iM,iS,iG,iB,iN,iZ,h,Int.lt_irrefl,hb1,hx1]) (λk hk s hI=>by
    have h1:((k:Int)<(w64.length:Int)):=Int.ofNat_lt.2 hk
    have hm:=hS1.2 _ (List.getElem_mem hk)
    have hl:s.length<=1048576:=by rw[hI,List.length_take]; omega
    have t3:(s.length+1)*144<=140737488355328:=by omega
    have t4:s.map (Xx .mut)++[Xx .mut w64[k]]=(s++[w64[k]]).map (Xx .mut):=by simp
    simp only[Xx] at t4
    have hm':smL Yv w64[k].Get.Headers/\smL U6 w64[k].Waiters:=⟨hm.2.2.2.2.2.2.1.2.2.2,hm.2.2.2.2.2.2.2⟩
    exact⟨by rw[hI]; exact(Xaf w64 k hk).symm,_,λG=>by simp only[go_sem,reduceIte,↓reduceIte,reduceCtorEq,nA,nS,nM,nB,nE,nL,nT,nN,iL,iT,iE,iA,iM,iS,iG,iB,iN,iZ,h,t3,t4,XP (Xx .ro) w64 k hk,hm',h1,Xp _ _ hk,Xe (show k<9223372036854775807 by omega),hb1]<;>with_reducible rfl,by simp only[go_sem,reduceIte,↓reduceIte,reduceCtorEq,nA,nS,nM,nB,nE,nL,nT,nN,iL,iT,iE,iA,iM,iS,iG,iB,iN,iZ,h]⟩) [] rfl (max w63.length w64.length+1) (by omega)
 rw[hb1] at hq
 rw[Xd9,List.nil_append] at hq
 simp only[go_sem,reduceIte,↓reduceIte,reduceCtorEq,nA,nS,nM,nB,nE,nL,nT,nN,iL,iT,iE,iA,iM,iS,iG,iB,iN,iZ,h,hN,hE,hr,hq]) (by simp only[go_sem,reduceIte,↓reduceIte,reduceCtorEq,nA,nS,nM,nB,nE,nL,nT,nN,iL,iT,iE,iA,iM,iS,iG,iB,iN,iZ,Y6,XD,XN,XF])
@[go_sem] def Xs3(w65 w66 w67 w68 w69 w70 w71 w72:Int)(w73:List ByteArray)(w74 w75 w76 w77 w78 w79 w80 w81:Int)(h0:Qq (Config.mk w65 w66 w67 w68 w69 w70 w71 w72 w73 (Lanes.mk w74 w75 w76) (Rules.mk w77 w78 w79 w80 w81))):s40.F [.agg [.i .i64 w65,.i .i64 w66,.i .i64 w67,.i .i64 w68,.i .i64 w69,.i .i64 w70,.i .i64 w71,.i .i64 w72,.sl .ro 1 (w73.map Yf),.i .i64 w74,.i .i64 w75,.i .i64 w76,.i .i64 w77,.i .i64 w78,.i .i64 w79,.i .i64 w80,.i .i64 w81,.i .i64 0,.i .i64 0,.i .i64 w65,.i .i64 w66,.sl .ro 13 [],.sl .ro 13 [],.sl .ro 7 [],.sl .ro 11 []]]=some (.agg [.i .i64 w65,.i .i64 w66,.i .i64 w67,.i .i64 w68,.i .i64 w69,.i .i64 w70,.i .i64 w71,.i .i64 w72,.sl .mut 1 (w73.map Yf),.i .i64 w74,.i .i64 w75,.i .i64 w76,.i .i64 w77,.i .i64 w78,.i .i64 w79,.i .i64 w80,.i .i64 w81,.i .i64 0,.i .i64 0,.i .i64 w65,.i .i64 w66,.sl .mut 13 [],.sl .mut 13 [],.sl .mut 7 [],.sl .mut 11 []],[.u]):=e40 w65 w66 w67 w68 w69 w70 w71 w72 w73 w74 w75 w76 w77 w78 w79 w80 w81 0 0 w65 w66 [] [] [] [] (XaL h0)
def s11:SP Tryz.prog:=mkS tyA 11 Tryz.f11 [s39,s40] {md:=[.ro 1],rg:=[(0,[1,2,17],[1,2]),(1,[1,2,3,17],[1,2]),(2,[1,2,3,7,17],[1,2]),(3,[2,17],[2]),(4,[2,17],[2])],rets:=some ([2,17],[2])} Tryz.func11 (by kernel_rfl)
@[go_sem] def d11:s11.g=11/\s11.fs=⟨[.ro 1],s11.F,false⟩:=⟨nr rfl,nr rfl⟩
@[go_sem] def e11(w65 w66 w67 w68 w69 w70 w71 w72:Int)(w73:List ByteArray)(w74 w75 w76 w77 w78 w79 w80 w81:Int)(h0:Qq (Config.mk w65 w66 w67 w68 w69 w70 w71 w72 w73 (Lanes.mk w74 w75 w76) (Rules.mk w77 w78 w79 w80 w81))):s11.F [.agg [.i .i64 w65,.i .i64 w66,.i .i64 w67,.i .i64 w68,.i .i64 w69,.i .i64 w70,.i .i64 w71,.i .i64 w72,.sl .ro 1 (w73.map Yf),.i .i64 w74,.i .i64 w75,.i .i64 w76,.i .i64 w77,.i .i64 w78,.i .i64 w79,.i .i64 w80,.i .i64 w81]]=some (.agg (YQ .mut (Qa (Config.mk w65 w66 w67 w68 w69 w70 w71 w72 w73 (Lanes.mk w74 w75 w76) (Rules.mk w77 w78 w79 w80 w81)))),[.u]):=Xd (0) rfl rfl (λcx h=>by
 have hN:=h0.2.2.2.2.2.2.2.2.1
 simp only at hN
 by_cases z:XC (Config.mk w65 w66 w67 w68 w69 w70 w71 w72 w73 (Lanes.mk w74 w75 w76) (Rules.mk w77 w78 w79 w80 w81))=0
 rotate_left
 ·have z':(XC (Config.mk w65 w66 w67 w68 w69 w70 w71 w72 w73 (Lanes.mk w74 w75 w76) (Rules.mk w77 w78 w79 w80 w81)) !=0)=true:=by simpa using z
  simp only[go_sem,reduceIte,↓reduceIte,reduceCtorEq,nA,nS,nM,nB,nE,nL,nT,nN,iL,iT,iE,iA,iM,iS,iG,iB,iN,iZ,h,z',Qa,Xd8,XfM]
 simp only[go_sem,reduceIte,↓reduceIte,reduceCtorEq,nA,nS,nM,nB,nE,nL,nT,nN,iL,iT,iE,iA,iM,iS,iG,iB,iN,iZ,h,z,hN,h0,Qa,UF]) (by simp only[go_sem,reduceIte,↓reduceIte,reduceCtorEq,nA,nS,nM,nB,nE,nL,nT,nN,iL,iT,iE,iA,iM,iS,iG,iB,iN,iZ,Y6,XD,XN,XF])
def s41:SP Tryz.prog:=mkS tyA 41 Tryz.f41 [] {md:=[.ro 1,.ro 1],rg:=[(0,[0,1],[]),(1,[0,1,10],[]),(2,[4],[]),(3,[0,1,5],[]),(4,[0,1,5,14],[]),(5,[0,1,5],[]),(6,[0,1,5,25],[]),(7,[4],[]),(8,[4],[])],lv:=[(0,[0,1,5],[])],out:=[(0,[],[])],rets:=some ([4],[]),plan:=[(6,(.take 0 (.take 1 (.take 2 (.take 3 (.take 4 (.take 5 (.take 6 (.take 7 (.take 8 .done))))))))))]} Tryz.func41 (by kernel_rfl)
@[go_sem] def d41:s41.g=41/\s41.fs=⟨[.ro 1,.ro 1],s41.F,false⟩:=⟨nr rfl,nr rfl⟩
@[go_sem] def e41(xs ys:List ByteArray)(h0:smL U0 xs):s41.F [.sl .ro 1 (xs.map Yf),.sl .ro 1 (ys.map Yf)]=some (.b (eqv xs ys),[.u,.u]):=Xd (xs.length+1) rfl rfl (λcx h=>by
 have hb:=Xn Tryz.f41 0 _ _ rfl rfl
 have hx:=h0.1
 by_cases hl:xs.length=ys.length
 ·obtain⟨r,hr,hq⟩:=Zx (cx:=cx) (blk:=0) (body:=Yl Tryz.f41 0) (xs.zip ys) (λk (_:Unit)=>⟨E [(0,.sl .ro 1 (xs.map Yf)),(1,.sl .ro 1 (ys.map Yf)),(5,.i .i64 k)],B []⟩) (λ_=>⟨E [],B []⟩) (λx _=>!eqv x.1 x.2) (λ_ _=>()) (λ_ _=>(.ret,⟨E [(4,.b false)],B []⟩)) (λ_ _=>True)
   (λl _ G=>by simp only[go_sem,reduceIte,↓reduceIte,reduceCtorEq,nA,nS,nM,nB,nE,nL,nT,nN,iL,iT,iE,iA,iM,iS,iG,iB,iN,iZ,h,YC hl,hl,Int.lt_irrefl,hb]) (λk hk l _=>by
    have hk:k<xs.length:=by rwa [YC hl] at hk
    have h1:((k:Int)<(xs.length:Int)):=Int.ofNat_lt.2 hk
    have h2:=h0.2 _ (List.getElem_mem hk)
    have h3:(xs.zip ys)[k]=(xs[k],ys[k]'(by omega)):=by simp
    rw[h3]
    cases hc:eqv xs[k] (ys[k]'(by omega))
    ·exact .inl ⟨rfl,λG=>by simp only[go_sem,reduceIte,↓reduceIte,reduceCtorEq,nA,nS,nM,nB,nE,nL,nT,nN,iL,iT,iE,iA,iM,iS,iG,iB,iN,iZ,h,hc,XP Yf xs k hk,XP Yf ys k (by omega),Xp ys.length k (by omega),X8,h1,Xp _ _ hk,Xe (show k<9223372036854775807 by omega),hb]⟩
    ·exact .inr ⟨rfl,trivial,_,λG=>by simp only[go_sem,reduceIte,↓reduceIte,reduceCtorEq,nA,nS,nM,nB,nE,nL,nT,nN,iL,iT,iE,iA,iM,iS,iG,iB,iN,iZ,h,hc,XP Yf xs k hk,XP Yf ys k (by omega),Xp ys.length k (by omega),X8,h1,Xp _ _ hk,Xe (show k<9223372036854775807 by omega),hb]<;>with_reducible rfl,by simp only[go_sem,reduceIte,↓reduceIte,reduceCtorEq,nA,nS,nM,nB,nE,nL,nT,nN,iL,iT,iE,iA,iM,iS,iG,iB,iN,iZ,h]⟩) () trivial (xs.length+1) (by rw[YC hl]; exact Nat.le_refl _)
  rw[hb] at hr
  have hl2:((xs.length:Int) !=(ys.length:Int))=false:=by simp[hl]
  rcases hq with⟨s',e1,e2,e3⟩ | ⟨x,s',e1,e3⟩
  ·simp only[go_sem,reduceIte,↓reduceIte,reduceCtorEq,nA,nS,nM,nB,nE,nL,nT,nN,iL,iT,iE,iA,iM,iS,iG,iB,iN,iZ,h,hl2,hr,e3,Um hl e1]
  ·simp only[go_sem,reduceIte,↓reduceIte,reduceCtorEq,nA,nS,nM,nB,nE,nL,nT,nN,iL,iT,iE,iA,iM,iS,iG,iB,iN,iZ,h,hl2,hr,e3,Un hl e1]
 ·have hl2:((xs.length:Int) !=(ys.length:Int))=true:=by simpa using λh=>hl (Int.ofNat_inj.1 h)
  simp only[go_sem,reduceIte,↓reduceIte,reduceCtorEq,nA,nS,nM,nB,nE,nL,nT,nN,iL,iT,iE,iA,iM,iS,iG,iB,iN,iZ,h,hl2,U1 hl]) (rfl)
def s42:SP Tryz.prog:=mkS tyA 42 Tryz.f42 [] {md:=[.ro 1,.ro 1],rg:=[(0,[2,3],[2,3]),(1,[2,3,9],[2,3]),(2,[4],[]),(3,[2,3,14],[2,3]),(4,[4],[]),(5,[19],[]),(6,[4],[]),(7,[4],[])],rets:=some ([4],[])} Tryz.func42 (by kernel_rfl)
@[go_sem] def d42:s42.g=42/\s42.fs=⟨[.ro 1,.ro 1],s42.F,false⟩:=⟨nr rfl,nr rfl⟩
@[go_sem] def e42(w82 w83 w84 w85 w86 w87:Int)(h0:Xex (Lanes.mk w82 w83 w84)):s42.F [.agg [.i .i64 w82,.i .i64 w83,.i .i64 w84],.agg [.i .i64 w85,.i .i64 w86,.i .i64 w87]]=some (.b (eqv (Lanes.mk w82 w83 w84) (Lanes.mk w85 w86 w87)),[.u,.u]):=Xd (0) rfl rfl (λcx h=>by
 obtain⟨q0,q1,q2⟩:=h0
 simp only[go_sem,reduceIte,↓reduceIte,reduceCtorEq,nA,nS,nM,nB,nE,nL,nT,nN,iL,iT,iE,iA,iM,iS,iG,iB,iN,iZ,h,YI,X8,X9,q0,q1,q2]
 simp only[Y2,ZA,Lanes.eqv (Lanes.mk w82 w83 w84) (Lanes.mk w85 w86 w87),Xfw,Zb,Xat,Bool.and_true]) (rfl)
def s43:SP Tryz.prog:=mkS tyA 43 Tryz.f43 [] {md:=[.ro 1,.ro 1],rg:=[(0,[2,3],[2,3]),(1,[2,3,9],[2,3]),(2,[4],[]),(3,[2,3,14],[2,3]),(4,[4],[]),(5,[2,3,19],[2,3]),(6,[4],[]),(7,[2,3,24],[2,3]),(8,[4],[]),(9,[29],[]),(10,[4],[]),(11,[4],[])],rets:=some ([4],[])} Tryz.func43 (by kernel_rfl)
@[go_sem] def d43:s43.g=43/\s43.fs=⟨[.ro 1,.ro 1],s43.F,false⟩:=⟨nr rfl,nr rfl⟩
@[go_sem] def e43(w88 w89 w90 w91 w92 w93 w94 w95 w96 w97:Int)(h0:Xey (Rules.mk w88 w89 w90 w91 w92)):s43.F [.agg [.i .i64 w88,.i .i64 w89,.i .i64 w90,.i .i64 w91,.i .i64 w92],.agg [.i .i64 w93,.i .i64 w94,.i .i64 w95,.i .i64 w96,.i .i64 w97]]=some (.b (eqv (Rules.mk w88 w89 w90 w91 w92) (Rules.mk w93 w94 w95 w96 w97)),[.u,.u]):=Xd (0) rfl rfl (λcx h=>by
 obtain⟨q0,q1,q2,q3,q4⟩:=h0
 simp only[go_sem,reduceIte,↓reduceIte,reduceCtorEq,nA,nS,nM,nB,nE,nL,nT,nN,iL,iT,iE,iA,iM,iS,iG,iB,iN,iZ,h,YI,X8,X9,q0,q1,q2,q3,q4]
 simp only[Y2,ZA,Rules.eqv (Rules.mk w88 w89 w90 w91 w92) (Rules.mk w93 w94 w95 w96 w97),Xfw,Zb,Xat,Bool.and_true]) (rfl)
end
end Go.Vm.A
