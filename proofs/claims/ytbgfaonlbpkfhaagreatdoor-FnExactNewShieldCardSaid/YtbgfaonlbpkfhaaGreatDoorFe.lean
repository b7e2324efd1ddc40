/- Functions of the program, walked by the evaluator. -/
import Derived.Test.YtbgfaonlbpkfhaaGreatDoorWb
import Derived.Test.YtbgfaonlbpkfhaaGreatDoorWa
import Derived.Test.YtbgfaonlbpkfhaaGreatDoorFa
import Derived.Test.YtbgfaonlbpkfhaaGreatDoorFb
import Derived.Test.YtbgfaonlbpkfhaaGreatDoorFc
import Derived.Test.YtbgfaonlbpkfhaaGreatDoorFd
set_option linter.unusedVariables false
set_option linter.unusedSimpArgs false
set_option autoImplicit false
set_option maxRecDepth 100000
set_option maxHeartbeats 4000000
set_option linter.defProp false
namespace Go.Vm.A
open Go.Proofs
open Nat renaming reduceAdd -> nA, reduceSub -> nS, reduceMul -> nM, reduceBEq -> nB, reduceEqDiff -> nE, reduceLeDiff -> nL, reduceLT -> nT, reduceBneDiff -> nN
open Int renaming reduceLE -> iL, reduceLT -> iT, reduceEq -> iE, reduceAdd -> iA, reduceMul -> iM, reduceSub -> iS, reduceNeg -> iG, reduceBEq -> iB, reduceBNe -> iN, reduceToNat -> iZ
noncomputable section
def Xoa:SP Tryz.prog:=mkS tyA 129 Tryz.f129 [Xma] {md:=[.ro 1],rets:=some ([2],[]),plan:=[(1,(.take 0 (.take 1 (.take 3 (.take 4 (.one 2 (.one 5 (.take 6 (.one 7 .done)))))))))]} Tryz.func129 (by kernel_rfl)
@[go_sem] def XGm:Xoa.g=129/\Xoa.fs=⟨[.ro 1],Xoa.F,false⟩:=⟨nr rfl,nr rfl⟩
@[go_sem] def XsS(j0 j1:Int)(xTrial xKept:List XM)(h0:(smL Y0 (Store.mk j0 j1 xTrial xKept).Trial/\smL Y0 (Store.mk j0 j1 xTrial xKept).Kept)):Xoa.F [.agg [.i .i64 j0,.i .i64 j1,.sl .ro 13 (xTrial.map (Xa .ro)),.sl .ro 13 (xKept.map (Xa .ro))]]=some (.i .i64 (ZK (Store.mk j0 j1 xTrial xKept).Trial+ZK (Store.mk j0 j1 xTrial xKept).Kept),[.u]):=Xd (0) rfl rfl (λcx h=>by
 obtain⟨⟨g1,g2⟩,g3,g4⟩:=h0
 simp only at g1 g2 g3 g4
 have c1:=Xd6 g2
 have c2:=Xd6 g4
 have m1:(xTrial.length:Int)*2199030595634<=1048576*2199030595634:=Int.mul_le_mul_of_nonneg_right (by omega) (by decide)
 have m2:(xKept.length:Int)*2199030595634<=1048576*2199030595634:=Int.mul_le_mul_of_nonneg_right (by omega) (by decide)
 have w1:(IntKind.i64).wrap (ZK xTrial+ZK xKept)=ZK xTrial+ZK xKept:=Xc (by omega) (by omega)
 have l1:xTrial.length<=2097152:=by omega
 have l2:xKept.length<=2097152:=by omega
 have v1:Xfr Y0 xTrial:=g2
 have v2:Xfr Y0 xKept:=g4
 simp only[go_sem,reduceIte,↓reduceIte,reduceCtorEq,nA,nS,nM,nB,nE,nL,nT,nN,iL,iT,iE,iA,iM,iS,iG,iB,iN,iZ,h,l1,l2,v1,v2,w1]) (rfl)
@[go_sem] def Xss(b g:Int):Xoa.F [.agg [.i .i64 b,.i .i64 g,.sl .ro 13 [],.sl .ro 13 []]]=some (.i .i64 0,[.u]):=XsS b g [] [] ⟨⟨Nat.zero_le _,λx hx=>by cases hx⟩,⟨Nat.zero_le _,λx hx=>by cases hx⟩⟩
def s62:SP Tryz.prog:=mkS tyA 62 Tryz.f62 [s93,Xn3,Xo7,Xn9,Xoa,Xma] {md:=[.ro 1],rg:=[(0,[1],[1]),(1,[1,3],[1]),(2,[1,3,11],[1]),(3,[2],[]),(4,[1,3,24],[1]),(5,[2],[]),(6,[1,3,28,29,30],[1]),(7,[1,3,28,29,30,31],[1]),(8,[1,3,5,28,29,30],[1,5]),(9,[1,3,6,28,29,30],[1]),(10,[1,3,6,28,29,30,37],[1]),(11,[2],[]),(12,[1,3,28,29,30],[1]),(13,[1,3,40,41,42],[1]),(14,[1,3,40,41,42,43],[1]),(15,[1,3,7,8,40,41,42],[1,8]),(16,[1,3,40,41,42,51],[1]),(17,[2],[]),(18,[1,3,40,41,42],[1]),(19,[65],[]),(20,[2],[]),(21,[2],[])],lv:=[(1,[1,3,28,29,30],[1]),(3,[1,3,40,41,42],[1])],out:=[(1,[1,3],[1]),(3,[1],[1])],rets:=some ([2],[]),plan:=[(19,(.take 0 (.take 2 (.take 3 (.one 1 (.take 4 (.take 5 (.take 6 (.take 7 (.take 9 (.take 10 (.one 8 (.take 11 (.take 12 .done))))))))))))))]} Tryz.func62 (by kernel_rfl)
@[go_sem] def d62:s62.g=62/\s62.fs=⟨[.ro 1],s62.F,false⟩:=⟨nr rfl,nr rfl⟩
@[go_sem] def e62(j2 j3:Int)(j4 vKept:List XM)(h0:Xdf (Store.mk j2 j3 j4 vKept)):s62.F [.agg [.i .i64 j2,.i .i64 j3,.sl .ro 13 (j4.map (Xa .ro)),.sl .ro 13 (vKept.map (Xa .ro))]]=some (.i .i64 (Yc (Store.mk j2 j3 j4 vKept)),[.u]):=Xd (41) rfl rfl (λcx h=>by
 obtain⟨q0,q1,q2,q3⟩:=h0
 simp only at q2 q3
 have hle:j4.length<=1048576/\vKept.length<=1048576:=⟨q2.1,q3.1⟩
 obtain⟨all,hall⟩:∃all,j4++vKept=all:=⟨_,rfl⟩
 have hsm:∀x∈all,Y0 x:=by rw[<-hall]; exact Xii q2 q3
 have hlk:vKept.length<=2097152:=by omega
 have hek:Xfr Y0 vKept:=q3.2
 cases b1:within j2 0 1000000
 ·simp only[go_sem,reduceIte,↓reduceIte,reduceCtorEq,nA,nS,nM,nB,nE,nL,nT,nN,iL,iT,iE,iA,iM,iS,iG,iB,iN,iZ,h,hle,hall,b1,Yc]
 cases b2:within j3 0 j2
 ·simp only[go_sem,reduceIte,↓reduceIte,reduceCtorEq,nA,nS,nM,nB,nE,nL,nT,nN,iL,iT,iE,iA,iM,iS,iG,iB,iN,iZ,h,hle,hall,b1,b2,Yc]
 by_cases b3:40<(all.length:Int)
 ·simp only[go_sem,reduceIte,↓reduceIte,reduceCtorEq,nA,nS,nM,nB,nE,nL,nT,nN,iL,iT,iE,iA,iM,iS,iG,iB,iN,iZ,h,hle,hall,b1,b2,b3,List.length_map,Yc]
 have hx:all.length<=9223372036854775806:=by omega
 have hb0:=Xn Tryz.f62 0 _ _ rfl rfl
 obtain⟨z0,hz0,hqz0⟩:=Yj (cx:=cx) (blk:=1) (body:=Yl Tryz.f62 0) all (λk (s:Unit)=>⟨E [(1,.p ⟨false,1,[],0⟩),(3,.sl .mut 13 (all.map (Xa .ro))),(28,.rf ⟨true,3,[],0⟩ 13 0 all.length),(29,.i .i64 all.length),(30,.i .i64 k)],B [(1,[.i .i64 j2,.i .i64 j3,.sl .ro 13 (j4.map (Xa .ro)),.sl .ro 13 (vKept.map (Xa .ro))])]⟩) (λs=>⟨E [(1,.p ⟨false,1,[],0⟩),(3,.sl .mut 13 (all.map (Xa .ro)))],B [(1,[.i .i64 j2,.i .i64 j3,.sl .ro 13 (j4.map (Xa .ro)),.sl .ro 13 (vKept.map (Xa .ro))])]⟩) (λx s=>Xi x !=0) (λx s=>()) (λx s=>(.ret,⟨E [(2,.i .i64 (Xi x))],B []⟩)) (λk s=>True)
   (λs hI G=>by simp only[go_sem,reduceIte,↓reduceIte,reduceCtorEq,nA,nS,nM,nB,nE,nL,nT,nN,iL,iT,iE,iA,iM,iS,iG,iB,iN,iZ,h,Int.lt_irrefl,hb0,hx,List.length_map]) (λk hk s hI=>by
    have h1:((k:Int)<(all.length:Int)):=Int.ofNat_lt.2 hk
    have tk:List.take all.length (List.map (Xa .ro) all)=List.map (Xa .ro) all:=List.take_of_length_le (by simp)
    have hH:smL Yv all[k].Headers:=(hsm _ (List.getElem_mem hk)).2.2.1
    exact⟨_,_,_,λG=>by simp only[go_sem,reduceIte,↓reduceIte,reduceCtorEq,nA,nS,nM,nB,nE,nL,nT,nN,iL,iT,iE,iA,iM,iS,iG,iB,iN,iZ,h,XP (Xa .ro) all k hk,Xfq (Xa .ro) all k hk,tk,List.length_map,hH,h1,Xp _ _ hk,Xe (show k<9223372036854775807 by omega),hb0]<;>with_reducible rfl,Iff.rfl,λhc=>⟨trivial,by simp only[go_sem,reduceIte,↓reduceIte,reduceCtorEq,nA,nS,nM,nB,nE,nL,nT,nN,iL,iT,iE,iA,iM,iS,iG,iB,iN,iZ,h]⟩⟩) () trivial 41 (by omega)
 rw[hb0] at hz0
 rcases hqz0 with⟨s0,e1,_,e3⟩ | ⟨x,s0,e1,e3⟩
 rotate_left
 ·have e2:=Ur e1
  have e4:(Xi x !=0)=true:=Xd7 e1
  simp only[go_sem,reduceIte,↓reduceIte,reduceCtorEq,nA,nS,nM,nB,nE,nL,nT,nN,iL,iT,iE,iA,iM,iS,iG,iB,iN,iZ,h,hle,hall,b1,b2,b3,List.length_map,hz0,e3,e2,e4,Yc]
 have e2:=Uq e1
 have hb1:=Xn Tryz.f62 1 _ _ rfl rfl
 obtain⟨z1,hz1,hqz1⟩:=Yj (cx:=cx) (blk:=3) (body:=Yl Tryz.f62 1) all (λk (s:List XM)=>⟨E [(1,.p ⟨false,1,[],0⟩),(3,.sl .mut 13 (all.map (Xa .ro))),(40,.rf ⟨true,3,[],0⟩ 13 0 all.length),(41,.i .i64 all.length),(42,.i .i64 k)],B [(1,[.i .i64 j2,.i .i64 j3,.sl .ro 13 (j4.map (Xa .ro)),.sl .ro 13 (vKept.map (Xa .ro))])]⟩) (λs=>⟨E [(1,.p ⟨false,1,[],0⟩)],B [(1,[.i .i64 j2,.i .i64 j3,.sl .ro 13 (j4.map (Xa .ro)),.sl .ro 13 (vKept.map (Xa .ro))])]⟩) (λx s=>s.any λy=>Xcz y x) (λx s=>s++[x]) (λx s=>(.ret,⟨E [(2,.i .i64 6)],B []⟩)) (λk s=>s=all.take k)
   (λs hI G=>by simp only[go_sem,reduceIte,↓reduceIte,reduceCtorEq,nA,nS,nM,nB,nE,nL,nT,nN,iL,iT,iE,iA,iM,iS,iG,iB,iN,iZ,h,Int.lt_irrefl,hb1,hx,List.length_map]) (λk hk s hI=>by
    have h1:((k:Int)<(all.length:Int)):=Int.ofNat_lt.2 hk
    have tk:List.take all.length (List.map (Xa .ro) all)=List.map (Xa .ro) all:=List.take_of_length_le (by simp)
    have t4:(all.map (Xa .ro)).take k=(all.take k).map (Xa .ro):=by rw[List.map_take]
    have t5:(all.take k).length<=9223372036854775806:=by rw[List.length_take]; omega
    have c1:(0:Int)<=(k:Int):=by omega
    have c2:(k:Int)<=(all.length:Int):=by omega
    have c4:k<=all.length:=by omega
    have c3:((all.take k).any λy=>Xcz y all[k])=(all.take k).any λx=>eqv x.Key all[k].Key:=rfl
    subst hI
    exact⟨_,_,_,λG=>by simp only[go_sem,reduceIte,↓reduceIte,reduceCtorEq,nA,nS,nM,nB,nE,nL,nT,nN,iL,iT,iE,iA,iM,iS,iG,iB,iN,iZ,h,t4,t5,c1,c2,c4,XP (Xa .ro) all k hk,Xfq (Xa .ro) all k hk,tk,List.length_map,Int.toNat_natCast,List.drop_zero,Nat.sub_zero,Xbq,h1,Xp _ _ hk,Xe (show k<9223372036854775807 by omega),hb1]<;>with_reducible rfl,by rw[c3],λhc=>⟨(Xaf all k hk).symm,by simp only[go_sem,reduceIte,↓reduceIte,reduceCtorEq,nA,nS,nM,nB,nE,nL,nT,nN,iL,iT,iE,iA,iM,iS,iG,iB,iN,iZ,h]⟩⟩) [] rfl 41 (by omega)
 rw[hb1] at hz1
 rcases hqz1 with⟨s1,k1,_,k3⟩ | ⟨x,s1,k1,k3⟩
 rotate_left
 ·have k2:=XfL k1
  simp only[go_sem,reduceIte,↓reduceIte,reduceCtorEq,nA,nS,nM,nB,nE,nL,nT,nN,iL,iT,iE,iA,iM,iS,iG,iB,iN,iZ,h,hle,hall,b1,b2,b3,List.length_map,hz0,e3,e2,hz1,k3,k2,Yc]
 have k2:=XfK k1
 by_cases d1:j2<ZK j4+ZK vKept
 ·simp only[go_sem,reduceIte,↓reduceIte,reduceCtorEq,nA,nS,nM,nB,nE,nL,nT,nN,iL,iT,iE,iA,iM,iS,iG,iB,iN,iZ,h,hle,hall,b1,b2,b3,List.length_map,hz0,e3,e2,hz1,k3,k2,q2,q3,d1,Yc]
 by_cases d2:j3<ZK vKept<;>simp only[go_sem,reduceIte,↓reduceIte,reduceCtorEq,nA,nS,nM,nB,nE,nL,nT,nN,iL,iT,iE,iA,iM,iS,iG,iB,iN,iZ,h,hle,hall,b1,b2,b3,List.length_map,hz0,e3,e2,hz1,k3,k2,q2,q3,d1,d2,hlk,hek,Yc]) (rfl)
@[go_sem] def XsT(b g:Int):s62.F [.agg [.i .i64 b,.i .i64 g,.sl .ro 13 [],.sl .ro 13 []]]=some (.i .i64 (X6 b g),[.u]):=(e62 b g [] [] ⟨trivial,trivial,⟨Nat.zero_le _,λx hx=>by cases hx⟩,⟨Nat.zero_le _,λx hx=>by cases hx⟩⟩).trans (by rw[XaK])
def s92:SP Tryz.prog:=mkS tyA 92 Tryz.f92 [s62] {md:=[.ro 1,.ro 1],rg:=[(0,[0,1,4,16],[4,5]),(1,[4,5,16],[4,5]),(2,[4,5,6,16],[4,5]),(3,[4,5,6,13,16],[4,5]),(4,[4,16],[4,5]),(5,[4,16],[4,5])],rets:=some ([4,16],[4,5])} Tryz.func92 (by kernel_rfl)
@[go_sem] def d92:s92.g=92/\s92.fs=⟨[.ro 1,.ro 1],s92.F,false⟩:=⟨nr rfl,nr rfl⟩
@[go_sem] def e92(b g:Int):s92.F [.i .i64 b,.i .i64 g]=some (.agg [.i .i64 (X6 b g),.i .i64 (if X6 b g=0 then b else 0),.i .i64 (if X6 b g=0 then g else 0),.sl .mut 13 [],.sl .mut 13 []],[.u,.u]):=Xd (0) rfl rfl (λcx h=>by
 by_cases h1:X6 b g=0
 ·simp only[go_sem,reduceIte,↓reduceIte,reduceCtorEq,nA,nS,nM,nB,nE,nL,nT,nN,iL,iT,iE,iA,iM,iS,iG,iB,iN,iZ,h,h1]
 ·have h2:(X6 b g !=0)=true:=by simpa using h1
  simp only[go_sem,reduceIte,↓reduceIte,reduceCtorEq,nA,nS,nM,nB,nE,nL,nT,nN,iL,iT,iE,iA,iM,iS,iG,iB,iN,iZ,h,h1,h2]) (by simp only[go_sem,reduceIte,↓reduceIte,reduceCtorEq,nA,nS,nM,nB,nE,nL,nT,nN,iL,iT,iE,iA,iM,iS,iG,iB,iN,iZ,Y6,XD,XN,XF])
def s91:SP Tryz.prog:=mkS tyA 91 Tryz.f91 [s92] {md:=[.ro 1],rets:=some ([1],[])} Tryz.func91 (by kernel_rfl)
@[go_sem] def d91:s91.g=91/\s91.fs=⟨[.ro 1],s91.F,false⟩:=⟨nr rfl,nr rfl⟩
@[go_sem] def e91(j5 j6 j7 j8 j9 j10 j11 j12:Int)(j13:List ByteArray)(j14 j15 j16 j17 j18 j19 j20 j21:Int):s91.F [.pr [.i .i64 j5,.i .i64 j6,.i .i64 j7,.i .i64 j8,.i .i64 j9,.i .i64 j10,.i .i64 j11,.i .i64 j12,.sl .ro 1 (j13.map Yf),.i .i64 j14,.i .i64 j15,.i .i64 j16,.i .i64 j17,.i .i64 j18,.i .i64 j19,.i .i64 j20,.i .i64 j21]]=some (.i .i64 (X6 j5 j6),[.u]):=Xd (0) rfl rfl (λcx h=>by
 simp only[go_sem,reduceIte,↓reduceIte,reduceCtorEq,nA,nS,nM,nB,nE,nL,nT,nN,iL,iT,iE,iA,iM,iS,iG,iB,iN,iZ,h]) (rfl)
def Xob:SP Tryz.prog:=mkS tyA 166 Tryz.f166 [Xn7] {md:=[.ro 1],rets:=some ([2],[])} Tryz.func166 (by kernel_rfl)
@[go_sem] def XGn:Xob.g=166/\Xob.fs=⟨[.ro 1],Xob.F,false⟩:=⟨nr rfl,nr rfl⟩
@[go_sem] def XGo(t:ByteArray):Xob.F [.s t]=some (.b (!Ua t),[.u]):=Xd (0) rfl rfl (λcx h=>by
 simp only[go_sem,reduceIte,↓reduceIte,reduceCtorEq,nA,nS,nM,nB,nE,nL,nT,nN,iL,iT,iE,iA,iM,iS,iG,iB,iN,iZ,h]) (rfl)
def Xpc:SP Tryz.prog:=mkS tyA 225 Tryz.f225 [Xob] {md:=[.ro 1,.ro 1],rg:=[(0,[0,1],[]),(1,[0,1,7,8],[]),(2,[0,1,7,8,9],[]),(3,[0,1,5,7,8],[]),(4,[0,1,5,7,8,16],[]),(5,[4],[]),(6,[0,1,7,8],[]),(7,[4],[])],lv:=[(0,[0,1,7,8],[])],out:=[(0,[],[])],rets:=some ([4],[])} Tryz.func225 (by kernel_rfl)
@[go_sem] def XGp:Xpc.g=225/\Xpc.fs=⟨[.ro 1,.ro 1],Xpc.F,false⟩:=⟨nr rfl,nr rfl⟩
@[go_sem] def XqO(xs:List ByteArray)(hb:xs.length<=9223372036854775806):Xpc.F [.sl .ro 1 (xs.map Yf),.fn 166 []]=some (.i .i64 (Xh4 (λx=>!Ua x) xs 0),[.u,.u]):=Xd (xs.length+1) rfl rfl (λcx h=>by
 have hx:=hb
 have hb0:=Xn Tryz.f225 0 _ _ rfl rfl
 obtain⟨r,hr,hq⟩:=Yj (cx:=cx) (blk:=0) (body:=Yl Tryz.f225 0) xs (λk (s:Nat)=>⟨E [(0,.sl .ro 1 (xs.map Yf)),(1,.fn 166 []),(7,.i .i64 xs.length),(8,.i .i64 k)],B []⟩) (λs=>⟨E [],B []⟩) (λx s=>!Ua x) (λx s=>s+1) (λx s=>(.ret,⟨E [(4,.i .i64 s)],B []⟩)) (λk s=>k=s)
   (λs hI G=>by simp only[go_sem,reduceIte,↓reduceIte,reduceCtorEq,nA,nS,nM,nB,nE,nL,nT,nN,iL,iT,iE,iA,iM,iS,iG,iB,iN,iZ,h,Int.lt_irrefl,hb0,hI]) (λk hk s hI=>by
    have h1:((k:Int)<(xs.length:Int)):=Int.ofNat_lt.2 hk
    obtain rfl:=hI
    exact⟨_,_,_,λG=>by simp only[go_sem,reduceIte,↓reduceIte,reduceCtorEq,nA,nS,nM,nB,nE,nL,nT,nN,iL,iT,iE,iA,iM,iS,iG,iB,iN,iZ,h,XP Yf xs _ hk,decide_eq_true_eq,h1,Xp _ _ hk,Xe (show k<9223372036854775807 by omega),hb0]<;>with_reducible rfl,by first | exact Iff.rfl | simp,λhc=>⟨rfl,by simp only[go_sem,reduceIte,↓reduceIte,reduceCtorEq,nA,nS,nM,nB,nE,nL,nT,nN,iL,iT,iE,iA,iM,iS,iG,iB,iN,iZ,h]⟩⟩) 0 rfl (xs.length+1) (Nat.le_refl _)
 rw[hb0] at hr
 rcases hq with⟨s',e1,_,e3⟩ | ⟨x,s',e1,e3⟩
 ·simp only[go_sem,reduceIte,↓reduceIte,reduceCtorEq,nA,nS,nM,nB,nE,nL,nT,nN,iL,iT,iE,iA,iM,iS,iG,iB,iN,iZ,h,hr,e3,Xcr e1]
 ·simp only[go_sem,reduceIte,↓reduceIte,reduceCtorEq,nA,nS,nM,nB,nE,nL,nT,nN,iL,iT,iE,iA,iM,iS,iG,iB,iN,iZ,h,hr,e3,Xbp e1]) (rfl)
def Xpd:SP Tryz.prog:=mkS tyA 165 Tryz.f165 [Xpc] {md:=[.ro 1,.ro 1],rets:=some ([4],[])} Tryz.func165 (by kernel_rfl)
@[go_sem] def XGq:Xpd.g=165/\Xpd.fs=⟨[.ro 1,.ro 1],Xpd.F,false⟩:=⟨nr rfl,nr rfl⟩
@[go_sem] def XqP(xs:List ByteArray)(hb:xs.length<=9223372036854775806):Xpd.F [.sl .ro 1 (xs.map Yf),.fn 166 []]=some (.b (xs.any (λx=>!Ua x)),[.u,.u]):=Xd (0) rfl rfl (λcx h=>by
 simp only[go_sem,reduceIte,↓reduceIte,reduceCtorEq,nA,nS,nM,nB,nE,nL,nT,nN,iL,iT,iE,iA,iM,iS,iG,iB,iN,iZ,h,hb,Xbq]) (rfl)
def s95:SP Tryz.prog:=mkS tyA 95 Tryz.f95 [Xpd,Xob] {md:=[.ro 1],rg:=[(0,[0],[]),(1,[0,5],[]),(2,[2],[]),(3,[7],[]),(4,[2],[]),(5,[2],[])],rets:=some ([2],[])} Tryz.func95 (by kernel_rfl)
@[go_sem] def d95:s95.g=95/\s95.fs=⟨[.ro 1],s95.F,false⟩:=⟨nr rfl,nr rfl⟩
@[go_sem] def e95(xs:List ByteArray):s95.F [.sl .ro 1 (xs.map Yf)]=some (.i .i64 (YN xs),[.u]):=Xd (0) rfl rfl (λcx h=>by
 by_cases h1:4<(xs.length:Int)
 ·simp only[go_sem,reduceIte,↓reduceIte,reduceCtorEq,nA,nS,nM,nB,nE,nL,nT,nN,iL,iT,iE,iA,iM,iS,iG,iB,iN,iZ,h,h1,YN]
 have hx:xs.length<=9223372036854775806:=by omega
 cases h2:(xs.any λx=>!Ua x)<;>simp only[go_sem,reduceIte,↓reduceIte,reduceCtorEq,nA,nS,nM,nB,nE,nL,nT,nN,iL,iT,iE,iA,iM,iS,iG,iB,iN,iZ,h,h1,h2,hx,YN]) (rfl)
def s94:SP Tryz.prog:=mkS tyA 94 Tryz.f94 [s95] {md:=[.ro 1],rets:=some ([1],[])} Tryz.func94 (by kernel_rfl)
@[go_sem] def d94:s94.g=94/\s94.fs=⟨[.ro 1],s94.F,false⟩:=⟨nr rfl,nr rfl⟩
@[go_sem] def e94(j5 j6 j7 j8 j9 j10 j11 j12:Int)(j13:List ByteArray)(j14 j15 j16 j17 j18 j19 j20 j21:Int):s94.F [.pr [.i .i64 j5,.i .i64 j6,.i .i64 j7,.i .i64 j8,.i .i64 j9,.i .i64 j10,.i .i64 j11,.i .i64 j12,.sl .ro 1 (j13.map Yf),.i .i64 j14,.i .i64 j15,.i .i64 j16,.i .i64 j17,.i .i64 j18,.i .i64 j19,.i .i64 j20,.i .i64 j21]]=some (.i .i64 (YN j13),[.u]):=Xd (0) rfl rfl (λcx h=>by
 simp only[go_sem,reduceIte,↓reduceIte,reduceCtorEq,nA,nS,nM,nB,nE,nL,nT,nN,iL,iT,iE,iA,iM,iS,iG,iB,iN,iZ,h]) (rfl)
def s97:SP Tryz.prog:=mkS tyA 97 Tryz.f97 [s93] {md:=[.ro 1],rg:=[(0,[1],[1]),(1,[18],[]),(2,[2],[]),(3,[2],[])],rets:=some ([2],[])} Tryz.func97 (by kernel_rfl)
@[go_sem] def d97:s97.g=97/\s97.fs=⟨[.ro 1],s97.F,false⟩:=⟨nr rfl,nr rfl⟩
@[go_sem] def e97(j22 j23 j24:Int):s97.F [.agg [.i .i64 j22,.i .i64 j23,.i .i64 j24]]=some (.i .i64 (YT (Lanes.mk j22 j23 j24)),[.u]):=Xd (0) rfl rfl (λcx h=>by
 simp only[go_sem,reduceIte,↓reduceIte,reduceCtorEq,nA,nS,nM,nB,nE,nL,nT,nN,iL,iT,iE,iA,iM,iS,iG,iB,iN,iZ,h]
 simp only[YT]
 cases within j22 1 8<;>cases within j23 0 8<;>cases within j24 0 1000000<;>rfl) (rfl)
def s96:SP Tryz.prog:=mkS tyA 96 Tryz.f96 [s97] {md:=[.ro 1],rets:=some ([1],[])} Tryz.func96 (by kernel_rfl)
@[go_sem] def d96:s96.g=96/\s96.fs=⟨[.ro 1],s96.F,false⟩:=⟨nr rfl,nr rfl⟩
@[go_sem] def e96(j5 j6 j7 j8 j9 j10 j11 j12:Int)(j13:List ByteArray)(j14 j15 j16 j17 j18 j19 j20 j21:Int):s96.F [.pr [.i .i64 j5,.i .i64 j6,.i .i64 j7,.i .i64 j8,.i .i64 j9,.i .i64 j10,.i .i64 j11,.i .i64 j12,.sl .ro 1 (j13.map Yf),.i .i64 j14,.i .i64 j15,.i .i64 j16,.i .i64 j17,.i .i64 j18,.i .i64 j19,.i .i64 j20,.i .i64 j21]]=some (.i .i64 (YT ⟨j14,j15,j16⟩),[.u]):=Xd (0) rfl rfl (λcx h=>by
 simp only[go_sem,reduceIte,↓reduceIte,reduceCtorEq,nA,nS,nM,nB,nE,nL,nT,nN,iL,iT,iE,iA,iM,iS,iG,iB,iN,iZ,h]) (rfl)
def s99:SP Tryz.prog:=mkS tyA 99 Tryz.f99 [s93] {md:=[.ro 1],rg:=[(0,[1],[1]),(1,[30],[]),(2,[2],[]),(3,[2],[])],rets:=some ([2],[])} Tryz.func99 (by kernel_rfl)
@[go_sem] def d99:s99.g=99/\s99.fs=⟨[.ro 1],s99.F,false⟩:=⟨nr rfl,nr rfl⟩
@[go_sem] def e99(j25 j26 j27 j28 j29:Int):s99.F [.agg [.i .i64 j25,.i .i64 j26,.i .i64 j27,.i .i64 j28,.i .i64 j29]]=some (.i .i64 (Y7 (Rules.mk j25 j26 j27 j28 j29)),[.u]):=Xd (0) rfl rfl (λcx h=>by
 simp only[go_sem,reduceIte,↓reduceIte,reduceCtorEq,nA,nS,nM,nB,nE,nL,nT,nN,iL,iT,iE,iA,iM,iS,iG,iB,iN,iZ,h]
 simp only[Y7]
 cases within j25 1 1000000<;>cases within j26 1 50<;>cases within j27 1 1000<;>cases within j28 0 1000000<;>cases within j29 1 5<;>rfl) (rfl)
def s98:SP Tryz.prog:=mkS tyA 98 Tryz.f98 [s99] {md:=[.ro 1],rets:=some ([1],[])} Tryz.func98 (by kernel_rfl)
@[go_sem] def d98:s98.g=98/\s98.fs=⟨[.ro 1],s98.F,false⟩:=⟨nr rfl,nr rfl⟩
@[go_sem] def e98(j5 j6 j7 j8 j9 j10 j11 j12:Int)(j13:List ByteArray)(j14 j15 j16 j17 j18 j19 j20 j21:Int):s98.F [.pr [.i .i64 j5,.i .i64 j6,.i .i64 j7,.i .i64 j8,.i .i64 j9,.i .i64 j10,.i .i64 j11,.i .i64 j12,.sl .ro 1 (j13.map Yf),.i .i64 j14,.i .i64 j15,.i .i64 j16,.i .i64 j17,.i .i64 j18,.i .i64 j19,.i .i64 j20,.i .i64 j21]]=some (.i .i64 (Y7 ⟨j17,j18,j19,j20,j21⟩),[.u]):=Xd (0) rfl rfl (λcx h=>by
 simp only[go_sem,reduceIte,↓reduceIte,reduceCtorEq,nA,nS,nM,nB,nE,nL,nT,nN,iL,iT,iE,iA,iM,iS,iG,iB,iN,iZ,h]) (rfl)
def cl(p:Bool×Int):AV:=.fn 124 [.pr [.b p.1],.pr [.i .i64 p.2]]
@[go_sem] def Xst(p:Bool×Int):cl p=.fn 124 [.pr [.b p.1],.pr [.i .i64 p.2]]:=nr rfl
@[go_sem] def Xmb(kp kr:Pl->Bool):∀xs:List (Bool×Int),Yd kp kr (xs.map cl)=xs.map cl
 | []=>rfl
 | x :: xs=>by simp only[List.map_cons,Yd,Xmb kp kr xs,cl,filt]
def clv(p:Bool×Int):Int:=if p.1=true then p.2 else 0
def Uc:List (Bool×Int)->Int
 | []=>0
 | p :: r=>if(clv p !=0)=true then clv p else Uc r
def Xdv:∀{xs:List (Bool×Int)} {u u':Unit},Xad (λx _=>clv x !=0) (λ_ _=>()) xs u=.inl u'->Uc xs=0
 | [],_,_,_=>rfl
 | x :: xs,u,u',h=>by
  rw[YO] at h
  split at h
  ·cases h
  ·rename_i hc; rw[Uc,if_neg hc]; exact Xdv h
def Xdw:∀{xs:List (Bool×Int)} {u:Unit} {q:(Bool×Int)×Unit},Xad (λx _=>clv x !=0) (λ_ _=>()) xs u=.inr q->Uc xs=clv q.1
 | [],_,_,h=>by cases h
 | x :: xs,u,q,h=>by
  rw[YO] at h
  split at h
  ·rename_i hc; injection h with h; subst h; rw[Uc,if_pos hc]
  ·rename_i hc; rw[Uc,if_neg hc]; exact Xdw h
def map_gdA{α:Type}(f:α->AV)(xs:List α)(k:Nat)(h:k<xs.length):(xs.map f).getD k .u=f xs[k]:=by simp[List.getD,h]
def s57:SP Tryz.prog:=mkS tyA 57 Tryz.f57 [s91,s94,s96,s98,XoV] {md:=[.ro 1],rg:=[(0,[0],[]),(1,[0,6,7,8],[]),(2,[0,6,7,8,9],[]),(3,[0,4,6,7,8],[]),(4,[0,5,6,7,8],[]),(5,[0,5,6,7,8,15],[]),(6,[2],[]),(7,[0,6,7,8],[]),(8,[2],[])],lv:=[(0,[0,6,7,8],[])],out:=[(0,[],[])],rets:=some ([2],[])} Tryz.func57 (by kernel_rfl)
@[go_sem] def d57:s57.g=57/\s57.fs=⟨[.ro 1],s57.F,false⟩:=⟨nr rfl,nr rfl⟩
def e57(xs:List (Bool×Int))(hb:xs.length<=1000):s57.F [.fs (xs.map cl)]=some (.i .i64 (Uc xs),[.u]):=Xd (xs.length+1) rfl rfl (λcx h=>by
 have hx:=hb
 have hb0:=Xn Tryz.f57 0 _ _ rfl rfl
 obtain⟨r,hr,hq⟩:=Yj (cx:=cx) (blk:=0) (body:=Yl Tryz.f57 0) xs (λk (s:Unit)=>⟨E [(0,.fs (xs.map cl)),(6,.fs (xs.map cl)),(7,.i .i64 xs.length),(8,.i .i64 k)],B []⟩) (λs=>⟨E [],B []⟩) (λx s=>clv x !=0) (λx s=>()) (λx s=>(.ret,⟨E [(2,.i .i64 (clv x))],B []⟩)) (λk s=>True)
   (λs hI G=>by simp only[go_sem,reduceIte,↓reduceIte,reduceCtorEq,nA,nS,nM,nB,nE,nL,nT,nN,iL,iT,iE,iA,iM,iS,iG,iB,iN,iZ,h,Int.lt_irrefl,hb0,hx]) (λk hk s hI=>by
    have h1:((k:Int)<(xs.length:Int)):=Int.ofNat_lt.2 hk
    have h3:clv xs[k]=(if xs[k].1=true then xs[k].2 else 0):=rfl
    exact⟨_,_,_,λG=>by simp only[go_sem,reduceIte,↓reduceIte,reduceCtorEq,nA,nS,nM,nB,nE,nL,nT,nN,iL,iT,iE,iA,iM,iS,iG,iB,iN,iZ,h,map_gdA cl xs k hk,h3,h1,Xp _ _ hk,Xe (show k<9223372036854775807 by omega),hb0]<;>with_reducible rfl,by simp[h3],λhc=>⟨trivial,by simp only[go_sem,reduceIte,↓reduceIte,reduceCtorEq,nA,nS,nM,nB,nE,nL,nT,nN,iL,iT,iE,iA,iM,iS,iG,iB,iN,iZ,h]⟩⟩) () trivial (xs.length+1) (Nat.le_refl _)
 rw[hb0] at hr
 rcases hq with⟨s',e1,_,e3⟩ | ⟨x,s',e1,e3⟩
 ·simp only[go_sem,reduceIte,↓reduceIte,reduceCtorEq,nA,nS,nM,nB,nE,nL,nT,nN,iL,iT,iE,iA,iM,iS,iG,iB,iN,iZ,h,hr,e3,Xdv e1]
 ·simp only[go_sem,reduceIte,↓reduceIte,reduceCtorEq,nA,nS,nM,nB,nE,nL,nT,nN,iL,iT,iE,iA,iM,iS,iG,iB,iN,iZ,h,hr,e3,Xdw e1]) (rfl)
@[go_sem] def XsU(a0:Bool)(x0:Int):s57.F [.fs [.fn 124 [.pr [.b a0],.pr [.i .i64 x0]]]]=some (.i .i64 (Uc [(a0,x0)]),[.u]):=e57 [(a0,x0)] (by simp)
@[go_sem] def XsV(a0:Bool)(x0:Int)(a1:Bool)(x1:Int):s57.F [.fs [.fn 124 [.pr [.b a0],.pr [.i .i64 x0]],.fn 124 [.pr [.b a1],.pr [.i .i64 x1]]]]=some (.i .i64 (Uc [(a0,x0),(a1,x1)]),[.u]):=e57 [(a0,x0),(a1,x1)] (by simp)
@[go_sem] def XsW(a0:Bool)(x0:Int)(a1:Bool)(x1:Int)(a2:Bool)(x2:Int):s57.F [.fs [.fn 124 [.pr [.b a0],.pr [.i .i64 x0]],.fn 124 [.pr [.b a1],.pr [.i .i64 x1]],.fn 124 [.pr [.b a2],.pr [.i .i64 x2]]]]=some (.i .i64 (Uc [(a0,x0),(a1,x1),(a2,x2)]),[.u]):=e57 [(a0,x0),(a1,x1),(a2,x2)] (by simp)
@[go_sem] def XsX(a0:Bool)(x0:Int)(a1:Bool)(x1:Int)(a2:Bool)(x2:Int)(a3:Bool)(x3:Int):s57.F [.fs [.fn 124 [.pr [.b a0],.pr [.i .i64 x0]],.fn 124 [.pr [.b a1],.pr [.i .i64 x1]],.fn 124 [.pr [.b a2],.pr [.i .i64 x2]],.fn 124 [.pr [.b a3],.pr [.i .i64 x3]]]]=some (.i .i64 (Uc [(a0,x0),(a1,x1),(a2,x2),(a3,x3)]),[.u]):=e57 [(a0,x0),(a1,x1),(a2,x2),(a3,x3)] (by simp)
@[go_sem] def XsY(a0:Bool)(x0:Int)(a1:Bool)(x1:Int)(a2:Bool)(x2:Int)(a3:Bool)(x3:Int)(a4:Bool)(x4:Int):s57.F [.fs [.fn 124 [.pr [.b a0],.pr [.i .i64 x0]],.fn 124 [.pr [.b a1],.pr [.i .i64 x1]],.fn 124 [.pr [.b a2],.pr [.i .i64 x2]],.fn 124 [.pr [.b a3],.pr [.i .i64 x3]],.fn 124 [.pr [.b a4],.pr [.i .i64 x4]]]]=some (.i .i64 (Uc [(a0,x0),(a1,x1),(a2,x2),(a3,x3),(a4,x4)]),[.u]):=e57 [(a0,x0),(a1,x1),(a2,x2),(a3,x3),(a4,x4)] (by simp)
@[go_sem] def XsZ(a0:Bool)(x0:Int)(a1:Bool)(x1:Int)(a2:Bool)(x2:Int)(a3:Bool)(x3:Int)(a4:Bool)(x4:Int)(a5:Bool)(x5:Int):s57.F [.fs [.fn 124 [.pr [.b a0],.pr [.i .i64 x0]],.fn 124 [.pr [.b a1],.pr [.i .i64 x1]],.fn 124 [.pr [.b a2],.pr [.i .i64 x2]],.fn 124 [.pr [.b a3],.pr [.i .i64 x3]],.fn 124 [.pr [.b a4],.pr [.i .i64 x4]],.fn 124 [.pr [.b a5],.pr [.i .i64 x5]]]]=some (.i .i64 (Uc [(a0,x0),(a1,x1),(a2,x2),(a3,x3),(a4,x4),(a5,x5)]),[.u]):=e57 [(a0,x0),(a1,x1),(a2,x2),(a3,x3),(a4,x4),(a5,x5)] (by simp)
@[go_sem] def Xs0(a0:Bool)(x0:Int)(a1:Bool)(x1:Int)(a2:Bool)(x2:Int)(a3:Bool)(x3:Int)(a4:Bool)(x4:Int)(a5:Bool)(x5:Int)(a6:Bool)(x6:Int):s57.F [.fs [.fn 124 [.pr [.b a0],.pr [.i .i64 x0]],.fn 124 [.pr [.b a1],.pr [.i .i64 x1]],.fn 124 [.pr [.b a2],.pr [.i .i64 x2]],.fn 124 [.pr [.b a3],.pr [.i .i64 x3]],.fn 124 [.pr [.b a4],.pr [.i .i64 x4]],.fn 124 [.pr [.b a5],.pr [.i .i64 x5]],.fn 124 [.pr [.b a6],.pr [.i .i64 x6]]]]=some (.i .i64 (Uc [(a0,x0),(a1,x1),(a2,x2),(a3,x3),(a4,x4),(a5,x5),(a6,x6)]),[.u]):=e57 [(a0,x0),(a1,x1),(a2,x2),(a3,x3),(a4,x4),(a5,x5),(a6,x6)] (by simp)
def s59:SP Tryz.prog:=mkS tyA 59 Tryz.f59 [] {md:=[.ro 1,.ro 1],wk:=true,rets:=some ([4],[2,3]),fz:=[2,3]} Tryz.func59 (by kernel_rfl)
@[go_sem] def d59:s59.g=59/\s59.fs=⟨[.ro 1,.ro 1],s59.F,true⟩:=⟨nr rfl,nr rfl⟩
@[go_sem] def e59(x:Bool)(c:Int):s59.F [.b x,.i .i64 c]=some (.fn 124 [.pr [.b x],.pr [.i .i64 c]],[.u,.u]):=Xd (0) rfl rfl (λcx h=>by
 simp only[go_sem,reduceIte,↓reduceIte,reduceCtorEq,nA,nS,nM,nB,nE,nL,nT,nN,iL,iT,iE,iA,iM,iS,iG,iB,iN,iZ,h]) (rfl)
@[go_sem] def Xre(j5 j6 j7 j8 j9 j10 j11 j12:Int)(j13:List ByteArray)(j14 j15 j16 j17 j18 j19 j20 j21:Int)(q:Bool)(x:Int):s57.F [.fs [.fn 91 [.pr [.i .i64 j5,.i .i64 j6,.i .i64 j7,.i .i64 j8,.i .i64 j9,.i .i64 j10,.i .i64 j11,.i .i64 j12,.sl .ro 1 (j13.map Yf),.i .i64 j14,.i .i64 j15,.i .i64 j16,.i .i64 j17,.i .i64 j18,.i .i64 j19,.i .i64 j20,.i .i64 j21]],.fn 124 [.pr [.b q],.pr [.i .i64 x]],.fn 94 [.pr [.i .i64 j5,.i .i64 j6,.i .i64 j7,.i .i64 j8,.i .i64 j9,.i .i64 j10,.i .i64 j11,.i .i64 j12,.sl .ro 1 (j13.map Yf),.i .i64 j14,.i .i64 j15,.i .i64 j16,.i .i64 j17,.i .i64 j18,.i .i64 j19,.i .i64 j20,.i .i64 j21]],.fn 96 [.pr [.i .i64 j5,.i .i64 j6,.i .i64 j7,.i .i64 j8,.i .i64 j9,.i .i64 j10,.i .i64 j11,.i .i64 j12,.sl .ro 1 (j13.map Yf),.i .i64 j14,.i .i64 j15,.i .i64 j16,.i .i64 j17,.i .i64 j18,.i .i64 j19,.i .i64 j20,.i .i64 j21]],.fn 98 [.pr [.i .i64 j5,.i .i64 j6,.i .i64 j7,.i .i64 j8,.i .i64 j9,.i .i64 j10,.i .i64 j11,.i .i64 j12,.sl .ro 1 (j13.map Yf),.i .i64 j14,.i .i64 j15,.i .i64 j16,.i .i64 j17,.i .i64 j18,.i .i64 j19,.i .i64 j20,.i .i64 j21]]]]=some (.i .i64 (Xas [X6 j5 j6,(if q=true then x else 0),YN j13,YT ⟨j14,j15,j16⟩,Y7 ⟨j17,j18,j19,j20,j21⟩]),[.u]):=Xd (6) rfl rfl (λcx h=>by
 by_cases z0:X6 j5 j6=0
 rotate_left
 ·have y0:(X6 j5 j6 !=0)=true:=by simpa using z0
  simp only[go_sem,reduceIte,↓reduceIte,reduceCtorEq,nA,nS,nM,nB,nE,nL,nT,nN,iL,iT,iE,iA,iM,iS,iG,iB,iN,iZ,h,y0,XR,XlV,Xc9,Xc7,Xc8,XdV,XdW,XdX,XdY,XdZ,Xd0,XaY,XaZ,Xa0,XbS,XbT,XbU,XbV]
 have y0:(X6 j5 j6 !=0)=false:=by simpa using z0
 by_cases z1:(if q=true then x else 0)=0
 rotate_left
 ·have y1:((if q=true then x else 0) !=0)=true:=by simpa using z1
  simp only[go_sem,reduceIte,↓reduceIte,reduceCtorEq,nA,nS,nM,nB,nE,nL,nT,nN,iL,iT,iE,iA,iM,iS,iG,iB,iN,iZ,h,y0,y1,XR,XlV,Xc9,Xc7,Xc8,XdV,XdW,XdX,XdY,XdZ,Xd0,XaY,XaZ,Xa0,XbS,XbT,XbU,XbV]
 have y1:((if q=true then x else 0) !=0)=false:=by simpa using z1
 by_cases z2:YN j13=0
 rotate_left
 ·have y2:(YN j13 !=0)=true:=by simpa using z2
  simp only[go_sem,reduceIte,↓reduceIte,reduceCtorEq,nA,nS,nM,nB,nE,nL,nT,nN,iL,iT,iE,iA,iM,iS,iG,iB,iN,iZ,h,y0,y1,y2,XR,XlV,Xc9,Xc7,Xc8,XdV,XdW,XdX,XdY,XdZ,Xd0,XaY,XaZ,Xa0,XbS,XbT,XbU,XbV]
 have y2:(YN j13 !=0)=false:=by simpa using z2
 by_cases z3:YT ⟨j14,j15,j16⟩=0
 rotate_left
 ·have y3:(YT ⟨j14,j15,j16⟩ !=0)=true:=by simpa using z3
  simp only[go_sem,reduceIte,↓reduceIte,reduceCtorEq,nA,nS,nM,nB,nE,nL,nT,nN,iL,iT,iE,iA,iM,iS,iG,iB,iN,iZ,h,y0,y1,y2,y3,XR,XlV,Xc9,Xc7,Xc8,XdV,XdW,XdX,XdY,XdZ,Xd0,XaY,XaZ,Xa0,XbS,XbT,XbU,XbV]
 have y3:(YT ⟨j14,j15,j16⟩ !=0)=false:=by simpa using z3
 by_cases z4:Y7 ⟨j17,j18,j19,j20,j21⟩=0
 rotate_left
 ·have y4:(Y7 ⟨j17,j18,j19,j20,j21⟩ !=0)=true:=by simpa using z4
  simp only[go_sem,reduceIte,↓reduceIte,reduceCtorEq,nA,nS,nM,nB,nE,nL,nT,nN,iL,iT,iE,iA,iM,iS,iG,iB,iN,iZ,h,y0,y1,y2,y3,y4,XR,XlV,Xc9,Xc7,Xc8,XdV,XdW,XdX,XdY,XdZ,Xd0,XaY,XaZ,Xa0,XbS,XbT,XbU,XbV]
 have y4:(Y7 ⟨j17,j18,j19,j20,j21⟩ !=0)=false:=by simpa using z4
 simp only[go_sem,reduceIte,↓reduceIte,reduceCtorEq,nA,nS,nM,nB,nE,nL,nT,nN,iL,iT,iE,iA,iM,iS,iG,iB,iN,iZ,h,y0,y1,y2,y3,y4,XR,Y8,XlV,Xc9,Xc7,Xc8,XdV,XdW,XdX,XdY,XdZ,Xd0,XaY,XaZ,Xa0,XbS,XbT,XbU,XbV]) (rfl)
def s39:SP Tryz.prog:=mkS tyA 39 Tryz.f39 [s57,s59,s60,s93] {md:=[.ro 1],rets:=some ([2],[]),fz:=[1]} Tryz.func39 (by kernel_rfl)
@[go_sem] def d39:s39.g=39/\s39.fs=⟨[.ro 1],s39.F,false⟩:=⟨nr rfl,nr rfl⟩
@[go_sem] def e39(j5 j6 j7 j8 j9 j10 j11 j12:Int)(j13:List ByteArray)(j14 j15 j16 j17 j18 j19 j20 j21:Int):s39.F [.agg [.i .i64 j5,.i .i64 j6,.i .i64 j7,.i .i64 j8,.i .i64 j9,.i .i64 j10,.i .i64 j11,.i .i64 j12,.sl .ro 1 (j13.map Yf),.i .i64 j14,.i .i64 j15,.i .i64 j16,.i .i64 j17,.i .i64 j18,.i .i64 j19,.i .i64 j20,.i .i64 j21]]=some (.i .i64 (XC (Config.mk j5 j6 j7 j8 j9 j10 j11 j12 j13 (Lanes.mk j14 j15 j16) (Rules.mk j17 j18 j19 j20 j21))),[.u]):=Xd (0) rfl rfl (λcx h=>by
 cases h0:within j7 0 j5
 ·simp only[go_sem,reduceIte,↓reduceIte,reduceCtorEq,nA,nS,nM,nB,nE,nL,nT,nN,iL,iT,iE,iA,iM,iS,iG,iB,iN,iZ,h,h0,XC,Zs]
 cases h1:Z8 j8
 ·simp only[go_sem,reduceIte,↓reduceIte,reduceCtorEq,nA,nS,nM,nB,nE,nL,nT,nN,iL,iT,iE,iA,iM,iS,iG,iB,iN,iZ,h,h0,h1,XC,Zs]
 cases h2:within j9 0 1000000
 ·simp only[go_sem,reduceIte,↓reduceIte,reduceCtorEq,nA,nS,nM,nB,nE,nL,nT,nN,iL,iT,iE,iA,iM,iS,iG,iB,iN,iZ,h,h0,h1,h2,XC,Zs]
 cases h3:within j10 1 1000000
 ·simp only[go_sem,reduceIte,↓reduceIte,reduceCtorEq,nA,nS,nM,nB,nE,nL,nT,nN,iL,iT,iE,iA,iM,iS,iG,iB,iN,iZ,h,h0,h1,h2,h3,XC,Zs]
 cases h4:within j11 0 1000000
 ·simp only[go_sem,reduceIte,↓reduceIte,reduceCtorEq,nA,nS,nM,nB,nE,nL,nT,nN,iL,iT,iE,iA,iM,iS,iG,iB,iN,iZ,h,h0,h1,h2,h3,h4,XC,Zs]
 cases h5:within j12 1 10
 ·simp only[go_sem,reduceIte,↓reduceIte,reduceCtorEq,nA,nS,nM,nB,nE,nL,nT,nN,iL,iT,iE,iA,iM,iS,iG,iB,iN,iZ,h,h0,h1,h2,h3,h4,h5,XC,Zs]
 simp only[go_sem,reduceIte,↓reduceIte,reduceCtorEq,nA,nS,nM,nB,nE,nL,nT,nN,iL,iT,iE,iA,iM,iS,iG,iB,iN,iZ,h,h0,h1,h2,h3,h4,h5,XC,Zs]) (rfl)
def Xpe:SP Tryz.prog:=mkS tyA 219 Tryz.f219 [] {md:=[.ro 1],rg:=[(0,[0],[]),(1,[0,4],[]),(2,[2],[]),(3,[2],[])],rets:=some ([2],[]),nz:=true} Tryz.func219 (by kernel_rfl)
@[go_sem] def XGr:Xpe.g=219/\Xpe.fs=⟨[.ro 1],Xpe.F,false⟩:=⟨nr rfl,nr rfl⟩
@[go_sem] def XGs(xs:List XaP)(h0:smL Xce xs):Xpe.F [.sl .ro 2 (xs.map (YU .ro))]=some (.sl .mut 2 (xs.map (YU .mut)),[.u]):=XbR (0) rfl rfl (λcx h=>by
 have h0:=h0.1
 have h1:(xs.map (YU .ro)).all (·.all plain)=true:=by simp[YU,plain]
 have h2:xs.length*16<=140737488355328:=by omega
 have h3:xs.map (YU .ro)=xs.map (YU .mut):=rfl
 rcases Nat.eq_zero_or_pos xs.length with hp | hp
 ·obtain rfl:=List.length_eq_zero_iff.1 hp
  simp only[go_sem,reduceIte,↓reduceIte,reduceCtorEq,nA,nS,nM,nB,nE,nL,nT,nN,iL,iT,iE,iA,iM,iS,iG,iB,iN,iZ,h]
 ·simp only[go_sem,reduceIte,↓reduceIte,reduceCtorEq,nA,nS,nM,nB,nE,nL,nT,nN,iL,iT,iE,iA,iM,iS,iG,iB,iN,iZ,h,h1,h2,hp]
  rw[h3]) (by simp only[go_sem,reduceIte,↓reduceIte,reduceCtorEq,nA,nS,nM,nB,nE,nL,nT,nN,iL,iT,iE,iA,iM,iS,iG,iB,iN,iZ,Y6,XD])
def Xpf:SP Tryz.prog:=mkS tyA 151 Tryz.f151 [Xpe] {md:=[.ro 1],rg:=[(0,[1,2],[1,2]),(1,[1,2],[1,2]),(2,[2],[1,2])],rets:=some ([2],[1,2])} Tryz.func151 (by kernel_rfl)
@[go_sem] def XGt:Xpf.g=151/\Xpf.fs=⟨[.ro 1],Xpf.F,false⟩:=⟨nr rfl,nr rfl⟩
@[go_sem] def XGu(j30:Int)(j31:List XaP)(h0:smL Xce (Bulk.mk j30 j31).Queue):Xpf.F [.agg [.i .i64 j30,.sl .ro 2 (j31.map (YU .ro))]]=some (.agg (Xgy .mut (Bulk.mk j30 j31)),[.u]):=Xd (0) rfl rfl (λcx h=>by
 simp only[go_sem,reduceIte,↓reduceIte,reduceCtorEq,nA,nS,nM,nB,nE,nL,nT,nN,iL,iT,iE,iA,iM,iS,iG,iB,iN,iZ,h,h0]) (by simp only[go_sem,reduceIte,↓reduceIte,reduceCtorEq,nA,nS,nM,nB,nE,nL,nT,nN,iL,iT,iE,iA,iM,iS,iG,iB,iN,iZ,Y6,XD,XN,XF])
def Xpg:SP Tryz.prog:=mkS tyA 220 Tryz.f220 [] {md:=[.ro 1],rg:=[(0,[0],[]),(1,[0,4],[]),(2,[2],[]),(3,[2],[])],rets:=some ([2],[]),nz:=true} Tryz.func220 (by kernel_rfl)
@[go_sem] def XGv:Xpg.g=220/\Xpg.fs=⟨[.ro 1],Xpg.F,false⟩:=⟨nr rfl,nr rfl⟩
@[go_sem] def XGw(xs:List XaQ)(h0:smL Xcf xs):Xpg.F [.sl .ro 2 (xs.map (YV .ro))]=some (.sl .mut 2 (xs.map (YV .mut)),[.u]):=XbR (0) rfl rfl (λcx h=>by
 have h0:=h0.1
 have h1:(xs.map (YV .ro)).all (·.all plain)=true:=by simp[YV,plain]
 have h2:xs.length*16<=140737488355328:=by omega
 have h3:xs.map (YV .ro)=xs.map (YV .mut):=rfl
 rcases Nat.eq_zero_or_pos xs.length with hp | hp
 ·obtain rfl:=List.length_eq_zero_iff.1 hp
  simp only[go_sem,reduceIte,↓reduceIte,reduceCtorEq,nA,nS,nM,nB,nE,nL,nT,nN,iL,iT,iE,iA,iM,iS,iG,iB,iN,iZ,h]
 ·simp only[go_sem,reduceIte,↓reduceIte,reduceCtorEq,nA,nS,nM,nB,nE,nL,nT,nN,iL,iT,iE,iA,iM,iS,iG,iB,iN,iZ,h,h1,h2,hp]
  rw[h3]) (by simp only[go_sem,reduceIte,↓reduceIte,reduceCtorEq,nA,nS,nM,nB,nE,nL,nT,nN,iL,iT,iE,iA,iM,iS,iG,iB,iN,iZ,Y6,XD])
end
end Go.Vm.A
