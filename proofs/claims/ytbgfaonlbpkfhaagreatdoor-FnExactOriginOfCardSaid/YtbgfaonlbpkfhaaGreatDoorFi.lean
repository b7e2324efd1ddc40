/- Functions of the program, walked by the evaluator. -/
import Derived.Test.YtbgfaonlbpkfhaaGreatDoorWb
import Derived.Test.YtbgfaonlbpkfhaaGreatDoorWa
import Derived.Test.YtbgfaonlbpkfhaaGreatDoorFb
import Derived.Test.YtbgfaonlbpkfhaaGreatDoorFc
import Derived.Test.YtbgfaonlbpkfhaaGreatDoorFd
import Derived.Test.YtbgfaonlbpkfhaaGreatDoorFe
import Derived.Test.YtbgfaonlbpkfhaaGreatDoorFf
import Derived.Test.YtbgfaonlbpkfhaaGreatDoorFg
import Derived.Test.YtbgfaonlbpkfhaaGreatDoorFh
set_option linter.unusedVariables false
set_option linter.unusedSimpArgs false
set_option autoImplicit false
set_option maxRecDepth 100000
set_option maxHeartbeats 4000000
set_option linter.defProp false
namespace Go.Vm.A
open Go.Proofs
open Nat renaming reduceAdd -> nA, reduceSub -> nS, reduceMul -> nM, reduceBEq -> nB, reduceEqDiff -> nE, reduceLeDiff -> nL, reduceLT -> nT, reduceBneDiff -> nN
open Int renaming reduceLE -> iL, reduceLT -> iT, reduceEq -> iE, reduceAdd -> iA, reduceMul -> iM, reduceSub -> iS, reduceNeg -> iG, reduceBEq -> iB, reduceBNe -> iN, reduceToNat -> iZ
noncomputable section
def Xs3:SP Tryz.prog:=mkS tyA 142 Tryz.f142 [Xs2] {md:=[.ro 1,.ro 1],rets:=some ([4],[]),fz:=[3]} Tryz.func142 (by kernel_rfl)
@[go_sem] def XMo:Xs3.g=142/\Xs3.fs=⟨[.ro 1,.ro 1],Xs3.F,false⟩:=⟨nr rfl,nr rfl⟩
@[go_sem] def XMp(fs:List Xl)(key:ByteArray)(h0:fs.length<=9223372036854775806):Xs3.F [.sl .ro 11 (fs.map (Xc .ro)),.s key]=some (.i .i64 (U6 (λx=>eqv x.Key key) fs 0),[.u,.u]):=Xb (0) rfl rfl (λcx h=>by
 simp only[go_sem,reduceIte,↓reduceIte,nA,nB,h,h0]) (rfl)
def s67:SP Tryz.prog:=mkS tyA 67 Tryz.f67 [Xs0,Xs3,Xrj] {md:=[.ro 1],rg:=[(0,[0],[]),(1,[0,13],[]),(2,[2],[]),(3,[0,14,15,16],[]),(4,[0,14,15,16,17],[]),(5,[0,4,14,15,16],[4]),(6,[0,5,14,15,16],[]),(7,[0,5,14,15,16,23],[]),(8,[2],[]),(9,[0,14,15,16],[]),(10,[0,6],[]),(11,[0,6,27,28,29],[]),(12,[0,6,27,28,29,30],[]),(13,[0,6,7,8,27,28,29],[8]),(14,[0,6,8,27,28,29,46],[8]),(15,[2],[]),(16,[0,6,27,28,29],[]),(17,[0,6,27,28,29],[]),(18,[0,6,52,53,54],[]),(19,[0,6,52,53,54,55],[]),(20,[0,6,9,10,52,53,54],[10]),(21,[0,6,52,53,54,65],[]),(22,[2],[]),(23,[0,6,52,53,54],[]),(24,[68],[]),(25,[2],[]),(26,[2],[])],lv:=[(0,[0,14,15,16],[]),(2,[0,6,27,28,29],[]),(4,[0,6,52,53,54],[])],out:=[(0,[0],[]),(2,[0,6],[]),(4,[6],[])],rets:=some ([2],[]),plan:=[(14,(.take 0 (.take 1 (.take 2 (.take 3 (.take 4 (.take 5 (.take 6 (.take 7 (.take 8 (.take 9 (.take 10 (.take 11 (.take 12 .done)))))))))))))),(21,(.take 0 (.take 1 (.take 2 (.take 3 (.take 4 (.one 5 (.take 6 .done))))))))]} Tryz.func67 (by kernel_rfl)
@[go_sem] def d67:s67.g=67/\s67.fs=⟨[.ro 1],s67.F,false⟩:=⟨nr rfl,nr rfl⟩
@[go_sem] def e67(fs:List Xl)(h0:smL QX fs):s67.F [.sl .ro 11 (fs.map (Xc .ro))]=some (.i .i64 (XV fs),[.u]):=Xb (fs.length+1) rfl rfl (λcx h=>by
 by_cases h1:24<(fs.length:Int)
 ·simp only[go_sem,reduceIte,↓reduceIte,nB,nE,h,XV,h1]
 have hx:fs.length<=9223372036854775806:=by omega
 have hb0:=Xg Tryz.f67 0 _ _ rfl rfl
 obtain⟨z0,hz0,hqz0⟩:=Xq (cx:=cx) (blk:=0) (body:=XN Tryz.f67 0) fs (λk (s:Unit)=>⟨E [(0,.sl .ro 11 (fs.map (Xc .ro))),(14,.sl .ro 11 (fs.map (Xc .ro))),(15,.i .i64 fs.length),(16,.i .i64 k)],B []⟩) (λs=>⟨E [(0,.sl .ro 11 (fs.map (Xc .ro)))],B []⟩) (λx s=>XD x !=0) (λx s=>()) (λx s=>(.ret,⟨E [(2,.i .i64 (XD x))],B []⟩)) (λk s=>True)
   (λs hI G=>by simp only[go_sem,reduceIte,↓reduceIte,nB,nE,h,Int.lt_irrefl,hb0]) (λk hk s hI=>by
    have h1:((k:Int)<(fs.length:Int)):=Int.ofNat_lt.2 hk
    have hs:=h0.2 _ (List.getElem_mem hk)
    obtain⟨u0,u1,u2,u3,u4,u5,u6,u7⟩:=hs
    have hH:smL X6 fs[k].Get.Headers:=u6.2.2.2
    all_goals exact⟨_,_,_,λG=>by simp only[go_sem,reduceIte,↓reduceIte,nA,nB,nE,h,Xi (Xc .ro) fs _ hk,hH,h1,Xh _ _ hk,Xd (show k<9223372036854775807 by omega),hb0]<;>with_reducible rfl,Iff.rfl,λhc=>⟨trivial,by simp only[go_sem,reduceIte,↓reduceIte,nB,h]⟩⟩) () trivial (fs.length+1) (Nat.le_refl _)
 rw[hb0] at hz0
 rcases hqz0 with⟨s0,e1,_,e3⟩ | ⟨x,s0,e1,e3⟩
 rotate_left
 ·have e2:=Z9 e1
  have e4:(XD x !=0)=true:=XaQ e1
  simp only[go_sem,reduceIte,↓reduceIte,nB,nE,h,hz0,e3,e2,e4,XV,h1]
 have e2:=Z8 e1
 have hall:∀x∈fs,x.Waiters.length<=10:=λx hx=>Xao (Xea e1 x hx)
 have hb1:=Xg Tryz.f67 1 _ _ rfl rfl
 obtain⟨z1,hz1,hqz1⟩:=Xq (cx:=cx) (blk:=2) (body:=XN Tryz.f67 1) fs (λk (s:Option Int)=>⟨E [(0,.sl .ro 11 (fs.map (Xc .ro))),(6,.sl .mut 4 ((Xb2 (fs.take k)).map (Xk .ro))),(27,.sl .ro 11 (fs.map (Xc .ro))),(28,.i .i64 fs.length),(29,.i .i64 k)],B []⟩) (λs=>⟨E [(0,.sl .ro 11 (fs.map (Xc .ro))),(6,.sl .mut 4 ((Xb2 (fs.take (fs.length))).map (Xk .ro)))],B []⟩) (λx s=>leO x s) (λx s=>some x.Id) (λx s=>(.ret,⟨E [(2,.i .i64 1)],B []⟩)) (λk s=>((k=0/\s=none)\/∃m,∃(hm:m<fs.length),k=m+1/\s=some fs[m].Id))
   (λs hI G=>by simp only[go_sem,reduceIte,↓reduceIte,nB,nE,h,Int.lt_irrefl,hb1,List.take_length]) (λk hk s hI=>by
    have h1:((k:Int)<(fs.length:Int)):=Int.ofNat_lt.2 hk
    have hJ:(k=0/\s=none)\/∃m,∃(hm:m<fs.length),k=m+1/\s=some fs[m].Id:=hI
    have hw:fs[k].Waiters.length<=10:=hall _ (List.getElem_mem hk)
    have hl2:(Xb2 (fs.take k)).length<=10*k:=by
     have:=XdS (fs:=fs.take k) (λx hx=>hall x (List.mem_of_mem_take hx))
     rw[List.length_take] at this
     omega
    have p1:=Xfl fs[k].Waiters
    have p2:(Xb2 (fs.take k)).map (Xk .ro)++fs[k].Waiters.map (Xk .ro)=(Xb2 (fs.take (k+1))).map (Xk .ro):=by rw[Xeb fs k hk,List.map_append]
    have p3:((Xb2 (fs.take k)).length+fs[k].Waiters.length)*32<=140737488355328:=by omega
    have p4:(fs[k].Waiters.map (Xk .ro)).take fs[k].Waiters.length=fs[k].Waiters.map (Xk .ro):=List.take_of_length_le (by simp)
    rcases hJ with⟨e0,hs⟩ | ⟨m,hm,e0,hs⟩
    ·have c1:¬(0:Int)<(k:Int):=by omega
     have c2:leO fs[k] s=false:=by rw[hs]; rfl
     have c3:=trivial
     have c4:=trivial
     have c5:=trivial
     exact⟨False,inferInstance,_,λG=>by rw[if_neg (λh=>h)]; simp only[go_sem,reduceIte,↓reduceIte,nA,nB,nE,nT,h,Xi (Xc .ro) fs _ hk,p1,p2,p3,c1,List.length_map,h1,Xh _ _ hk,Xd (show k<9223372036854775807 by omega),hb1]<;>with_reducible rfl,(show False↔_ from by rw[c2]; simp),λhc=>⟨(.inr ⟨k,hk,rfl,rfl⟩),by simp only[go_sem,reduceIte,↓reduceIte,nB,h]⟩⟩
    ·subst e0
     have c1:(0:Int)<((m+1:Nat):Int):=by omega
     have c3:(IntKind.i64).wrap (((m+1:Nat):Int)-1)=(m:Int):=by rw[Xo (by omega) (by omega)]; omega
     have c4:=Xh fs.length m hm
     have c5:=Xi (Xc .ro) fs m hm
     have c2:leO fs[m+1] s=decide (fs[m+1].Id<=fs[m].Id):=by rw[hs]; rfl
     exact⟨_,_,_,λG=>by simp only[go_sem,reduceIte,↓reduceIte,nA,nB,nE,nL,nT,h,Xi (Xc .ro) fs _ hk,p1,p2,p3,c1,c3,c4,c5,List.length_map,h1,Xh _ _ hk,Xd (show m+1<9223372036854775807 by omega),hb1]<;>with_reducible rfl,(by rw[c2,decide_eq_true_eq]),λhc=>⟨(.inr ⟨m+1,hk,rfl,rfl⟩),by simp only[go_sem,reduceIte,↓reduceIte,nB,h]⟩⟩) none (.inl ⟨rfl,rfl⟩) (fs.length+1) (Nat.le_refl _)
 rw[hb1] at hz1
 have hT:Xb2 (fs.take 0)=[]:=rfl
 simp only[hT,List.map_nil] at hz1
 rcases hqz1 with⟨s1,g1,_,g3⟩ | ⟨x,s1,g1,g3⟩
 rotate_left
 ·have g2:=XiX g1
  rw[XgL] at g2
  simp only[go_sem,reduceIte,↓reduceIte,nA,nM,nB,nE,h,hz0,e3,e2,hz1,g3,g2,XV,h1]
 have g2:=XiW g1
 rw[XgL] at g2
 have hb2:=Xg Tryz.f67 2 _ _ rfl rfl
 obtain⟨z2,hz2,hqz2⟩:=Xq (cx:=cx) (blk:=4) (body:=XN Tryz.f67 2) fs (λk (s:List Xl)=>⟨E [(0,.sl .ro 11 (fs.map (Xc .ro))),(6,.sl .mut 4 ((Xb2 fs).map (Xk .ro))),(52,.sl .ro 11 (fs.map (Xc .ro))),(53,.i .i64 fs.length),(54,.i .i64 k)],B []⟩) (λs=>⟨E [(6,.sl .mut 4 ((Xb2 fs).map (Xk .ro)))],B []⟩) (λx s=>s.any λy=>Xcb y x) (λx s=>s++[x]) (λx s=>(.ret,⟨E [(2,.i .i64 6)],B []⟩)) (λk s=>s=fs.take k)
   (λs hI G=>by simp only[go_sem,reduceIte,↓reduceIte,nB,nE,h,Int.lt_irrefl,hb2]) (λk hk s hI=>by
    have h1:((k:Int)<(fs.length:Int)):=Int.ofNat_lt.2 hk
    have t3:fs.length<=9223372036854775806:=hx
    have t4:(fs.map (Xc .ro)).take k=(fs.take k).map (Xc .ro):=by rw[List.map_take]
    have t5:(fs.take k).length<=9223372036854775806:=by rw[List.length_take]; omega
    have c1:(0:Int)<=(k:Int):=by omega
    have c2:(k:Int)<=(fs.length:Int):=by omega
    have c3:((fs.take k).any λy=>Xcb y fs[k])=(fs.take k).any λx=>eqv x.Key fs[k].Key:=rfl
    subst hI
    exact⟨_,_,_,λG=>by simp only[go_sem,reduceIte,↓reduceIte,nA,nB,nE,nL,h,t4,t5,c1,c2,Xi (Xc .ro) fs _ hk,Int.toNat_natCast,List.drop_zero,Nat.sub_zero,QR,h1,Xh _ _ hk,Xd (show k<9223372036854775807 by omega),hb2]<;>with_reducible rfl,by rw[c3],λhc=>⟨(ZN fs k hk).symm,by simp only[go_sem,reduceIte,↓reduceIte,nB,nE,h]⟩⟩) [] rfl (fs.length+1) (Nat.le_refl _)
 rw[hb2] at hz2
 have hal:(Xb2 fs).length<=9223372036854775806:=by have:=XdS hall; omega
 rcases hqz2 with⟨s2,k1,_,k3⟩ | ⟨x,s2,k1,k3⟩
 ·have k2:=XaO k1
  cases k4:tw [] (Xb2 fs)<;>simp only[go_sem,reduceIte,↓reduceIte,nA,nM,nB,nE,h,hz0,e3,e2,hz1,g3,g2,hz2,k3,k2,k4,hal,List.take_length,XV,h1]
 ·have k2:=XaP k1
  simp only[go_sem,reduceIte,↓reduceIte,nA,nM,nB,nE,h,hz0,e3,e2,hz1,g3,g2,hz2,k3,k2,List.take_length,XV,h1]) (rfl)
def s66:SP Tryz.prog:=mkS tyA 66 Tryz.f66 [s67] {md:=[.ro 1],rets:=some ([1],[])} Tryz.func66 (by kernel_rfl)
@[go_sem] def d66:s66.g=66/\s66.fs=⟨[.ro 1],s66.F,false⟩:=⟨nr rfl,nr rfl⟩
@[go_sem] def e66(j0 j1 j2 j3 j4 j5 j6 j7:Int)(j8:List ByteArray)(j9 j10 j11 j12 j13 j14 j15 j16 j17 vNext j18 j19:Int)(j20 j21:List XK)(j22:List Origin)(j23:List Xl)(h0:YS (Shield.mk (Config.mk j0 j1 j2 j3 j4 j5 j6 j7 j8 (Lanes.mk j9 j10 j11) (Rules.mk j12 j13 j14 j15 j16)) j17 vNext (Store.mk j18 j19 j20 j21) j22 j23)):s66.F [.pr [.i .i64 j0,.i .i64 j1,.i .i64 j2,.i .i64 j3,.i .i64 j4,.i .i64 j5,.i .i64 j6,.i .i64 j7,.sl .ro 1 (j8.map Ye),.i .i64 j9,.i .i64 j10,.i .i64 j11,.i .i64 j12,.i .i64 j13,.i .i64 j14,.i .i64 j15,.i .i64 j16,.i .i64 j17,.i .i64 vNext,.i .i64 j18,.i .i64 j19,.sl .ro 13 (j20.map (Xa .ro)),.sl .ro 13 (j21.map (Xa .ro)),.sl .ro 7 (j22.map (Xe .ro)),.sl .ro 11 (j23.map (Xc .ro))]]=some (.i .i64 (XV j23),[.u]):=Xb (0) rfl rfl (λcx h=>by
 have h1:=h0.2.2.2.2.2
 simp only at h1
 simp only[go_sem,reduceIte,↓reduceIte,nB,h,h1]) (rfl)
def Xrk:SP Tryz.prog:=mkS tyA 144 Tryz.f144 [s65,XoY] {md:=[.ro 1,.ro 1],rets:=some ([4],[]),plan:=[(1,(.take 0 (.take 1 (.take 2 (.one 3 (.one 4 (.one 5 .done)))))))]} Tryz.func144 (by kernel_rfl)
@[go_sem] def XMq:Xrk.g=144/\Xrk.fs=⟨[.ro 1,.ro 1],Xrk.F,false⟩:=⟨nr rfl,nr rfl⟩
@[go_sem] def XMr(j0 j1 j2 j3 j4 j5 j6 j7:Int)(j8:List ByteArray)(j9 j10 j11 j12 j13 j14 j15 j16 j17 vNext j18 j19:Int)(j20 j21:List XK)(j22:List Origin)(j23:List Xl)(j24 j25 j26:ByteArray)(j27:List Xx)(h0:((Shield.mk (Config.mk j0 j1 j2 j3 j4 j5 j6 j7 j8 (Lanes.mk j9 j10 j11) (Rules.mk j12 j13 j14 j15 j16)) j17 vNext (Store.mk j18 j19 j20 j21) j22 j23).Origins.length<=9223372036854775806/\(XQ.mk j24 j25 j26 j27).Host.size<=9223372036854775806)):Xrk.F [.agg [.i .i64 j0,.i .i64 j1,.i .i64 j2,.i .i64 j3,.i .i64 j4,.i .i64 j5,.i .i64 j6,.i .i64 j7,.sl .ro 1 (j8.map Ye),.i .i64 j9,.i .i64 j10,.i .i64 j11,.i .i64 j12,.i .i64 j13,.i .i64 j14,.i .i64 j15,.i .i64 j16,.i .i64 j17,.i .i64 vNext,.i .i64 j18,.i .i64 j19,.sl .ro 13 (j20.map (Xa .ro)),.sl .ro 13 (j21.map (Xa .ro)),.sl .ro 7 (j22.map (Xe .ro)),.sl .ro 11 (j23.map (Xc .ro))],.agg [.s j24,.s j25,.s j26,.sl .ro 2 (j27.map (Xj .ro))]]=some (.i .i64 (X8 (Shield.mk (Config.mk j0 j1 j2 j3 j4 j5 j6 j7 j8 (Lanes.mk j9 j10 j11) (Rules.mk j12 j13 j14 j15 j16)) j17 vNext (Store.mk j18 j19 j20 j21) j22 j23).Origins (QH (XQ.mk j24 j25 j26 j27).Host)),[.u,.u]):=Xb (0) rfl rfl (λcx h=>by
 simp only[go_sem,reduceIte,↓reduceIte,nA,nB,nE,nL,h,h0.1,h0.2]) (rfl)
def s74:SP Tryz.prog:=mkS tyA 74 Tryz.f74 [Xrk] {md:=[.ro 1,.ro 1],rg:=[(0,[1,2],[2]),(1,[1,2,6,7],[2]),(2,[1,2,6,7,11,12,13],[2]),(3,[1,2,6,7,11,12,13,14],[2]),(4,[1,2,6,7,9,11,12,13],[2,9]),(5,[1,2,6,7,11,12,13],[2]),(6,[1,2,6,7,9,11,12,13,19],[2,9]),(7,[1,2,6,7,11,12,13,26],[2]),(8,[1,2,6,7,11,12,13],[2]),(9,[1,2,6,7,11,12,13],[2]),(10,[4,5],[])],lv:=[(0,[1,2,6,7,11,12,13],[2])],out:=[(0,[6,7],[])],rets:=some ([4,5],[])} Tryz.func74 (by kernel_rfl)
@[go_sem] def d74:s74.g=74/\s74.fs=⟨[.ro 1,.ro 1],s74.F,false⟩:=⟨nr rfl,nr rfl⟩
@[go_sem] def e74(j0 j1 j2 j3 j4 j5 j6 j7:Int)(j8:List ByteArray)(j9 j10 j11 j12 j13 j14 j15 j16 j17 vNext j18 j19:Int)(j20 j21:List XK)(j22:List Origin)(j23:List Xl)(i:Int)(h0:((Shield.mk (Config.mk j0 j1 j2 j3 j4 j5 j6 j7 j8 (Lanes.mk j9 j10 j11) (Rules.mk j12 j13 j14 j15 j16)) j17 vNext (Store.mk j18 j19 j20 j21) j22 j23).Origins.length<=9223372036854775806/\smL QX (Shield.mk (Config.mk j0 j1 j2 j3 j4 j5 j6 j7 j8 (Lanes.mk j9 j10 j11) (Rules.mk j12 j13 j14 j15 j16)) j17 vNext (Store.mk j18 j19 j20 j21) j22 j23).Flights)):s74.F [.agg [.i .i64 j0,.i .i64 j1,.i .i64 j2,.i .i64 j3,.i .i64 j4,.i .i64 j5,.i .i64 j6,.i .i64 j7,.sl .ro 1 (j8.map Ye),.i .i64 j9,.i .i64 j10,.i .i64 j11,.i .i64 j12,.i .i64 j13,.i .i64 j14,.i .i64 j15,.i .i64 j16,.i .i64 j17,.i .i64 vNext,.i .i64 j18,.i .i64 j19,.sl .ro 13 (j20.map (Xa .ro)),.sl .ro 13 (j21.map (Xa .ro)),.sl .ro 7 (j22.map (Xe .ro)),.sl .ro 11 (j23.map (Xc .ro))],.i .i64 i]=some (.tup [.i .i64 (X5 (Shield.mk (Config.mk j0 j1 j2 j3 j4 j5 j6 j7 j8 (Lanes.mk j9 j10 j11) (Rules.mk j12 j13 j14 j15 j16)) j17 vNext (Store.mk j18 j19 j20 j21) j22 j23).Origins (Shield.mk (Config.mk j0 j1 j2 j3 j4 j5 j6 j7 j8 (Lanes.mk j9 j10 j11) (Rules.mk j12 j13 j14 j15 j16)) j17 vNext (Store.mk j18 j19 j20 j21) j22 j23).Flights i).1,.i .i64 (X5 (Shield.mk (Config.mk j0 j1 j2 j3 j4 j5 j6 j7 j8 (Lanes.mk j9 j10 j11) (Rules.mk j12 j13 j14 j15 j16)) j17 vNext (Store.mk j18 j19 j20 j21) j22 j23).Origins (Shield.mk (Config.mk j0 j1 j2 j3 j4 j5 j6 j7 j8 (Lanes.mk j9 j10 j11) (Rules.mk j12 j13 j14 j15 j16)) j17 vNext (Store.mk j18 j19 j20 j21) j22 j23).Flights i).2],[.u,.u]):=Xb (j23.length+1) rfl rfl (λcx h=>by
 have hx:=h0.2.1
 simp only at hx
 have hb0:=Xg Tryz.f74 0 _ _ rfl rfl
 obtain⟨hI,hr⟩:=X0 (cx:=cx) (blk:=0) (body:=XN Tryz.f74 0) j23 (λk (s:Int×Int)=>⟨E [(1,.i .i64 i),(2,.p ⟨false,2,[],0⟩),(6,.i .i64 s.1),(7,.i .i64 s.2),(11,.sl .ro 11 (j23.map (Xc .ro))),(12,.i .i64 j23.length),(13,.i .i64 k)],B [(2,[.i .i64 j0,.i .i64 j1,.i .i64 j2,.i .i64 j3,.i .i64 j4,.i .i64 j5,.i .i64 j6,.i .i64 j7,.sl .ro 1 (j8.map Ye),.i .i64 j9,.i .i64 j10,.i .i64 j11,.i .i64 j12,.i .i64 j13,.i .i64 j14,.i .i64 j15,.i .i64 j16,.i .i64 j17,.i .i64 vNext,.i .i64 j18,.i .i64 j19,.sl .ro 13 (j20.map (Xa .ro)),.sl .ro 13 (j21.map (Xa .ro)),.sl .ro 7 (j22.map (Xe .ro)),.sl .ro 11 (j23.map (Xc .ro))])]⟩) (λs=>⟨E [(6,.i .i64 s.1),(7,.i .i64 s.2)],B []⟩) (λx s=>Yv j22 i s x) (λk s=>((0<=s.1/\s.1<=k)/\(0<=s.2/\s.2<=k)))
   (λs hI G=>by simp only[go_sem,reduceIte,↓reduceIte,nB,nE,h,Int.lt_irrefl,hb0]) (λk hk s hI=>by
    have h1:((k:Int)<(j23.length:Int)):=Int.ofNat_lt.2 hk
    obtain⟨⟨i1,i2⟩,i3,i4⟩:=hI
    have hm:=h0.2.2 _ (List.getElem_mem hk)
    have hh:j23[k].Get.Host.size<=9223372036854775806:=by have:j23[k].Get.Host.size<=1048576:=hm.2.2.2.2.2.2.1.2.1; omega
    have hu:Qz j22 j23[k]=X8 j22 (QH j23[k].Get.Host):=rfl
    have hJ:(0<=(Yv j22 i s j23[k]).1/\(Yv j22 i s j23[k]).1<=((k+1:Nat):Int))/\0<=(Yv j22 i s j23[k]).2/\(Yv j22 i s j23[k]).2<=((k+1:Nat):Int):=by
     unfold Yv; split<;>(try split)<;>(try simp only)<;>omega
    have w1:(IntKind.i64).wrap (s.1+1)=s.1+1:=Xo (by omega) (by omega)
    have w2:(IntKind.i64).wrap (s.2+1)=s.2+1:=Xo (by omega) (by omega)
    cases d1:(X8 j22 (QH j23[k].Get.Host) !=i)<;>cases d2:j23[k].Out
    all_goals exact⟨hJ,_,λG=>by simp only[go_sem,reduceIte,↓reduceIte,nA,nB,nE,nL,h,hh,h0.1,d1,d2,w1,w2,Xi (Xc .ro) j23 k hk,h1,Xh _ _ hk,Xd (show k<9223372036854775807 by omega),hb0]<;>with_reducible rfl,by simp only[go_sem,reduceIte,↓reduceIte,nB,h,Yv,hu,d1,d2]⟩) (0,0) (by simp) (j23.length+1) (Nat.le_refl _)
 rw[hb0] at hr
 simp only[go_sem,reduceIte,↓reduceIte,nA,nB,nE,h,hr,X5]) (rfl)
def s69:SP Tryz.prog:=mkS tyA 69 Tryz.f69 [s74,XoR,XoU,Xrk,Xrd] {md:=[.ro 1],rg:=[(0,[1],[1]),(1,[1,11,12,13],[1]),(2,[1,11,12,13,14],[1]),(3,[1,4,11,12,13],[1,4]),(4,[1,4,5,11,12,13],[1,4]),(5,[1,11,12,13,46],[1]),(6,[2],[]),(7,[1,11,12,13],[1]),(8,[1,49,50,51],[1]),(9,[1,49,50,51,52],[1]),(10,[1,6,7,49,50,51],[1,7]),(11,[1,7,8,9,49,50,51],[1,7]),(12,[1,49,50,51,74],[1]),(13,[2],[]),(14,[1,49,50,51],[1]),(15,[2],[])],lv:=[(0,[1,11,12,13],[1]),(2,[1,49,50,51],[1])],out:=[(0,[1],[1]),(2,[1],[1])],rets:=some ([2],[]),al:=[56],plan:=[(5,(.take 0 (.take 1 (.take 2 (.take 3 (.take 4 (.take 5 (.take 6 (.take 7 (.take 8 (.take 9 (.take 10 (.take 11 (.take 12 (.take 13 (.take 14 (.take 15 (.take 16 (.take 17 (.take 18 (.take 19 (.take 20 (.take 21 (.one 22 (.take 23 (.take 24 (.take 25 .done)))))))))))))))))))))))))))],fz:=[1]} Tryz.func69 (by kernel_rfl)
@[go_sem] def d69:s69.g=69/\s69.fs=⟨[.ro 1],s69.F,false⟩:=⟨nr rfl,nr rfl⟩
@[go_sem] def e69(j0 j1 j2 j3 j4 j5 j6 j7:Int)(j8:List ByteArray)(j9 j10 j11 j12 j13 j14 j15 j16 j17 vNext j18 j19:Int)(j20 j21:List XK)(j22:List Origin)(j23:List Xl)(h0:YS (Shield.mk (Config.mk j0 j1 j2 j3 j4 j5 j6 j7 j8 (Lanes.mk j9 j10 j11) (Rules.mk j12 j13 j14 j15 j16)) j17 vNext (Store.mk j18 j19 j20 j21) j22 j23)):s69.F [.agg [.i .i64 j0,.i .i64 j1,.i .i64 j2,.i .i64 j3,.i .i64 j4,.i .i64 j5,.i .i64 j6,.i .i64 j7,.sl .ro 1 (j8.map Ye),.i .i64 j9,.i .i64 j10,.i .i64 j11,.i .i64 j12,.i .i64 j13,.i .i64 j14,.i .i64 j15,.i .i64 j16,.i .i64 j17,.i .i64 vNext,.i .i64 j18,.i .i64 j19,.sl .ro 13 (j20.map (Xa .ro)),.sl .ro 13 (j21.map (Xa .ro)),.sl .ro 7 (j22.map (Xe .ro)),.sl .ro 11 (j23.map (Xc .ro))]]=some (.b (UZ (Shield.mk (Config.mk j0 j1 j2 j3 j4 j5 j6 j7 j8 (Lanes.mk j9 j10 j11) (Rules.mk j12 j13 j14 j15 j16)) j17 vNext (Store.mk j18 j19 j20 j21) j22 j23)),[.u]):=Xb (max j23.length j22.length+1) rfl rfl (λcx h=>by
 obtain⟨q0,q1,q2,q3,q4,q5⟩:=h0
 simp only at q3 q4 q5
 have hx0:=q5.1
 have hx1:=q4.1
 have hL:j22.length<=9223372036854775806:=by omega
 have hle:j20.length<=1048576/\j21.length<=1048576:=⟨q3.2.2.1.1,q3.2.2.2.1⟩
 have hal:(j20++j21).length<=9223372036854775806:=by rw[List.length_append]; omega
 have hb0:=Xg Tryz.f69 0 _ _ rfl rfl
 obtain⟨z0,hz0,hqz0⟩:=Xq (cx:=cx) (blk:=0) (body:=XN Tryz.f69 0) j23 (λk (s:Unit)=>⟨E [(1,.pr [.i .i64 j0,.i .i64 j1,.i .i64 j2,.i .i64 j3,.i .i64 j4,.i .i64 j5,.i .i64 j6,.i .i64 j7,.sl .ro 1 (j8.map Ye),.i .i64 j9,.i .i64 j10,.i .i64 j11,.i .i64 j12,.i .i64 j13,.i .i64 j14,.i .i64 j15,.i .i64 j16,.i .i64 j17,.i .i64 vNext,.i .i64 j18,.i .i64 j19,.sl .ro 13 (j20.map (Xa .ro)),.sl .ro 13 (j21.map (Xa .ro)),.sl .ro 7 (j22.map (Xe .ro)),.sl .ro 11 (j23.map (Xc .ro))]),(11,.sl .ro 11 (j23.map (Xc .ro))),(12,.i .i64 j23.length),(13,.i .i64 k)],B [(1,[])]⟩) (λs=>⟨E [(1,.pr [.i .i64 j0,.i .i64 j1,.i .i64 j2,.i .i64 j3,.i .i64 j4,.i .i64 j5,.i .i64 j6,.i .i64 j7,.sl .ro 1 (j8.map Ye),.i .i64 j9,.i .i64 j10,.i .i64 j11,.i .i64 j12,.i .i64 j13,.i .i64 j14,.i .i64 j15,.i .i64 j16,.i .i64 j17,.i .i64 vNext,.i .i64 j18,.i .i64 j19,.sl .ro 13 (j20.map (Xa .ro)),.sl .ro 13 (j21.map (Xa .ro)),.sl .ro 7 (j22.map (Xe .ro)),.sl .ro 11 (j23.map (Xc .ro))])],B [(1,[])]⟩) (λx s=>!YK j22 vNext x) (λx s=>()) (λx s=>(.ret,⟨E [(2,.b false)],B []⟩)) (λk s=>True)
   (λs hI G=>by simp only[go_sem,reduceIte,↓reduceIte,nB,nE,h,Int.lt_irrefl,hb0]) (λk hk s hI=>by
    have h1:((k:Int)<(j23.length:Int)):=Int.ofNat_lt.2 hk
    have hm:=q5.2 _ (List.getElem_mem hk)
    have hh:j23[k].Get.Host.size<=9223372036854775806:=by have:j23[k].Get.Host.size<=1048576:=hm.2.2.2.2.2.2.1.2.1; omega
    have hp:Qz j22 j23[k]=X8 j22 (QH j23[k].Get.Host):=rfl
    have hf:YK j22 vNext j23[k]=(decide (j23[k].Id<vNext)&&decide (0<=Qz j22 j23[k])&&(j23[k].Out||decide (0<=Qg ((j22[(Qz j22 j23[k]).toNat]?.map (·.Bulk)).getD ⟨0,[]⟩) j23[k].Id))):=rfl
    rw[hp] at hf
    generalize hA:X8 j22 (QH j23[k].Get.Host)=A at hf
    by_cases c1:vNext<=j23[k].Id
    ·have hC:(!YK j22 vNext j23[k])=true:=by
      have c1':¬(j23[k].Id<vNext):=by omega
      rw[hf]; simp[c1']
     have e1:=hL
     have e2:=hL
     have e3:=hL
     have e4:=hL
     exact⟨True,inferInstance,⟨E [],B []⟩,λG=>by rw[if_pos trivial]; simp only[go_sem,reduceIte,↓reduceIte,nA,nB,nE,nL,h,Xi (Xc .ro) j23 k hk,hL,hh,c1,hA,h1,Xh _ _ hk,hb0],⟨λ_=>hC,λ_=>trivial⟩,λhc=>absurd (hC.symm.trans hc) (by decide)⟩
    have c1':j23[k].Id<vNext:=by omega
    by_cases c2:A<0
    ·have hC:(!YK j22 vNext j23[k])=true:=by
      have c2':¬(0<=A):=by omega
      rw[hf]; simp[c2']
     have e1:=hL
     have e2:=hL
     have e3:=hL
     have e4:=hL
     exact⟨True,inferInstance,⟨E [],B []⟩,λG=>by rw[if_pos trivial]; simp only[go_sem,reduceIte,↓reduceIte,nA,nB,nE,nL,h,Xi (Xc .ro) j23 k hk,hL,hh,c1,c2,hA,h1,Xh _ _ hk,hb0],⟨λ_=>hC,λ_=>trivial⟩,λhc=>absurd (hC.symm.trans hc) (by decide)⟩
    have c2':0<=A:=by omega
    obtain⟨j,hj1,hj2⟩:=Xed (λx:Origin=>eqv x.Host (QH j23[k].Get.Host)) j22 (by have:X8 j22 (QH j23[k].Get.Host)=U6 (λx:Origin=>eqv x.Host (QH j23[k].Get.Host)) j22 0:=rfl; rw[<-this,hA]; exact c2)
    have hAj:A=(j:Int):=by rw[<-hA]; exact hj2
    rw[hAj] at hf hA
    have hg:((j22[((j:Nat):Int).toNat]?.map (·.Bulk)).getD ⟨0,[]⟩)=j22[j].Bulk:=by rw[Int.toNat_natCast,List.getElem?_eq_getElem hj1]; rfl
    rw[hg] at hf
    have hjn:¬((j:Int)<0):=by omega
    have hjz:(0:Int)<=(j:Int):=by omega
    have hq:j22[j].Bulk.Queue.length<=9223372036854775806:=by have:j22[j].Bulk.Queue.length<=1048576:=(q4.2 _ (List.getElem_mem hj1)).2.1.2.1; omega
    have hwm:Qg (Bulk.mk j22[j].Bulk.Busy j22[j].Bulk.Queue) j23[k].Id=Qg j22[j].Bulk j23[k].Id:=rfl
    have e1:=Xh j22.length j hj1
    have e2:=Xi (Xe .ro) j22 j hj1
    cases c3:j23[k].Out
    ·by_cases c4:Qg j22[j].Bulk j23[k].Id<0
     ·have hC:(!YK j22 vNext j23[k])=true:=by
       have c4':¬(0<=Qg j22[j].Bulk j23[k].Id):=by omega
       rw[hf]; simp[c3,c4']
      have e3:=hL
      have e4:=hL
      exact⟨True,inferInstance,⟨E [],B []⟩,λG=>by rw[if_pos trivial]; simp only[go_sem,reduceIte,↓reduceIte,nA,nB,nE,nL,h,Xi (Xc .ro) j23 k hk,hL,hh,c1,hjn,hA,e1,e2,c3,c4,hq,h1,Xh _ _ hk,hb0],⟨λ_=>hC,λ_=>trivial⟩,λhc=>absurd (hC.symm.trans hc) (by decide)⟩
     ·have hC:(!YK j22 vNext j23[k])=false:=by
       have c4':0<=Qg j22[j].Bulk j23[k].Id:=by omega
       rw[hf]; simp[c1',c3,c4',hjz]
      have e3:=hL
      have e4:=hL
      exact⟨False,inferInstance,_,λG=>by rw[if_neg (λh=>h)]; simp only[go_sem,reduceIte,↓reduceIte,nA,nB,nE,nL,h,Xi (Xc .ro) j23 k hk,hL,hh,c1,hjn,hA,e1,e2,c3,c4,hq,h1,Xh _ _ hk,Xd (show k<9223372036854775807 by omega),hb0]<;>with_reducible rfl,⟨λh=>h.elim,λh=>absurd (h.symm.trans hC) (by decide)⟩,λhc=>⟨trivial,by simp only[go_sem,reduceIte,↓reduceIte,nB,h]⟩⟩
    ·have hC:(!YK j22 vNext j23[k])=false:=by rw[hf]; simp[c1',c3,hjz]
     have c4:=hL
     have hwm:=hL
     have e3:=hL
     have e4:=hL
     exact⟨False,inferInstance,_,λG=>by rw[if_neg (λh=>h)]; simp only[go_sem,reduceIte,↓reduceIte,nA,nB,nE,nL,h,Xi (Xc .ro) j23 k hk,hL,hh,c1,hjn,hA,c3,h1,Xh _ _ hk,Xd (show k<9223372036854775807 by omega),hb0]<;>with_reducible rfl,⟨λh=>h.elim,λh=>absurd (h.symm.trans hC) (by decide)⟩,λhc=>⟨trivial,by simp only[go_sem,reduceIte,↓reduceIte,nB,h]⟩⟩) () trivial (max j23.length j22.length+1) (by omega)
 rw[hb0] at hz0
 rcases hqz0 with⟨s0,e1,_,e3⟩ | ⟨x,s0,e1,e3⟩
 rotate_left
 ·have e2:=Zk e1
  simp only[go_sem,reduceIte,↓reduceIte,nA,nB,h,hz0,e3,e2,UZ]
 have e2:=ZV e1
 have hb1:=Xg Tryz.f69 1 _ _ rfl rfl
 obtain⟨z1,hz1,hqz1⟩:=Xq (cx:=cx) (blk:=2) (body:=XN Tryz.f69 1) j22 (λk (s:Nat)=>⟨E [(1,.pr [.i .i64 j0,.i .i64 j1,.i .i64 j2,.i .i64 j3,.i .i64 j4,.i .i64 j5,.i .i64 j6,.i .i64 j7,.sl .ro 1 (j8.map Ye),.i .i64 j9,.i .i64 j10,.i .i64 j11,.i .i64 j12,.i .i64 j13,.i .i64 j14,.i .i64 j15,.i .i64 j16,.i .i64 j17,.i .i64 vNext,.i .i64 j18,.i .i64 j19,.sl .ro 13 (j20.map (Xa .ro)),.sl .ro 13 (j21.map (Xa .ro)),.sl .ro 7 (j22.map (Xe .ro)),.sl .ro 11 (j23.map (Xc .ro))]),(49,.sl .ro 7 (j22.map (Xe .ro))),(50,.i .i64 j22.length),(51,.i .i64 k)],B [(1,[])]⟩) (λs=>⟨E [(1,.pr [.i .i64 j0,.i .i64 j1,.i .i64 j2,.i .i64 j3,.i .i64 j4,.i .i64 j5,.i .i64 j6,.i .i64 j7,.sl .ro 1 (j8.map Ye),.i .i64 j9,.i .i64 j10,.i .i64 j11,.i .i64 j12,.i .i64 j13,.i .i64 j14,.i .i64 j15,.i .i64 j16,.i .i64 j17,.i .i64 vNext,.i .i64 j18,.i .i64 j19,.sl .ro 13 (j20.map (Xa .ro)),.sl .ro 13 (j21.map (Xa .ro)),.sl .ro 7 (j22.map (Xe .ro)),.sl .ro 11 (j23.map (Xc .ro))])],B [(1,[])]⟩) (λx s=>!Y6 j22 j23 (s:Nat) x) (λx s=>s+1) (λx s=>(.ret,⟨E [(2,.b false)],B []⟩)) (λk s=>k=s)
   (λs hI G=>by simp only[go_sem,reduceIte,↓reduceIte,nB,nE,h,Int.lt_irrefl,hb1]) (λk hk s hI=>by
    have h1:((k:Int)<(j22.length:Int)):=Int.ofNat_lt.2 hk
    obtain rfl:=hI
    have hf:Y6 j22 j23 (k:Int) j22[k]=(((X5 j22 j23 (k:Int)).1==j22[k].Bulk.Busy)&&((X5 j22 j23 (k:Int)).2==(j22[k].Bulk.Queue.length:Int))):=rfl
    cases d1:((X5 j22 j23 (k:Int)).1==j22[k].Bulk.Busy)
    ·have hC:(!Y6 j22 j23 (k:Int) j22[k])=true:=by rw[hf,d1]; rfl
     have d2:=hL
     exact⟨True,inferInstance,⟨E [],B []⟩,λG=>by rw[if_pos trivial]; simp only[go_sem,reduceIte,↓reduceIte,nA,nB,nE,nL,h,Xi (Xe .ro) j22 k hk,hL,q5,bne,d1,h1,Xh _ _ hk,hb1],⟨λ_=>hC,λ_=>trivial⟩,λhc=>absurd (hC.symm.trans hc) (by decide)⟩
    cases d2:((X5 j22 j23 (k:Int)).2==(j22[k].Bulk.Queue.length:Int))
    ·have hC:(!Y6 j22 j23 (k:Int) j22[k])=true:=by rw[hf,d1,d2]; rfl
     exact⟨True,inferInstance,⟨E [],B []⟩,λG=>by rw[if_pos trivial]; simp only[go_sem,reduceIte,↓reduceIte,nA,nB,nE,nL,h,Xi (Xe .ro) j22 k hk,hL,q5,bne,d1,d2,h1,Xh _ _ hk,hb1],⟨λ_=>hC,λ_=>trivial⟩,λhc=>absurd (hC.symm.trans hc) (by decide)⟩
    ·have hC:(!Y6 j22 j23 (k:Int) j22[k])=false:=by rw[hf,d1,d2]; rfl
     exact⟨False,inferInstance,_,λG=>by rw[if_neg (λh=>h)]; simp only[go_sem,reduceIte,↓reduceIte,nA,nB,nE,nL,h,Xi (Xe .ro) j22 k hk,hL,q5,bne,d1,d2,h1,Xh _ _ hk,Xd (show k<9223372036854775807 by omega),hb1]<;>with_reducible rfl,⟨λh=>h.elim,λh=>absurd (h.symm.trans hC) (by decide)⟩,λhc=>⟨rfl,by simp only[go_sem,reduceIte,↓reduceIte,nB,h]⟩⟩) 0 rfl (max j23.length j22.length+1) (by omega)
 rw[hb1] at hz1
 rcases hqz1 with⟨s1,k1,_,k3⟩ | ⟨x,s1,k1,k3⟩
 rotate_left
 ·have k2:=Xaq k1
  simp only[go_sem,reduceIte,↓reduceIte,nA,nB,nE,nL,h,hz0,e3,e2,hz1,k3,k2,UZ]
 have k2:=Xap k1
 have ha:=hal
 generalize hall:j20++j21=all at ha
 have tk:List.take all.length (List.map (Xa .ro) all)=List.map (Xa .ro) all:=List.take_of_length_le (by simp)
 cases b:(all.any λx=>!ZO j17 x)<;>simp only[go_sem,reduceIte,↓reduceIte,nA,nB,nE,nL,h,hz0,e3,e2,hz1,k3,k2,hle,hall,ha,tk,b,List.length_map,UZ]) (rfl)
def s68:SP Tryz.prog:=mkS tyA 68 Tryz.f68 [s59,s69,Xof] {md:=[.ro 1],rets:=some ([1],[])} Tryz.func68 (by kernel_rfl)
@[go_sem] def d68:s68.g=68/\s68.fs=⟨[.ro 1],s68.F,false⟩:=⟨nr rfl,nr rfl⟩
@[go_sem] def e68(j0 j1 j2 j3 j4 j5 j6 j7:Int)(j8:List ByteArray)(j9 j10 j11 j12 j13 j14 j15 j16 j17 vNext j18 j19:Int)(j20 j21:List XK)(j22:List Origin)(j23:List Xl)(h0:YS (Shield.mk (Config.mk j0 j1 j2 j3 j4 j5 j6 j7 j8 (Lanes.mk j9 j10 j11) (Rules.mk j12 j13 j14 j15 j16)) j17 vNext (Store.mk j18 j19 j20 j21) j22 j23)):s68.F [.pr [.i .i64 j0,.i .i64 j1,.i .i64 j2,.i .i64 j3,.i .i64 j4,.i .i64 j5,.i .i64 j6,.i .i64 j7,.sl .ro 1 (j8.map Ye),.i .i64 j9,.i .i64 j10,.i .i64 j11,.i .i64 j12,.i .i64 j13,.i .i64 j14,.i .i64 j15,.i .i64 j16,.i .i64 j17,.i .i64 vNext,.i .i64 j18,.i .i64 j19,.sl .ro 13 (j20.map (Xa .ro)),.sl .ro 13 (j21.map (Xa .ro)),.sl .ro 7 (j22.map (Xe .ro)),.sl .ro 11 (j23.map (Xc .ro))]]=some (.i .i64 (if(!UZ (Shield.mk (Config.mk j0 j1 j2 j3 j4 j5 j6 j7 j8 (Lanes.mk j9 j10 j11) (Rules.mk j12 j13 j14 j15 j16)) j17 vNext (Store.mk j18 j19 j20 j21) j22 j23))=true then 8 else 0),[.u]):=Xb (0) rfl rfl (λcx h=>by
 simp only[go_sem,reduceIte,↓reduceIte,nA,nB,nE,h,h0]) (rfl)
def Xbt(cx:Cx)(blk:Nat)(c:Code)(st:St):QF cx blk c 8 st=Xb8 (Xz cx blk c (keep (cx.live blk) st)) (λs=>QF cx blk c 7 s):=Zj cx blk c 7 st
def XaS(cx:Cx)(blk:Nat)(c:Code)(st:St):QF cx blk c 9 st=Xb8 (Xz cx blk c (keep (cx.live blk) st)) (λs=>QF cx blk c 8 s):=Zj cx blk c 8 st
def XkO:SP Tryz.prog:=mkS tyA 57 Tryz.f57 [s58,s61,s63,s66,s68,Xof] {md:=[.ro 1],rg:=[(0,[0],[]),(1,[0,6,7,8],[]),(2,[0,6,7,8,9],[]),(3,[0,4,6,7,8],[]),(4,[0,5,6,7,8],[]),(5,[0,5,6,7,8,15],[]),(6,[2],[]),(7,[0,6,7,8],[]),(8,[2],[])],lv:=[(0,[0,6,7,8],[])],out:=[(0,[],[])],rets:=some ([2],[])} Tryz.func57 (by kernel_rfl)
@[go_sem] def Xw3:XkO.g=57/\XkO.fs=⟨[.ro 1],XkO.F,false⟩:=⟨nr rfl,nr rfl⟩
@[go_sem] def Xwv(j0 j1 j2 j3 j4 j5 j6 j7:Int)(j8:List ByteArray)(j9 j10 j11 j12 j13 j14 j15 j16 j17 vNext j18 j19:Int)(j20 j21:List XK)(j22:List Origin)(j23:List Xl)(q1 q2 q3:Bool)(x1 x2 x3:Int)(h0:YS (Shield.mk (Config.mk j0 j1 j2 j3 j4 j5 j6 j7 j8 (Lanes.mk j9 j10 j11) (Rules.mk j12 j13 j14 j15 j16)) j17 vNext (Store.mk j18 j19 j20 j21) j22 j23)):XkO.F [.fs [.fn 58 [.pr [.i .i64 j0,.i .i64 j1,.i .i64 j2,.i .i64 j3,.i .i64 j4,.i .i64 j5,.i .i64 j6,.i .i64 j7,.sl .ro 1 (j8.map Ye),.i .i64 j9,.i .i64 j10,.i .i64 j11,.i .i64 j12,.i .i64 j13,.i .i64 j14,.i .i64 j15,.i .i64 j16,.i .i64 j17,.i .i64 vNext,.i .i64 j18,.i .i64 j19,.sl .ro 13 (j20.map (Xa .ro)),.sl .ro 13 (j21.map (Xa .ro)),.sl .ro 7 (j22.map (Xe .ro)),.sl .ro 11 (j23.map (Xc .ro))]],.fn 124 [.pr [.b q1],.pr [.i .i64 x1]],.fn 61 [.pr [.i .i64 j0,.i .i64 j1,.i .i64 j2,.i .i64 j3,.i .i64 j4,.i .i64 j5,.i .i64 j6,.i .i64 j7,.sl .ro 1 (j8.map Ye),.i .i64 j9,.i .i64 j10,.i .i64 j11,.i .i64 j12,.i .i64 j13,.i .i64 j14,.i .i64 j15,.i .i64 j16,.i .i64 j17,.i .i64 vNext,.i .i64 j18,.i .i64 j19,.sl .ro 13 (j20.map (Xa .ro)),.sl .ro 13 (j21.map (Xa .ro)),.sl .ro 7 (j22.map (Xe .ro)),.sl .ro 11 (j23.map (Xc .ro))]],.fn 124 [.pr [.b q2],.pr [.i .i64 x2]],.fn 124 [.pr [.b q3],.pr [.i .i64 x3]],.fn 63 [.pr [.i .i64 j0,.i .i64 j1,.i .i64 j2,.i .i64 j3,.i .i64 j4,.i .i64 j5,.i .i64 j6,.i .i64 j7,.sl .ro 1 (j8.map Ye),.i .i64 j9,.i .i64 j10,.i .i64 j11,.i .i64 j12,.i .i64 j13,.i .i64 j14,.i .i64 j15,.i .i64 j16,.i .i64 j17,.i .i64 vNext,.i .i64 j18,.i .i64 j19,.sl .ro 13 (j20.map (Xa .ro)),.sl .ro 13 (j21.map (Xa .ro)),.sl .ro 7 (j22.map (Xe .ro)),.sl .ro 11 (j23.map (Xc .ro))]],.fn 66 [.pr [.i .i64 j0,.i .i64 j1,.i .i64 j2,.i .i64 j3,.i .i64 j4,.i .i64 j5,.i .i64 j6,.i .i64 j7,.sl .ro 1 (j8.map Ye),.i .i64 j9,.i .i64 j10,.i .i64 j11,.i .i64 j12,.i .i64 j13,.i .i64 j14,.i .i64 j15,.i .i64 j16,.i .i64 j17,.i .i64 vNext,.i .i64 j18,.i .i64 j19,.sl .ro 13 (j20.map (Xa .ro)),.sl .ro 13 (j21.map (Xa .ro)),.sl .ro 7 (j22.map (Xe .ro)),.sl .ro 11 (j23.map (Xc .ro))]],.fn 68 [.pr [.i .i64 j0,.i .i64 j1,.i .i64 j2,.i .i64 j3,.i .i64 j4,.i .i64 j5,.i .i64 j6,.i .i64 j7,.sl .ro 1 (j8.map Ye),.i .i64 j9,.i .i64 j10,.i .i64 j11,.i .i64 j12,.i .i64 j13,.i .i64 j14,.i .i64 j15,.i .i64 j16,.i .i64 j17,.i .i64 vNext,.i .i64 j18,.i .i64 j19,.sl .ro 13 (j20.map (Xa .ro)),.sl .ro 13 (j21.map (Xa .ro)),.sl .ro 7 (j22.map (Xe .ro)),.sl .ro 11 (j23.map (Xc .ro))]]]]=some (.i .i64 (Zr [XJ (Config.mk j0 j1 j2 j3 j4 j5 j6 j7 j8 (Lanes.mk j9 j10 j11) (Rules.mk j12 j13 j14 j15 j16)),(if q1=true then x1 else 0),XW (Store.mk j18 j19 j20 j21),(if q2=true then x2 else 0),(if q3=true then x3 else 0),YD (Shield.mk (Config.mk j0 j1 j2 j3 j4 j5 j6 j7 j8 (Lanes.mk j9 j10 j11) (Rules.mk j12 j13 j14 j15 j16)) j17 vNext (Store.mk j18 j19 j20 j21) j22 j23),XV j23,(if(!UZ (Shield.mk (Config.mk j0 j1 j2 j3 j4 j5 j6 j7 j8 (Lanes.mk j9 j10 j11) (Rules.mk j12 j13 j14 j15 j16)) j17 vNext (Store.mk j18 j19 j20 j21) j22 j23))=true then(8:Int) else 0)]),[.u]):=Xb (9) rfl rfl (λcx h=>by
 have hM:=h0
 by_cases z0:XJ (Config.mk j0 j1 j2 j3 j4 j5 j6 j7 j8 (Lanes.mk j9 j10 j11) (Rules.mk j12 j13 j14 j15 j16))=0
 rotate_left
 ·have y0:(XJ (Config.mk j0 j1 j2 j3 j4 j5 j6 j7 j8 (Lanes.mk j9 j10 j11) (Rules.mk j12 j13 j14 j15 j16)) !=0)=true:=by simpa using z0
  simp only[go_sem,reduceIte,↓reduceIte,nA,nB,nE,iT,h,XaS,y0,Xm]
 have y0:(XJ (Config.mk j0 j1 j2 j3 j4 j5 j6 j7 j8 (Lanes.mk j9 j10 j11) (Rules.mk j12 j13 j14 j15 j16)) !=0)=false:=by simpa using z0
 by_cases z1:(if q1=true then x1 else 0)=0
 rotate_left
 ·have y1:((if q1=true then x1 else 0) !=0)=true:=by simpa using z1
  simp only[go_sem,reduceIte,↓reduceIte,nA,nB,nE,iT,iA,h,Xbt,XaS,y0,y1,Xm,Q0]
 have y1:((if q1=true then x1 else 0) !=0)=false:=by simpa using z1
 by_cases z2:XW (Store.mk j18 j19 j20 j21)=0
 rotate_left
 ·have y2:(XW (Store.mk j18 j19 j20 j21) !=0)=true:=by simpa using z2
  simp only[go_sem,reduceIte,↓reduceIte,nA,nB,nE,iT,iA,h,hM,Xbt,XaS,y0,y1,y2,Xm,Q0,U9,Xcj]
 have y2:(XW (Store.mk j18 j19 j20 j21) !=0)=false:=by simpa using z2
 by_cases z3:(if q2=true then x2 else 0)=0
 rotate_left
 ·have y3:((if q2=true then x2 else 0) !=0)=true:=by simpa using z3
  simp only[go_sem,reduceIte,↓reduceIte,nA,nB,nE,iT,iA,h,hM,Xbt,XaS,y0,y1,y2,y3,Xm,Q0,U9,XbH,UA,Xcj]
 have y3:((if q2=true then x2 else 0) !=0)=false:=by simpa using z3
 by_cases z4:(if q3=true then x3 else 0)=0
 rotate_left
 ·have y4:((if q3=true then x3 else 0) !=0)=true:=by simpa using z4
  simp only[go_sem,reduceIte,↓reduceIte,nA,nB,nE,iT,iA,h,hM,Xbt,XaS,y0,y1,y2,y3,y4,Xm,Q0,U9,XbH,XdE,Qw,UA,Xcj]
 have y4:((if q3=true then x3 else 0) !=0)=false:=by simpa using z4
 by_cases z5:YD (Shield.mk (Config.mk j0 j1 j2 j3 j4 j5 j6 j7 j8 (Lanes.mk j9 j10 j11) (Rules.mk j12 j13 j14 j15 j16)) j17 vNext (Store.mk j18 j19 j20 j21) j22 j23)=0
 rotate_left
 ·have y5:(YD (Shield.mk (Config.mk j0 j1 j2 j3 j4 j5 j6 j7 j8 (Lanes.mk j9 j10 j11) (Rules.mk j12 j13 j14 j15 j16)) j17 vNext (Store.mk j18 j19 j20 j21) j22 j23) !=0)=true:=by simpa using z5
  simp only[go_sem,reduceIte,↓reduceIte,nA,nB,nE,iT,iA,h,hM,Xbt,XaS,y0,y1,y2,y3,y4,y5,Xm,Q0,U9,XbH,XdE,XhD,Uz,Qw,UA,Xcj]
 have y5:(YD (Shield.mk (Config.mk j0 j1 j2 j3 j4 j5 j6 j7 j8 (Lanes.mk j9 j10 j11) (Rules.mk j12 j13 j14 j15 j16)) j17 vNext (Store.mk j18 j19 j20 j21) j22 j23) !=0)=false:=by simpa using z5
 by_cases z6:XV j23=0
 rotate_left
 ·have y6:(XV j23 !=0)=true:=by simpa using z6
  simp only[go_sem,reduceIte,↓reduceIte,nA,nB,nE,iT,iA,h,hM,Xbt,XaS,y0,y1,y2,y3,y4,y5,y6,Xm,Q0,U9,XbH,XdE,XhD,Xl7,Xav,Uz,Qw,UA,Xcj]
 have y6:(XV j23 !=0)=false:=by simpa using z6
 by_cases z7:(if(!UZ (Shield.mk (Config.mk j0 j1 j2 j3 j4 j5 j6 j7 j8 (Lanes.mk j9 j10 j11) (Rules.mk j12 j13 j14 j15 j16)) j17 vNext (Store.mk j18 j19 j20 j21) j22 j23))=true then(8:Int) else 0)=0
 rotate_left
 ·have y7:((if(!UZ (Shield.mk (Config.mk j0 j1 j2 j3 j4 j5 j6 j7 j8 (Lanes.mk j9 j10 j11) (Rules.mk j12 j13 j14 j15 j16)) j17 vNext (Store.mk j18 j19 j20 j21) j22 j23))=true then(8:Int) else 0) !=0)=true:=by simpa using z7
  simp only[go_sem,reduceIte,↓reduceIte,nA,nB,nE,iT,iA,h,hM,Xbt,XaS,y0,y1,y2,y3,y4,y5,y6,y7,Xm,Q0,U9,XbH,XdE,XhD,Xl7,XoB,Xci,Xav,Uz,Qw,UA,Xcj]
 have y7:((if(!UZ (Shield.mk (Config.mk j0 j1 j2 j3 j4 j5 j6 j7 j8 (Lanes.mk j9 j10 j11) (Rules.mk j12 j13 j14 j15 j16)) j17 vNext (Store.mk j18 j19 j20 j21) j22 j23))=true then(8:Int) else 0) !=0)=false:=by simpa using z7
 simp only[go_sem,reduceIte,↓reduceIte,nA,nB,nE,iT,iA,h,hM,Xbt,XaS,y0,y1,y2,y3,y4,y5,y6,y7,Xm,UY,Q0,U9,XbH,XdE,XhD,Xl7,XoB,Xt9,Xgp,Xci,Xav,Uz,Qw,UA,Xcj]) (rfl)
def s20:SP Tryz.prog:=mkS tyA 20 Tryz.f20 [XkO,s59,s60] {md:=[.ro 1],rets:=some ([2],[]),plan:=[(1,(.take 0 (.take 1 (.take 2 (.take 12 (.take 13 (.take 14 (.take 15 (.take 16 (.take 17 (.take 18 (.take 19 (.take 30 (.take 31 (.take 32 (.take 33 (.take 35 (.take 36 (.take 37 (.one 3 (.take 4 (.take 5 (.take 6 (.take 7 (.one 8 (.take 9 (.take 10 (.one 11 (.take 20 (.take 21 (.take 22 (.take 23 (.take 24 (.take 25 (.take 26 (.take 27 (.take 28 (.one 29 (.one 34 (.one 38 (.one 39 (.one 40 .done))))))))))))))))))))))))))))))))))))))))))],fz:=[1]} Tryz.func20 (by kernel_rfl)
@[go_sem] def d20:s20.g=20/\s20.fs=⟨[.ro 1],s20.F,false⟩:=⟨nr rfl,nr rfl⟩
@[go_sem] def e20(j0 j1 j2 j3 j4 j5 j6 j7:Int)(j8:List ByteArray)(j9 j10 j11 j12 j13 j14 j15 j16 j17 vNext j18 j19:Int)(j20 j21:List XK)(j22:List Origin)(j23:List Xl)(h0:YS (Shield.mk (Config.mk j0 j1 j2 j3 j4 j5 j6 j7 j8 (Lanes.mk j9 j10 j11) (Rules.mk j12 j13 j14 j15 j16)) j17 vNext (Store.mk j18 j19 j20 j21) j22 j23)):s20.F [.agg [.i .i64 j0,.i .i64 j1,.i .i64 j2,.i .i64 j3,.i .i64 j4,.i .i64 j5,.i .i64 j6,.i .i64 j7,.sl .ro 1 (j8.map Ye),.i .i64 j9,.i .i64 j10,.i .i64 j11,.i .i64 j12,.i .i64 j13,.i .i64 j14,.i .i64 j15,.i .i64 j16,.i .i64 j17,.i .i64 vNext,.i .i64 j18,.i .i64 j19,.sl .ro 13 (j20.map (Xa .ro)),.sl .ro 13 (j21.map (Xa .ro)),.sl .ro 7 (j22.map (Xe .ro)),.sl .ro 11 (j23.map (Xc .ro))]]=some (.i .i64 (XT (Shield.mk (Config.mk j0 j1 j2 j3 j4 j5 j6 j7 j8 (Lanes.mk j9 j10 j11) (Rules.mk j12 j13 j14 j15 j16)) j17 vNext (Store.mk j18 j19 j20 j21) j22 j23)),[.u]):=Xb (0) rfl rfl (λcx h=>by
 have hM:=h0
 have hu:XT (Shield.mk (Config.mk j0 j1 j2 j3 j4 j5 j6 j7 j8 (Lanes.mk j9 j10 j11) (Rules.mk j12 j13 j14 j15 j16)) j17 vNext (Store.mk j18 j19 j20 j21) j22 j23)=Zr [XJ (Config.mk j0 j1 j2 j3 j4 j5 j6 j7 j8 (Lanes.mk j9 j10 j11) (Rules.mk j12 j13 j14 j15 j16)),if(!(XC j17&&XC vNext))=true then 3 else 0,XW (Store.mk j18 j19 j20 j21),if(j18 !=j0||j19 !=j1)=true then 1 else 0,if decide (6<(j22.length:Int))=true then 2 else 0,YD (Shield.mk (Config.mk j0 j1 j2 j3 j4 j5 j6 j7 j8 (Lanes.mk j9 j10 j11) (Rules.mk j12 j13 j14 j15 j16)) j17 vNext (Store.mk j18 j19 j20 j21) j22 j23),XV j23,if(!UZ (Shield.mk (Config.mk j0 j1 j2 j3 j4 j5 j6 j7 j8 (Lanes.mk j9 j10 j11) (Rules.mk j12 j13 j14 j15 j16)) j17 vNext (Store.mk j18 j19 j20 j21) j22 j23))=true then 8 else 0]:=rfl
 generalize hB1:XJ (Config.mk j0 j1 j2 j3 j4 j5 j6 j7 j8 (Lanes.mk j9 j10 j11) (Rules.mk j12 j13 j14 j15 j16))=B1 at hu
 generalize hB2:XW (Store.mk j18 j19 j20 j21)=B2 at hu
 generalize hB3:YD (Shield.mk (Config.mk j0 j1 j2 j3 j4 j5 j6 j7 j8 (Lanes.mk j9 j10 j11) (Rules.mk j12 j13 j14 j15 j16)) j17 vNext (Store.mk j18 j19 j20 j21) j22 j23)=B3 at hu
 generalize hB4:XV j23=B4 at hu
 generalize hB5:(if(!UZ (Shield.mk (Config.mk j0 j1 j2 j3 j4 j5 j6 j7 j8 (Lanes.mk j9 j10 j11) (Rules.mk j12 j13 j14 j15 j16)) j17 vNext (Store.mk j18 j19 j20 j21) j22 j23))=true then(8:Int) else 0)=B5 at hu
 cases a1:XC j17<;>cases a3:(j18 !=j0)
 all_goals first
  | (simp only[go_sem,reduceIte,↓reduceIte,nA,nB,nE,nL,h,hM,hB1,hB2,hB3,hB4,hB5,a1,a3,hu]; done)
  | (cases a2:XC vNext<;>simp only[go_sem,reduceIte,↓reduceIte,reduceCtorEq,nA,nS,nM,nB,nE,nL,nT,nN,iL,iT,iE,iA,iM,iS,iG,iB,iN,iZ,h,hM,hB1,hB2,hB3,hB4,hB5,a1,a2,a3,hu]; done)
  | (cases a4:(j19 !=j1)<;>simp only[go_sem,reduceIte,↓reduceIte,reduceCtorEq,nA,nS,nM,nB,nE,nL,nT,nN,iL,iT,iE,iA,iM,iS,iG,iB,iN,iZ,h,hM,hB1,hB2,hB3,hB4,hB5,a1,a3,a4,hu]; done)
  | (cases a2:XC vNext<;>cases a4:(j19 !=j1)<;>simp only[go_sem,reduceIte,↓reduceIte,reduceCtorEq,nA,nS,nM,nB,nE,nL,nT,nN,iL,iT,iE,iA,iM,iS,iG,iB,iN,iZ,h,hM,hB1,hB2,hB3,hB4,hB5,a1,a2,a3,a4,hu])) (rfl)
end
end Go.Vm.A
