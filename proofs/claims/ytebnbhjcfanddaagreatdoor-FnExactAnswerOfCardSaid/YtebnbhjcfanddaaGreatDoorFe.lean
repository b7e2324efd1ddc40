/- Functions of the program, walked by the evaluator. -/
import Derived.Test.YtebnbhjcfanddaaGreatDoorWb
import Derived.Test.YtebnbhjcfanddaaGreatDoorWa
import Derived.Test.YtebnbhjcfanddaaGreatDoorFa
import Derived.Test.YtebnbhjcfanddaaGreatDoorFb
import Derived.Test.YtebnbhjcfanddaaGreatDoorFc
import Derived.Test.YtebnbhjcfanddaaGreatDoorFd
set_option linter.unusedVariables false
set_option linter.unusedSimpArgs false
set_option autoImplicit false
set_option maxRecDepth 100000
set_option maxHeartbeats 4000000
set_option linter.defProp false
namespace Go.Vm.A
open Go.Proofs
open Nat renaming reduceAdd -> nA, reduceSub -> nS, reduceMul -> nM, reduceBEq -> nB, reduceEqDiff -> nE, reduceLeDiff -> nL, reduceLT -> nT, reduceBneDiff -> nN
open Int renaming reduceLE -> iL, reduceLT -> iT, reduceEq -> iE, reduceAdd -> iA, reduceMul -> iM, reduceSub -> iS, reduceNeg -> iG, reduceBEq -> iB, reduceBNe -> iN, reduceToNat -> iZ
noncomputable section
def Xhu(tag:Tag):∀hs:List Xg,Uy (hs.map (Xa tag))=some (hs.map λx=>(x.Name,x.Value))
 | []=>rfl
 | x :: hs=>by rw[List.map_cons,Uy,show Xge (Xa tag x)=some (x.Name,x.Value) from rfl,Xhu tag hs]; rfl
def Xjb:Zk Tryz.prog 109 ⟨[.mv,.ro 1,.mv],XoV,false⟩:=by
 obtain⟨i0,zv,h1,h2,h3,h4,h5⟩:=Go.Proofs.Tryz.insInfo
 exact XoW Tryz.func109 (by kernel_rfl) rfl h5 Go.Proofs.Tryz.insOv Go.Proofs.Tryz.insShift Go.Proofs.Tryz.insRoom (Go.Proofs.Tryz.insEnd i0 zv h1 h2 h3 h4) (Go.Proofs.Tryz.insGrow i0 zv h1 h2 h3 h4 h5)
def Xn5:SP Tryz.prog:=⟨109,⟨[.mv,.ro 1,.mv],XoV,false⟩,Xjb⟩
@[go_sem] def XEt:Xn5.g=109/\Xn5.fs=⟨[.mv,.ro 1,.mv],Xn5.F,false⟩:=⟨nr rfl,nr rfl⟩
@[go_sem] def XEu(hs:List Xg)(a b:ByteArray)(k:Nat)(h0:k<=hs.length/\hs.length<=1048576):Xn5.F [.sl .mut 2 (hs.map (Xa .mut)),.i .i64 (k:Int),.sl .mut 2 [[.s a,.s b]]]=some (.sl .mut 2 ((hs.take k++[Xg.mk a b]++hs.drop k).map (Xa .mut)),[.u,.u,.u]):=by
 show Xpz (Uy (hs.map (Xa .mut))) (k:Int) (some [(a,b)])=_
 rw[Xhu]
 unfold Xpz
 simp only[List.length_map]
 rw[if_pos ⟨by omega,by omega,by omega⟩,Int.toNat_natCast,<-List.map_take,<-List.map_drop,<-List.map_singleton (f:=λx:Xg=>(x.Name,x.Value)) (a:=Xg.mk a b),<-List.map_append,<-List.map_append,List.map_map]
 rfl
@[go_sem] def XqN(hs:List Xg)(name:ByteArray)(h0:(hs.length<=1000/\smL XO hs/\okN name=true)):Xnc.F [.sl .ro 2 (hs.map (Xa .ro)),.s name]=some (.sl .mut 2 ((ZJ hs name).map (Xa .mut)),[.u,.u]):=Xm (hs.length+1) rfl rfl (λcx h=>by
 have hl:=h0.1
 have hx:hs.length<=9223372036854775806:=by omega
 have hb0:=XG Tryz.f104 0 _ _ rfl rfl
 obtain⟨hI,hr⟩:=YB (cx:=cx) (blk:=0) (body:=Za Tryz.f104 0) hs (λk (s:List Xg)=>⟨E [(0,.sl .ro 2 (hs.map (Xa .ro))),(1,.s name),(5,.sl .mut 2 (s.map (Xa .mut))),(9,.sl .ro 2 (hs.map (Xa .ro))),(10,.i .i64 hs.length),(11,.i .i64 k)],B []⟩) (λs=>⟨E [(5,.sl .mut 2 (s.map (Xa .mut)))],B []⟩) (λx s=>(if eqv (ZR x.Name) (ZR name)=true then s else s++[x])) (λk s=>s.length<=k)
   (λs hI G=>by simp only[go_sem,reduceIte,↓reduceIte,nB,nE,h,Int.lt_irrefl,hb0]) (λk hk s hI=>by
    have h1:((k:Int)<(hs.length:Int)):=Int.ofNat_lt.2 hk
    have t3:(s.length+1)*32<=140737488355328:=by omega
    have t4:s.map (Xa .mut)++[[.s hs[k].Name,.s hs[k].Value]]=(s++[hs[k]]).map (Xa .mut):=by simp[Xa]
    obtain⟨u1,u2⟩:=h0.2.1.2 _ (List.getElem_mem hk)
    have n1:hs[k].Name.size<=9223372036854775806/\name.size<=9223372036854775806:=⟨by have:hs[k].Name.size<=1048576:=u1; omega,of_decide_eq_true h0.2.2⟩
    cases d1:eqv (ZR hs[k].Name) (ZR name)
    all_goals exact⟨by split<;>(try simp only[List.length_append,List.length_cons,List.length_nil])<;>omega,_,λG=>by simp only[go_sem,reduceIte,↓reduceIte,nA,nM,nB,nE,nL,nT,h,t3,t4,YJ (Xa .ro) hs k hk,n1,d1,Xa,h1,X0 _ _ hk,Xz (show k<9223372036854775807 by omega),hb0]<;>with_reducible rfl,by simp only[go_sem,reduceIte,↓reduceIte,nB,h]⟩) [] (by simp) (hs.length+1) (Nat.le_refl _)
 rw[hb0] at hr
 have hff:=Xbu (λx:Xg=>eqv (ZR x.Name) (ZR name)) hs []
 simp only[List.nil_append] at hff
 rw[hff] at hr
 simp only[go_sem,reduceIte,↓reduceIte,nA,nM,nB,nE,nT,h,hr,ZJ]) (by simp only[go_sem,Zl,XB])
def s44:SP Tryz.prog:=mkS tyA 44 Tryz.f44 [Xnc,Xn4,Xn5] {md:=[.ro 1,.ro 1,.ro 1],rg:=[(0,[0,2,4],[4]),(1,[0,2,4,7],[4]),(2,[2,4,7,8],[4]),(3,[2,4,7,8,16],[4]),(4,[6],[]),(5,[6],[])],rets:=some ([6],[]),fz:=[4]} Tryz.func44 (by kernel_rfl)
@[go_sem] def d44:s44.g=44/\s44.fs=⟨[.ro 1,.ro 1,.ro 1],s44.F,false⟩:=⟨nr rfl,nr rfl⟩
@[go_sem] def e44(hs:List Xg)(name value:ByteArray)(h0:(hs.length<=1000/\smL XO hs/\okN name=true)):s44.F [.sl .ro 2 (hs.map (Xa .ro)),.s name,.s value]=some (.sl .mut 2 ((setV name value hs).map (Xa .mut)),[.u,.u,.u]):=Xm (0) rfl rfl (λcx h=>by
 have hl:hs.length<=9223372036854775806:=by have:=h0.1; omega
 have hE:XkD (λx:Xg=>x.Name.size<=9223372036854775806/\name.size<=9223372036854775806) hs:=λx hx=>⟨by have:x.Name.size<=1048576:=(h0.2.1.2 x hx).1; omega,of_decide_eq_true h0.2.2⟩
 have hd:=Xbt hs name
 have hdl:(ZJ hs name).length<=1000:=Nat.le_trans hd h0.1
 have t3:((ZJ hs name).length+1)*32<=140737488355328:=by omega
 by_cases c:XdC (λx:Xg=>eqv (ZR x.Name) (ZR name)) hs 0<0
 ·have hs1:=XfQ (n:=name) (v:=value) hs 0 c
  have t4:(ZJ hs name).map (Xa .mut)++[[.s name,.s value]]=(setV name value hs).map (Xa .mut):=by rw[hs1,List.map_append]; rfl
  simp only[go_sem,reduceIte,↓reduceIte,nA,nM,nB,nE,nL,nT,h,hl,hE,h0,c,t3,t4,List.length_map]
 ·obtain⟨i,hi1,hi2⟩:=Xlj (λx:Xg=>eqv (ZR x.Name) (ZR name)) hs c
  obtain⟨hs1,hs2⟩:=XfR (n:=name) (v:=value) hs 0 i (by rw[hi2,Nat.zero_add])
  have hn:¬((i:Int)<0):=by omega
  have hk:i<=(ZJ hs name).length/\(ZJ hs name).length<=1048576:=⟨hs2,by omega⟩
  simp only[go_sem,reduceIte,↓reduceIte,nA,nM,nB,nE,nL,nT,h,hl,hE,h0,hi2,hn,hk]
  rw[hs1]) (by simp only[go_sem,Zl,XB])
def Xnd:SP Tryz.prog:=mkS tyA 110 Tryz.f110 [] {md:=[.ro 1],rg:=[(0,[0],[]),(1,[0,4],[]),(2,[2],[]),(3,[2],[])],rets:=some ([2],[]),nz:=true} Tryz.func110 (by kernel_rfl)
@[go_sem] def XEv:Xnd.g=110/\Xnd.fs=⟨[.ro 1],Xnd.F,false⟩:=⟨nr rfl,nr rfl⟩
@[go_sem] def Xq6(xs:List UInt8)(h0:smL QQ xs):Xnd.F [.sl .ro 1 (xs.map Xx)]=some (.sl .mut 1 (xs.map Xx),[.u]):=XmJ (0) rfl rfl (λcx h=>by
 have h0:=h0.1
 have h1:(xs.map Xx).all (·.all plain)=true:=by simp[Xx,plain]
 have h2:xs.length*1<=140737488355328:=by omega
 rcases Nat.eq_zero_or_pos xs.length with hp | hp
 ·obtain rfl:=List.length_eq_zero_iff.1 hp
  simp only[go_sem,reduceIte,↓reduceIte,nA,nM,nB,nE,h]
 ·simp only[go_sem,reduceIte,↓reduceIte,nA,nM,nB,nE,h,h1,h2,hp]) (by simp only[go_sem,Zl,XB])
@[go_sem] def XqO:Xnd.F [.sl .ro 1 []]=some (.sl .mut 1 [],[.u]):=Xq6 [] ⟨Nat.zero_le _,λx hx=>by cases hx⟩
def s46:SP Tryz.prog:=mkS tyA 46 Tryz.f46 [Xnd] {md:=[.mv,.ro 1],rg:=[(0,[0,1,2,4],[2,4]),(1,[0,2,4,5],[2,4]),(2,[0,2,4],[2,4]),(3,[0,2,4],[2,4]),(4,[0,4],[2,4])],rets:=some ([0,4],[2,4])} Tryz.func46 (by kernel_rfl)
@[go_sem] def d46:s46.g=46/\s46.fs=⟨[.mv,.ro 1],s46.F,false⟩:=⟨nr rfl,nr rfl⟩
@[go_sem] def e46(st:Int)(hs:List Xg)(body:List UInt8)(head:Bool)(h0:smL QQ body):s46.F [.agg [.i .i64 st,.sl .mut 2 (hs.map (Xa .mut)),.sl .ro 1 (body.map Xx)],.b head]=some (.agg [.i .i64 st,.sl .mut 2 (hs.map (Xa .mut)),.sl .mut 1 ((if head=true then[] else body).map Xx)],[.u,.u]):=Xm (0) rfl rfl (λcx h=>by
 cases head<;>simp only[go_sem,reduceIte,↓reduceIte,nA,nB,nE,nL,nT,h,h0]) (by simp only[go_sem,Zl,XB])
def Xn6:SP Tryz.prog:=mkS tyA 135 Tryz.f135 [] {md:=[.ro 1,.ro 1],rets:=some ([4],[])} Tryz.func135 (by kernel_rfl)
@[go_sem] def XEw:Xn6.g=135/\Xn6.fs=⟨[.ro 1,.ro 1],Xn6.F,false⟩:=⟨nr rfl,nr rfl⟩
@[go_sem] def XEx(a b:Int)(h0:(Ym a=true/\0<=b/\b<=1000000000000000)):Xn6.F [.i .i64 a,.i .i64 b]=some (.i .i64 (Xm4 a b),[.u,.u]):=Xm (0) rfl rfl (λcx h=>by
 have h1:=U6.1 h0.1
 have h2:(IntKind.i64).wrap (a+b)=a+b:=Yl (by omega) (by omega)
 simp only[go_sem,reduceIte,↓reduceIte,nB,h,h2,XfU,Xm4]
 try (split<;>first | rfl | (simp only[Option.some.injEq,Prod.mk.injEq,AV.i.injEq,true_and,and_true]; omega))) (rfl)
def s77:SP Tryz.prog:=mkS tyA 77 Tryz.f77 [Xn6] {md:=[.ro 1,.ro 1],rets:=some ([4],[])} Tryz.func77 (by kernel_rfl)
@[go_sem] def d77:s77.g=77/\s77.fs=⟨[.ro 1,.ro 1],s77.F,false⟩:=⟨nr rfl,nr rfl⟩
@[go_sem] def e77(mAt y0 y1 y2 y3:Int)(y4 y5:Bool)(now:Int)(h0:XV (Meta.mk mAt y0 y1 y2 y3 y4 y5) now=0):s77.F [.agg [.i .i64 mAt,.i .i64 y0,.i .i64 y1,.i .i64 y2,.i .i64 y3,.b y4,.b y5],.i .i64 now]=some (.i .i64 (Xbs (Meta.mk mAt y0 y1 y2 y3 y4 y5) now),[.u,.u]):=Xm (0) rfl rfl (λcx h=>by
 obtain⟨w1,w2,w3,w4⟩:=U8 h0
 simp only at w1 w2
 simp only[go_sem,reduceIte,↓reduceIte,nA,nB,nL,h,w1,w2,Xbs]) (rfl)
def Xn7:SP Tryz.prog:=mkS tyA 132 Tryz.f132 [Xna,Xm9] {md:=[.ro 1,.ro 1],rets:=some ([4],[])} Tryz.func132 (by kernel_rfl)
@[go_sem] def XEy:Xn7.g=132/\Xn7.fs=⟨[.ro 1,.ro 1],Xn7.F,false⟩:=⟨nr rfl,nr rfl⟩
@[go_sem] def XEz(mAt y0 y1 y2 y3:Int)(y4 y5:Bool)(now:Int):Xn7.F [.agg [.i .i64 mAt,.i .i64 y0,.i .i64 y1,.i .i64 y2,.i .i64 y3,.b y4,.b y5],.i .i64 now]=some (.b (XV (Meta.mk mAt y0 y1 y2 y3 y4 y5) now==0),[.u,.u]):=Xm (0) rfl rfl (λcx h=>by
 have hu:XV (Meta.mk mAt y0 y1 y2 y3 y4 y5) now=if(XN (Meta.mk mAt y0 y1 y2 y3 y4 y5) !=0)=true then XN (Meta.mk mAt y0 y1 y2 y3 y4 y5) else if(!Ym now||decide (now<mAt))=true then 3 else 0:=rfl
 rcases US (Meta.mk mAt y0 y1 y2 y3 y4 y5) with z | z
 rotate_left
 ·simp only[go_sem,reduceIte,↓reduceIte,nA,nB,iB,iN,h,z,hu]
 rcases Bool.eq_false_or_eq_true (Ym now) with a1 | a1
 rotate_left
 ·simp only[go_sem,reduceIte,↓reduceIte,nA,nB,nE,iB,h,z,a1,hu]
 by_cases a2:mAt<=now
 ·have a3:¬(now<mAt):=by omega
  simp only[go_sem,reduceIte,↓reduceIte,nA,nB,nE,nL,h,z,a1,a2,a3,hu]
 ·have a3:now<mAt:=by omega
  simp only[go_sem,reduceIte,↓reduceIte,nA,nB,nE,nL,iB,h,z,a1,a2,a3,hu]) (rfl)
def s74:SP Tryz.prog:=mkS tyA 74 Tryz.f74 [s77,Xn7] {md:=[.ro 1,.ro 1],rg:=[(0,[1,2,4],[2,4]),(1,[1,2,4,8],[2,4]),(2,[4],[4]),(3,[4],[4])],rets:=some ([4],[4])} Tryz.func74 (by kernel_rfl)
@[go_sem] def d74:s74.g=74/\s74.fs=⟨[.ro 1,.ro 1],s74.F,false⟩:=⟨nr rfl,nr rfl⟩
@[go_sem] def e74(mAt y0 y1 y2 y3:Int)(y4 y5:Bool)(now:Int):s74.F [.agg [.i .i64 mAt,.i .i64 y0,.i .i64 y1,.i .i64 y2,.i .i64 y3,.b y4,.b y5],.i .i64 now]=some (.agg (ZE .mut (XeK (Meta.mk mAt y0 y1 y2 y3 y4 y5) now)),[.u,.u]):=Xm (0) rfl rfl (λcx h=>by
 by_cases z:XV (Meta.mk mAt y0 y1 y2 y3 y4 y5) now=0
 ·simp only[go_sem,reduceIte,↓reduceIte,nA,nB,nE,h,z,XeK]
 ·have z':(XV (Meta.mk mAt y0 y1 y2 y3 y4 y5) now==0)=false:=by simpa using z
  have z2:(XV (Meta.mk mAt y0 y1 y2 y3 y4 y5) now !=0)=true:=by simpa using z
  simp only[go_sem,reduceIte,↓reduceIte,nA,nB,nE,h,z',z2,XeK]) (by simp only[go_sem,Zl,XB,XU])
def Xn8:SP Tryz.prog:=⟨134,⟨[.ro 1,.ro 1],XoT,false⟩,XoU Tryz.func134 (by kernel_rfl) rfl Xo4 (λn w h0 h1 ht=>Go.Proofs.Tryz.fmtBelow n w h0 h1 ht)⟩
@[go_sem] def XEA:Xn8.g=134/\Xn8.fs=⟨[.ro 1,.ro 1],Xn8.F,false⟩:=⟨nr rfl,nr rfl⟩
@[go_sem] def XEB(n:Int)(h0:-9223372036854775808<=n/\n<=9223372036854775807):Xn8.F [.i .i64 n,.i .i64 10]=some (.s (Xbo n),[.u,.u]):=by
 show XoT [.i .i64 n,.i .i64 10]=_
 rw[XmU]
 exact if_pos h0
def s76:SP Tryz.prog:=mkS tyA 76 Tryz.f76 [Xn8] {md:=[.ro 1],rets:=some ([2],[])} Tryz.func76 (by kernel_rfl)
@[go_sem] def d76:s76.g=76/\s76.fs=⟨[.ro 1],s76.F,false⟩:=⟨nr rfl,nr rfl⟩
@[go_sem] def e76(k:Int)(h0:(-9223372036854775808<=k/\k<=9223372036854775807)):s76.F [.i .i64 k]=some (.s (Xbo k),[.u]):=Xm (0) rfl rfl (λcx h=>by
 simp only[go_sem,reduceIte,↓reduceIte,nA,nB,iG,h,h0]) (rfl)
def s24:SP Tryz.prog:=mkS tyA 24 Tryz.f24 [s40,s44,s46,s74,s75,s76,s77] {md:=[.ro 1,.ro 1,.ro 1,.ro 1],rg:=[(0,[1,2,3,4,8,53],[4,8]),(1,[1,2,3,4,8,9,53],[4,8]),(2,[1,2,3,4,8,9,14,53],[4,8]),(3,[1,2,3,4,8,9,53],[4,8]),(4,[1,2,3,4,8,9,26,53],[4,8]),(5,[1,2,3,4,8,9,53],[4,8]),(6,[1,2,3,4,8,9,28,53],[4,8]),(7,[8,53],[8]),(8,[3,4,8,10,53],[4,8]),(9,[3,4,8,10,44,53],[4,8]),(10,[8,53],[8]),(11,[8,53],[8])],rets:=some ([8,53],[8]),plan:=[(8,(.take 0 (.take 1 (.take 2 (.take 3 (.take 4 (.take 9 (.one 5 (.take 6 (.one 7 (.one 8 (.one 10 (.one 11 .done)))))))))))))],fz:=[4]} Tryz.func24 (by kernel_rfl)
@[go_sem] def d24:s24.g=24/\s24.fs=⟨[.ro 1,.ro 1,.ro 1,.ro 1],s24.F,false⟩:=⟨nr rfl,nr rfl⟩
@[go_sem] def e24(y6:ByteArray)(y7:Int)(eHeaders:List Xg)(eBody:List UInt8)(y8 y9 y10 y11 y12:Int)(y13 y14:Bool)(y15:List ByteArray)(y16 now:Int)(source:ByteArray)(head:Bool)(h0:Uc (Xt.mk y6 y7 eHeaders eBody (Meta.mk y8 y9 y10 y11 y12 y13 y14) y15 y16)):s24.F [.agg [.s y6,.i .i64 y7,.sl .ro 2 (eHeaders.map (Xa .ro)),.sl .ro 1 (eBody.map Xx),.i .i64 y8,.i .i64 y9,.i .i64 y10,.i .i64 y11,.i .i64 y12,.b y13,.b y14,.sl .ro 1 (y15.map Zw),.i .i64 y16],.i .i64 now,.s source,.b head]=some (.agg (X5 .mut (UT (Xt.mk y6 y7 eHeaders eBody (Meta.mk y8 y9 y10 y11 y12 y13 y14) y15 y16) now source head)),[.u,.u,.u,.u]):=Xm (0) rfl rfl (λcx h=>by
 have hcu:YN (Xt.mk y6 y7 eHeaders eBody (Meta.mk y8 y9 y10 y11 y12 y13 y14) y15 y16) now source=if(Xc (Xt.mk y6 y7 eHeaders eBody (Meta.mk y8 y9 y10 y11 y12 y13 y14) y15 y16) !=0)=true then Xc (Xt.mk y6 y7 eHeaders eBody (Meta.mk y8 y9 y10 y11 y12 y13 y14) y15 y16) else if(XV (Meta.mk y8 y9 y10 y11 y12 y13 y14) now !=0)=true then 3 else if Ud source=false then 5 else if(20:Int)<((YT (Xt.mk y6 y7 eHeaders eBody (Meta.mk y8 y9 y10 y11 y12 y13 y14) y15 y16) now source).length:Int) then 2 else 0:=rfl
 have hvu:UT (Xt.mk y6 y7 eHeaders eBody (Meta.mk y8 y9 y10 y11 y12 y13 y14) y15 y16) now source head=if(YN (Xt.mk y6 y7 eHeaders eBody (Meta.mk y8 y9 y10 y11 y12 y13 y14) y15 y16) now source !=0)=true then⟨YN (Xt.mk y6 y7 eHeaders eBody (Meta.mk y8 y9 y10 y11 y12 y13 y14) y15 y16) now source,⟨0,[],[]⟩⟩ else⟨0,⟨y7,YT (Xt.mk y6 y7 eHeaders eBody (Meta.mk y8 y9 y10 y11 y12 y13 y14) y15 y16) now source,if head=true then[] else eBody⟩⟩:=rfl
 have hh:smL XO eHeaders:=h0.2.2.1
 by_cases z:Xc (Xt.mk y6 y7 eHeaders eBody (Meta.mk y8 y9 y10 y11 y12 y13 y14) y15 y16)=0
 rotate_left
 ·have z':(Xc (Xt.mk y6 y7 eHeaders eBody (Meta.mk y8 y9 y10 y11 y12 y13 y14) y15 y16) !=0)=true:=by simpa using z
  have z2:(Xc (Xt.mk y6 y7 eHeaders eBody (Meta.mk y8 y9 y10 y11 y12 y13 y14) y15 y16)==0)=false:=by simpa using z
  simp only[go_sem,reduceIte,↓reduceIte,nA,nB,nE,h,hh,z',z2,hcu,hvu]
 have hl:eHeaders.length<=20:=Qh (QS z)
 have m0:XN (Meta.mk y8 y9 y10 y11 y12 y13 y14)=0:=Xcr z
 by_cases za:XV (Meta.mk y8 y9 y10 y11 y12 y13 y14) now=0
 rotate_left
 ·have za':XV (Meta.mk y8 y9 y10 y11 y12 y13 y14) now=3:=XnS m0 za
  simp only[go_sem,reduceIte,↓reduceIte,nA,nB,nE,nL,iB,iN,h,hh,z,za',XeK,hcu,hvu]
 rcases Bool.eq_false_or_eq_true (Ud source) with b | b
 rotate_left
 ·simp only[go_sem,reduceIte,↓reduceIte,nA,nB,nE,nL,iN,h,hh,z,za,b,XeK,hcu,hvu]
 obtain⟨v1,v2,v3⟩:=Xbw za
 obtain⟨g1,g2⟩:=@Xbg (Xt.mk y6 y7 eHeaders eBody (Meta.mk y8 y9 y10 y11 y12 y13 y14) y15 y16) now h0.2.2.1 za hl
 have k1:eHeaders.length<=1000/\smL XO eHeaders/\okN ⟨#[65,103,101]⟩=true:=⟨Nat.le_trans hl (by decide),h0.2.2.1,by decide⟩
 have k2:(Um (Xt.mk y6 y7 eHeaders eBody (Meta.mk y8 y9 y10 y11 y12 y13 y14) y15 y16) now).length<=1000/\smL XO (Um (Xt.mk y6 y7 eHeaders eBody (Meta.mk y8 y9 y10 y11 y12 y13 y14) y15 y16) now)/\okN ⟨#[88,45,67,97,99,104,101]⟩=true:=⟨by omega,g2,by decide⟩
 have u1:setV ⟨#[65,103,101]⟩ (Xbo ((Xbs (Meta.mk y8 y9 y10 y11 y12 y13 y14) now).tdiv 1000)) eHeaders=Um (Xt.mk y6 y7 eHeaders eBody (Meta.mk y8 y9 y10 y11 y12 y13 y14) y15 y16) now:=rfl
 have u2:setV ⟨#[88,45,67,97,99,104,101]⟩ source (Um (Xt.mk y6 y7 eHeaders eBody (Meta.mk y8 y9 y10 y11 y12 y13 y14) y15 y16) now)=YT (Xt.mk y6 y7 eHeaders eBody (Meta.mk y8 y9 y10 y11 y12 y13 y14) y15 y16) now source:=rfl
 have hb:smL QQ eBody:=h0.2.2.2.1
 by_cases c:(20:Int)<((YT (Xt.mk y6 y7 eHeaders eBody (Meta.mk y8 y9 y10 y11 y12 y13 y14) y15 y16) now source).length:Int)
 ·cases head<;>simp only[go_sem,reduceIte,↓reduceIte,nA,nB,nE,nL,iE,iG,iN,h,hh,z,b,c,XeK,za,v1,v3,k1,k2,u1,u2,List.length_map,hcu,hvu]
 ·cases head<;>simp only[go_sem,reduceIte,↓reduceIte,nA,nB,nE,nL,nT,iE,iG,h,hh,z,b,c,XeK,za,v1,v3,k1,k2,u1,u2,hb,List.length_map,hcu,hvu]) (by simp only[go_sem,Zl,XB,XU])
def Xn9:SP Tryz.prog:=mkS tyA 136 Tryz.f136 [] {md:=[.ro 1,.ro 1],rg:=[(0,[2,3],[2,3]),(1,[2,3,9],[2,3]),(2,[4],[]),(3,[14],[]),(4,[4],[]),(5,[4],[])],rets:=some ([4],[])} Tryz.func136 (by kernel_rfl)
@[go_sem] def XEC:Xn9.g=136/\Xn9.fs=⟨[.ro 1,.ro 1],Xn9.F,false⟩:=⟨nr rfl,nr rfl⟩
@[go_sem] def XED(y17 y18 y19 y20:ByteArray)(h0:XO (Xg.mk y17 y18)):Xn9.F [.agg [.s y17,.s y18],.agg [.s y19,.s y20]]=some (.b (eqv (Xg.mk y17 y18) (Xg.mk y19 y20)),[.u,.u]):=Xm (0) rfl rfl (λcx h=>by
 obtain⟨q0,q1⟩:=h0
 simp only[go_sem,reduceIte,↓reduceIte,nA,nB,nE,nL,h,ZP]
 simp only[Xg.eqv (Xg.mk y17 y18) (Xg.mk y19 y20),Xo1,Xav,XiQ,Bool.and_true]) (rfl)
def s79:SP Tryz.prog:=mkS tyA 79 Tryz.f79 [Xn9] {md:=[.ro 1,.ro 1],rg:=[(0,[0,1],[]),(1,[0,1,10],[]),(2,[4],[]),(3,[0,1,5],[]),(4,[0,1,5,14],[]),(5,[0,1,5],[]),(6,[0,1,5,26],[]),(7,[4],[]),(8,[4],[])],lv:=[(0,[0,1,5],[])],out:=[(0,[],[])],rets:=some ([4],[]),plan:=[(6,(.take 0 (.take 1 (.take 2 (.take 3 (.take 4 (.take 5 (.take 6 (.take 7 (.one 8 (.take 9 .done)))))))))))]} Tryz.func79 (by kernel_rfl)
@[go_sem] def d79:s79.g=79/\s79.fs=⟨[.ro 1,.ro 1],s79.F,false⟩:=⟨nr rfl,nr rfl⟩
@[go_sem] def e79(xs ys:List Xg)(h0:smL XO xs):s79.F [.sl .ro 2 (xs.map (Xa .ro)),.sl .ro 2 (ys.map (Xa .ro))]=some (.b (eqv xs ys),[.u,.u]):=Xm (xs.length+1) rfl rfl (λcx h=>by
 have hb:=XG Tryz.f79 0 _ _ rfl rfl
 have hx:=h0.1
 by_cases hl:xs.length=ys.length
 ·obtain⟨r,hr,hq⟩:=Qo (cx:=cx) (blk:=0) (body:=Za Tryz.f79 0) (xs.zip ys) (λk (_:Unit)=>⟨E [(0,.sl .ro 2 (xs.map (Xa .ro))),(1,.sl .ro 2 (ys.map (Xa .ro))),(5,.i .i64 k)],B []⟩) (λ_=>⟨E [],B []⟩) (λx _=>!eqv x.1 x.2) (λ_ _=>()) (λ_ _=>(.ret,⟨E [(4,.b false)],B []⟩)) (λ_ _=>True)
   (λl _ G=>by simp only[go_sem,reduceIte,↓reduceIte,nB,nE,h,Ub hl,hl,Int.lt_irrefl,hb]) (λk hk l _=>by
    have hk:k<xs.length:=by rwa [Ub hl] at hk
    have h1:((k:Int)<(xs.length:Int)):=Int.ofNat_lt.2 hk
    have h2:=h0.2 _ (List.getElem_mem hk)
    have h3:(xs.zip ys)[k]=(xs[k],ys[k]'(by omega)):=by simp
    rw[h3]
    cases hc:eqv xs[k] (ys[k]'(by omega))
    ·exact .inl ⟨rfl,λG=>by simp only[go_sem,reduceIte,↓reduceIte,nA,nB,nE,h,hc,YJ (Xa .ro) xs k hk,YJ (Xa .ro) ys k (by omega),X0 ys.length k (by omega),h2,h1,X0 _ _ hk,hb]⟩
    ·exact .inr ⟨rfl,trivial,_,λG=>by simp only[go_sem,reduceIte,↓reduceIte,nA,nB,nE,h,hc,YJ (Xa .ro) xs k hk,YJ (Xa .ro) ys k (by omega),X0 ys.length k (by omega),h2,h1,X0 _ _ hk,Xz (show k<9223372036854775807 by omega),hb]<;>with_reducible rfl,by simp only[go_sem,reduceIte,↓reduceIte,nB,h]⟩) () trivial (xs.length+1) (by rw[Ub hl]; exact Nat.le_refl _)
  rw[hb] at hr
  have hl2:((xs.length:Int) !=(ys.length:Int))=false:=by simp[hl]
  rcases hq with⟨s',e1,e2,e3⟩ | ⟨x,s',e1,e3⟩
  ·simp only[go_sem,reduceIte,↓reduceIte,nB,nE,h,hl2,hr,e3,Xdv hl e1]
  ·simp only[go_sem,reduceIte,↓reduceIte,nB,nE,h,hl2,hr,e3,Xdw hl e1]
 ·have hl2:((xs.length:Int) !=(ys.length:Int))=true:=by simpa using λh=>hl (Int.ofNat_inj.1 h)
  simp only[go_sem,reduceIte,↓reduceIte,nB,nE,h,hl2,XfF hl]) (rfl)
def s80:SP Tryz.prog:=mkS tyA 80 Tryz.f80 [] {md:=[.ro 1,.ro 1],rg:=[(0,[0,1],[]),(1,[0,1,10],[]),(2,[4],[]),(3,[0,1,5],[]),(4,[0,1,5,14],[]),(5,[0,1,5],[]),(6,[0,1,5,25],[]),(7,[4],[]),(8,[4],[])],lv:=[(0,[0,1,5],[])],out:=[(0,[],[])],rets:=some ([4],[]),plan:=[(6,(.take 0 (.take 1 (.take 2 (.take 3 (.take 4 (.take 5 (.take 6 (.take 7 (.take 8 .done))))))))))]} Tryz.func80 (by kernel_rfl)
@[go_sem] def d80:s80.g=80/\s80.fs=⟨[.ro 1,.ro 1],s80.F,false⟩:=⟨nr rfl,nr rfl⟩
@[go_sem] def e80(xs ys:List UInt8)(h0:smL QQ xs):s80.F [.sl .ro 1 (xs.map Xx),.sl .ro 1 (ys.map Xx)]=some (.b (eqv xs ys),[.u,.u]):=Xm (xs.length+1) rfl rfl (λcx h=>by
 have hb:=XG Tryz.f80 0 _ _ rfl rfl
 have hx:=h0.1
 by_cases hl:xs.length=ys.length
 ·obtain⟨r,hr,hq⟩:=Qo (cx:=cx) (blk:=0) (body:=Za Tryz.f80 0) (xs.zip ys) (λk (_:Unit)=>⟨E [(0,.sl .ro 1 (xs.map Xx)),(1,.sl .ro 1 (ys.map Xx)),(5,.i .i64 k)],B []⟩) (λ_=>⟨E [],B []⟩) (λx _=>!eqv x.1 x.2) (λ_ _=>()) (λ_ _=>(.ret,⟨E [(4,.b false)],B []⟩)) (λ_ _=>True)
   (λl _ G=>by simp only[go_sem,reduceIte,↓reduceIte,nB,nE,h,Ub hl,hl,Int.lt_irrefl,hb]) (λk hk l _=>by
    have hk:k<xs.length:=by rwa [Ub hl] at hk
    have h1:((k:Int)<(xs.length:Int)):=Int.ofNat_lt.2 hk
    have h2:=h0.2 _ (List.getElem_mem hk)
    have h3:(xs.zip ys)[k]=(xs[k],ys[k]'(by omega)):=by simp
    rw[h3]
    cases hc:eqv xs[k] (ys[k]'(by omega))
    ·exact .inl ⟨rfl,λG=>by simp only[go_sem,reduceIte,↓reduceIte,nB,nE,h,hc,YJ Xx xs k hk,YJ Xx ys k (by omega),X0 ys.length k (by omega),Xgb,h1,X0 _ _ hk,hb]⟩
    ·exact .inr ⟨rfl,trivial,_,λG=>by simp only[go_sem,reduceIte,↓reduceIte,nB,nE,h,hc,YJ Xx xs k hk,YJ Xx ys k (by omega),X0 ys.length k (by omega),Xgb,h1,X0 _ _ hk,Xz (show k<9223372036854775807 by omega),hb]<;>with_reducible rfl,by simp only[go_sem,reduceIte,↓reduceIte,nB,h]⟩) () trivial (xs.length+1) (by rw[Ub hl]; exact Nat.le_refl _)
  rw[hb] at hr
  have hl2:((xs.length:Int) !=(ys.length:Int))=false:=by simp[hl]
  rcases hq with⟨s',e1,e2,e3⟩ | ⟨x,s',e1,e3⟩
  ·simp only[go_sem,reduceIte,↓reduceIte,nB,nE,h,hl2,hr,e3,Xdv hl e1]
  ·simp only[go_sem,reduceIte,↓reduceIte,nB,nE,h,hl2,hr,e3,Xdw hl e1]
 ·have hl2:((xs.length:Int) !=(ys.length:Int))=true:=by simpa using λh=>hl (Int.ofNat_inj.1 h)
  simp only[go_sem,reduceIte,↓reduceIte,nB,nE,h,hl2,XfF hl]) (rfl)
def s78:SP Tryz.prog:=mkS tyA 78 Tryz.f78 [s79,s80] {md:=[.ro 1,.ro 1],rg:=[(0,[2,3],[2,3]),(1,[2,3,9],[2,3]),(2,[4],[]),(3,[2,3,15],[2,3]),(4,[4],[]),(5,[21],[]),(6,[4],[]),(7,[4],[])],rets:=some ([4],[])} Tryz.func78 (by kernel_rfl)
@[go_sem] def d78:s78.g=78/\s78.fs=⟨[.ro 1,.ro 1],s78.F,false⟩:=⟨nr rfl,nr rfl⟩
@[go_sem] def e78(y21:Int)(y22:List Xg)(y23:List UInt8)(y24:Int)(y25:List Xg)(y26:List UInt8)(h0:XaW (Response.mk y21 y22 y23)):s78.F [.agg [.i .i64 y21,.sl .ro 2 (y22.map (Xa .ro)),.sl .ro 1 (y23.map Xx)],.agg [.i .i64 y24,.sl .ro 2 (y25.map (Xa .ro)),.sl .ro 1 (y26.map Xx)]]=some (.b (eqv (Response.mk y21 y22 y23) (Response.mk y24 y25 y26)),[.u,.u]):=Xm (0) rfl rfl (λcx h=>by
 obtain⟨q0,q1,q2⟩:=h0
 simp only[go_sem,reduceIte,↓reduceIte,nA,nB,nE,nL,h,Xar,q1,q2]
 simp only[Response.eqv (Response.mk y21 y22 y23) (Response.mk y24 y25 y26),Xo1,Xav,XiQ,Bool.and_true]) (rfl)
def s25:SP Tryz.prog:=mkS tyA 25 Tryz.f25 [s78] {md:=[.ro 1,.ro 1],rg:=[(0,[2,3],[2,3]),(1,[2,3,9],[2,3]),(2,[4],[]),(3,[15],[]),(4,[4],[]),(5,[4],[])],rets:=some ([4],[])} Tryz.func25 (by kernel_rfl)
@[go_sem] def d25:s25.g=25/\s25.fs=⟨[.ro 1,.ro 1],s25.F,false⟩:=⟨nr rfl,nr rfl⟩
@[go_sem] def e25(y27 y28:Int)(y29:List Xg)(y30:List UInt8)(y31 y32:Int)(y33:List Xg)(y34:List UInt8)(h0:ZX (Xh.mk y27 (Response.mk y28 y29 y30))):s25.F [.agg [.i .i64 y27,.i .i64 y28,.sl .ro 2 (y29.map (Xa .ro)),.sl .ro 1 (y30.map Xx)],.agg [.i .i64 y31,.i .i64 y32,.sl .ro 2 (y33.map (Xa .ro)),.sl .ro 1 (y34.map Xx)]]=some (.b (eqv (Xh.mk y27 (Response.mk y28 y29 y30)) (Xh.mk y31 (Response.mk y32 y33 y34))),[.u,.u]):=Xm (0) rfl rfl (λcx h=>by
 obtain⟨q0,q1⟩:=h0
 simp only[go_sem,reduceIte,↓reduceIte,nA,nB,nE,nL,h,Xar,q1]
 simp only[Xh.eqv (Xh.mk y27 (Response.mk y28 y29 y30)) (Xh.mk y31 (Response.mk y32 y33 y34)),Xo1,Xav,XiQ,Bool.and_true]) (rfl)
def s81:SP Tryz.prog:=mkS tyA 81 Tryz.f81 [] {md:=[.ro 1,.ro 1],rg:=[(0,[2,3],[2,3]),(1,[2,3,9],[2,3]),(2,[4],[]),(3,[2,3,14],[2,3]),(4,[4],[]),(5,[2,3,19],[2,3]),(6,[4],[]),(7,[2,3,24],[2,3]),(8,[4],[]),(9,[2,3,29],[2,3]),(10,[4],[]),(11,[2,3,34],[2,3]),(12,[4],[]),(13,[39],[]),(14,[4],[]),(15,[4],[])],rets:=some ([4],[])} Tryz.func81 (by kernel_rfl)
@[go_sem] def d81:s81.g=81/\s81.fs=⟨[.ro 1,.ro 1],s81.F,false⟩:=⟨nr rfl,nr rfl⟩
@[go_sem] def e81(xAt y35 y36 y37 y38:Int)(y39 y40:Bool)(yAt y41 y42 y43 y44:Int)(y45 y46:Bool)(h0:Xgh (Meta.mk xAt y35 y36 y37 y38 y39 y40)):s81.F [.agg [.i .i64 xAt,.i .i64 y35,.i .i64 y36,.i .i64 y37,.i .i64 y38,.b y39,.b y40],.agg [.i .i64 yAt,.i .i64 y41,.i .i64 y42,.i .i64 y43,.i .i64 y44,.b y45,.b y46]]=some (.b (eqv (Meta.mk xAt y35 y36 y37 y38 y39 y40) (Meta.mk yAt y41 y42 y43 y44 y45 y46)),[.u,.u]):=Xm (0) rfl rfl (λcx h=>by
 obtain⟨q0,q1,q2,q3,q4,q5,q6⟩:=h0
 simp only[go_sem,reduceIte,↓reduceIte,nA,nB,nE,nL,h,Xar]
 simp only[XkC,Meta.eqv (Meta.mk xAt y35 y36 y37 y38 y39 y40) (Meta.mk yAt y41 y42 y43 y44 y45 y46),Xo1,Xav,XiQ,Bool.and_true]) (rfl)
def s82:SP Tryz.prog:=mkS tyA 82 Tryz.f82 [] {md:=[.ro 1,.ro 1],rg:=[(0,[0,1],[]),(1,[0,1,10],[]),(2,[4],[]),(3,[0,1,5],[]),(4,[0,1,5,14],[]),(5,[0,1,5],[]),(6,[0,1,5,25],[]),(7,[4],[]),(8,[4],[])],lv:=[(0,[0,1,5],[])],out:=[(0,[],[])],rets:=some ([4],[]),plan:=[(6,(.take 0 (.take 1 (.take 2 (.take 3 (.take 4 (.take 5 (.take 6 (.take 7 (.take 8 .done))))))))))]} Tryz.func82 (by kernel_rfl)
@[go_sem] def d82:s82.g=82/\s82.fs=⟨[.ro 1,.ro 1],s82.F,false⟩:=⟨nr rfl,nr rfl⟩
@[go_sem] def e82(xs ys:List ByteArray)(h0:smL XfC xs):s82.F [.sl .ro 1 (xs.map Zw),.sl .ro 1 (ys.map Zw)]=some (.b (eqv xs ys),[.u,.u]):=Xm (xs.length+1) rfl rfl (λcx h=>by
 have hb:=XG Tryz.f82 0 _ _ rfl rfl
 have hx:=h0.1
 by_cases hl:xs.length=ys.length
 ·obtain⟨r,hr,hq⟩:=Qo (cx:=cx) (blk:=0) (body:=Za Tryz.f82 0) (xs.zip ys) (λk (_:Unit)=>⟨E [(0,.sl .ro 1 (xs.map Zw)),(1,.sl .ro 1 (ys.map Zw)),(5,.i .i64 k)],B []⟩) (λ_=>⟨E [],B []⟩) (λx _=>!eqv x.1 x.2) (λ_ _=>()) (λ_ _=>(.ret,⟨E [(4,.b false)],B []⟩)) (λ_ _=>True)
   (λl _ G=>by simp only[go_sem,reduceIte,↓reduceIte,nB,nE,h,Ub hl,hl,Int.lt_irrefl,hb]) (λk hk l _=>by
    have hk:k<xs.length:=by rwa [Ub hl] at hk
    have h1:((k:Int)<(xs.length:Int)):=Int.ofNat_lt.2 hk
    have h2:=h0.2 _ (List.getElem_mem hk)
    have h3:(xs.zip ys)[k]=(xs[k],ys[k]'(by omega)):=by simp
    rw[h3]
    cases hc:eqv xs[k] (ys[k]'(by omega))
    ·exact .inl ⟨rfl,λG=>by simp only[go_sem,reduceIte,↓reduceIte,nB,nE,h,hc,YJ Zw xs k hk,YJ Zw ys k (by omega),X0 ys.length k (by omega),ZP,h1,X0 _ _ hk,hb]⟩
    ·exact .inr ⟨rfl,trivial,_,λG=>by simp only[go_sem,reduceIte,↓reduceIte,nB,nE,h,hc,YJ Zw xs k hk,YJ Zw ys k (by omega),X0 ys.length k (by omega),ZP,h1,X0 _ _ hk,Xz (show k<9223372036854775807 by omega),hb]<;>with_reducible rfl,by simp only[go_sem,reduceIte,↓reduceIte,nB,h]⟩) () trivial (xs.length+1) (by rw[Ub hl]; exact Nat.le_refl _)
  rw[hb] at hr
  have hl2:((xs.length:Int) !=(ys.length:Int))=false:=by simp[hl]
  rcases hq with⟨s',e1,e2,e3⟩ | ⟨x,s',e1,e3⟩
  ·simp only[go_sem,reduceIte,↓reduceIte,nB,nE,h,hl2,hr,e3,Xdv hl e1]
  ·simp only[go_sem,reduceIte,↓reduceIte,nB,nE,h,hl2,hr,e3,Xdw hl e1]
 ·have hl2:((xs.length:Int) !=(ys.length:Int))=true:=by simpa using λh=>hl (Int.ofNat_inj.1 h)
  simp only[go_sem,reduceIte,↓reduceIte,nB,nE,h,hl2,XfF hl]) (rfl)
def s26:SP Tryz.prog:=mkS tyA 26 Tryz.f26 [s79,s80,s81,s82] {md:=[.ro 1,.ro 1],rg:=[(0,[2,3],[2,3]),(1,[2,3,9],[2,3]),(2,[4],[]),(3,[2,3,14],[2,3]),(4,[4],[]),(5,[2,3,20],[2,3]),(6,[4],[]),(7,[2,3,26],[2,3]),(8,[4],[]),(9,[2,3,32],[2,3]),(10,[4],[]),(11,[2,3,38],[2,3]),(12,[4],[]),(13,[43],[]),(14,[4],[]),(15,[4],[])],rets:=some ([4],[])} Tryz.func26 (by kernel_rfl)
@[go_sem] def d26:s26.g=26/\s26.fs=⟨[.ro 1,.ro 1],s26.F,false⟩:=⟨nr rfl,nr rfl⟩
@[go_sem] def e26(y47:ByteArray)(y21:Int)(y22:List Xg)(y23:List UInt8)(y48 y49 y50 y51 y52:Int)(y53 y54:Bool)(y55:List ByteArray)(y56:Int)(y57:ByteArray)(y24:Int)(y25:List Xg)(y26:List UInt8)(y58 y59 y60 y61 y62:Int)(y63 y64:Bool)(y65:List ByteArray)(y66:Int)(h0:Uc (Xt.mk y47 y21 y22 y23 (Meta.mk y48 y49 y50 y51 y52 y53 y54) y55 y56)):s26.F [.agg [.s y47,.i .i64 y21,.sl .ro 2 (y22.map (Xa .ro)),.sl .ro 1 (y23.map Xx),.i .i64 y48,.i .i64 y49,.i .i64 y50,.i .i64 y51,.i .i64 y52,.b y53,.b y54,.sl .ro 1 (y55.map Zw),.i .i64 y56],.agg [.s y57,.i .i64 y24,.sl .ro 2 (y25.map (Xa .ro)),.sl .ro 1 (y26.map Xx),.i .i64 y58,.i .i64 y59,.i .i64 y60,.i .i64 y61,.i .i64 y62,.b y63,.b y64,.sl .ro 1 (y65.map Zw),.i .i64 y66]]=some (.b (eqv (Xt.mk y47 y21 y22 y23 (Meta.mk y48 y49 y50 y51 y52 y53 y54) y55 y56) (Xt.mk y57 y24 y25 y26 (Meta.mk y58 y59 y60 y61 y62 y63 y64) y65 y66)),[.u,.u]):=Xm (0) rfl rfl (λcx h=>by
 obtain⟨q0,q1,q2,q3,q4,q5,q6⟩:=h0
 simp only[go_sem,reduceIte,↓reduceIte,nA,nB,nE,nL,h,Xar,ZP,q2,q3,q4,q5]
 simp only[Xt.eqv (Xt.mk y47 y21 y22 y23 (Meta.mk y48 y49 y50 y51 y52 y53 y54) y55 y56) (Xt.mk y57 y24 y25 y26 (Meta.mk y58 y59 y60 y61 y62 y63 y64) y65 y66),Xo1,Xav,XiQ,Bool.and_true]) (rfl)
end
end Go.Vm.A
