/- Functions of the program, walked by the evaluator. -/
import Derived.Test.YtbgfaonlbpkfhaaGreatDoorWb
import Derived.Test.YtbgfaonlbpkfhaaGreatDoorWa
set_option linter.unusedVariables false
set_option linter.unusedSimpArgs false
set_option autoImplicit false
set_option maxRecDepth 100000
set_option maxHeartbeats 4000000
set_option linter.defProp false
namespace Go.Vm.A
open Go.Proofs
open Nat renaming reduceAdd -> nA, reduceSub -> nS, reduceMul -> nM, reduceBEq -> nB, reduceEqDiff -> nE, reduceLeDiff -> nL, reduceLT -> nT, reduceBneDiff -> nN
open Int renaming reduceLE -> iL, reduceLT -> iT, reduceEq -> iE, reduceAdd -> iA, reduceMul -> iM, reduceSub -> iS, reduceNeg -> iG, reduceBEq -> iB, reduceBNe -> iN, reduceToNat -> iZ
noncomputable section
def s33:SP Tryz.prog:=mkS tyA 33 Tryz.f33 [] {md:=[.ro 1,.ro 1],rg:=[(0,[0,1],[]),(1,[0,1],[]),(2,[0,1,11],[]),(3,[4],[]),(4,[0,1,5],[]),(5,[0,1,5,15],[]),(6,[0,1,5],[]),(7,[0,1,5],[]),(8,[0,1,5,26],[]),(9,[4],[]),(10,[4],[])],lv:=[(0,[0,1,5],[])],out:=[(0,[1],[])],rets:=some ([4],[])} Tryz.func33 (by kernel_rfl)
@[go_sem] def d33:s33.g=33/\s33.fs=⟨[.ro 1,.ro 1],s33.F,false⟩:=⟨nr rfl,nr rfl⟩
@[go_sem] def e33(xs:List ByteArray)(l:Int)(h0:okL Xls xs):s33.F [.sl .ro 1 (xs.map Yf),.i .i64 l]=some (.i .i64 (szL Xdu xs l),[.u,.u]):=Xd (xs.length+1) rfl rfl (λcx h=>by
 have hb:=Xn Tryz.f33 0 _ _ rfl rfl
 have hx:=h0.1
 obtain⟨r,hr,hq⟩:=Zx (cx:=cx) (blk:=0) (body:=Yl Tryz.f33 0) xs (λk l=>⟨E [(0,.sl .ro 1 (xs.map Yf)),(1,.i .i64 l),(5,.i .i64 k)],B []⟩) (λl=>⟨E [(1,.i .i64 l)],B []⟩) (λx l=>decide (Xdu x l<0)) (λx l=>Xdu x l) (λ_ _=>(.ret,⟨E [(4,.i .i64 (-1))],B []⟩)) (λ_ _=>True)
  (λl _ G=>by simp only[go_sem,reduceIte,↓reduceIte,reduceCtorEq,nA,nS,nM,nB,nE,nL,nT,nN,iL,iT,iE,iA,iM,iS,iG,iB,iN,iZ,h,Int.lt_irrefl,hb]) (λk hk l _=>by
   have h1:((k:Int)<(xs.length:Int)):=Int.ofNat_lt.2 hk
   have h2:=h0.2 _ (List.getElem_mem hk)
   by_cases hc:(IntKind.i64).wrap (l-(xs[k].size:Int))<0
   ·have hs:Xdu xs[k] l =-1:=by simp only[Xdu,szs]; rw[if_pos hc]
    exact .inl ⟨by rw[hs]; rfl,λG=>by simp only[go_sem,reduceIte,↓reduceIte,reduceCtorEq,nA,nS,nM,nB,nE,nL,nT,nN,iL,iT,iE,iA,iM,iS,iG,iB,iN,iZ,h,h2,hc,XP Yf xs k hk,h1,Xp _ _ hk,Xe (show k<9223372036854775807 by omega),hb]⟩
   ·have hs:Xdu xs[k] l=(IntKind.i64).wrap (l-(xs[k].size:Int)):=by simp only[Xdu,szs]; rw[if_neg hc]
    exact .inr ⟨decide_eq_false (by rw[hs]; exact hc),trivial,_,λG=>by simp only[go_sem,reduceIte,↓reduceIte,reduceCtorEq,nA,nS,nM,nB,nE,nL,nT,nN,iL,iT,iE,iA,iM,iS,iG,iB,iN,iZ,h,h2,hc,XP Yf xs k hk,h1,Xp _ _ hk,Xe (show k<9223372036854775807 by omega),hb]<;>with_reducible rfl,by simp only[go_sem,reduceIte,↓reduceIte,reduceCtorEq,nA,nS,nM,nB,nE,nL,nT,nN,iL,iT,iE,iA,iM,iS,iG,iB,iN,iZ,h,hs]⟩) ((IntKind.i64).wrap (l-(xs.length:Int))) trivial (xs.length+1) (Nat.le_refl _)
 rw[hb] at hr
 unfold szL szs
 by_cases hc:(IntKind.i64).wrap (l-(xs.length:Int))<0
 ·simp only[go_sem,reduceIte,↓reduceIte,reduceCtorEq,nA,nS,nM,nB,nE,nL,nT,nN,iL,iT,iE,iA,iM,iS,iG,iB,iN,iZ,h,hc]
 ·rcases hq with⟨s',e1,e2,e3⟩ | ⟨x,s',e1,e3⟩
  ·simp only[go_sem,reduceIte,↓reduceIte,reduceCtorEq,nA,nS,nM,nB,nE,nL,nT,nN,iL,iT,iE,iA,iM,iS,iG,iB,iN,iZ,h,hc,hr,e3,XjA e1,Option.getD_some]
  ·simp only[go_sem,reduceIte,↓reduceIte,reduceCtorEq,nA,nS,nM,nB,nE,nL,nT,nN,iL,iT,iE,iA,iM,iS,iG,iB,iN,iZ,h,hc,hr,e3,XjB e1,Option.getD_none]) (rfl)
def s8:SP Tryz.prog:=mkS tyA 8 Tryz.f8 [s33] {md:=[.ro 1,.ro 1],rg:=[(0,[1,2],[2]),(1,[1],[]),(2,[1,10],[]),(3,[4],[]),(4,[4],[])],rets:=some ([4],[])} Tryz.func8 (by kernel_rfl)
@[go_sem] def d8:s8.g=8/\s8.fs=⟨[.ro 1,.ro 1],s8.F,false⟩:=⟨nr rfl,nr rfl⟩
@[go_sem] def e8(z0 z1 z2 z3 z4 z5 z6 z7:Int)(z9:List ByteArray)(z10 z11 z12 z13 z14 z15 z16 z17 l:Int)(h0:Xct (Config.mk z0 z1 z2 z3 z4 z5 z6 z7 z9 (Lanes.mk z10 z11 z12) (Rules.mk z13 z14 z15 z16 z17))):s8.F [.agg [.i .i64 z0,.i .i64 z1,.i .i64 z2,.i .i64 z3,.i .i64 z4,.i .i64 z5,.i .i64 z6,.i .i64 z7,.sl .ro 1 (z9.map Yf),.i .i64 z10,.i .i64 z11,.i .i64 z12,.i .i64 z13,.i .i64 z14,.i .i64 z15,.i .i64 z16,.i .i64 z17],.i .i64 l]=some (.i .i64 (XaG (Config.mk z0 z1 z2 z3 z4 z5 z6 z7 z9 (Lanes.mk z10 z11 z12) (Rules.mk z13 z14 z15 z16 z17)) l),[.u,.u]):=Xd (0) rfl rfl (λcx h=>by
 obtain⟨q0,q1,q2,q3,q4,q5,q6,q7,q8,q9,q10⟩:=h0
 simp only[go_sem,reduceIte,↓reduceIte,reduceCtorEq,nA,nS,nM,nB,nE,nL,nT,nN,iL,iT,iE,iA,iM,iS,iG,iB,iN,iZ,h,q0,q1,q2,q3,q4,q5,q6,q7,q8,q9,q10]
 simp only[XaG,szs,szn,XlV,decide_eq_true_eq]) (rfl)
def within(a b c:Int):Bool:=decide (b<=a)&&decide (a<=c)
def XjO{a b c:Int}:within a b c=true↔b<=a/\a<=c:=by simp[within]
def s86:SP Tryz.prog:=mkS tyA 86 Tryz.f86 [] {md:=[.ro 1,.ro 1,.ro 1],rets:=some ([6],[])} Tryz.func86 (by kernel_rfl)
@[go_sem] def d86:s86.g=86/\s86.fs=⟨[.ro 1,.ro 1,.ro 1],s86.F,false⟩:=⟨nr rfl,nr rfl⟩
@[go_sem] def e86(a b c:Int):s86.F [.i .i64 a,.i .i64 b,.i .i64 c]=some (.b (within a b c),[.u,.u,.u]):=Xd (0) rfl rfl (λcx h=>by
 simp only[go_sem,reduceIte,↓reduceIte,reduceCtorEq,nA,nS,nM,nB,nE,nL,nT,nN,iL,iT,iE,iA,iM,iS,iG,iB,iN,iZ,h,within]
 by_cases h:b<=a<;>simp[h]) (rfl)
def Z8(a:Int):Bool:=within a 0 1000000000000000
def s49:SP Tryz.prog:=mkS tyA 49 Tryz.f49 [s86] {md:=[.ro 1],rets:=some ([2],[])} Tryz.func49 (by kernel_rfl)
@[go_sem] def d49:s49.g=49/\s49.fs=⟨[.ro 1],s49.F,false⟩:=⟨nr rfl,nr rfl⟩
@[go_sem] def e49(a:Int):s49.F [.i .i64 a]=some (.b (Z8 a),[.u]):=Xd (0) rfl rfl (λcx h=>by
 simp only[go_sem,reduceIte,↓reduceIte,reduceCtorEq,nA,nS,nM,nB,nE,nL,nT,nN,iL,iT,iE,iA,iM,iS,iG,iB,iN,iZ,h,Z8]) (rfl)
def XqD(xs:List XM):(xs.map (Xa .ro)).all (·.all plain)=true:=by simp[Xa,plain]
def XnZ:SP Tryz.prog:=mkS tyA 111 Tryz.f111 [] {md:=[.ro 1],wk:=true,rg:=[(0,[0],[]),(1,[2],[])],rets:=some ([2],[]),plan:=[(1,(.take 1 (.take 2 (.take 3 (.take 4 (.take 6 (.alt 0 (.alt 5 (.one 7 (.take 8 (.one 9 (.one 10 (.one 11 .done))))) (.one 7 (.take 8 (.alt 5 (.one 9 (.one 10 (.one 11 .done))) (.one 9 (.one 5 (.one 10 (.one 11 .done)))))))) (.one 7 (.take 8 (.alt 0 (.alt 5 (.one 9 (.one 10 (.one 11 .done))) (.one 9 (.one 5 (.one 10 (.one 11 .done))))) (.one 9 (.one 0 (.one 5 (.one 10 (.one 11 .done)))))))))))))))]} Tryz.func111 (by kernel_rfl)
@[go_sem] def XE2:XnZ.g=111/\XnZ.fs=⟨[.ro 1],XnZ.F,true⟩:=⟨nr rfl,nr rfl⟩
@[go_sem] def XsM(z0 z1:Int)(z18 z19:List XM)(h0:((Store.mk z0 z1 z18 z19).Trial.length<=1048576/\(Store.mk z0 z1 z18 z19).Kept.length<=1048576)):XnZ.F [.pr [.i .i64 z0,.i .i64 z1,.sl .ro 13 (z18.map (Xa .ro)),.sl .ro 13 (z19.map (Xa .ro))]]=some (.sl .mut 13 (((Store.mk z0 z1 z18 z19).Trial++(Store.mk z0 z1 z18 z19).Kept).map (Xa .ro)),[.u]):=Xd (0) rfl rfl (λcx h=>by
 obtain⟨g1,g2⟩:=h0
 simp only at g1 g2
 have p1:=XqD z18
 have p2:=XqD z19
 have t1:z18.length*152<=140737488355328:=by omega
 have t2:(z18.length+z19.length)*152<=140737488355328:=by omega
 have t3:z18.map (Xa .ro)++z19.map (Xa .ro)=(z18++z19).map (Xa .ro):=List.map_append.symm
 simp only[go_sem,reduceIte,↓reduceIte,reduceCtorEq,nA,nS,nM,nB,nE,nL,nT,nN,iL,iT,iE,iA,iM,iS,iG,iB,iN,iZ,h,p1,p2,t1,t2,t3]) (rfl)
@[go_sem] def Xsn(b g:Int):XnZ.F [.pr [.i .i64 b,.i .i64 g,.sl .ro 13 [],.sl .ro 13 []]]=some (.sl .mut 13 [],[.u]):=XsM b g [] [] ⟨Nat.zero_le _,Nat.zero_le _⟩
def XgC{c v:UInt8}(h:c≠v):((c.toNat:Int)==(v.toNat:Int))=false:=by
 simp only[beq_eq_false_iff_ne,ne_eq,Int.ofNat_inj]
 exact λe=>h (UInt8.toNat_inj.1 e)
def Q0(c:UInt8):Bool:=(decide (97<=(c.toNat:Int))&&decide ((c.toNat:Int)<=122))||(decide (65<=(c.toNat:Int))&&decide ((c.toNat:Int)<=90))
def Q9(c:UInt8):Bool:=decide (48<=(c.toNat:Int))&&decide ((c.toNat:Int)<=57)
def XjP(l:List UInt8)(c:UInt8):0<=Lib.indexByte l c↔c∈l:=by
 induction l with
 | nil=>simp[Lib.indexByte]
 | cons b l ih =>
  have:=Lib.indexByte_ge l c
  unfold Lib.indexByte
  by_cases hb:b=c
  ·simp[hb]
  ·by_cases hx:Lib.indexByte l c =-1
   ·have hn:¬c∈l:=λh=>by have:=ih.2 h; omega
    simp[hx,hn,hb,Ne.symm hb]
   ·have h2:0<=Lib.indexByte l c:=by omega
    simp[hb,hx,ih.1 h2]; omega
def ixB(s:ByteArray)(c:UInt8):Int:=Lib.indexByte s.data.toList c
def Xh7(l:List UInt8)(c:UInt8):decide (0<=ixB ⟨l.toArray⟩ c)=l.contains c:=by
 rw[Bool.eq_iff_iff,decide_eq_true_eq,List.contains_iff_mem]
 exact XjP l c
def XoH(c:UInt8):((c.toNat:Int)).toNat.toUInt8=c:=by simp
def XoI:SP Tryz.prog:=mkS tyA 185 Tryz.f185 [] {md:=[.ro 1],rets:=some ([2],[])} Tryz.func185 (by kernel_rfl)
@[go_sem] def XE3:XoI.g=185/\XoI.fs=⟨[.ro 1],XoI.F,false⟩:=⟨nr rfl,nr rfl⟩
@[go_sem] def XE4(c:UInt8):XoI.F [.i .u8 c.toNat]=some (.b (Q0 c),[.u]):=Xd (0) rfl rfl (λcx h=>by
 by_cases h1:97<=(c.toNat:Int)<;>by_cases h2:(c.toNat:Int)<=122<;>by_cases h3:65<=(c.toNat:Int)<;>by_cases h4:(c.toNat:Int)<=90<;>simp only[go_sem,reduceIte,↓reduceIte,reduceCtorEq,nA,nS,nM,nB,nE,nL,nT,nN,iL,iT,iE,iA,iM,iS,iG,iB,iN,iZ,h,h1,h2,h3,h4,Q0]) (rfl)
def XoJ:SP Tryz.prog:=mkS tyA 186 Tryz.f186 [] {md:=[.ro 1],rets:=some ([2],[])} Tryz.func186 (by kernel_rfl)
@[go_sem] def XE5:XoJ.g=186/\XoJ.fs=⟨[.ro 1],XoJ.F,false⟩:=⟨nr rfl,nr rfl⟩
@[go_sem] def XE6(c:UInt8):XoJ.F [.i .u8 c.toNat]=some (.b (Q9 c),[.u]):=Xd (0) rfl rfl (λcx h=>by
 by_cases h1:48<=(c.toNat:Int)<;>by_cases h2:(c.toNat:Int)<=57<;>simp only[go_sem,reduceIte,↓reduceIte,reduceCtorEq,nA,nS,nM,nB,nE,nL,nT,nN,iL,iT,iE,iA,iM,iS,iG,iB,iN,iZ,h,h1,h2,Q9]) (rfl)
def Xg5:List UInt8:=[33,35,36,37,38,39,42,43,45,46,94,95,124,126]
def Xae(c:UInt8):Bool:=Q0 c||Q9 c||Xg5.contains c
def Xh8{c:UInt8}(h:c∈Xg5):Xae c=true:=by
 have:Xg5.contains c=true:=List.contains_iff_mem.2 h
 simp[Xae,this,-List.contains_eq_mem]
def Xh9{c:UInt8}(h:¬c∈Xg5):Xae c=(Q0 c||Q9 c):=by
 have:Xg5.contains c=false:=by rw[Bool.eq_false_iff]; exact λe=>h (List.contains_iff_mem.1 e)
 simp[Xae,this,-List.contains_eq_mem]
def Xl5(c:UInt8):decide (0<=ixB ⟨#[33,35,36,37,38,39,42,43,45,46,94,95,124,126]⟩ c)=Xg5.contains c:=Xh7 Xg5 c
@[go_sem] def XqE(c:UInt8):decide (ixB ⟨#[33,35,36,37,38,39,42,43,45,46,94,95,124,126]⟩ c>=0)=Xg5.contains c:=Xh7 Xg5 c
def wx:(1:Int)=1:=rfl
def XoK:SP Tryz.prog:=mkS tyA 224 Tryz.f224 [XoI,XoJ] {md:=[.ro 1],rg:=[(0,[0],[]),(1,[0,3],[]),(2,[0,3,4],[]),(3,[0,3,4],[]),(4,[0,3,4],[]),(5,[0,3,4],[]),(6,[0,3,4],[]),(7,[0,3,4],[]),(8,[0,3,4],[]),(9,[0,3,4],[]),(10,[0,3,4],[]),(11,[0,3,4],[]),(12,[0,3,4],[]),(13,[0,3,4],[]),(14,[0,3,4],[]),(15,[0,4],[]),(16,[2],[]),(17,[2],[])],rets:=some ([2],[])} Tryz.func224 (by kernel_rfl)
@[go_sem] def XE7:XoK.g=224/\XoK.fs=⟨[.ro 1],XoK.F,false⟩:=⟨nr rfl,nr rfl⟩
@[go_sem] def XE8(c:UInt8):XoK.F [.i .u8 c.toNat]=some (.b (Xae c),[.u]):=Xd (0) rfl rfl (λcx h=>by
 by_cases m:c∈Xg5
 ·have hw:=Xh8 m
  simp only[Xg5,List.mem_cons,List.not_mem_nil,or_false] at m
  have u33:(((33:UInt8).toNat:Nat):Int)=33:=rfl
  have u35:(((35:UInt8).toNat:Nat):Int)=35:=rfl
  have u36:(((36:UInt8).toNat:Nat):Int)=36:=rfl
  have u37:(((37:UInt8).toNat:Nat):Int)=37:=rfl
  have u38:(((38:UInt8).toNat:Nat):Int)=38:=rfl
  have u39:(((39:UInt8).toNat:Nat):Int)=39:=rfl
  have u42:(((42:UInt8).toNat:Nat):Int)=42:=rfl
  have u43:(((43:UInt8).toNat:Nat):Int)=43:=rfl
  have u45:(((45:UInt8).toNat:Nat):Int)=45:=rfl
  have u46:(((46:UInt8).toNat:Nat):Int)=46:=rfl
  have u94:(((94:UInt8).toNat:Nat):Int)=94:=rfl
  have u95:(((95:UInt8).toNat:Nat):Int)=95:=rfl
  have u124:(((124:UInt8).toNat:Nat):Int)=124:=rfl
  have u126:(((126:UInt8).toNat:Nat):Int)=126:=rfl
  rcases m with rfl | rfl | rfl | rfl | rfl | rfl | rfl | rfl | rfl | rfl | rfl | rfl | rfl | rfl<;>simp only[go_sem,reduceIte,↓reduceIte,reduceCtorEq,nA,nS,nM,nB,nE,nL,nT,nN,iL,iT,iE,iA,iM,iS,iG,iB,iN,iZ,h,hw,wx,u33,u35,u36,u37,u38,u39,u42,u43,u45,u46,u94,u95,u124,u126]
 ·have hw:=Xh9 m
  have q33:((c.toNat:Int)==33)=false:=XgC (v:=33) (λe=>m (by subst e; decide))
  have q35:((c.toNat:Int)==35)=false:=XgC (v:=35) (λe=>m (by subst e; decide))
  have q36:((c.toNat:Int)==36)=false:=XgC (v:=36) (λe=>m (by subst e; decide))
  have q37:((c.toNat:Int)==37)=false:=XgC (v:=37) (λe=>m (by subst e; decide))
  have q38:((c.toNat:Int)==38)=false:=XgC (v:=38) (λe=>m (by subst e; decide))
  have q39:((c.toNat:Int)==39)=false:=XgC (v:=39) (λe=>m (by subst e; decide))
  have q42:((c.toNat:Int)==42)=false:=XgC (v:=42) (λe=>m (by subst e; decide))
  have q43:((c.toNat:Int)==43)=false:=XgC (v:=43) (λe=>m (by subst e; decide))
  have q45:((c.toNat:Int)==45)=false:=XgC (v:=45) (λe=>m (by subst e; decide))
  have q46:((c.toNat:Int)==46)=false:=XgC (v:=46) (λe=>m (by subst e; decide))
  have q94:((c.toNat:Int)==94)=false:=XgC (v:=94) (λe=>m (by subst e; decide))
  have q95:((c.toNat:Int)==95)=false:=XgC (v:=95) (λe=>m (by subst e; decide))
  have q124:((c.toNat:Int)==124)=false:=XgC (v:=124) (λe=>m (by subst e; decide))
  have q126:((c.toNat:Int)==126)=false:=XgC (v:=126) (λe=>m (by subst e; decide))
  cases h1:Q0 c<;>cases h2:Q9 c<;>simp only[go_sem,reduceIte,↓reduceIte,reduceCtorEq,nA,nS,nM,nB,nE,nL,nT,nN,iL,iT,iE,iA,iM,iS,iG,iB,iN,iZ,h,hw,h1,h2,q33,q35,q36,q37,q38,q39,q42,q43,q45,q46,q94,q95,q124,q126]) (rfl)
def XgD(p:UInt8->Bool)(lo hi:Int)(t:ByteArray):Bool:=decide (lo<=(t.size:Int))&&decide ((t.size:Int)<=hi)&&t.data.toList.all p
def QU{p:UInt8->Bool}{lo hi:Int}{t:ByteArray}(h:(t.size:Int)<lo):XgD p lo hi t=false:=by
 have:¬lo<=(t.size:Int):=by omega
 simp[XgD,this]
def Up{p:UInt8->Bool}{lo hi:Int}{t:ByteArray}(h:hi<(t.size:Int)):XgD p lo hi t=false:=by
 have:¬(t.size:Int)<=hi:=by omega
 simp[XgD,this]
def UC{p:UInt8->Bool}{lo hi:Int}{t:ByteArray}(h:¬(t.size:Int)<lo)(h':¬hi<(t.size:Int)):XgD p lo hi t=t.data.toList.all p:=by
 have h1:lo<=(t.size:Int):=by omega
 have h2:(t.size:Int)<=hi:=by omega
 simp[XgD,h1,h2]
def QJ{α:Type}{p:α->Bool}:∀{xs:List α} {u u':Unit},Xad (λx _=>!p x) (λ_ _=>()) xs u=.inl u'->xs.all p=true
 | [],_,_,_=>rfl
 | x :: xs,u,u',h=>by
  rw[YO] at h
  split at h
  ·cases h
  ·rename_i hc
   simp only[List.all_cons,QJ h,Bool.and_true]
   simpa using hc
def Z9{α:Type}{p:α->Bool}:∀{xs:List α} {u:Unit} {q:α×Unit},Xad (λx _=>!p x) (λ_ _=>()) xs u=.inr q->xs.all p=false
 | [],_,_,h=>by cases h
 | x :: xs,u,q,h=>by
  rw[YO] at h
  split at h
  ·rename_i hc
   have:p x=false:=by simpa using hc
   simp[this]
  ·simp only[List.all_cons,Z9 h,Bool.and_false]
def Xcw(t:ByteArray)(k:Nat)(h:k<t.data.toList.length):t.data[k]?.getD 0=t.data.toList[k]:=by
 have h':k<t.data.size:=by simpa using h
 rw[Array.getElem?_eq_getElem h']
 simp
def Xy(t:ByteArray):t.size=t.data.toList.length:=by
 show t.data.size=_
 simp
def Ua(t:ByteArray):Bool:=XgD Xae 1 64 t
def Xn0:SP Tryz.prog:=mkS tyA 164 Tryz.f164 [XoK] {md:=[.ro 1],rg:=[(0,[0],[]),(1,[0,11],[]),(2,[2],[]),(3,[0,3],[]),(4,[0,3,15],[]),(5,[0,3],[]),(6,[0,3,22],[]),(7,[2],[]),(8,[2],[])],lv:=[(0,[0,3],[])],out:=[(0,[],[])],rets:=some ([2],[])} Tryz.func164 (by kernel_rfl)
@[go_sem] def XE9:Xn0.g=164/\Xn0.fs=⟨[.ro 1],Xn0.F,false⟩:=⟨nr rfl,nr rfl⟩
@[go_sem] def XFa(t:ByteArray):Xn0.F [.s t]=some (.b (Ua t),[.u]):=Xd (t.data.toList.length+1) rfl rfl (λcx h=>by
 have hu:Ua t=XgD Xae 1 64 t:=rfl
 by_cases h1:(t.size:Int)<1
 ·simp only[go_sem,reduceIte,↓reduceIte,reduceCtorEq,nA,nS,nM,nB,nE,nL,nT,nN,iL,iT,iE,iA,iM,iS,iG,iB,iN,iZ,h,h1,hu,QU h1]
 by_cases h2:64<(t.size:Int)
 ·simp only[go_sem,reduceIte,↓reduceIte,reduceCtorEq,nA,nS,nM,nB,nE,nL,nT,nN,iL,iT,iE,iA,iM,iS,iG,iB,iN,iZ,h,h1,h2,hu,Up h2]
 have hx:t.data.toList.length<=9223372036854775806:=by rw[<-Xy]; omega
 have ha:=UC (p:=Xae) h1 h2
 rw[Xy t] at h1 h2
 ·have hb0:=Xn Tryz.f164 0 _ _ rfl rfl
  obtain⟨r,hr,hq⟩:=Yj (cx:=cx) (blk:=0) (body:=Yl Tryz.f164 0) t.data.toList (λk (s:Unit)=>⟨E [(0,.s t),(3,.i .i64 k)],B []⟩) (λs=>⟨E [],B []⟩) (λx s=>!Xae x) (λx s=>()) (λx s=>(.ret,⟨E [(2,.b false)],B []⟩)) (λk s=>True)
    (λs hI G=>by simp only[go_sem,reduceIte,↓reduceIte,reduceCtorEq,nA,nS,nM,nB,nE,nL,nT,nN,iL,iT,iE,iA,iM,iS,iG,iB,iN,iZ,h,Int.lt_irrefl,hb0,Xy t]) (λk hk s hI=>by
     have h1:((k:Int)<(t.data.toList.length:Int)):=Int.ofNat_lt.2 hk
     have hz:=Xcw t k hk
     exact⟨_,_,_,λG=>by simp only[go_sem,reduceIte,↓reduceIte,reduceCtorEq,nA,nS,nM,nB,nE,nL,nT,nN,iL,iT,iE,iA,iM,iS,iG,iB,iN,iZ,h,hz,Xy t,h1,Xp _ _ hk,Xe (show k<9223372036854775807 by omega),hb0]<;>with_reducible rfl,Iff.rfl,λhc=>⟨trivial,by simp only[go_sem,reduceIte,↓reduceIte,reduceCtorEq,nA,nS,nM,nB,nE,nL,nT,nN,iL,iT,iE,iA,iM,iS,iG,iB,iN,iZ,h,Xy t]⟩⟩) () trivial (t.data.toList.length+1) (Nat.le_refl _)
  rw[hb0] at hr
  rcases hq with⟨s',e1,_,e3⟩ | ⟨x,s',e1,e3⟩
  ·simp only[go_sem,reduceIte,↓reduceIte,reduceCtorEq,nA,nS,nM,nB,nE,nL,nT,nN,iL,iT,iE,iA,iM,iS,iG,iB,iN,iZ,h,h1,h2,Xy t,hr,e3,hu,ha,QJ e1]
  ·simp only[go_sem,reduceIte,↓reduceIte,reduceCtorEq,nA,nS,nM,nB,nE,nL,nT,nN,iL,iT,iE,iA,iM,iS,iG,iB,iN,iZ,h,h1,h2,Xy t,hr,e3,hu,ha,Z9 e1]) (rfl)
def XaJ(c:UInt8):Bool:=((c.toNat:Int)==9)||(decide (32<=(c.toNat:Int))&&decide ((c.toNat:Int)<=126))
def XoL:SP Tryz.prog:=mkS tyA 279 Tryz.f279 [] {md:=[.ro 1],rets:=some ([2],[])} Tryz.func279 (by kernel_rfl)
@[go_sem] def XFb:XoL.g=279/\XoL.fs=⟨[.ro 1],XoL.F,false⟩:=⟨nr rfl,nr rfl⟩
@[go_sem] def XFc(c:UInt8):XoL.F [.i .u8 c.toNat]=some (.b (XaJ c),[.u]):=Xd (0) rfl rfl (λcx h=>by
 cases h1:((c.toNat:Int)==9)<;>by_cases h2:32<=(c.toNat:Int)<;>by_cases h3:(c.toNat:Int)<=126<;>simp only[go_sem,reduceIte,↓reduceIte,reduceCtorEq,nA,nS,nM,nB,nE,nL,nT,nN,iL,iT,iE,iA,iM,iS,iG,iB,iN,iZ,h,h1,h2,h3,XaJ]) (rfl)
def XlA(t:ByteArray):Bool:=t.data.toList.all XaJ
def Xl6(t:ByteArray):XgD XaJ 0 (t.size:Int) t=XlA t:=UC (by omega) (by omega)
def XoM:SP Tryz.prog:=mkS tyA 263 Tryz.f263 [XoL] {md:=[.ro 1],rg:=[(0,[0],[]),(1,[0,3],[]),(2,[0,3,7],[]),(3,[0,3],[]),(4,[0,3,14],[]),(5,[2],[]),(6,[2],[])],lv:=[(0,[0,3],[])],out:=[(0,[],[])],rets:=some ([2],[])} Tryz.func263 (by kernel_rfl)
@[go_sem] def XFd:XoM.g=263/\XoM.fs=⟨[.ro 1],XoM.F,false⟩:=⟨nr rfl,nr rfl⟩
@[go_sem] def XFe(t:ByteArray)(h0:(t.size:Int)<=1000000):XoM.F [.s t]=some (.b (XlA t),[.u]):=Xd (t.data.toList.length+1) rfl rfl (λcx h=>by
 have hx:t.data.toList.length<=9223372036854775806:=by rw[<-Xy]; omega
 have hb0:=Xn Tryz.f263 0 _ _ rfl rfl
 obtain⟨r,hr,hq⟩:=Yj (cx:=cx) (blk:=0) (body:=Yl Tryz.f263 0) t.data.toList (λk (s:Unit)=>⟨E [(0,.s t),(3,.i .i64 k)],B []⟩) (λs=>⟨E [],B []⟩) (λx s=>!XaJ x) (λx s=>()) (λx s=>(.ret,⟨E [(2,.b false)],B []⟩)) (λk s=>True)
   (λs hI G=>by simp only[go_sem,reduceIte,↓reduceIte,reduceCtorEq,nA,nS,nM,nB,nE,nL,nT,nN,iL,iT,iE,iA,iM,iS,iG,iB,iN,iZ,h,Int.lt_irrefl,hb0,Xy t]) (λk hk s hI=>by
    have h1:((k:Int)<(t.data.toList.length:Int)):=Int.ofNat_lt.2 hk
    have hz:=Xcw t k hk
    exact⟨_,_,_,λG=>by simp only[go_sem,reduceIte,↓reduceIte,reduceCtorEq,nA,nS,nM,nB,nE,nL,nT,nN,iL,iT,iE,iA,iM,iS,iG,iB,iN,iZ,h,hz,Xy t,h1,Xp _ _ hk,Xe (show k<9223372036854775807 by omega),hb0]<;>with_reducible rfl,Iff.rfl,λhc=>⟨trivial,by simp only[go_sem,reduceIte,↓reduceIte,reduceCtorEq,nA,nS,nM,nB,nE,nL,nT,nN,iL,iT,iE,iA,iM,iS,iG,iB,iN,iZ,h,Xy t]⟩⟩) () trivial (t.data.toList.length+1) (Nat.le_refl _)
 rw[hb0] at hr
 rcases hq with⟨s',e1,_,e3⟩ | ⟨x,s',e1,e3⟩
 ·simp only[go_sem,reduceIte,↓reduceIte,reduceCtorEq,nA,nS,nM,nB,nE,nL,nT,nN,iL,iT,iE,iA,iM,iS,iG,iB,iN,iZ,h,hr,e3,XlA,QJ e1]
 ·simp only[go_sem,reduceIte,↓reduceIte,reduceCtorEq,nA,nS,nM,nB,nE,nL,nT,nN,iL,iT,iE,iA,iM,iS,iG,iB,iN,iZ,h,hr,e3,XlA,Z9 e1]) (rfl)
def XfI(t:ByteArray):ByteArray:=⟨(Lib.trimS t.data.toList [32,9]).toArray⟩
def Xa5(c:UInt8):Bool:=((c.toNat:Int)==32)||((c.toNat:Int)==9)
def bl(t:ByteArray)(j:Nat):Bool:=Xa5 (t.data[j]?.getD 0)
def XjQ(c:UInt8):[32,9].contains c=Xa5 c:=by
 have h32:(c==32)=((c.toNat:Int)==32):=by
  rw[Bool.eq_iff_iff,beq_iff_eq,beq_iff_eq]
  constructor
  ·rintro rfl; rfl
  ·intro h; exact UInt8.toNat_inj.1 (by have:(32:UInt8).toNat=32:=rfl; omega)
 have h9:(c==9)=((c.toNat:Int)==9):=by
  rw[Bool.eq_iff_iff,beq_iff_eq,beq_iff_eq]
  constructor
  ·rintro rfl; rfl
  ·intro h; exact UInt8.toNat_inj.1 (by have:(9:UInt8).toNat=9:=rfl; omega)
 simp only[List.contains_cons,List.contains_nil,Bool.or_false,h32,h9,Xa5]
def XeE{t:ByteArray}{j:Nat}{b:UInt8}(h:t.data.toList[j]?=some b):bl t j=[32,9].contains b:=by
 rw[XjQ]
 unfold bl
 rw[Array.getElem?_toList] at h
 rw[h]; rfl
def XjR(t:ByteArray)(f e:Nat)(hf:f<=e)(he:e<=t.size)(h1:∀j,j<f->bl t j=true)(h2:f<t.size->bl t f=false)(h3:∀j,e<=j->j<t.size->bl t j=true)(h4:f<e->bl t (e-1)=false):XfI t=t.extract f e:=by
 have hn:t.size=t.data.toList.length:=Xy t
 have hext:t.extract f e=⟨((t.data.toList.take e).drop f).toArray⟩:=by
  have:(t.extract f e).data=t.data.extract f e:=by simp
  cases hx:t.extract f e with
  | mk d =>
   rw[hx] at this
   congr 1
   simp only at this
   rw[this]
   apply Array.ext'
   rw[Array.toList_extract,List.extract_eq_take_drop,List.drop_take]
 rw[hext]
 unfold XfI Lib.trimS
 congr 2
 by_cases hall:f<e
 ·rw[Lib.trimRightS_take t.data.toList [32,9] e (by omega) (λj b hj hb=>?_) (λb hk hb=>?_)]
  ·refine Lib.trimLeftS_drop _ _ f (by simp; omega) (λj b hj hb=>?_) (λb hb=>?_)
   ·rw[List.getElem?_take] at hb
    split at hb
    ·rw[<-XeE hb]; exact h1 j hj
    ·cases hb
   ·rw[List.getElem?_take,if_pos hall] at hb
    rw[<-XeE hb]; exact h2 (by omega)
  ·rw[<-XeE hb]; exact h3 j hj (by have:=(List.getElem?_eq_some_iff.1 hb).1; omega)
  ·rw[<-XeE hb]; exact h4 hall
 ·obtain rfl:f=e:=by omega
  have hfn:f=t.size:=by
   rcases Nat.lt_or_ge f t.size with h | h
   ·have:=h2 h; rw[h3 f (Nat.le_refl _) h] at this; cases this
   ·omega
  have hr:Lib.trimRightS t.data.toList [32,9]=t.data.toList.take 0:=Lib.trimRightS_take _ _ 0 (by omega) (λj b _ hb=>by
   rw[<-XeE hb]; exact h1 j (by have:=(List.getElem?_eq_some_iff.1 hb).1; omega)) (λb hk _=>by omega)
  rw[hr]
  have:(t.data.toList.take f).drop f=[]:=by
   apply List.drop_eq_nil_of_le
   simp
   omega
  rw[this]
  rfl
def XoN:SP Tryz.prog:=mkS tyA 280 Tryz.f280 [] {md:=[.ro 1],rets:=some ([2],[])} Tryz.func280 (by kernel_rfl)
@[go_sem] def XFf:XoN.g=280/\XoN.fs=⟨[.ro 1],XoN.F,false⟩:=⟨nr rfl,nr rfl⟩
@[go_sem] def XFg(c:UInt8):XoN.F [.i .u8 c.toNat]=some (.b (Xa5 c),[.u]):=Xd (0) rfl rfl (λcx h=>by
 cases h1:((c.toNat:Int)==32)<;>cases h2:((c.toNat:Int)==9)<;>simp only[go_sem,reduceIte,↓reduceIte,reduceCtorEq,nA,nS,nM,nB,nE,nL,nT,nN,iL,iT,iE,iA,iM,iS,iG,iB,iN,iZ,h,h1,h2,Xa5]) (rfl)
def XoO:SP Tryz.prog:=mkS tyA 264 Tryz.f264 [XoN] {md:=[.ro 1],rg:=[(0,[0],[]),(1,[0,3],[]),(2,[0,3,4],[]),(3,[0,3,4,15],[]),(4,[0,3,4],[]),(5,[0,3,4,27],[]),(6,[0,3,4],[]),(7,[2],[])],lv:=[(0,[0,3,4],[]),(2,[0,3,4],[])],out:=[(0,[0,3,4],[]),(2,[0,3,4],[])],rets:=some ([2],[])} Tryz.func264 (by kernel_rfl)
@[go_sem] def XFh:XoO.g=264/\XoO.fs=⟨[.ro 1],XoO.F,false⟩:=⟨nr rfl,nr rfl⟩
@[go_sem] def XFi(t:ByteArray)(h0:t.size<=9223372036854775806):XoO.F [.s t]=some (.s (XfI t),[.u]):=Xd (t.size+1) rfl rfl (λcx h=>by
 have hb:=Xn Tryz.f264 0 _ _ rfl rfl
 have hb1:=Xn Tryz.f264 1 _ _ rfl rfl
 have lp:=Xev (cx:=cx) (blk:=0) (body:=Yl Tryz.f264 0) (λ(k:Nat)=>⟨E [(0,.s t),(3,.i .i64 k),(4,.i .i64 t.size)],B []⟩) (λk=>k<=t.size) (λk=>t.size-k)
  (λk r=>∃f:Nat,k<=f/\f<=t.size/\(∀j,k<=j->j<f->bl t j=true)/\(f<t.size->bl t f=false)/\r=some (.ex 0,⟨E [(0,.s t),(3,.i .i64 f),(4,.i .i64 t.size)],B []⟩)) (λk hk=>by
  by_cases h1:(k:Int)<(t.size:Int)
  ·have i1:=Xp t.size k (by omega)
   have w1:=Xe (show k<9223372036854775807 by omega)
   cases h2:bl t k
   ·have h3:Xa5 (t.data[k]?.getD 0)=false:=h2
    exact .inl λG=>⟨k,Nat.le_refl _,hk,λj a b=>by omega,λ_=>h2,by simp only[go_sem,reduceIte,↓reduceIte,reduceCtorEq,nA,nS,nM,nB,nE,nL,nT,nN,iL,iT,iE,iA,iM,iS,iG,iB,iN,iZ,h,hb,h1,h3,i1]⟩
   ·have h3:Xa5 (t.data[k]?.getD 0)=true:=h2
    refine .inr ⟨_,k+1,?_,by omega,by omega,λr ⟨f,a,b,c,d,e⟩=>⟨f,by omega,b,λj x y=>?_,d,e⟩,λG=>by simp only[go_sem,reduceIte,↓reduceIte,reduceCtorEq,nA,nS,nM,nB,nE,nL,nT,nN,iL,iT,iE,iA,iM,iS,iG,iB,iN,iZ,h,hb,h1,h3,i1,w1]; rfl⟩
    ·simp only[go_sem,reduceIte,↓reduceIte,reduceCtorEq,nA,nS,nM,nB,nE,nL,nT,nN,iL,iT,iE,iA,iM,iS,iG,iB,iN,iZ,h]
    ·rcases Nat.eq_or_lt_of_le x with rfl | x
     ·exact h2
     ·exact c j x y
  ·exact .inl λG=>⟨k,Nat.le_refl _,hk,λj a b=>by omega,λx=>by omega,by simp only[go_sem,reduceIte,↓reduceIte,reduceCtorEq,nA,nS,nM,nB,nE,nL,nT,nN,iL,iT,iE,iA,iM,iS,iG,iB,iN,iZ,h,hb,h1]⟩)
 rw[hb] at lp
 obtain⟨f,_,f2,f3,f4,l1⟩:=lp (t.size+1) 0 (Nat.zero_le _) (by omega) ⟨E [(0,.s t),(3,.i .i64 0),(4,.i .i64 t.size)],B []⟩ (by simp only[go_sem,reduceIte,↓reduceIte,reduceCtorEq,nA,nS,nM,nB,nE,nL,nT,nN,iL,iT,iE,iA,iM,iS,iG,iB,iN,iZ,h])
 have lp2:=Xev (cx:=cx) (blk:=2) (body:=Yl Tryz.f264 1) (λ(k:Nat)=>⟨E [(0,.s t),(3,.i .i64 f),(4,.i .i64 k)],B []⟩) (λk=>f<=k/\k<=t.size) (λk=>k)
  (λk r=>∃e:Nat,f<=e/\e<=k/\(∀j,e<=j->j<k->bl t j=true)/\(f<e->bl t (e-1)=false)/\r=some (.ex 2,⟨E [(0,.s t),(3,.i .i64 f),(4,.i .i64 e)],B []⟩)) (λk hk=>by
  by_cases h1:(f:Int)<(k:Int)
  ·obtain⟨m,rfl⟩:∃m,k=m+1:=⟨k-1,by omega⟩
   have i1:=Xp t.size m (by omega)
   have w1:(IntKind.i64).wrap (((m+1:Nat):Int)-1)=(m:Int):=by rw[Xc (by omega) (by omega)]; omega
   cases h2:bl t m
   ·have h3:Xa5 (t.data[m]?.getD 0)=false:=h2
    exact .inl λG=>⟨m+1,hk.1,Nat.le_refl _,λj a b=>by omega,λ_=>by simpa using h2,by simp only[go_sem,reduceIte,↓reduceIte,reduceCtorEq,nA,nS,nM,nB,nE,nL,nT,nN,iL,iT,iE,iA,iM,iS,iG,iB,iN,iZ,h,hb1,h1,h3,i1,w1]⟩
   ·have h3:Xa5 (t.data[m]?.getD 0)=true:=h2
    refine .inr ⟨_,m,?_,⟨by omega,by omega⟩,by omega,λr ⟨e,a,b,c,d,g⟩=>⟨e,a,by omega,λj x y=>?_,d,g⟩,λG=>by simp only[go_sem,reduceIte,↓reduceIte,reduceCtorEq,nA,nS,nM,nB,nE,nL,nT,nN,iL,iT,iE,iA,iM,iS,iG,iB,iN,iZ,h,hb1,h1,h3,i1,w1]; rfl⟩
    ·simp only[go_sem,reduceIte,↓reduceIte,reduceCtorEq,nA,nS,nM,nB,nE,nL,nT,nN,iL,iT,iE,iA,iM,iS,iG,iB,iN,iZ,h]
    ·rcases Nat.lt_or_ge j m with y' | y'
     ·exact c j x y'
     ·obtain rfl:j=m:=by omega
      exact h2
  ·exact .inl λG=>⟨k,hk.1,Nat.le_refl _,λj a b=>by omega,λx=>by omega,by simp only[go_sem,reduceIte,↓reduceIte,reduceCtorEq,nA,nS,nM,nB,nE,nL,nT,nN,iL,iT,iE,iA,iM,iS,iG,iB,iN,iZ,h,hb1,h1]⟩)
 rw[hb1] at lp2
 obtain⟨e,e1,e2,e3,e4,l2⟩:=lp2 (t.size+1) t.size ⟨f2,Nat.le_refl _⟩ (by omega) ⟨E [(0,.s t),(3,.i .i64 f),(4,.i .i64 t.size)],B []⟩ (by simp only[go_sem,reduceIte,↓reduceIte,reduceCtorEq,nA,nS,nM,nB,nE,nL,nT,nN,iL,iT,iE,iA,iM,iS,iG,iB,iN,iZ,h])
 have hc:=XjR t f e e1 e2 (λj hj=>f3 j (Nat.zero_le _) hj) f4 e3 e4
 have c1:(0:Int)<=(e:Int):=by omega
 have c2:(e:Int)<=(t.size:Int):=by omega
 have c3:(0:Int)<=(f:Int):=by omega
 have c4:(f:Int)<=(e:Int):=by omega
 simp only[go_sem,reduceIte,↓reduceIte,reduceCtorEq,nA,nS,nM,nB,nE,nL,nT,nN,iL,iT,iE,iA,iM,iS,iG,iB,iN,iZ,h,l1,l2,c1,c2,c3,c4,Int.toNat_natCast,hc]) (rfl)
def Yz(h:XL):Int:=if Ua h.Name=false then 5 else if 200<(h.Value.size:Int) then 2 else if(XlA h.Value&&eqv (XfI h.Value) h.Value)=true then 0 else 5
def Xq(hs:List XL):Int:=if 20<(hs.length:Int) then 2 else Xas (hs.map Yz)
def Uq{α:Type}{f:α->Int}:∀{xs:List α} {u u':Unit},Xad (λx _=>f x !=0) (λ_ _=>()) xs u=.inl u'->Xas (xs.map f)=0
 | [],_,_,_=>rfl
 | x :: xs,u,u',h=>by
  rw[YO] at h
  split at h
  ·cases h
  ·rename_i hc; rw[List.map_cons,XR,if_neg hc]; exact Uq h
def Ur{α:Type}{f:α->Int}:∀{xs:List α} {u:Unit} {q:α×Unit},Xad (λx _=>f x !=0) (λ_ _=>()) xs u=.inr q->Xas (xs.map f)=f q.1
 | [],_,_,h=>by cases h
 | x :: xs,u,q,h=>by
  rw[YO] at h
  split at h
  ·rename_i hc; injection h with h; subst h; rw[List.map_cons,XR,if_pos hc]
  ·rename_i hc; rw[List.map_cons,XR,if_neg hc]; exact Ur h
def XoP:SP Tryz.prog:=mkS tyA 234 Tryz.f234 [Xn0,XoM,XoO] {md:=[.ro 1],rg:=[(0,[1],[1]),(1,[1,3],[1]),(2,[3,6],[]),(3,[2],[]),(4,[3,11],[]),(5,[2],[]),(6,[15],[]),(7,[2],[]),(8,[2],[])],rets:=some ([2],[])} Tryz.func234 (by kernel_rfl)
@[go_sem] def XFj:XoP.g=234/\XoP.fs=⟨[.ro 1],XoP.F,false⟩:=⟨nr rfl,nr rfl⟩
@[go_sem] def XFk(z8 z20:ByteArray):XoP.F [.agg [.s z8,.s z20]]=some (.i .i64 (Yz (XL.mk z8 z20)),[.u]):=Xd (0) rfl rfl (λcx h=>by
 cases h1:Ua z8
 ·simp only[go_sem,reduceIte,↓reduceIte,reduceCtorEq,nA,nS,nM,nB,nE,nL,nT,nN,iL,iT,iE,iA,iM,iS,iG,iB,iN,iZ,h,h1,Yz]
 by_cases h2:200<(z20.size:Int)
 ·simp only[go_sem,reduceIte,↓reduceIte,reduceCtorEq,nA,nS,nM,nB,nE,nL,nT,nN,iL,iT,iE,iA,iM,iS,iG,iB,iN,iZ,h,h1,h2,Yz]
 have h3:(z20.size:Int)<=1000000:=by omega
 have h4:z20.size<=9223372036854775806:=by omega
 have h5:z20.size<=9223372036854775807:=by omega
 cases h6:XlA z20
 ·simp only[go_sem,reduceIte,↓reduceIte,reduceCtorEq,nA,nS,nM,nB,nE,nL,nT,nN,iL,iT,iE,iA,iM,iS,iG,iB,iN,iZ,h,h1,h2,h3,h4,h5,h6,Yz]
 cases h7:eqv (XfI z20) z20<;>simp only[go_sem,reduceIte,↓reduceIte,reduceCtorEq,nA,nS,nM,nB,nE,nL,nT,nN,iL,iT,iE,iA,iM,iS,iG,iB,iN,iZ,h,h1,h2,h3,h4,h5,h6,h7,X8,X9,bne,Yz]) (rfl)
def XoQ:SP Tryz.prog:=mkS tyA 182 Tryz.f182 [XoP] {md:=[.ro 1],rg:=[(0,[0],[]),(1,[0,7],[]),(2,[2],[]),(3,[0,3],[]),(4,[0,3,11],[]),(5,[0,3],[]),(6,[0,3,4],[]),(7,[0,3,4,20],[]),(8,[2],[]),(9,[2],[])],lv:=[(0,[0,3],[])],out:=[(0,[],[])],rets:=some ([2],[])} Tryz.func182 (by kernel_rfl)
@[go_sem] def XFl:XoQ.g=182/\XoQ.fs=⟨[.ro 1],XoQ.F,false⟩:=⟨nr rfl,nr rfl⟩
@[go_sem] def XFm(hs:List XL):XoQ.F [.sl .ro 2 (hs.map (Xl .ro))]=some (.i .i64 (Xq hs),[.u]):=Xd (hs.length+1) rfl rfl (λcx h=>by
 by_cases h1:20<(hs.length:Int)
 ·simp only[go_sem,reduceIte,↓reduceIte,reduceCtorEq,nA,nS,nM,nB,nE,nL,nT,nN,iL,iT,iE,iA,iM,iS,iG,iB,iN,iZ,h,h1,Xq]
 have hx:hs.length<=9223372036854775806:=by omega
 have hb0:=Xn Tryz.f182 0 _ _ rfl rfl
 obtain⟨r,hr,hq⟩:=Yj (cx:=cx) (blk:=0) (body:=Yl Tryz.f182 0) hs (λk (s:Unit)=>⟨E [(0,.sl .ro 2 (hs.map (Xl .ro))),(3,.i .i64 k)],B []⟩) (λs=>⟨E [],B []⟩) (λx s=>Yz x !=0) (λx s=>()) (λx s=>(.ret,⟨E [(2,.i .i64 (Yz x))],B []⟩)) (λk s=>True)
   (λs hI G=>by simp only[go_sem,reduceIte,↓reduceIte,reduceCtorEq,nA,nS,nM,nB,nE,nL,nT,nN,iL,iT,iE,iA,iM,iS,iG,iB,iN,iZ,h,Int.lt_irrefl,hb0,hx]) (λk hk s hI=>by
    have h1:((k:Int)<(hs.length:Int)):=Int.ofNat_lt.2 hk
    exact⟨_,_,_,λG=>by simp only[go_sem,reduceIte,↓reduceIte,reduceCtorEq,nA,nS,nM,nB,nE,nL,nT,nN,iL,iT,iE,iA,iM,iS,iG,iB,iN,iZ,h,XP (Xl .ro) hs _ hk,Xl,h1,Xp _ _ hk,Xe (show k<9223372036854775807 by omega),hb0]<;>with_reducible rfl,Iff.rfl,λhc=>⟨trivial,by simp only[go_sem,reduceIte,↓reduceIte,reduceCtorEq,nA,nS,nM,nB,nE,nL,nT,nN,iL,iT,iE,iA,iM,iS,iG,iB,iN,iZ,h]⟩⟩) () trivial (hs.length+1) (Nat.le_refl _)
 rw[hb0] at hr
 rcases hq with⟨s',e1,_,e3⟩ | ⟨x,s',e1,e3⟩
 ·simp only[go_sem,reduceIte,↓reduceIte,reduceCtorEq,nA,nS,nM,nB,nE,nL,nT,nN,iL,iT,iE,iA,iM,iS,iG,iB,iN,iZ,h,h1,hr,e3,Xq,Uq e1]
 ·simp only[go_sem,reduceIte,↓reduceIte,reduceCtorEq,nA,nS,nM,nB,nE,nL,nT,nN,iL,iT,iE,iA,iM,iS,iG,iB,iN,iZ,h,h1,hr,e3,Xq,Ur e1]) (rfl)
def XeF(m:Meta):List Int:=[m.At,m.Age,m.Life,m.Swr,m.Sie]
def UD(pl:Pl):∀(j:Nat) (xs:List Int),YF pl j (xs.map λa=>AV.i .i64 a)=xs.map λa=>AV.i .i64 a
 | _,[]=>rfl
 | j,x :: xs=>by
  rw[List.map_cons,YF,UD pl (j+1) xs]; rfl
def Us(kp kr:Pl->Bool):∀xs:List Int,Yd kp kr (xs.map λa=>AV.i .i64 a)=xs.map λa=>AV.i .i64 a
 | []=>rfl
 | x :: xs=>by
  rw[List.map_cons,Yd,Us kp kr xs]; rfl
def Ut(m:Meta):Int:=if((XeF m).any λx=>!Z8 x)=true then 3 else 0
def Xia{α:Type}{f:α->AV}{xs:List α}{n k:Nat}(hn:n=xs.length)(h:k<xs.length):Xin n (xs.map f) (k:Int)=some (f xs[k]):=by
 subst hn
 unfold Xin Z2
 rw[if_pos (by simp),if_pos (by omega)]
 simp[h]
def XoR:SP Tryz.prog:=mkS tyA 183 Tryz.f183 [s49] {md:=[.ro 1],rg:=[(0,[1],[1]),(1,[30],[]),(2,[2],[]),(3,[2],[])],rets:=some ([2],[])} Tryz.func183 (by kernel_rfl)
@[go_sem] def XFn:XoR.g=183/\XoR.fs=⟨[.ro 1],XoR.F,false⟩:=⟨nr rfl,nr rfl⟩
@[go_sem] def XFo(mAt z21 z22 z23 z24:Int)(z25 z26:Bool):XoR.F [.agg [.i .i64 mAt,.i .i64 z21,.i .i64 z22,.i .i64 z23,.i .i64 z24,.b z25,.b z26]]=some (.i .i64 (Ut (Meta.mk mAt z21 z22 z23 z24 z25 z26)),[.u]):=Xd (0) rfl rfl (λcx h=>by
 have hu:Ut (Meta.mk mAt z21 z22 z23 z24 z25 z26)=if(!Z8 mAt||(!Z8 z21||(!Z8 z22||(!Z8 z23||(!Z8 z24||false)))))=true then 3 else 0:=rfl
 cases cmAt:Z8 mAt
 ·simp only[go_sem,reduceIte,↓reduceIte,reduceCtorEq,nA,nS,nM,nB,nE,nL,nT,nN,iL,iT,iE,iA,iM,iS,iG,iB,iN,iZ,h,hu,cmAt]
 cases cmAge:Z8 z21
 ·simp only[go_sem,reduceIte,↓reduceIte,reduceCtorEq,nA,nS,nM,nB,nE,nL,nT,nN,iL,iT,iE,iA,iM,iS,iG,iB,iN,iZ,h,hu,cmAt,cmAge]
 cases cmLife:Z8 z22
 ·simp only[go_sem,reduceIte,↓reduceIte,reduceCtorEq,nA,nS,nM,nB,nE,nL,nT,nN,iL,iT,iE,iA,iM,iS,iG,iB,iN,iZ,h,hu,cmAt,cmAge,cmLife]
 cases cmSwr:Z8 z23
 ·simp only[go_sem,reduceIte,↓reduceIte,reduceCtorEq,nA,nS,nM,nB,nE,nL,nT,nN,iL,iT,iE,iA,iM,iS,iG,iB,iN,iZ,h,hu,cmAt,cmAge,cmLife,cmSwr]
 cases cmSie:Z8 z24
 ·simp only[go_sem,reduceIte,↓reduceIte,reduceCtorEq,nA,nS,nM,nB,nE,nL,nT,nN,iL,iT,iE,iA,iM,iS,iG,iB,iN,iZ,h,hu,cmAt,cmAge,cmLife,cmSwr,cmSie]
 simp only[go_sem,reduceIte,↓reduceIte,reduceCtorEq,nA,nS,nM,nB,nE,nL,nT,nN,iL,iT,iE,iA,iM,iS,iG,iB,iN,iZ,h,hu,cmAt,cmAge,cmLife,cmSwr,cmSie]) (rfl)
end
end Go.Vm.A
