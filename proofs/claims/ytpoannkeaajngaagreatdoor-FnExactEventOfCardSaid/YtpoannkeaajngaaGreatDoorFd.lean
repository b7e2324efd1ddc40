/- Functions of the program, walked by the evaluator. -/
import Derived.Test.YtpoannkeaajngaaGreatDoorWb
import Derived.Test.YtpoannkeaajngaaGreatDoorWa
import Derived.Test.YtpoannkeaajngaaGreatDoorFa
import Derived.Test.YtpoannkeaajngaaGreatDoorFb
import Derived.Test.YtpoannkeaajngaaGreatDoorFc
set_option linter.unusedVariables false
set_option linter.unusedSimpArgs false
set_option autoImplicit false
set_option maxRecDepth 100000
set_option maxHeartbeats 4000000
set_option linter.defProp false
namespace Go.Vm.A
open Go.Proofs
open Nat renaming reduceAdd -> nA, reduceSub -> nS, reduceMul -> nM, reduceBEq -> nB, reduceEqDiff -> nE, reduceLeDiff -> nL, reduceLT -> nT, reduceBneDiff -> nN
open Int renaming reduceLE -> iL, reduceLT -> iT, reduceEq -> iE, reduceAdd -> iA, reduceMul -> iM, reduceSub -> iS, reduceNeg -> iG, reduceBEq -> iB, reduceBNe -> iN, reduceToNat -> iZ
noncomputable section
def s84:SP Tryz.prog:=mkS tyA 84 Tryz.f84 [XpF,XpH,XpJ] {md:=[.ro 1],rg:=[(0,[1],[1]),(1,[1,3],[1]),(2,[3,6],[]),(3,[2],[]),(4,[3,11],[]),(5,[2],[]),(6,[15],[]),(7,[2],[]),(8,[2],[])],rets:=some ([2],[])} Tryz.func84 (by kernel_rfl)
@[go_sem] def d84:s84.g=84/\s84.fs=⟨[.ro 1],s84.F,false⟩:=⟨nr rfl,nr rfl⟩
@[go_sem] def e84(z0 z1:ByteArray):s84.F [.agg [.s z0,.s z1]]=some (.i .i64 (Yk (Xg.mk z0 z1)),[.u]):=Xj (0) rfl rfl (λcx h=>by
 cases h1:Xb0 z0
 ·simp only[go_sem,reduceIte,↓reduceIte,reduceCtorEq,nA,nS,nM,nB,nE,nL,nT,nN,iL,iT,iE,iA,iM,iS,iG,iB,iN,iZ,h,h1,Yk]
 by_cases h2:200<(z1.size:Int)
 ·simp only[go_sem,reduceIte,↓reduceIte,reduceCtorEq,nA,nS,nM,nB,nE,nL,nT,nN,iL,iT,iE,iA,iM,iS,iG,iB,iN,iZ,h,h1,h2,Yk]
 have h3:(z1.size:Int)<=1000000:=by omega
 have h4:z1.size<=9223372036854775806:=by omega
 have h5:z1.size<=9223372036854775807:=by omega
 cases h6:Xmh z1
 ·simp only[go_sem,reduceIte,↓reduceIte,reduceCtorEq,nA,nS,nM,nB,nE,nL,nT,nN,iL,iT,iE,iA,iM,iS,iG,iB,iN,iZ,h,h1,h2,h3,h4,h5,h6,Yk]
 cases h7:eqv (XfQ z1) z1<;>simp only[go_sem,reduceIte,↓reduceIte,reduceCtorEq,nA,nS,nM,nB,nE,nL,nT,nN,iL,iT,iE,iA,iM,iS,iG,iB,iN,iZ,h,h1,h2,h3,h4,h5,h6,h7,Xa,Zc,bne,Yk]) (rfl)
def s42:SP Tryz.prog:=mkS tyA 42 Tryz.f42 [s84] {md:=[.ro 1],rg:=[(0,[0],[]),(1,[0,7],[]),(2,[2],[]),(3,[0,3],[]),(4,[0,3,11],[]),(5,[0,3],[]),(6,[0,3,4],[]),(7,[0,3,4,20],[]),(8,[2],[]),(9,[2],[])],lv:=[(0,[0,3],[])],out:=[(0,[],[])],rets:=some ([2],[])} Tryz.func42 (by kernel_rfl)
@[go_sem] def d42:s42.g=42/\s42.fs=⟨[.ro 1],s42.F,false⟩:=⟨nr rfl,nr rfl⟩
@[go_sem] def e42(hs:List Xg):s42.F [.sl .ro 2 (hs.map (Xb .ro))]=some (.i .i64 (Xr hs),[.u]):=Xj (hs.length+1) rfl rfl (λcx h=>by
 by_cases h1:20<(hs.length:Int)
 ·simp only[go_sem,reduceIte,↓reduceIte,reduceCtorEq,nA,nS,nM,nB,nE,nL,nT,nN,iL,iT,iE,iA,iM,iS,iG,iB,iN,iZ,h,h1,Xr]
 have hx:hs.length<=9223372036854775806:=by omega
 have hb0:=XF Tryz.f42 0 _ _ rfl rfl
 obtain⟨r,hr,hq⟩:=Yz (cx:=cx) (blk:=0) (body:=YN Tryz.f42 0) hs (λk (s:Unit)=>⟨E [(0,.sl .ro 2 (hs.map (Xb .ro))),(3,.i .i64 k)],B []⟩) (λs=>⟨E [],B []⟩) (λx s=>Yk x !=0) (λx s=>()) (λx s=>(.ret,⟨E [(2,.i .i64 (Yk x))],B []⟩)) (λk s=>True)
   (λs hI G=>by simp only[go_sem,reduceIte,↓reduceIte,reduceCtorEq,nA,nS,nM,nB,nE,nL,nT,nN,iL,iT,iE,iA,iM,iS,iG,iB,iN,iZ,h,Int.lt_irrefl,hb0,hx]) (λk hk s hI=>by
    have h1:((k:Int)<(hs.length:Int)):=Int.ofNat_lt.2 hk
    exact⟨_,_,_,λG=>by simp only[go_sem,reduceIte,↓reduceIte,reduceCtorEq,nA,nS,nM,nB,nE,nL,nT,nN,iL,iT,iE,iA,iM,iS,iG,iB,iN,iZ,h,YH (Xb .ro) hs _ hk,Xb,h1,Xt _ _ hk,Xm (show k<9223372036854775807 by omega),hb0]<;>with_reducible rfl,Iff.rfl,λhc=>⟨trivial,by simp only[go_sem,reduceIte,↓reduceIte,reduceCtorEq,nA,nS,nM,nB,nE,nL,nT,nN,iL,iT,iE,iA,iM,iS,iG,iB,iN,iZ,h]⟩⟩) () trivial (hs.length+1) (Nat.le_refl _)
 rw[hb0] at hr
 rcases hq with⟨s',e1,_,e3⟩ | ⟨x,s',e1,e3⟩
 ·simp only[go_sem,reduceIte,↓reduceIte,reduceCtorEq,nA,nS,nM,nB,nE,nL,nT,nN,iL,iT,iE,iA,iM,iS,iG,iB,iN,iZ,h,h1,hr,e3,Xr,Xa8 e1]
 ·simp only[go_sem,reduceIte,↓reduceIte,reduceCtorEq,nA,nS,nM,nB,nE,nL,nT,nN,iL,iT,iE,iA,iM,iS,iG,iB,iN,iZ,h,h1,hr,e3,Xr,Xa9 e1]) (rfl)
def XZ(r:Response):Int:=if within r.Status 200 599=false then 3 else if(Xr r.Headers !=0)=true then Xr r.Headers else if 2000<(r.Body.length:Int) then 2 else 0
def s12:SP Tryz.prog:=mkS tyA 12 Tryz.f12 [s41,s42] {md:=[.ro 1],rg:=[(0,[1],[1]),(1,[1,7],[1]),(2,[2],[]),(3,[1,3],[1]),(4,[1,3,12],[1]),(5,[2],[]),(6,[17],[]),(7,[2],[]),(8,[2],[])],rets:=some ([2],[])} Tryz.func12 (by kernel_rfl)
@[go_sem] def d12:s12.g=12/\s12.fs=⟨[.ro 1],s12.F,false⟩:=⟨nr rfl,nr rfl⟩
@[go_sem] def e12(z2:Int)(z3:List Xg)(z4:List UInt8):s12.F [.agg [.i .i64 z2,.sl .ro 2 (z3.map (Xb .ro)),.sl .ro 1 (z4.map XE)]]=some (.i .i64 (XZ (Response.mk z2 z3 z4)),[.u]):=Xj (0) rfl rfl (λcx h=>by
 cases h1:within z2 200 599
 ·simp only[go_sem,reduceIte,↓reduceIte,reduceCtorEq,nA,nS,nM,nB,nE,nL,nT,nN,iL,iT,iE,iA,iM,iS,iG,iB,iN,iZ,h,h1,XZ]
 by_cases z:Xr z3=0
 rotate_left
 ·have z':(Xr z3 !=0)=true:=by simpa using z
  simp only[go_sem,reduceIte,↓reduceIte,reduceCtorEq,nA,nS,nM,nB,nE,nL,nT,nN,iL,iT,iE,iA,iM,iS,iG,iB,iN,iZ,h,h1,z',XZ]
 by_cases h2:2000<(z4.length:Int)<;>simp only[go_sem,reduceIte,↓reduceIte,reduceCtorEq,nA,nS,nM,nB,nE,nL,nT,nN,iL,iT,iE,iA,iM,iS,iG,iB,iN,iZ,h,h1,z,h2,XZ]) (rfl)
def s77:SP Tryz.prog:=mkS tyA 77 Tryz.f77 [XoO,XmM] {md:=[.ro 1],rg:=[(0,[0],[]),(1,[0,11],[]),(2,[2],[]),(3,[0,3],[]),(4,[0,3,15],[]),(5,[0,3],[]),(6,[0,3,41],[]),(7,[2],[]),(8,[2],[])],lv:=[(0,[0,3],[])],out:=[(0,[],[])],rets:=some ([2],[])} Tryz.func77 (by kernel_rfl)
@[go_sem] def d77:s77.g=77/\s77.fs=⟨[.ro 1],s77.F,false⟩:=⟨nr rfl,nr rfl⟩
@[go_sem] def e77(t:ByteArray):s77.F [.s t]=some (.b (UI t),[.u]):=Xj (t.data.toList.length+1) rfl rfl (λcx h=>by
 have hu:UI t=Xa7 XbJ 1 60 t:=rfl
 by_cases h1:(t.size:Int)<1
 ·simp only[go_sem,reduceIte,↓reduceIte,reduceCtorEq,nA,nS,nM,nB,nE,nL,nT,nN,iL,iT,iE,iA,iM,iS,iG,iB,iN,iZ,h,h1,hu,Y9 h1]
 by_cases h2:60<(t.size:Int)
 ·simp only[go_sem,reduceIte,↓reduceIte,reduceCtorEq,nA,nS,nM,nB,nE,nL,nT,nN,iL,iT,iE,iA,iM,iS,iG,iB,iN,iZ,h,h1,h2,hu,Zz h2]
 have hx:t.data.toList.length<=9223372036854775806:=by rw[<-Xe]; omega
 have ha:=Qd (p:=XbJ) h1 h2
 rw[Xe t] at h1 h2
 ·have hb0:=XF Tryz.f77 0 _ _ rfl rfl
  obtain⟨r,hr,hq⟩:=ZF (cx:=cx) (blk:=0) (body:=YN Tryz.f77 0) t.data.toList (λk (s:Unit)=>⟨E [(0,.s t),(3,.i .i64 k)],B []⟩) (λs=>⟨E [],B []⟩) (λx s=>!XbJ x) (λx s=>()) (λx s=>(.ret,⟨E [(2,.b false)],B []⟩)) (λk s=>True)
    (λs hI G=>by simp only[go_sem,reduceIte,↓reduceIte,reduceCtorEq,nA,nS,nM,nB,nE,nL,nT,nN,iL,iT,iE,iA,iM,iS,iG,iB,iN,iZ,h,Int.lt_irrefl,hb0,Xe t]) (λk hk s hI=>by
     have h1:((k:Int)<(t.data.toList.length:Int)):=Int.ofNat_lt.2 hk
     have hz:=UH t k hk
     have hu:XbJ t.data.toList[k]=(Z5 t.data.toList[k]||Zv t.data.toList[k]||((t.data.toList[k].toNat:Int)==46)||((t.data.toList[k].toNat:Int)==45)):=rfl
     by_cases c0:XbJ t.data.toList[k]=true
     ·skip
      have c9:=c0
      rw[hu] at c0
      cases a1:Z5 t.data.toList[k]<;>cases a2:Zv t.data.toList[k]<;>cases a3:((t.data.toList[k].toNat:Int)==46)<;>cases a4:((t.data.toList[k].toNat:Int)==45)<;>first | (exfalso; rw[a1,a2,a3,a4] at c0; exact absurd c0 (by decide)) | skip
      all_goals exact .inr ⟨by rw[c9]; rfl,trivial,_,λG=>by simp only[go_sem,reduceIte,↓reduceIte,reduceCtorEq,nA,nS,nM,nB,nE,nL,nT,nN,iL,iT,iE,iA,iM,iS,iG,iB,iN,iZ,h,hz,Xe t,bne,a1,a2,a3,a4,h1,Xt _ _ hk,Xm (show k<9223372036854775807 by omega),hb0]<;>with_reducible rfl,by simp only[go_sem,reduceIte,↓reduceIte,reduceCtorEq,nA,nS,nM,nB,nE,nL,nT,nN,iL,iT,iE,iA,iM,iS,iG,iB,iN,iZ,h,Xe t]⟩
     ·have c1:XbJ t.data.toList[k]=false:=by simpa using c0
      have c2:=c1
      rw[hu] at c2
      simp only[Bool.or_eq_false_iff] at c2
      obtain⟨⟨⟨b1,b2⟩,b3⟩,b4⟩:=c2
      all_goals exact .inl ⟨by rw[c1]; rfl,λG=>by simp only[go_sem,reduceIte,↓reduceIte,reduceCtorEq,nA,nS,nM,nB,nE,nL,nT,nN,iL,iT,iE,iA,iM,iS,iG,iB,iN,iZ,h,hz,Xe t,bne,b1,b2,b3,b4,h1,Xt _ _ hk,Xm (show k<9223372036854775807 by omega),hb0]⟩) () trivial (t.data.toList.length+1) (Nat.le_refl _)
  rw[hb0] at hr
  rcases hq with⟨s',e1,_,e3⟩ | ⟨x,s',e1,e3⟩
  ·simp only[go_sem,reduceIte,↓reduceIte,reduceCtorEq,nA,nS,nM,nB,nE,nL,nT,nN,iL,iT,iE,iA,iM,iS,iG,iB,iN,iZ,h,h1,h2,Xe t,hr,e3,hu,ha,Qe e1]
  ·simp only[go_sem,reduceIte,↓reduceIte,reduceCtorEq,nA,nS,nM,nB,nE,nL,nT,nN,iL,iT,iE,iA,iM,iS,iG,iB,iN,iZ,h,h1,h2,Xe t,hr,e3,hu,ha,ZA e1]) (rfl)
def XpK:SP Tryz.prog:=mkS tyA 128 Tryz.f128 [XoP] {md:=[.ro 1],rg:=[(0,[0],[]),(1,[0,3],[]),(2,[0,3,4],[]),(3,[0,3,4],[]),(4,[0,3,4],[]),(5,[0,3,4],[]),(6,[0,3,4],[]),(7,[0,3,4],[]),(8,[0,3,4],[]),(9,[0,3,4],[]),(10,[0,3,4],[]),(11,[0,4],[]),(12,[2],[]),(13,[2],[])],rets:=some ([2],[])} Tryz.func128 (by kernel_rfl)
@[go_sem] def XGp:XpK.g=128/\XpK.fs=⟨[.ro 1],XpK.F,false⟩:=⟨nr rfl,nr rfl⟩
@[go_sem] def XGq(c:UInt8):XpK.F [.i .u8 c.toNat]=some (.b (Xam c),[.u]):=Xj (0) rfl rfl (λcx h=>by
 by_cases m:c∈XbZ
 ·have hw:=Xip m
  simp only[XbZ,List.mem_cons,List.not_mem_nil,or_false] at m
  have u47:(((47:UInt8).toNat:Nat):Int)=47:=rfl
  have u63:(((63:UInt8).toNat:Nat):Int)=63:=rfl
  have u61:(((61:UInt8).toNat:Nat):Int)=61:=rfl
  have u38:(((38:UInt8).toNat:Nat):Int)=38:=rfl
  have u58:(((58:UInt8).toNat:Nat):Int)=58:=rfl
  have u64:(((64:UInt8).toNat:Nat):Int)=64:=rfl
  have u44:(((44:UInt8).toNat:Nat):Int)=44:=rfl
  have u59:(((59:UInt8).toNat:Nat):Int)=59:=rfl
  have u40:(((40:UInt8).toNat:Nat):Int)=40:=rfl
  have u41:(((41:UInt8).toNat:Nat):Int)=41:=rfl
  rcases m with rfl | rfl | rfl | rfl | rfl | rfl | rfl | rfl | rfl | rfl<;>simp only[go_sem,reduceIte,↓reduceIte,reduceCtorEq,nA,nS,nM,nB,nE,nL,nT,nN,iL,iT,iE,iA,iM,iS,iG,iB,iN,iZ,h,hw,wx,u47,u63,u61,u38,u58,u64,u44,u59,u40,u41]
 ·have hw:=Xiq m
  have q47:((c.toNat:Int)==47)=false:=XbL (v:=47) (λe=>m (by subst e; decide))
  have q63:((c.toNat:Int)==63)=false:=XbL (v:=63) (λe=>m (by subst e; decide))
  have q61:((c.toNat:Int)==61)=false:=XbL (v:=61) (λe=>m (by subst e; decide))
  have q38:((c.toNat:Int)==38)=false:=XbL (v:=38) (λe=>m (by subst e; decide))
  have q58:((c.toNat:Int)==58)=false:=XbL (v:=58) (λe=>m (by subst e; decide))
  have q64:((c.toNat:Int)==64)=false:=XbL (v:=64) (λe=>m (by subst e; decide))
  have q44:((c.toNat:Int)==44)=false:=XbL (v:=44) (λe=>m (by subst e; decide))
  have q59:((c.toNat:Int)==59)=false:=XbL (v:=59) (λe=>m (by subst e; decide))
  have q40:((c.toNat:Int)==40)=false:=XbL (v:=40) (λe=>m (by subst e; decide))
  have q41:((c.toNat:Int)==41)=false:=XbL (v:=41) (λe=>m (by subst e; decide))
  cases h1:Uf c<;>simp only[go_sem,reduceIte,↓reduceIte,reduceCtorEq,nA,nS,nM,nB,nE,nL,nT,nN,iL,iT,iE,iA,iM,iS,iG,iB,iN,iZ,h,hw,h1,q47,q63,q61,q38,q58,q64,q44,q59,q40,q41]) (rfl)
def s78:SP Tryz.prog:=mkS tyA 78 Tryz.f78 [XpK] {md:=[.ro 1],rg:=[(0,[0],[]),(1,[0,16],[]),(2,[2],[]),(3,[0,3],[]),(4,[0,3,20],[]),(5,[0,3],[]),(6,[0,3,27],[]),(7,[2],[]),(8,[2],[])],lv:=[(0,[0,3],[])],out:=[(0,[],[])],rets:=some ([2],[])} Tryz.func78 (by kernel_rfl)
@[go_sem] def d78:s78.g=78/\s78.fs=⟨[.ro 1],s78.F,false⟩:=⟨nr rfl,nr rfl⟩
@[go_sem] def e78(t:ByteArray):s78.F [.s t]=some (.b (UJ t),[.u]):=Xj (t.data.toList.length+1) rfl rfl (λcx h=>by
 have hu:UJ t=(Xa7 Xam 1 100 t&&(((t.data[0]?.getD 0).toNat:Int)==47)):=rfl
 by_cases h1:(t.size:Int)<1
 ·simp only[go_sem,reduceIte,↓reduceIte,reduceCtorEq,nA,nS,nM,nB,nE,nL,nT,nN,iL,iT,iE,iA,iM,iS,iG,iB,iN,iZ,h,h1,hu,Y9 h1]
 by_cases h2:100<(t.size:Int)
 ·simp only[go_sem,reduceIte,↓reduceIte,reduceCtorEq,nA,nS,nM,nB,nE,nL,nT,nN,iL,iT,iE,iA,iM,iS,iG,iB,iN,iZ,h,h1,h2,hu,Zz h2]
 have hi:YK t.size 0=some 0:=Xt t.size 0 (by omega)
 have hi':YK t.data.toList.length 0=some 0:=by rw[<-Xe]; exact hi
 cases h3:(((t.data[0]?.getD 0).toNat:Int)==47)
 ·simp only[go_sem,reduceIte,↓reduceIte,reduceCtorEq,nA,nS,nM,nB,nE,nL,nT,nN,iL,iT,iE,iA,iM,iS,iG,iB,iN,iZ,h,h1,h2,h3,hi,hu,bne]
 have hx:t.data.toList.length<=9223372036854775806:=by rw[<-Xe]; omega
 have ha:=Qd (p:=Xam) h1 h2
 rw[Xe t] at h1 h2
 ·have hb0:=XF Tryz.f78 0 _ _ rfl rfl
  obtain⟨r,hr,hq⟩:=Yz (cx:=cx) (blk:=0) (body:=YN Tryz.f78 0) t.data.toList (λk (s:Unit)=>⟨E [(0,.s t),(3,.i .i64 k)],B []⟩) (λs=>⟨E [],B []⟩) (λx s=>!Xam x) (λx s=>()) (λx s=>(.ret,⟨E [(2,.b false)],B []⟩)) (λk s=>True)
    (λs hI G=>by simp only[go_sem,reduceIte,↓reduceIte,reduceCtorEq,nA,nS,nM,nB,nE,nL,nT,nN,iL,iT,iE,iA,iM,iS,iG,iB,iN,iZ,h,Int.lt_irrefl,hb0,Xe t]) (λk hk s hI=>by
     have h1:((k:Int)<(t.data.toList.length:Int)):=Int.ofNat_lt.2 hk
     have hz:=UH t k hk
     exact⟨_,_,_,λG=>by simp only[go_sem,reduceIte,↓reduceIte,reduceCtorEq,nA,nS,nM,nB,nE,nL,nT,nN,iL,iT,iE,iA,iM,iS,iG,iB,iN,iZ,h,hz,Xe t,h1,Xt _ _ hk,Xm (show k<9223372036854775807 by omega),hb0]<;>with_reducible rfl,Iff.rfl,λhc=>⟨trivial,by simp only[go_sem,reduceIte,↓reduceIte,reduceCtorEq,nA,nS,nM,nB,nE,nL,nT,nN,iL,iT,iE,iA,iM,iS,iG,iB,iN,iZ,h,Xe t]⟩⟩) () trivial (t.data.toList.length+1) (Nat.le_refl _)
  rw[hb0] at hr
  rcases hq with⟨s',e1,_,e3⟩ | ⟨x,s',e1,e3⟩
  ·simp only[go_sem,reduceIte,↓reduceIte,reduceCtorEq,nA,nS,nM,nB,nE,nL,nT,nN,iL,iT,iE,iA,iM,iS,iG,iB,iN,iZ,h,h1,h2,h3,hi',bne,Xe t,hr,e3,hu,ha,Qe e1]
  ·simp only[go_sem,reduceIte,↓reduceIte,reduceCtorEq,nA,nS,nM,nB,nE,nL,nT,nN,iL,iT,iE,iA,iM,iS,iG,iB,iN,iZ,h,h1,h2,h3,hi',bne,Xe t,hr,e3,hu,ha,ZA e1]) (rfl)
def XpL:SP Tryz.prog:=mkS tyA 165 Tryz.f165 [] {md:=[.ro 1],rg:=[(0,[0],[]),(1,[3],[]),(2,[3,4],[]),(3,[3,4,10],[]),(4,[3,4],[]),(5,[3,4,24],[]),(6,[3,4],[]),(7,[2],[])],lv:=[(0,[3,4],[])],out:=[(0,[3],[])],rets:=some ([2],[])} Tryz.func165 (by kernel_rfl)
@[go_sem] def XGr:XpL.g=165/\XpL.fs=⟨[.ro 1],XpL.F,false⟩:=⟨nr rfl,nr rfl⟩
@[go_sem] def XGs(t:ByteArray)(h0:t.size<=9223372036854775806):XpL.F [.s t]=some (.s (Xbr t),[.u]):=Xj (t.data.toList.length+1) rfl rfl (λcx h=>by
 have hz:t.data.toList.length<=9223372036854775807:=by rw[<-Xe]; omega
 have hx:t.data.toList.length<=9223372036854775806:=by rw[<-Xe]; exact h0
 have hb0:=XF Tryz.f165 0 _ _ rfl rfl
 obtain⟨hI,hr⟩:=YG (cx:=cx) (blk:=0) (body:=YN Tryz.f165 0) t.data.toList (λk (s:Unit)=>⟨E [(3,.sl .mut 1 ((Z6 t.data.toList k).map XE)),(4,.i .i64 k)],B []⟩) (λs=>⟨E [(3,.sl .mut 1 ((t.data.toList.map XfN).map XE))],B []⟩) (λx s=>s) (λk s=>True)
   (λs hI G=>by simp only[go_sem,reduceIte,↓reduceIte,reduceCtorEq,nA,nS,nM,nB,nE,nL,nT,nN,iL,iT,iE,iA,iM,iS,iG,iB,iN,iZ,h,Int.lt_irrefl,hb0,XaJ t.data.toList t.data.toList.length (Nat.le_refl _),XeB t.data.toList,List.length_map]) (λk hk s hI=>by
    have h1:((k:Int)<(t.data.toList.length:Int)):=Int.ofNat_lt.2 hk
    have g1:=XgL t.data.toList k hk
    have g2:=Xij t.data.toList k hk
    have g3:=XaJ t.data.toList k (Nat.le_of_lt hk)
    have g4:(List.take t.data.toList.length ((Z6 t.data.toList k).map XE))=(Z6 t.data.toList k).map XE:=List.take_of_length_le (by rw[List.length_map,g3]; exact Nat.le_refl _)
    rcases Xil t.data.toList k hk with⟨a1,a2,w1,w2,hs,hv⟩ | ⟨a1,a2,w1,w2,hs,hv⟩ | ⟨a1,a2,w1,w2,hs,hv⟩
    all_goals exact⟨trivial,_,λG=>by simp only[go_sem,reduceIte,↓reduceIte,reduceCtorEq,nA,nS,nM,nB,nE,nL,nT,nN,iL,iT,iE,iA,iM,iS,iG,iB,iN,iZ,h,g1,g2,g3,g4,a1,a2,w1,w2,hs,List.length_map,h1,Xt _ _ hk,Xm (show k<9223372036854775807 by omega),hb0]<;>with_reducible rfl,by simp only[go_sem,reduceIte,↓reduceIte,reduceCtorEq,nA,nS,nM,nB,nE,nL,nT,nN,iL,iT,iE,iA,iM,iS,iG,iB,iN,iZ,h,hv]⟩) () trivial (t.data.toList.length+1) (Nat.le_refl _)
 rw[hb0] at hr
 rw[Xc9] at hr
 simp only[go_sem,reduceIte,↓reduceIte,reduceCtorEq,nA,nS,nM,nB,nE,nL,nT,nN,iL,iT,iE,iA,iM,iS,iG,iB,iN,iZ,h,hz,hr,Xe t,Xbr]) (rfl)
def XpM:SP Tryz.prog:=mkS tyA 129 Tryz.f129 [XpL] {md:=[.ro 1,.ro 1],rets:=some ([4],[])} Tryz.func129 (by kernel_rfl)
@[go_sem] def XGt:XpM.g=129/\XpM.fs=⟨[.ro 1,.ro 1],XpM.F,false⟩:=⟨nr rfl,nr rfl⟩
@[go_sem] def XGu(a b:ByteArray)(h0:(a.size<=9223372036854775806/\b.size<=9223372036854775806)):XpM.F [.s a,.s b]=some (.b (eqv (Xbr a) (Xbr b)),[.u,.u]):=Xj (0) rfl rfl (λcx h=>by
 simp only[go_sem,reduceIte,↓reduceIte,reduceCtorEq,nA,nS,nM,nB,nE,nL,nT,nN,iL,iT,iE,iA,iM,iS,iG,iB,iN,iZ,h,h0.1,h0.2,Xa]) (rfl)
def s79:SP Tryz.prog:=mkS tyA 79 Tryz.f79 [XpM] {md:=[.ro 1,.ro 1],rg:=[(0,[0,1],[]),(1,[0,1,6],[]),(2,[0,1,6,7],[]),(3,[0,1,6,7,8],[]),(4,[0,1,6,7,8,12],[]),(5,[0,1,6,7,8],[]),(6,[0,1,6,7,8,22],[]),(7,[0,1,6,8,23],[]),(8,[0,1,6,8],[]),(9,[0,1,6,8],[]),(10,[0,1,6,7,8],[]),(11,[4,5],[])],lv:=[(0,[0,1,6,7,8],[])],out:=[(0,[6,7],[])],rets:=some ([4,5],[])} Tryz.func79 (by kernel_rfl)
@[go_sem] def d79:s79.g=79/\s79.fs=⟨[.ro 1,.ro 1],s79.F,false⟩:=⟨nr rfl,nr rfl⟩
@[go_sem] def e79(hs:List Xg)(name:ByteArray)(h0:(hs.length<=20/\smL Ye hs/\okN name=true)):s79.F [.sl .ro 2 (hs.map (Xb .ro)),.s name]=some (.tup [.s (Xir hs name).1,.b (XfR hs name)],[.u,.u]):=Xj (hs.length+1) rfl rfl (λcx h=>by
 have hl:=h0.1
 have hx:hs.length<=9223372036854775806:=by omega
 have hj:=XmU hs name
 have hb0:=XF Tryz.f79 0 _ _ rfl rfl
 obtain⟨hI,hr⟩:=YG (cx:=cx) (blk:=0) (body:=YN Tryz.f79 0) hs (λk (s:ByteArray×Bool)=>⟨E [(0,.sl .ro 2 (hs.map (Xb .ro))),(1,.s name),(6,.s s.1),(7,.b s.2),(8,.i .i64 k)],B []⟩) (λs=>⟨E [(6,.s s.1),(7,.b s.2)],B []⟩) (λx s=>Ug name s x) (λk s=>s.1.size<=k*1048578)
   (λs hI G=>by simp only[go_sem,reduceIte,↓reduceIte,reduceCtorEq,nA,nS,nM,nB,nE,nL,nT,nN,iL,iT,iE,iA,iM,iS,iG,iB,iN,iZ,h,Int.lt_irrefl,hb0,h0.1]) (λk hk s hI=>by
    have h1:((k:Int)<(hs.length:Int)):=Int.ofNat_lt.2 hk
    obtain⟨u1,u2⟩:=h0.2.1.2 _ (List.getElem_mem hk)
    have u2':hs[k].Value.size<=1048576:=u2
    have hJ:=XdV (n:=name) hI u2'
    have hl:=h0.1
    have e0:(⟨#[44,32]⟩:ByteArray).size=2:=rfl
    have e1:s.1.size+2<=9223372036854775807:=by omega
    have e1':s.1.size+(⟨#[44,32]⟩:ByteArray).size<=9223372036854775807:=e1
    have e2:s.1.size+hs[k].Value.size<=9223372036854775807:=by omega
    have e3:s.1.size+2+hs[k].Value.size<=9223372036854775807:=by omega
    have n1:hs[k].Name.size<=9223372036854775806/\name.size<=9223372036854775806:=⟨by have:hs[k].Name.size<=1048576:=u1; omega,of_decide_eq_true h0.2.2⟩
    cases d1:eqv (Xbr hs[k].Name) (Xbr name)<;>cases d2:s.2
    all_goals exact⟨hJ,_,λG=>by simp only[go_sem,reduceIte,↓reduceIte,reduceCtorEq,nA,nS,nM,nB,nE,nL,nT,nN,iL,iT,iE,iA,iM,iS,iG,iB,iN,iZ,h,e0,e1,e2,e3,YH (Xb .ro) hs k hk,n1,d1,d2,ByteArray.size_append,h1,Xt _ _ hk,Xm (show k<9223372036854775807 by omega),hb0]<;>with_reducible rfl,by simp only[go_sem,reduceIte,↓reduceIte,reduceCtorEq,nA,nS,nM,nB,nE,nL,nT,nN,iL,iT,iE,iA,iM,iS,iG,iB,iN,iZ,h,d1,d2,Ug]⟩) (⟨#[]⟩,false) (by show 0<=_; omega) (hs.length+1) (Nat.le_refl _)
 rw[hb0] at hr
 unfold Xir at hj
 simp only[go_sem,reduceIte,↓reduceIte,reduceCtorEq,nA,nS,nM,nB,nE,nL,nT,nN,iL,iT,iE,iA,iM,iS,iG,iB,iN,iZ,h,hr,Xir,hj]) (rfl)
def s38:SP Tryz.prog:=mkS tyA 38 Tryz.f38 [s42,s77,s78,s79] {md:=[.ro 1],rg:=[(0,[1],[1]),(1,[1,25],[1]),(2,[2],[]),(3,[1,3],[1]),(4,[1,3,30],[1]),(5,[2],[]),(6,[1,5],[1]),(7,[1,38],[1]),(8,[2],[]),(9,[42],[]),(10,[2],[]),(11,[2],[])],rets:=some ([2],[]),al:=[32]} Tryz.func38 (by kernel_rfl)
@[go_sem] def d38:s38.g=38/\s38.fs=⟨[.ro 1],s38.F,false⟩:=⟨nr rfl,nr rfl⟩
@[go_sem] def e38(z5 z6 z7:ByteArray)(z3:List Xg)(h0:smL Ye (Request.mk z5 z6 z7 z3).Headers):s38.F [.agg [.s z5,.s z6,.s z7,.sl .ro 2 (z3.map (Xb .ro))]]=some (.i .i64 (Xs (Request.mk z5 z6 z7 z3)),[.u]):=Xj (0) rfl rfl (λcx h=>by
 have hm:ZH z5=(eqv z5 ⟨#[71,69,84]⟩||eqv z5 ⟨#[72,69,65,68]⟩):=rfl
 have key:∀m:Bool,ZH z5=m->(ZH z5&&UI z6&&UJ z7)=(m&&UI z6&&UJ z7):=λm h=>by rw[h]
 have hn1:okN ⟨#[72,111,115,116]⟩=true:=by decide
 have hn2:okN ⟨#[104,111,115,116]⟩=true:=by decide
 rcases(show(ZH z5=false/\eqv z5 ⟨#[71,69,84]⟩=false/\eqv z5 ⟨#[72,69,65,68]⟩=false)\/(ZH z5=true/\eqv z5 ⟨#[71,69,84]⟩=true)\/(ZH z5=true/\eqv z5 ⟨#[71,69,84]⟩=false/\eqv z5 ⟨#[72,69,65,68]⟩=true) from by
  rw[hm]; cases eqv z5 ⟨#[71,69,84]⟩<;>cases eqv z5 ⟨#[72,69,65,68]⟩<;>simp) with⟨m0,m1,m2⟩ | ⟨m0,m1⟩ | ⟨m0,m1,m2⟩
 ·simp only[go_sem,reduceIte,↓reduceIte,reduceCtorEq,nA,nS,nM,nB,nE,nL,nT,nN,iL,iT,iE,iA,iM,iS,iG,iB,iN,iZ,h,m0,m1,m2,Xc,Xa,Xs]
 ·cases h2:UI z6
  ·simp only[go_sem,reduceIte,↓reduceIte,reduceCtorEq,nA,nS,nM,nB,nE,nL,nT,nN,iL,iT,iE,iA,iM,iS,iG,iB,iN,iZ,h,h2,m0,m1,Xc,Xa,Xs]
  cases h3:UJ z7
  ·simp only[go_sem,reduceIte,↓reduceIte,reduceCtorEq,nA,nS,nM,nB,nE,nL,nT,nN,iL,iT,iE,iA,iM,iS,iG,iB,iN,iZ,h,h2,h3,m0,m1,Xc,Xa,Xs]
  by_cases z:Xr z3=0
  rotate_left
  ·have z':(Xr z3 !=0)=true:=by simpa using z
   simp only[go_sem,reduceIte,↓reduceIte,reduceCtorEq,nA,nS,nM,nB,nE,nL,nT,nN,iL,iT,iE,iA,iM,iS,iG,iB,iN,iZ,h,h2,h3,z',m0,m1,Xc,Xa,Xs]
  have z':(Xr z3 !=0)=false:=by simpa using z
  have h4:z3.length<=20/\smL Ye z3/\okN ⟨#[72,111,115,116]⟩=true:=⟨YR z,h0,hn1⟩
  have h5:z3.length<=20/\smL Ye z3/\okN ⟨#[104,111,115,116]⟩=true:=⟨YR z,h0,hn2⟩
  have h6:=Xba z3 ⟨#[72,111,115,116]⟩
  have h7:=Xb1 z3
  cases h8:XfR z3 ⟨#[72,111,115,116]⟩
  ·by_cases h9:20<=(z3.length:Int)
   ·have h10:((z3.length:Int)==20)=true:=by have:=h4.1; simp; omega
    simp only[go_sem,reduceIte,↓reduceIte,reduceCtorEq,nA,nS,nM,nB,nE,nL,nT,nN,iL,iT,iE,iA,iM,iS,iG,iB,iN,iZ,h,h2,h3,z,h4,h5,h6,h7,h8,h9,h10,m0,m1,Xc,Xa,Xs]
   ·have h10:((z3.length:Int)==20)=false:=by have:=h4.1; simp; omega
    simp only[go_sem,reduceIte,↓reduceIte,reduceCtorEq,nA,nS,nM,nB,nE,nL,nT,nN,iL,iT,iE,iA,iM,iS,iG,iB,iN,iZ,h,h2,h3,z,h4,h5,h6,h7,h8,h9,h10,m0,m1,Xc,Xa,Xs]
  ·simp only[go_sem,reduceIte,↓reduceIte,reduceCtorEq,nA,nS,nM,nB,nE,nL,nT,nN,iL,iT,iE,iA,iM,iS,iG,iB,iN,iZ,h,h2,h3,z,h4,h5,h6,h7,h8,m0,m1,Xc,Xa,Xs]
 ·cases h2:UI z6
  ·simp only[go_sem,reduceIte,↓reduceIte,reduceCtorEq,nA,nS,nM,nB,nE,nL,nT,nN,iL,iT,iE,iA,iM,iS,iG,iB,iN,iZ,h,h2,m0,m1,m2,Xc,Xa,Xs]
  cases h3:UJ z7
  ·simp only[go_sem,reduceIte,↓reduceIte,reduceCtorEq,nA,nS,nM,nB,nE,nL,nT,nN,iL,iT,iE,iA,iM,iS,iG,iB,iN,iZ,h,h2,h3,m0,m1,m2,Xc,Xa,Xs]
  by_cases z:Xr z3=0
  rotate_left
  ·have z':(Xr z3 !=0)=true:=by simpa using z
   simp only[go_sem,reduceIte,↓reduceIte,reduceCtorEq,nA,nS,nM,nB,nE,nL,nT,nN,iL,iT,iE,iA,iM,iS,iG,iB,iN,iZ,h,h2,h3,z',m0,m1,m2,Xc,Xa,Xs]
  have z':(Xr z3 !=0)=false:=by simpa using z
  have h4:z3.length<=20/\smL Ye z3/\okN ⟨#[72,111,115,116]⟩=true:=⟨YR z,h0,hn1⟩
  have h5:z3.length<=20/\smL Ye z3/\okN ⟨#[104,111,115,116]⟩=true:=⟨YR z,h0,hn2⟩
  have h6:=Xba z3 ⟨#[72,111,115,116]⟩
  have h7:=Xb1 z3
  cases h8:XfR z3 ⟨#[72,111,115,116]⟩
  ·by_cases h9:20<=(z3.length:Int)
   ·have h10:((z3.length:Int)==20)=true:=by have:=h4.1; simp; omega
    simp only[go_sem,reduceIte,↓reduceIte,reduceCtorEq,nA,nS,nM,nB,nE,nL,nT,nN,iL,iT,iE,iA,iM,iS,iG,iB,iN,iZ,h,h2,h3,z,h4,h5,h6,h7,h8,h9,h10,m0,m1,m2,Xc,Xa,Xs]
   ·have h10:((z3.length:Int)==20)=false:=by have:=h4.1; simp; omega
    simp only[go_sem,reduceIte,↓reduceIte,reduceCtorEq,nA,nS,nM,nB,nE,nL,nT,nN,iL,iT,iE,iA,iM,iS,iG,iB,iN,iZ,h,h2,h3,z,h4,h5,h6,h7,h8,h9,h10,m0,m1,m2,Xc,Xa,Xs]
  ·simp only[go_sem,reduceIte,↓reduceIte,reduceCtorEq,nA,nS,nM,nB,nE,nL,nT,nN,iL,iT,iE,iA,iM,iS,iG,iB,iN,iZ,h,h2,h3,z,h4,h5,h6,h7,h8,m0,m1,m2,Xc,Xa,Xs]) (rfl)
end
end Go.Vm.A
