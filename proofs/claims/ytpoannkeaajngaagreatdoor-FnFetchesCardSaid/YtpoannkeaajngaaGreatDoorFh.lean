/- Functions of the program, walked by the evaluator. -/
import Derived.Test.YtpoannkeaajngaaGreatDoorWb
import Derived.Test.YtpoannkeaajngaaGreatDoorWa
import Derived.Test.YtpoannkeaajngaaGreatDoorFa
import Derived.Test.YtpoannkeaajngaaGreatDoorFc
import Derived.Test.YtpoannkeaajngaaGreatDoorFd
import Derived.Test.YtpoannkeaajngaaGreatDoorFe
import Derived.Test.YtpoannkeaajngaaGreatDoorFf
import Derived.Test.YtpoannkeaajngaaGreatDoorFg
set_option linter.unusedVariables false
set_option linter.unusedSimpArgs false
set_option autoImplicit false
set_option maxRecDepth 100000
set_option maxHeartbeats 4000000
set_option linter.defProp false
namespace Go.Vm.A
open Go.Proofs
open Nat renaming reduceAdd -> nA, reduceSub -> nS, reduceMul -> nM, reduceBEq -> nB, reduceEqDiff -> nE, reduceLeDiff -> nL, reduceLT -> nT, reduceBneDiff -> nN
open Int renaming reduceLE -> iL, reduceLT -> iT, reduceEq -> iE, reduceAdd -> iA, reduceMul -> iM, reduceSub -> iS, reduceNeg -> iG, reduceBEq -> iB, reduceBNe -> iN, reduceToNat -> iZ
noncomputable section
def setV(n v:ByteArray):List Xd->List Xd
 | []=>[⟨n,v⟩]
 | x :: r=>if eqv (Yc x.Name) (Yc n)=true then⟨n,v⟩ :: YM r n else x :: setV n v r
def XaN(x:Xd)(r:List Xd)(n:ByteArray):YM (x :: r) n=if eqv (Yc x.Name) (Yc n)=true then YM r n else x :: YM r n:=by
 unfold YM
 rw[List.filter_cons]
 cases eqv (Yc x.Name) (Yc n)<;>rfl
def Xf9{n v:ByteArray}:∀(hs:List Xd) (m:Nat),XdW (λx:Xd=>eqv (Yc x.Name) (Yc n)) hs m<0->setV n v hs=YM hs n++[⟨n,v⟩]
 | [],_,_=>rfl
 | x :: r,m,h=>by
  rw[XdW] at h
  split at h
  ·omega
  ·rename_i hc; rw[setV,XaN,if_neg hc,if_neg hc,Xf9 r (m+1) h]; rfl
def Xga{n v:ByteArray}:∀(hs:List Xd) (m i:Nat),XdW (λx:Xd=>eqv (Yc x.Name) (Yc n)) hs m=((m+i:Nat):Int)->setV n v hs=(YM hs n).take i++[⟨n,v⟩]++(YM hs n).drop i/\i<=(YM hs n).length
 | [],m,i,h=>by rw[XdW] at h; omega
 | x :: r,m,i,h=>by
  rw[XdW] at h
  split at h
  ·rename_i hc
   obtain rfl:i=0:=by omega
   rw[setV,XaN,if_pos hc,if_pos hc]
   exact⟨rfl,Nat.zero_le _⟩
  ·rename_i hc
   rcases Xfd (λx:Xd=>eqv (Yc x.Name) (Yc n)) r (m+1) with h1 | ⟨q,h1,h2⟩
   ·omega
   ·obtain rfl:i=q+1:=by omega
    obtain⟨k1,k2⟩:=Xga (v:=v) r (m+1) q (by omega)
    rw[setV,XaN,if_neg hc,if_neg hc,k1]
    exact⟨rfl,by simpa using k2⟩
def Xgb(n v:ByteArray):∀hs:List Xd,(setV n v hs).length<=hs.length+1
 | []=>Nat.le_refl _
 | x :: r=>by
  rw[setV]
  split
  ·have:=QW r n; simp only[List.length_cons]; omega
  ·have:=Xgb n v r; simp only[List.length_cons]; omega
def XhN{n v:ByteArray}(hn:n.size<=1048576)(hv:v.size<=1048576):∀{hs:List Xd},Xlb Xg hs->Xlb Xg (setV n v hs)
 | [],_=>λx hx=>by obtain rfl:=List.mem_singleton.1 hx; exact⟨hn,hv⟩
 | y :: r,h=>by
  rw[setV]
  split
  ·intro x hx
   rcases List.mem_cons.1 hx with rfl | hx
   ·exact⟨hn,hv⟩
   ·exact h x (List.mem_cons_of_mem _ ((List.mem_filter.1 hx).1))
  ·intro x hx
   rcases List.mem_cons.1 hx with rfl | hx
   ·exact h x (List.mem_cons_self ..)
   ·exact XhN hn hv (λz hz=>h z (List.mem_cons_of_mem _ hz)) x hx
@[go_sem] def XrV(hs:List Xd)(name:ByteArray)(h0:(hs.length<=1000/\smL Xg hs/\okN name=true)):s70.F [.sl .ro 2 (hs.map (Xb .ro)),.s name]=some (.sl .mut 2 ((YM hs name).map (Xb .mut)),[.u,.u]):=Xm (hs.length+1) rfl rfl (λcx h=>by
 have hl:=h0.1
 have hx:hs.length<=9223372036854775806:=by omega
 have hb0:=XR Tryz.f70 0 _ _ rfl rfl
 obtain⟨hI,hr⟩:=YK (cx:=cx) (blk:=0) (body:=Zt Tryz.f70 0) hs (λk (s:List Xd)=>⟨E [(0,.sl .ro 2 (hs.map (Xb .ro))),(1,.s name),(5,.sl .mut 2 (s.map (Xb .mut))),(9,.sl .ro 2 (hs.map (Xb .ro))),(10,.i .i64 hs.length),(11,.i .i64 k)],B []⟩) (λs=>⟨E [(5,.sl .mut 2 (s.map (Xb .mut)))],B []⟩) (λx s=>(if eqv (Yc x.Name) (Yc name)=true then s else s++[x])) (λk s=>s.length<=k)
   (λs hI G=>by simp only[go_sem,reduceIte,↓reduceIte,reduceCtorEq,nA,nS,nM,nB,nE,nL,nT,nN,iL,iT,iE,iA,iM,iS,iG,iB,iN,iZ,h,Int.lt_irrefl,hb0,h0.1]) (λk hk s hI=>by
    have h1:((k:Int)<(hs.length:Int)):=Int.ofNat_lt.2 hk
    have t3:(s.length+1)*32<=140737488355328:=by omega
    have t4:s.map (Xb .mut)++[[.s hs[k].Name,.s hs[k].Value]]=(s++[hs[k]]).map (Xb .mut):=by simp[Xb]
    obtain⟨u1,u2⟩:=h0.2.1.2 _ (List.getElem_mem hk)
    have n1:hs[k].Name.size<=9223372036854775806/\name.size<=9223372036854775806:=⟨by have:hs[k].Name.size<=1048576:=u1; omega,of_decide_eq_true h0.2.2⟩
    cases d1:eqv (Yc hs[k].Name) (Yc name)
    all_goals exact⟨by split<;>(try simp only[List.length_append,List.length_cons,List.length_nil])<;>omega,_,λG=>by simp only[go_sem,reduceIte,↓reduceIte,reduceCtorEq,nA,nS,nM,nB,nE,nL,nT,nN,iL,iT,iE,iA,iM,iS,iG,iB,iN,iZ,h,t3,t4,QJ (Xb .ro) hs k hk,n1,d1,Xb,h1,Yb _ _ hk,XD (show k<9223372036854775807 by omega),hb0]<;>with_reducible rfl,by simp only[go_sem,reduceIte,↓reduceIte,reduceCtorEq,nA,nS,nM,nB,nE,nL,nT,nN,iL,iT,iE,iA,iM,iS,iG,iB,iN,iZ,h,d1]⟩) [] (by simp) (hs.length+1) (Nat.le_refl _)
 rw[hb0] at hr
 have hff:=Xaq (λx:Xd=>eqv (Yc x.Name) (Yc name)) hs []
 simp only[List.nil_append] at hff
 rw[hff] at hr
 simp only[go_sem,reduceIte,↓reduceIte,reduceCtorEq,nA,nS,nM,nB,nE,nL,nT,nN,iL,iT,iE,iA,iM,iS,iG,iB,iN,iZ,h,hr,YM]) (by simp only[go_sem,reduceIte,↓reduceIte,reduceCtorEq,nA,nS,nM,nB,nE,nL,nT,nN,iL,iT,iE,iA,iM,iS,iG,iB,iN,iZ,ZH,XF])
def s34:SP Tryz.prog:=mkS tyA 34 Tryz.f34 [s70,s72,s75] {md:=[.ro 1,.ro 1,.ro 1],rg:=[(0,[0,2,4],[4]),(1,[0,2,4,7],[4]),(2,[2,4,7,8],[4]),(3,[2,4,7,8,16],[4]),(4,[6],[]),(5,[6],[])],rets:=some ([6],[]),fz:=[4]} Tryz.func34 (by kernel_rfl)
@[go_sem] def d34:s34.g=34/\s34.fs=⟨[.ro 1,.ro 1,.ro 1],s34.F,false⟩:=⟨nr rfl,nr rfl⟩
@[go_sem] def e34(hs:List Xd)(name value:ByteArray)(h0:(hs.length<=1000/\smL Xg hs/\okN name=true)):s34.F [.sl .ro 2 (hs.map (Xb .ro)),.s name,.s value]=some (.sl .mut 2 ((setV name value hs).map (Xb .mut)),[.u,.u,.u]):=Xm (0) rfl rfl (λcx h=>by
 have hl:hs.length<=9223372036854775806:=by have:=h0.1; omega
 have hE:Xlb (λx:Xd=>x.Name.size<=9223372036854775806/\name.size<=9223372036854775806) hs:=λx hx=>⟨by have:x.Name.size<=1048576:=(h0.2.1.2 x hx).1; omega,of_decide_eq_true h0.2.2⟩
 have hd:=QW hs name
 have hdl:(YM hs name).length<=1000:=Nat.le_trans hd h0.1
 have t3:((YM hs name).length+1)*32<=140737488355328:=by omega
 by_cases c:XdW (λx:Xd=>eqv (Yc x.Name) (Yc name)) hs 0<0
 ·have hs1:=Xf9 (n:=name) (v:=value) hs 0 c
  have t4:(YM hs name).map (Xb .mut)++[[.s name,.s value]]=(setV name value hs).map (Xb .mut):=by rw[hs1,List.map_append]; rfl
  simp only[go_sem,reduceIte,↓reduceIte,reduceCtorEq,nA,nS,nM,nB,nE,nL,nT,nN,iL,iT,iE,iA,iM,iS,iG,iB,iN,iZ,h,hl,hE,h0,c,t3,t4,List.length_map]
 ·obtain⟨i,hi1,hi2⟩:=Xl5 (λx:Xd=>eqv (Yc x.Name) (Yc name)) hs c
  obtain⟨hs1,hs2⟩:=Xga (n:=name) (v:=value) hs 0 i (by rw[hi2,Nat.zero_add])
  have hn:¬((i:Int)<0):=by omega
  have hk:i<=(YM hs name).length/\(YM hs name).length<=1048576:=⟨hs2,by omega⟩
  simp only[go_sem,reduceIte,↓reduceIte,reduceCtorEq,nA,nS,nM,nB,nE,nL,nT,nN,iL,iT,iE,iA,iM,iS,iG,iB,iN,iZ,h,hl,hE,h0,hi2,hn,hk]
  rw[hs1]) (by simp only[go_sem,reduceIte,↓reduceIte,reduceCtorEq,nA,nS,nM,nB,nE,nL,nT,nN,iL,iT,iE,iA,iM,iS,iG,iB,iN,iZ,ZH,XF])
def s35:SP Tryz.prog:=mkS tyA 35 Tryz.f35 [] {md:=[.ro 1],rg:=[(0,[0],[]),(1,[0,4],[]),(2,[2],[]),(3,[2],[])],rets:=some ([2],[]),nz:=true} Tryz.func35 (by kernel_rfl)
@[go_sem] def d35:s35.g=35/\s35.fs=⟨[.ro 1],s35.F,false⟩:=⟨nr rfl,nr rfl⟩
@[go_sem] def e35(xs:List Xd)(h0:smL Xg xs):s35.F [.sl .ro 2 (xs.map (Xb .ro))]=some (.sl .mut 2 (xs.map (Xb .mut)),[.u]):=Xi8 (0) rfl rfl (λcx h=>by
 have h0:=h0.1
 have h1:(xs.map (Xb .ro)).all (·.all plain)=true:=by simp[Xb,plain]
 have h2:xs.length*32<=140737488355328:=by omega
 have h3:xs.map (Xb .ro)=xs.map (Xb .mut):=rfl
 rcases Nat.eq_zero_or_pos xs.length with hp | hp
 ·obtain rfl:=List.length_eq_zero_iff.1 hp
  simp only[go_sem,reduceIte,↓reduceIte,reduceCtorEq,nA,nS,nM,nB,nE,nL,nT,nN,iL,iT,iE,iA,iM,iS,iG,iB,iN,iZ,h]
 ·simp only[go_sem,reduceIte,↓reduceIte,reduceCtorEq,nA,nS,nM,nB,nE,nL,nT,nN,iL,iT,iE,iA,iM,iS,iG,iB,iN,iZ,h,h1,h2,hp]
  rw[h3]) (by simp only[go_sem,reduceIte,↓reduceIte,reduceCtorEq,nA,nS,nM,nB,nE,nL,nT,nN,iL,iT,iE,iA,iM,iS,iG,iB,iN,iZ,ZH,XF])
def s76:SP Tryz.prog:=mkS tyA 76 Tryz.f76 [] {md:=[.ro 1],rg:=[(0,[0],[]),(1,[0,4],[]),(2,[2],[]),(3,[2],[])],rets:=some ([2],[]),nz:=true} Tryz.func76 (by kernel_rfl)
@[go_sem] def d76:s76.g=76/\s76.fs=⟨[.ro 1],s76.F,false⟩:=⟨nr rfl,nr rfl⟩
@[go_sem] def e76(xs:List UInt8)(h0:smL XeT xs):s76.F [.sl .ro 1 (xs.map Xn)]=some (.sl .mut 1 (xs.map Xn),[.u]):=Xi8 (0) rfl rfl (λcx h=>by
 have h0:=h0.1
 have h1:(xs.map Xn).all (·.all plain)=true:=by simp[Xn,plain]
 have h2:xs.length*1<=140737488355328:=by omega
 rcases Nat.eq_zero_or_pos xs.length with hp | hp
 ·obtain rfl:=List.length_eq_zero_iff.1 hp
  simp only[go_sem,reduceIte,↓reduceIte,reduceCtorEq,nA,nS,nM,nB,nE,nL,nT,nN,iL,iT,iE,iA,iM,iS,iG,iB,iN,iZ,h]
 ·simp only[go_sem,reduceIte,↓reduceIte,reduceCtorEq,nA,nS,nM,nB,nE,nL,nT,nN,iL,iT,iE,iA,iM,iS,iG,iB,iN,iZ,h,h1,h2,hp]) (by simp only[go_sem,reduceIte,↓reduceIte,reduceCtorEq,nA,nS,nM,nB,nE,nL,nT,nN,iL,iT,iE,iA,iM,iS,iG,iB,iN,iZ,ZH,XF])
@[go_sem] def XrW:s76.F [.sl .ro 1 []]=some (.sl .mut 1 [],[.u]):=e76 [] ⟨Nat.zero_le _,λx hx=>by cases hx⟩
def s36:SP Tryz.prog:=mkS tyA 36 Tryz.f36 [s76] {md:=[.mv,.ro 1],rg:=[(0,[0,1,2,4],[2,4]),(1,[0,2,4,5],[2,4]),(2,[0,2,4],[2,4]),(3,[0,2,4],[2,4]),(4,[0,4],[2,4])],rets:=some ([0,4],[2,4])} Tryz.func36 (by kernel_rfl)
@[go_sem] def d36:s36.g=36/\s36.fs=⟨[.mv,.ro 1],s36.F,false⟩:=⟨nr rfl,nr rfl⟩
@[go_sem] def e36(st:Int)(hs:List Xd)(body:List UInt8)(head:Bool)(h0:smL XeT body):s36.F [.agg [.i .i64 st,.sl .mut 2 (hs.map (Xb .mut)),.sl .ro 1 (body.map Xn)],.b head]=some (.agg [.i .i64 st,.sl .mut 2 (hs.map (Xb .mut)),.sl .mut 1 ((if head=true then[] else body).map Xn)],[.u,.u]):=Xm (0) rfl rfl (λcx h=>by
 cases head<;>simp only[go_sem,reduceIte,↓reduceIte,reduceCtorEq,nA,nS,nM,nB,nE,nL,nT,nN,iL,iT,iE,iA,iM,iS,iG,iB,iN,iZ,h,h0]) (by simp only[go_sem,reduceIte,↓reduceIte,reduceCtorEq,nA,nS,nM,nB,nE,nL,nT,nN,iL,iT,iE,iA,iM,iS,iG,iB,iN,iZ,ZH,XF])
def QO(r:Response):List Xd:=if(20:Int)<((setV ⟨#[88,45,67,97,99,104,101]⟩ ⟨#[109,105,115,115]⟩ r.Headers).length:Int) then r.Headers else setV ⟨#[88,45,67,97,99,104,101]⟩ ⟨#[109,105,115,115]⟩ r.Headers
def Xd7(r:Response)(head:Bool):XT:=if(Xu r !=0)=true then⟨Xu r,⟨0,[],[]⟩⟩ else⟨0,⟨r.Status,QO r,if head=true then[] else r.Body⟩⟩
def XgE{r:Response}(h:smL Xg r.Headers)(h2:r.Headers.length<=20):smL Xg (QO r):=by
 unfold QO
 split
 ·exact h
 ·exact⟨by have:=Xgb ⟨#[88,45,67,97,99,104,101]⟩ ⟨#[109,105,115,115]⟩ r.Headers; omega,XhN (by decide) (by decide) h.2⟩
def Zp{r:Response}(h:Xu r=0):Xa r.Headers=0:=by
 unfold Xu at h
 split at h
 ·cases h
 split at h
 ·rename_i hc; rw[h] at hc; exact absurd hc (by decide)
 ·rename_i hc; simpa using hc
def s9:SP Tryz.prog:=mkS tyA 9 Tryz.f9 [s16,s34,s35,s36] {md:=[.ro 1,.ro 1],rg:=[(0,[1,2,4,29],[2,4]),(1,[1,2,4,5,29],[2,4]),(2,[1,2,4,5,10,29],[2,4]),(3,[4,29],[4]),(4,[1,2,4,6,29],[2,4]),(5,[1,2,4,6,18,29],[2,4]),(6,[1,2,4,6,29],[2,4]),(7,[4,29],[4])],rets:=some ([4,29],[4]),fz:=[2]} Tryz.func9 (by kernel_rfl)
@[go_sem] def d9:s9.g=9/\s9.fs=⟨[.ro 1,.ro 1],s9.F,false⟩:=⟨nr rfl,nr rfl⟩
@[go_sem] def e9(w0:Int)(rHeaders:List Xd)(rBody:List UInt8)(head:Bool)(h0:Xde (Response.mk w0 rHeaders rBody)):s9.F [.agg [.i .i64 w0,.sl .ro 2 (rHeaders.map (Xb .ro)),.sl .ro 1 (rBody.map Xn)],.b head]=some (.agg (X9 .mut (Xd7 (Response.mk w0 rHeaders rBody) head)),[.u,.u]):=Xm (0) rfl rfl (λcx h=>by
 by_cases z:Xu (Response.mk w0 rHeaders rBody)=0
 rotate_left
 ·have z':(Xu (Response.mk w0 rHeaders rBody) !=0)=true:=by simpa using z
  simp only[go_sem,reduceIte,↓reduceIte,reduceCtorEq,nA,nS,nM,nB,nE,nL,nT,nN,iL,iT,iE,iA,iM,iS,iG,iB,iN,iZ,h,h0,z',Xd7]
 have h1:rHeaders.length<=1000/\smL Xg rHeaders/\okN ⟨#[88,45,67,97,99,104,101]⟩=true:=⟨Nat.le_trans (XC (Zp z)) (by decide),h0.2.1,by decide⟩
 have hh:smL Xg rHeaders:=h0.2.1
 have hb:smL XeT rBody:=h0.2.2
 have hu:QO (Response.mk w0 rHeaders rBody)=if(20:Int)<((setV ⟨#[88,45,67,97,99,104,101]⟩ ⟨#[109,105,115,115]⟩ rHeaders).length:Int) then rHeaders else setV ⟨#[88,45,67,97,99,104,101]⟩ ⟨#[109,105,115,115]⟩ rHeaders:=rfl
 by_cases c:(20:Int)<((setV ⟨#[88,45,67,97,99,104,101]⟩ ⟨#[109,105,115,115]⟩ rHeaders).length:Int)
 ·rw[if_pos c] at hu
  cases head<;>simp only[go_sem,reduceIte,↓reduceIte,reduceCtorEq,nA,nS,nM,nB,nE,nL,nT,nN,iL,iT,iE,iA,iM,iS,iG,iB,iN,iZ,h,h0,z,Xd7,h1,hh,hb,c,hu,List.length_map]
 ·rw[if_neg c] at hu
  cases head<;>simp only[go_sem,reduceIte,↓reduceIte,reduceCtorEq,nA,nS,nM,nB,nE,nL,nT,nN,iL,iT,iE,iA,iM,iS,iG,iB,iN,iZ,h,h0,z,Xd7,h1,hh,hb,c,hu,List.length_map]) (by simp only[go_sem,reduceIte,↓reduceIte,reduceCtorEq,nA,nS,nM,nB,nE,nL,nT,nN,iL,iT,iE,iA,iM,iS,iG,iB,iN,iZ,ZH,XF,XU,XO])
def s10:SP Tryz.prog:=mkS tyA 10 Tryz.f10 [s25,s37] {md:=[.ro 1],rets:=some ([2],[])} Tryz.func10 (by kernel_rfl)
@[go_sem] def d10:s10.g=10/\s10.fs=⟨[.ro 1],s10.F,false⟩:=⟨nr rfl,nr rfl⟩
@[go_sem] def e10(code:List UInt8):s10.F [.sl .ro 1 (code.map Xn)]=some (.i .i64 (XZ code 0 [400,414,502,503,504,599,399,600]),[.u]):=Xm (0) rfl rfl (λcx h=>by
 have f0:aOk 0=true:=rfl
 simp only[go_sem,reduceIte,↓reduceIte,reduceCtorEq,nA,nS,nM,nB,nE,nL,nT,nN,iL,iT,iE,iA,iM,iS,iG,iB,iN,iZ,h,f0]) (rfl)
def Xn0:SP Tryz.prog:=mkS tyA 126 Tryz.f126 [] {md:=[.ro 1],rets:=some ([2],[])} Tryz.func126 (by kernel_rfl)
@[go_sem] def XE4:Xn0.g=126/\Xn0.fs=⟨[.ro 1],Xn0.F,false⟩:=⟨nr rfl,nr rfl⟩
@[go_sem] def XE5(c:UInt8):Xn0.F [.i .u8 c.toNat]=some (.b (ZM c),[.u]):=Xm (0) rfl rfl (λcx h=>by
 by_cases h1:97<=(c.toNat:Int)<;>by_cases h2:(c.toNat:Int)<=122<;>by_cases h3:65<=(c.toNat:Int)<;>by_cases h4:(c.toNat:Int)<=90<;>simp only[go_sem,reduceIte,↓reduceIte,reduceCtorEq,nA,nS,nM,nB,nE,nL,nT,nN,iL,iT,iE,iA,iM,iS,iG,iB,iN,iZ,h,h1,h2,h3,h4,ZM]) (rfl)
def Xn1:SP Tryz.prog:=mkS tyA 127 Tryz.f127 [] {md:=[.ro 1],rets:=some ([2],[])} Tryz.func127 (by kernel_rfl)
@[go_sem] def XE6:Xn1.g=127/\Xn1.fs=⟨[.ro 1],Xn1.F,false⟩:=⟨nr rfl,nr rfl⟩
@[go_sem] def XE7(c:UInt8):Xn1.F [.i .u8 c.toNat]=some (.b (Z6 c),[.u]):=Xm (0) rfl rfl (λcx h=>by
 by_cases h1:48<=(c.toNat:Int)<;>by_cases h2:(c.toNat:Int)<=57<;>simp only[go_sem,reduceIte,↓reduceIte,reduceCtorEq,nA,nS,nM,nB,nE,nL,nT,nN,iL,iT,iE,iA,iM,iS,iG,iB,iN,iZ,h,h1,h2,Z6]) (rfl)
def wx:(1:Int)=1:=rfl
def Xn2:SP Tryz.prog:=mkS tyA 164 Tryz.f164 [Xn0,Xn1] {md:=[.ro 1],rg:=[(0,[0],[]),(1,[0,3],[]),(2,[0,3,4],[]),(3,[0,3,4],[]),(4,[0,3,4],[]),(5,[0,3,4],[]),(6,[0,3,4],[]),(7,[0,3,4],[]),(8,[0,3,4],[]),(9,[0,3,4],[]),(10,[0,3,4],[]),(11,[0,3,4],[]),(12,[0,3,4],[]),(13,[0,3,4],[]),(14,[0,3,4],[]),(15,[0,4],[]),(16,[2],[]),(17,[2],[])],rets:=some ([2],[])} Tryz.func164 (by kernel_rfl)
@[go_sem] def XE8:Xn2.g=164/\Xn2.fs=⟨[.ro 1],Xn2.F,false⟩:=⟨nr rfl,nr rfl⟩
@[go_sem] def XE9(c:UInt8):Xn2.F [.i .u8 c.toNat]=some (.b (Q7 c),[.u]):=Xm (0) rfl rfl (λcx h=>by
 by_cases m:c∈XgB
 ·have hw:=XhC m
  simp only[XgB,List.mem_cons,List.not_mem_nil,or_false] at m
  have u33:(((33:UInt8).toNat:Nat):Int)=33:=rfl
  have u35:(((35:UInt8).toNat:Nat):Int)=35:=rfl
  have u36:(((36:UInt8).toNat:Nat):Int)=36:=rfl
  have u37:(((37:UInt8).toNat:Nat):Int)=37:=rfl
  have u38:(((38:UInt8).toNat:Nat):Int)=38:=rfl
  have u39:(((39:UInt8).toNat:Nat):Int)=39:=rfl
  have u42:(((42:UInt8).toNat:Nat):Int)=42:=rfl
  have u43:(((43:UInt8).toNat:Nat):Int)=43:=rfl
  have u45:(((45:UInt8).toNat:Nat):Int)=45:=rfl
  have u46:(((46:UInt8).toNat:Nat):Int)=46:=rfl
  have u94:(((94:UInt8).toNat:Nat):Int)=94:=rfl
  have u95:(((95:UInt8).toNat:Nat):Int)=95:=rfl
  have u124:(((124:UInt8).toNat:Nat):Int)=124:=rfl
  have u126:(((126:UInt8).toNat:Nat):Int)=126:=rfl
  rcases m with rfl | rfl | rfl | rfl | rfl | rfl | rfl | rfl | rfl | rfl | rfl | rfl | rfl | rfl<;>simp only[go_sem,reduceIte,↓reduceIte,reduceCtorEq,nA,nS,nM,nB,nE,nL,nT,nN,iL,iT,iE,iA,iM,iS,iG,iB,iN,iZ,h,hw,wx,u33,u35,u36,u37,u38,u39,u42,u43,u45,u46,u94,u95,u124,u126]
 ·have hw:=XhD m
  have q33:((c.toNat:Int)==33)=false:=Xbr (v:=33) (λe=>m (by subst e; decide))
  have q35:((c.toNat:Int)==35)=false:=Xbr (v:=35) (λe=>m (by subst e; decide))
  have q36:((c.toNat:Int)==36)=false:=Xbr (v:=36) (λe=>m (by subst e; decide))
  have q37:((c.toNat:Int)==37)=false:=Xbr (v:=37) (λe=>m (by subst e; decide))
  have q38:((c.toNat:Int)==38)=false:=Xbr (v:=38) (λe=>m (by subst e; decide))
  have q39:((c.toNat:Int)==39)=false:=Xbr (v:=39) (λe=>m (by subst e; decide))
  have q42:((c.toNat:Int)==42)=false:=Xbr (v:=42) (λe=>m (by subst e; decide))
  have q43:((c.toNat:Int)==43)=false:=Xbr (v:=43) (λe=>m (by subst e; decide))
  have q45:((c.toNat:Int)==45)=false:=Xbr (v:=45) (λe=>m (by subst e; decide))
  have q46:((c.toNat:Int)==46)=false:=Xbr (v:=46) (λe=>m (by subst e; decide))
  have q94:((c.toNat:Int)==94)=false:=Xbr (v:=94) (λe=>m (by subst e; decide))
  have q95:((c.toNat:Int)==95)=false:=Xbr (v:=95) (λe=>m (by subst e; decide))
  have q124:((c.toNat:Int)==124)=false:=Xbr (v:=124) (λe=>m (by subst e; decide))
  have q126:((c.toNat:Int)==126)=false:=Xbr (v:=126) (λe=>m (by subst e; decide))
  cases h1:ZM c<;>cases h2:Z6 c<;>simp only[go_sem,reduceIte,↓reduceIte,reduceCtorEq,nA,nS,nM,nB,nE,nL,nT,nN,iL,iT,iE,iA,iM,iS,iG,iB,iN,iZ,h,hw,h1,h2,q33,q35,q36,q37,q38,q39,q42,q43,q45,q46,q94,q95,q124,q126]) (rfl)
def Xoz:SP Tryz.prog:=mkS tyA 132 Tryz.f132 [Xn2] {md:=[.ro 1],rg:=[(0,[0],[]),(1,[0,11],[]),(2,[2],[]),(3,[0,3],[]),(4,[0,3,15],[]),(5,[0,3],[]),(6,[0,3,22],[]),(7,[2],[]),(8,[2],[])],lv:=[(0,[0,3],[])],out:=[(0,[],[])],rets:=some ([2],[])} Tryz.func132 (by kernel_rfl)
@[go_sem] def XFa:Xoz.g=132/\Xoz.fs=⟨[.ro 1],Xoz.F,false⟩:=⟨nr rfl,nr rfl⟩
@[go_sem] def XFb(t:ByteArray):Xoz.F [.s t]=some (.b (ZJ t),[.u]):=Xm (t.data.toList.length+1) rfl rfl (λcx h=>by
 have hu:ZJ t=Xch Q7 1 64 t:=rfl
 by_cases h1:(t.size:Int)<1
 ·simp only[go_sem,reduceIte,↓reduceIte,reduceCtorEq,nA,nS,nM,nB,nE,nL,nT,nN,iL,iT,iE,iA,iM,iS,iG,iB,iN,iZ,h,h1,hu,Zu h1]
 by_cases h2:64<(t.size:Int)
 ·simp only[go_sem,reduceIte,↓reduceIte,reduceCtorEq,nA,nS,nM,nB,nE,nL,nT,nN,iL,iT,iE,iA,iM,iS,iG,iB,iN,iZ,h,h1,h2,hu,ZV h2]
 have hx:t.data.toList.length<=9223372036854775806:=by rw[<-Xi]; omega
 have ha:=Qc (p:=Q7) h1 h2
 rw[Xi t] at h1 h2
 ·have hb0:=XR Tryz.f132 0 _ _ rfl rfl
  obtain⟨r,hr,hq⟩:=YL (cx:=cx) (blk:=0) (body:=Zt Tryz.f132 0) t.data.toList (λk (s:Unit)=>⟨E [(0,.s t),(3,.i .i64 k)],B []⟩) (λs=>⟨E [],B []⟩) (λx s=>!Q7 x) (λx s=>()) (λx s=>(.ret,⟨E [(2,.b false)],B []⟩)) (λk s=>True)
    (λs hI G=>by simp only[go_sem,reduceIte,↓reduceIte,reduceCtorEq,nA,nS,nM,nB,nE,nL,nT,nN,iL,iT,iE,iA,iM,iS,iG,iB,iN,iZ,h,Int.lt_irrefl,hb0,Xi t]) (λk hk s hI=>by
     have h1:((k:Int)<(t.data.toList.length:Int)):=Int.ofNat_lt.2 hk
     have hz:=Xal t k hk
     exact⟨_,_,_,λG=>by simp only[go_sem,reduceIte,↓reduceIte,reduceCtorEq,nA,nS,nM,nB,nE,nL,nT,nN,iL,iT,iE,iA,iM,iS,iG,iB,iN,iZ,h,hz,Xi t,h1,Yb _ _ hk,XD (show k<9223372036854775807 by omega),hb0]<;>with_reducible rfl,Iff.rfl,λhc=>⟨trivial,by simp only[go_sem,reduceIte,↓reduceIte,reduceCtorEq,nA,nS,nM,nB,nE,nL,nT,nN,iL,iT,iE,iA,iM,iS,iG,iB,iN,iZ,h,Xi t]⟩⟩) () trivial (t.data.toList.length+1) (Nat.le_refl _)
  rw[hb0] at hr
  rcases hq with⟨s',e1,_,e3⟩ | ⟨x,s',e1,e3⟩
  ·simp only[go_sem,reduceIte,↓reduceIte,reduceCtorEq,nA,nS,nM,nB,nE,nL,nT,nN,iL,iT,iE,iA,iM,iS,iG,iB,iN,iZ,h,h1,h2,Xi t,hr,e3,hu,ha,ZT e1]
  ·simp only[go_sem,reduceIte,↓reduceIte,reduceCtorEq,nA,nS,nM,nB,nE,nL,nT,nN,iL,iT,iE,iA,iM,iS,iG,iB,iN,iZ,h,h1,h2,Xi t,hr,e3,hu,ha,Zi e1]) (rfl)
end
end Go.Vm.A
