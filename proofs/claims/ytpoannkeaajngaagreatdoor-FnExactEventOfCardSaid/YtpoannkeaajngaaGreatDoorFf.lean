/- Functions of the program, walked by the evaluator. -/
import Derived.Test.YtpoannkeaajngaaGreatDoorWb
import Derived.Test.YtpoannkeaajngaaGreatDoorWa
import Derived.Test.YtpoannkeaajngaaGreatDoorFa
import Derived.Test.YtpoannkeaajngaaGreatDoorFb
import Derived.Test.YtpoannkeaajngaaGreatDoorFc
import Derived.Test.YtpoannkeaajngaaGreatDoorFe
set_option linter.unusedVariables false
set_option linter.unusedSimpArgs false
set_option autoImplicit false
set_option maxRecDepth 100000
set_option maxHeartbeats 4000000
set_option linter.defProp false
namespace Go.Vm.A
open Go.Proofs
open Nat renaming reduceAdd -> nA, reduceSub -> nS, reduceMul -> nM, reduceBEq -> nB, reduceEqDiff -> nE, reduceLeDiff -> nL, reduceLT -> nT, reduceBneDiff -> nN
open Int renaming reduceLE -> iL, reduceLT -> iT, reduceEq -> iE, reduceAdd -> iA, reduceMul -> iM, reduceSub -> iS, reduceNeg -> iG, reduceBEq -> iB, reduceBNe -> iN, reduceToNat -> iZ
noncomputable section
def XeI{f:ByteArray->ByteArray}(hf:∀x,(f x).size<=x.size){ws:List ByteArray}(h:smL Zy ws):smL Ye (UR f ws):=by
 unfold UR
 split
 ·refine⟨by rw[List.length_map]; exact h.1,λy hy=>?_⟩
  obtain⟨w,hw,rfl⟩:=List.mem_map.1 hy
  have h1:w.size<=1048576:=h.2 w hw
  have h2:=XdR w
  have h3:=hf (QZ w)
  exact⟨show(XdN w).size<=1048576 by omega,show(f (QZ w)).size<=1048576 by omega⟩
 ·exact⟨Nat.zero_le _,λx hx=>by cases hx⟩
def US:Qq ⟨⟨#[]⟩,⟨#[]⟩,⟨#[]⟩,[]⟩:=⟨Nat.zero_le _,Nat.zero_le _,Nat.zero_le _,Nat.zero_le _,λx hx=>by cases hx⟩
def UT:ZR ⟨0,[],[]⟩:=⟨trivial,⟨Nat.zero_le _,λx hx=>by cases hx⟩,Nat.zero_le _,λx hx=>by cases hx⟩
def XfT(a b:UInt8)(x:ByteArray):(UN a b x).size=x.size:=by
 rw[Xe,Xe x]
 show(List.map _ x.data.toList).toArray.toList.length=_
 rw[List.toList_toArray,List.length_map]
def Xhn(e:Event):Prop:=Qq e.Request/\ZR e.Response
def ZI{c:Prop}[Decidable c]{x y:Option Event}(h1:∀e,x=some e->Xhn e)(h2:∀e,y=some e->Xhn e):∀e,(if c then x else y)=some e->Xhn e:=by
 intro e h; split at h
 ·exact h1 e h
 ·exact h2 e h
def Y8:∀e,(none:Option Event)=some e->Xhn e:=λe h=>by cases h
def Q5{x:Event}(hx:Xhn x):∀e,some x=some e->Xhn e:=λe h=>by injection h with h; subst h; exact hx
def Qf{α:Type}{p:α->Prop}{x:α}{r:List α}(h:smL p (x :: r)):smL p r:=⟨by have:=h.1; simp only[List.length_cons] at this; omega,λy hy=>h.2 y (List.mem_cons_of_mem _ hy)⟩
def XpN{ws:List ByteArray}(h:smL Zy ws):∀e,XfP ws=some e->Xhn e:=by
 rcases ws with _ | ⟨a,_ | ⟨b,_ | ⟨m,_ | ⟨q,_ | ⟨p,r⟩⟩⟩⟩⟩
 iterate 5 exact Y8
 refine ZI (Q5 ⟨⟨h.2 m (by simp),h.2 q (by simp),h.2 p (by simp),XeI (λx=>Nat.le_refl _) (Qf (Qf (Qf (Qf (Qf h)))))⟩,UT⟩) Y8
def Xkz{ws:List ByteArray}(h:smL Zy ws):∀e,Q4 ws=some e->Xhn e:=by
 rcases ws with _ | ⟨a,_ | ⟨b,_ | ⟨m,r⟩⟩⟩
 iterate 3 exact Y8
 refine ZI (Q5 ⟨US,trivial,XeI (λx=>Nat.le_of_eq (XfT 43 32 x)) (Qf (Qf (Qf h))),?_⟩) Y8
 show smL Xj1 (if eqv m ⟨#[45]⟩=true then[] else m.data.toList)
 split
 ·exact⟨Nat.zero_le _,λx hx=>by cases hx⟩
 ·have hm:m.size<=1048576:=h.2 m (by simp)
  exact⟨by rw[<-Xe]; exact hm,λ_ _=>trivial⟩
def Xiv(k:Int)(t:ByteArray)(h:Bool):Xhn (pEv k t h):=⟨US,UT⟩
def XgP(h:Bool)(ws:List ByteArray):∀e,ZV h ws=some e->Xhn e:=by
 rcases ws with _ | ⟨a,_ | ⟨b,r⟩⟩
 ·exact Y8
 ·exact ZI (Q5 (Xiv _ _ _)) Y8
 ·rw[Xde]
  exact ZI (Q5 (Xiv _ _ _)) (ZI (Q5 (Xiv _ _ _)) Y8)
def Xiw(k:Int)(ws:List ByteArray):∀e,UO k ws=some e->Xhn e:=by
 rcases ws with _ | ⟨a,_ | ⟨b,r⟩⟩
 ·exact Y8
 ·exact ZI (Q5 ⟨US,UT⟩) Y8
 ·exact Y8
def XrJ{ws:List ByteArray}(h:smL Zy ws):∀e,Yt ws=some e->Xhn e:=by
 rcases ws with _ | ⟨w,r⟩
 ·exact Y8
 exact ZI (XpN (Qf h)) (ZI (Xkz (Qf h)) (ZI (XgP _ _) (ZI (XgP _ _) (ZI (Xiw _ _) (ZI (Xiw _ _) Y8)))))
def XfU{ws:List ByteArray}(h:smL Zy ws):Xhn (Zw (Yt ws)):=by
 cases he:Yt ws with
 | none=>exact⟨US,UT⟩
 | some e=>exact XrJ h e he
def XaL(t:ByteArray):Xy:=if(3000:Int)<(t.size:Int) then⟨2,XG⟩ else if(Yt (Y7 t)).isSome=false then⟨5,XG⟩ else if(Yf (Zw (Yt (Y7 t))) !=0)=true then⟨Yf (Zw (Yt (Y7 t))),XG⟩ else⟨0,Zw (Yt (Y7 t))⟩
def Xb5:Xev XG:=⟨trivial,trivial,trivial,US,UT,Nat.zero_le _,trivial⟩
def XkA{e:Event}(h:Yf e=0):e.Text.size<=1048576:=by
 unfold Yf at h
 rw[Xh,Xh,Xh,Xh,Xx] at h
 by_cases ht:500<(e.Text.size:Int)
 ·rw[decide_eq_true ht] at h
  simp at h
  repeat' split at h
  all_goals simp_all
 ·omega
def Xix(t:ByteArray):UF (XaL t):=by
 unfold XaL
 split
 ·exact⟨trivial,Xb5⟩
 split
 ·exact⟨trivial,Xb5⟩
 split
 ·exact⟨trivial,Xb5⟩
 ·rename_i h1 _ h3
  have hw:smL Zy (Y7 t):=Xb4 (by omega)
  obtain⟨h4,h5⟩:=XfU hw
  exact⟨trivial,trivial,trivial,trivial,h4,h5,XkA (by simpa using h3),trivial⟩
def s20:SP Tryz.prog:=mkS tyA 20 Tryz.f20 [s54,s55,s56] {md:=[.ro 1],rg:=[(0,[0,2,25],[2,3]),(1,[0,2,8,25],[2,3]),(2,[2,25],[2,3]),(3,[2,3,4,25],[2,3]),(4,[2,3,17,25],[2,3]),(5,[2,25],[2,3]),(6,[2,3,5,25],[2,3]),(7,[2,3,5,22,25],[2,3]),(8,[2,25],[2,3]),(9,[2,25],[2,3])],rets:=some ([2,25],[2,3]),al:=[10]} Tryz.func20 (by kernel_rfl)
@[go_sem] def d20:s20.g=20/\s20.fs=⟨[.ro 1],s20.F,false⟩:=⟨nr rfl,nr rfl⟩
@[go_sem] def e20(t:ByteArray):s20.F [.s t]=some (.agg (YJ .mut (XaL t)),[.u]):=Xj (0) rfl rfl (λcx h=>by
 by_cases c:(3000:Int)<(t.size:Int)
 ·simp only[go_sem,reduceIte,↓reduceIte,reduceCtorEq,nA,nS,nM,nB,nE,nL,nT,nN,iL,iT,iE,iA,iM,iS,iG,iB,iN,iZ,h,c,XaL,XG]
 have h1:t.size<=1048576:=by omega
 have h2:t.size<=1048575:=by omega
 have hw:smL Zy (Y7 t):=Xb4 (by omega)
 have hk:=XfU hw
 have hu:XaL t=if(3000:Int)<(t.size:Int) then⟨2,XG⟩ else if(Yt (Y7 t)).isSome=false then⟨5,XG⟩ else if(Yf (Zw (Yt (Y7 t))) !=0)=true then⟨Yf (Zw (Yt (Y7 t))),XG⟩ else⟨0,Zw (Yt (Y7 t))⟩:=rfl
 have hs:=XpD (Y7 t)
 obtain⟨S,hS⟩:∃S,evS (Y7 t)=S:=⟨_,rfl⟩
 obtain⟨B,hB⟩:∃B,Yt (Y7 t)=B:=⟨_,rfl⟩
 rw[hS,hB] at hs
 rw[hB] at hu hk
 obtain⟨e,b⟩:=S
 simp only at hs
 obtain⟨hs1,hs2⟩:=hs
 cases d:b
 ·rw[d] at hs1
  obtain⟨e0,e1,e2,e3,e4,e5,e6⟩:=e
  simp only[go_sem,reduceIte,↓reduceIte,reduceCtorEq,nA,nS,nM,nB,nE,nL,nT,nN,iL,iT,iE,iA,iM,iS,iG,iB,iN,iZ,h,c,h1,h2,hw,hS,d,hu,hs1.symm,XG]
 rw[d] at hs1
 have hs3:=hs2 d
 rw[<-hs3] at hu hk
 obtain⟨eKind,eId,eDraw,⟨eRequestMethod,eRequestHost,eRequestPath,eRequestHeaders⟩,⟨eResponseStatus,eResponseHeaders,eResponseBody⟩,eText,eHard⟩:=e
 obtain⟨k1,k2⟩:=hk
 have hH:smL Ye eRequestHeaders:=k1.2.2.2
 by_cases z:Yf (Event.mk eKind eId eDraw (Request.mk eRequestMethod eRequestHost eRequestPath eRequestHeaders) (Response.mk eResponseStatus eResponseHeaders eResponseBody) eText eHard)=0
 ·simp only[go_sem,reduceIte,↓reduceIte,reduceCtorEq,nA,nS,nM,nB,nE,nL,nT,nN,iL,iT,iE,iA,iM,iS,iG,iB,iN,iZ,h,c,h1,h2,hw,hS,d,hs1.symm,hu,hH,k1,k2,z]
 ·have z':(Yf (Event.mk eKind eId eDraw (Request.mk eRequestMethod eRequestHost eRequestPath eRequestHeaders) (Response.mk eResponseStatus eResponseHeaders eResponseBody) eText eHard) !=0)=true:=by simpa using z
  simp only[go_sem,reduceIte,↓reduceIte,reduceCtorEq,nA,nS,nM,nB,nE,nL,nT,nN,iL,iT,iE,iA,iM,iS,iG,iB,iN,iZ,h,c,h1,h2,hw,hS,d,hs1.symm,hu,hH,k1,k2,z',XG]) (by simp only[go_sem,reduceIte,↓reduceIte,reduceCtorEq,nA,nS,nM,nB,nE,nL,nT,nN,iL,iT,iE,iA,iM,iS,iG,iB,iN,iZ,ZS,XJ,XU,XQ])
def XoV:SP Tryz.prog:=mkS tyA 141 Tryz.f141 [] {md:=[.ro 1],rets:=some ([2],[])} Tryz.func141 (by kernel_rfl)
@[go_sem] def XGv:XoV.g=141/\XoV.fs=⟨[.ro 1],XoV.F,false⟩:=⟨nr rfl,nr rfl⟩
@[go_sem] def XGw(c:UInt8):XoV.F [.i .u8 c.toNat]=some (.b (Z5 c),[.u]):=Xj (0) rfl rfl (λcx h=>by
 by_cases h1:97<=(c.toNat:Int)<;>by_cases h2:(c.toNat:Int)<=122<;>by_cases h3:65<=(c.toNat:Int)<;>by_cases h4:(c.toNat:Int)<=90<;>simp only[go_sem,reduceIte,↓reduceIte,reduceCtorEq,nA,nS,nM,nB,nE,nL,nT,nN,iL,iT,iE,iA,iM,iS,iG,iB,iN,iZ,h,h1,h2,h3,h4,Z5]) (rfl)
def Xmi:SP Tryz.prog:=mkS tyA 142 Tryz.f142 [] {md:=[.ro 1],rets:=some ([2],[])} Tryz.func142 (by kernel_rfl)
@[go_sem] def XGx:Xmi.g=142/\Xmi.fs=⟨[.ro 1],Xmi.F,false⟩:=⟨nr rfl,nr rfl⟩
@[go_sem] def XGy(c:UInt8):Xmi.F [.i .u8 c.toNat]=some (.b (Zv c),[.u]):=Xj (0) rfl rfl (λcx h=>by
 by_cases h1:48<=(c.toNat:Int)<;>by_cases h2:(c.toNat:Int)<=57<;>simp only[go_sem,reduceIte,↓reduceIte,reduceCtorEq,nA,nS,nM,nB,nE,nL,nT,nN,iL,iT,iE,iA,iM,iS,iG,iB,iN,iZ,h,h1,h2,Zv]) (rfl)
def XpO:SP Tryz.prog:=⟨194,⟨[.ro 1,.ro 1],XrD,false⟩,Xq2 Tryz.func194 (by kernel_rfl) (by kernel_rfl) (by kernel_rfl) (by kernel_rfl)⟩
@[go_sem] def XGz:XpO.g=194/\XpO.fs=⟨[.ro 1,.ro 1],XpO.F,false⟩:=⟨nr rfl,nr rfl⟩
@[go_sem] def XGA(s:ByteArray)(c:UInt8):XpO.F [.s s,.i .u8 c.toNat]=some (.i .i64 (ixB s c),[.u,.u]):=by
 show XrD [.s s,.i .u8 c.toNat]=_
 rw[Xox,Xpv]
 rfl
def XpP:SP Tryz.prog:=mkS tyA 178 Tryz.f178 [XpO] {md:=[.ro 1,.ro 1],rets:=some ([4],[])} Tryz.func178 (by kernel_rfl)
@[go_sem] def XGB:XpP.g=178/\XpP.fs=⟨[.ro 1,.ro 1],XpP.F,false⟩:=⟨nr rfl,nr rfl⟩
@[go_sem] def XGC(s:ByteArray)(c:UInt8):XpP.F [.s s,.i .u8 c.toNat]=some (.i .i64 (ixB s c),[.u,.u]):=Xj (0) rfl rfl (λcx h=>by
 simp only[go_sem,reduceIte,↓reduceIte,reduceCtorEq,nA,nS,nM,nB,nE,nL,nT,nN,iL,iT,iE,iA,iM,iS,iG,iB,iN,iZ,h]) (rfl)
def XoW:SP Tryz.prog:=mkS tyA 143 Tryz.f143 [XpP] {md:=[.ro 1,.ro 1],rets:=some ([4],[])} Tryz.func143 (by kernel_rfl)
@[go_sem] def XGD:XoW.g=143/\XoW.fs=⟨[.ro 1,.ro 1],XoW.F,false⟩:=⟨nr rfl,nr rfl⟩
@[go_sem] def XGE(s:ByteArray)(c:UInt8):XoW.F [.s s,.i .u8 c.toNat]=some (.i .i64 (ixB s c),[.u,.u]):=Xj (0) rfl rfl (λcx h=>by
 simp only[go_sem,reduceIte,↓reduceIte,reduceCtorEq,nA,nS,nM,nB,nE,nL,nT,nN,iL,iT,iE,iA,iM,iS,iG,iB,iN,iZ,h]) (rfl)
def XmX:SP Tryz.prog:=mkS tyA 137 Tryz.f137 [XoV,Xmi,XoW] {md:=[.ro 1],rets:=some ([2],[])} Tryz.func137 (by kernel_rfl)
@[go_sem] def XGF:XmX.g=137/\XmX.fs=⟨[.ro 1],XmX.F,false⟩:=⟨nr rfl,nr rfl⟩
@[go_sem] def XGG(c:UInt8):XmX.F [.i .u8 c.toNat]=some (.b (Uf c),[.u]):=Xj (0) rfl rfl (λcx h=>by
 have hix:=XmS c
 have hu:Uf c=(Z5 c||Zv c||Xhj.contains c):=rfl
 cases h1:Z5 c<;>cases h2:Zv c<;>cases h3:Xhj.contains c<;>simp only[go_sem,reduceIte,↓reduceIte,reduceCtorEq,nA,nS,nM,nB,nE,nL,nT,nN,iL,iT,iE,iA,iM,iS,iG,iB,iN,iZ,h,h1,h2,h3,hu,hix]) (rfl)
def XoX:SP Tryz.prog:=mkS tyA 168 Tryz.f168 [] {md:=[.ro 1],rets:=some ([2],[])} Tryz.func168 (by kernel_rfl)
@[go_sem] def XGH:XoX.g=168/\XoX.fs=⟨[.ro 1],XoX.F,false⟩:=⟨nr rfl,nr rfl⟩
@[go_sem] def XGI(c:UInt8):XoX.F [.i .u8 c.toNat]=some (.b (Xan c),[.u]):=Xj (0) rfl rfl (λcx h=>by
 cases h1:((c.toNat:Int)==9)<;>by_cases h2:32<=(c.toNat:Int)<;>by_cases h3:(c.toNat:Int)<=126<;>simp only[go_sem,reduceIte,↓reduceIte,reduceCtorEq,nA,nS,nM,nB,nE,nL,nT,nN,iL,iT,iE,iA,iM,iS,iG,iB,iN,iZ,h,h1,h2,h3,Xan]) (rfl)
def s89:SP Tryz.prog:=mkS tyA 89 Tryz.f89 [XoV,Xmi] {md:=[.ro 1],rets:=some ([2],[])} Tryz.func89 (by kernel_rfl)
@[go_sem] def d89:s89.g=89/\s89.fs=⟨[.ro 1],s89.F,false⟩:=⟨nr rfl,nr rfl⟩
@[go_sem] def e89(c:UInt8):s89.F [.i .u8 c.toNat]=some (.b (XbJ c),[.u]):=Xj (0) rfl rfl (λcx h=>by
 cases h1:Z5 c<;>cases h2:Zv c<;>cases h3:((c.toNat:Int)==46)<;>cases h4:((c.toNat:Int)==45)<;>simp only[go_sem,reduceIte,↓reduceIte,reduceCtorEq,nA,nS,nM,nB,nE,nL,nT,nN,iL,iT,iE,iA,iM,iS,iG,iB,iN,iZ,h,h1,h2,h3,h4,XbJ]) (rfl)
def s90:SP Tryz.prog:=mkS tyA 90 Tryz.f90 [XmX,XoW] {md:=[.ro 1],rets:=some ([2],[])} Tryz.func90 (by kernel_rfl)
@[go_sem] def d90:s90.g=90/\s90.fs=⟨[.ro 1],s90.F,false⟩:=⟨nr rfl,nr rfl⟩
@[go_sem] def e90(c:UInt8):s90.F [.i .u8 c.toNat]=some (.b (Xam c),[.u]):=Xj (0) rfl rfl (λcx h=>by
 have hix:=Xkk c
 have hu:Xam c=(Uf c||XbZ.contains c):=rfl
 cases h1:Uf c<;>cases h3:XbZ.contains c<;>simp only[go_sem,reduceIte,↓reduceIte,reduceCtorEq,nA,nS,nM,nB,nE,nL,nT,nN,iL,iT,iE,iA,iM,iS,iG,iB,iN,iZ,h,h1,h3,hu,hix]) (rfl)
def s88:SP Tryz.prog:=mkS tyA 88 Tryz.f88 [s89,s90,XmX,Xmi,XoX] {md:=[.ro 1,.ro 1,.ro 1,.ro 1],rg:=[(0,[0,1,2,3],[]),(1,[0,3,19],[]),(2,[8],[]),(3,[0,3,21,22],[]),(4,[0,3,21,22,23],[]),(5,[0,3,9,21,22],[]),(6,[0,3,21,22,30],[]),(7,[8],[]),(8,[0,3,21,22],[]),(9,[8],[])],lv:=[(0,[0,3,21,22],[])],out:=[(0,[],[])],rets:=some ([8],[])} Tryz.func88 (by kernel_rfl)
@[go_sem] def d88:s88.g=88/\s88.fs=⟨[.ro 1,.ro 1,.ro 1,.ro 1],s88.F,false⟩:=⟨nr rfl,nr rfl⟩
@[go_sem] def XrK(t:ByteArray)(lo hi:Int)(hb:hi<=1000000):s88.F [.s t,.i .i64 lo,.i .i64 hi,.fn 137 []]=some (.b (Xa7 Uf lo hi t),[.u,.u,.u,.u]):=Xj (t.data.toList.length+1) rfl rfl (λcx h=>by
 by_cases h1:(t.size:Int)<lo
 ·simp only[go_sem,reduceIte,↓reduceIte,reduceCtorEq,nA,nS,nM,nB,nE,nL,nT,nN,iL,iT,iE,iA,iM,iS,iG,iB,iN,iZ,h,h1,Y9 h1]
 by_cases h2:hi<(t.size:Int)
 ·simp only[go_sem,reduceIte,↓reduceIte,reduceCtorEq,nA,nS,nM,nB,nE,nL,nT,nN,iL,iT,iE,iA,iM,iS,iG,iB,iN,iZ,h,h1,h2,Zz h2]
 have hx:t.data.toList.length<=9223372036854775806:=by rw[<-Xe]; omega
 have ha:=Qd (p:=Uf) h1 h2
 rw[Xe t] at h1 h2
 ·have hb0:=XF Tryz.f88 0 _ _ rfl rfl
  obtain⟨r,hr,hq⟩:=Yz (cx:=cx) (blk:=0) (body:=YN Tryz.f88 0) t.data.toList (λk (s:Unit)=>⟨E [(0,.s t),(3,.fn 137 []),(21,.i .i64 t.size),(22,.i .i64 k)],B []⟩) (λs=>⟨E [],B []⟩) (λx s=>!Uf x) (λx s=>()) (λx s=>(.ret,⟨E [(8,.b false)],B []⟩)) (λk s=>True)
    (λs hI G=>by simp only[go_sem,reduceIte,↓reduceIte,reduceCtorEq,nA,nS,nM,nB,nE,nL,nT,nN,iL,iT,iE,iA,iM,iS,iG,iB,iN,iZ,h,Int.lt_irrefl,hb0,Xe t]) (λk hk s hI=>by
     have h1:((k:Int)<(t.data.toList.length:Int)):=Int.ofNat_lt.2 hk
     have hz:=UH t k hk
     exact⟨_,_,_,λG=>by simp only[go_sem,reduceIte,↓reduceIte,reduceCtorEq,nA,nS,nM,nB,nE,nL,nT,nN,iL,iT,iE,iA,iM,iS,iG,iB,iN,iZ,h,hz,Xe t,h1,Xt _ _ hk,Xm (show k<9223372036854775807 by omega),hb0]<;>with_reducible rfl,Iff.rfl,λhc=>⟨trivial,by simp only[go_sem,reduceIte,↓reduceIte,reduceCtorEq,nA,nS,nM,nB,nE,nL,nT,nN,iL,iT,iE,iA,iM,iS,iG,iB,iN,iZ,h,Xe t]⟩⟩) () trivial (t.data.toList.length+1) (Nat.le_refl _)
  rw[hb0] at hr
  rcases hq with⟨s',e1,_,e3⟩ | ⟨x,s',e1,e3⟩
  ·simp only[go_sem,reduceIte,↓reduceIte,reduceCtorEq,nA,nS,nM,nB,nE,nL,nT,nN,iL,iT,iE,iA,iM,iS,iG,iB,iN,iZ,h,h1,h2,Xe t,hr,e3,ha,Qe e1]
  ·simp only[go_sem,reduceIte,↓reduceIte,reduceCtorEq,nA,nS,nM,nB,nE,nL,nT,nN,iL,iT,iE,iA,iM,iS,iG,iB,iN,iZ,h,h1,h2,Xe t,hr,e3,ha,ZA e1]) (rfl)
@[go_sem] def XrL(t:ByteArray)(lo hi:Int)(hb:hi<=1000000):s88.F [.s t,.i .i64 lo,.i .i64 hi,.fn 168 []]=some (.b (Xa7 Xan lo hi t),[.u,.u,.u,.u]):=Xj (t.data.toList.length+1) rfl rfl (λcx h=>by
 by_cases h1:(t.size:Int)<lo
 ·simp only[go_sem,reduceIte,↓reduceIte,reduceCtorEq,nA,nS,nM,nB,nE,nL,nT,nN,iL,iT,iE,iA,iM,iS,iG,iB,iN,iZ,h,h1,Y9 h1]
 by_cases h2:hi<(t.size:Int)
 ·simp only[go_sem,reduceIte,↓reduceIte,reduceCtorEq,nA,nS,nM,nB,nE,nL,nT,nN,iL,iT,iE,iA,iM,iS,iG,iB,iN,iZ,h,h1,h2,Zz h2]
 have hx:t.data.toList.length<=9223372036854775806:=by rw[<-Xe]; omega
 have ha:=Qd (p:=Xan) h1 h2
 rw[Xe t] at h1 h2
 ·have hb0:=XF Tryz.f88 0 _ _ rfl rfl
  obtain⟨r,hr,hq⟩:=Yz (cx:=cx) (blk:=0) (body:=YN Tryz.f88 0) t.data.toList (λk (s:Unit)=>⟨E [(0,.s t),(3,.fn 168 []),(21,.i .i64 t.size),(22,.i .i64 k)],B []⟩) (λs=>⟨E [],B []⟩) (λx s=>!Xan x) (λx s=>()) (λx s=>(.ret,⟨E [(8,.b false)],B []⟩)) (λk s=>True)
    (λs hI G=>by simp only[go_sem,reduceIte,↓reduceIte,reduceCtorEq,nA,nS,nM,nB,nE,nL,nT,nN,iL,iT,iE,iA,iM,iS,iG,iB,iN,iZ,h,Int.lt_irrefl,hb0,Xe t]) (λk hk s hI=>by
     have h1:((k:Int)<(t.data.toList.length:Int)):=Int.ofNat_lt.2 hk
     have hz:=UH t k hk
     exact⟨_,_,_,λG=>by simp only[go_sem,reduceIte,↓reduceIte,reduceCtorEq,nA,nS,nM,nB,nE,nL,nT,nN,iL,iT,iE,iA,iM,iS,iG,iB,iN,iZ,h,hz,Xe t,h1,Xt _ _ hk,Xm (show k<9223372036854775807 by omega),hb0]<;>with_reducible rfl,Iff.rfl,λhc=>⟨trivial,by simp only[go_sem,reduceIte,↓reduceIte,reduceCtorEq,nA,nS,nM,nB,nE,nL,nT,nN,iL,iT,iE,iA,iM,iS,iG,iB,iN,iZ,h,Xe t]⟩⟩) () trivial (t.data.toList.length+1) (Nat.le_refl _)
  rw[hb0] at hr
  rcases hq with⟨s',e1,_,e3⟩ | ⟨x,s',e1,e3⟩
  ·simp only[go_sem,reduceIte,↓reduceIte,reduceCtorEq,nA,nS,nM,nB,nE,nL,nT,nN,iL,iT,iE,iA,iM,iS,iG,iB,iN,iZ,h,h1,h2,Xe t,hr,e3,ha,Qe e1]
  ·simp only[go_sem,reduceIte,↓reduceIte,reduceCtorEq,nA,nS,nM,nB,nE,nL,nT,nN,iL,iT,iE,iA,iM,iS,iG,iB,iN,iZ,h,h1,h2,Xe t,hr,e3,ha,ZA e1]) (rfl)
@[go_sem] def Xs2(t:ByteArray)(lo hi:Int)(hb:hi<=1000000):s88.F [.s t,.i .i64 lo,.i .i64 hi,.fn 89 []]=some (.b (Xa7 XbJ lo hi t),[.u,.u,.u,.u]):=Xj (t.data.toList.length+1) rfl rfl (λcx h=>by
 by_cases h1:(t.size:Int)<lo
 ·simp only[go_sem,reduceIte,↓reduceIte,reduceCtorEq,nA,nS,nM,nB,nE,nL,nT,nN,iL,iT,iE,iA,iM,iS,iG,iB,iN,iZ,h,h1,Y9 h1]
 by_cases h2:hi<(t.size:Int)
 ·simp only[go_sem,reduceIte,↓reduceIte,reduceCtorEq,nA,nS,nM,nB,nE,nL,nT,nN,iL,iT,iE,iA,iM,iS,iG,iB,iN,iZ,h,h1,h2,Zz h2]
 have hx:t.data.toList.length<=9223372036854775806:=by rw[<-Xe]; omega
 have ha:=Qd (p:=XbJ) h1 h2
 rw[Xe t] at h1 h2
 ·have hb0:=XF Tryz.f88 0 _ _ rfl rfl
  obtain⟨r,hr,hq⟩:=Yz (cx:=cx) (blk:=0) (body:=YN Tryz.f88 0) t.data.toList (λk (s:Unit)=>⟨E [(0,.s t),(3,.fn 89 []),(21,.i .i64 t.size),(22,.i .i64 k)],B []⟩) (λs=>⟨E [],B []⟩) (λx s=>!XbJ x) (λx s=>()) (λx s=>(.ret,⟨E [(8,.b false)],B []⟩)) (λk s=>True)
    (λs hI G=>by simp only[go_sem,reduceIte,↓reduceIte,reduceCtorEq,nA,nS,nM,nB,nE,nL,nT,nN,iL,iT,iE,iA,iM,iS,iG,iB,iN,iZ,h,Int.lt_irrefl,hb0,Xe t]) (λk hk s hI=>by
     have h1:((k:Int)<(t.data.toList.length:Int)):=Int.ofNat_lt.2 hk
     have hz:=UH t k hk
     exact⟨_,_,_,λG=>by simp only[go_sem,reduceIte,↓reduceIte,reduceCtorEq,nA,nS,nM,nB,nE,nL,nT,nN,iL,iT,iE,iA,iM,iS,iG,iB,iN,iZ,h,hz,Xe t,h1,Xt _ _ hk,Xm (show k<9223372036854775807 by omega),hb0]<;>with_reducible rfl,Iff.rfl,λhc=>⟨trivial,by simp only[go_sem,reduceIte,↓reduceIte,reduceCtorEq,nA,nS,nM,nB,nE,nL,nT,nN,iL,iT,iE,iA,iM,iS,iG,iB,iN,iZ,h,Xe t]⟩⟩) () trivial (t.data.toList.length+1) (Nat.le_refl _)
  rw[hb0] at hr
  rcases hq with⟨s',e1,_,e3⟩ | ⟨x,s',e1,e3⟩
  ·simp only[go_sem,reduceIte,↓reduceIte,reduceCtorEq,nA,nS,nM,nB,nE,nL,nT,nN,iL,iT,iE,iA,iM,iS,iG,iB,iN,iZ,h,h1,h2,Xe t,hr,e3,ha,Qe e1]
  ·simp only[go_sem,reduceIte,↓reduceIte,reduceCtorEq,nA,nS,nM,nB,nE,nL,nT,nN,iL,iT,iE,iA,iM,iS,iG,iB,iN,iZ,h,h1,h2,Xe t,hr,e3,ha,ZA e1]) (rfl)
@[go_sem] def Xs3(t:ByteArray)(lo hi:Int)(hb:hi<=1000000):s88.F [.s t,.i .i64 lo,.i .i64 hi,.fn 90 []]=some (.b (Xa7 Xam lo hi t),[.u,.u,.u,.u]):=Xj (t.data.toList.length+1) rfl rfl (λcx h=>by
 by_cases h1:(t.size:Int)<lo
 ·simp only[go_sem,reduceIte,↓reduceIte,reduceCtorEq,nA,nS,nM,nB,nE,nL,nT,nN,iL,iT,iE,iA,iM,iS,iG,iB,iN,iZ,h,h1,Y9 h1]
 by_cases h2:hi<(t.size:Int)
 ·simp only[go_sem,reduceIte,↓reduceIte,reduceCtorEq,nA,nS,nM,nB,nE,nL,nT,nN,iL,iT,iE,iA,iM,iS,iG,iB,iN,iZ,h,h1,h2,Zz h2]
 have hx:t.data.toList.length<=9223372036854775806:=by rw[<-Xe]; omega
 have ha:=Qd (p:=Xam) h1 h2
 rw[Xe t] at h1 h2
 ·have hb0:=XF Tryz.f88 0 _ _ rfl rfl
  obtain⟨r,hr,hq⟩:=Yz (cx:=cx) (blk:=0) (body:=YN Tryz.f88 0) t.data.toList (λk (s:Unit)=>⟨E [(0,.s t),(3,.fn 90 []),(21,.i .i64 t.size),(22,.i .i64 k)],B []⟩) (λs=>⟨E [],B []⟩) (λx s=>!Xam x) (λx s=>()) (λx s=>(.ret,⟨E [(8,.b false)],B []⟩)) (λk s=>True)
    (λs hI G=>by simp only[go_sem,reduceIte,↓reduceIte,reduceCtorEq,nA,nS,nM,nB,nE,nL,nT,nN,iL,iT,iE,iA,iM,iS,iG,iB,iN,iZ,h,Int.lt_irrefl,hb0,Xe t]) (λk hk s hI=>by
     have h1:((k:Int)<(t.data.toList.length:Int)):=Int.ofNat_lt.2 hk
     have hz:=UH t k hk
     exact⟨_,_,_,λG=>by simp only[go_sem,reduceIte,↓reduceIte,reduceCtorEq,nA,nS,nM,nB,nE,nL,nT,nN,iL,iT,iE,iA,iM,iS,iG,iB,iN,iZ,h,hz,Xe t,h1,Xt _ _ hk,Xm (show k<9223372036854775807 by omega),hb0]<;>with_reducible rfl,Iff.rfl,λhc=>⟨trivial,by simp only[go_sem,reduceIte,↓reduceIte,reduceCtorEq,nA,nS,nM,nB,nE,nL,nT,nN,iL,iT,iE,iA,iM,iS,iG,iB,iN,iZ,h,Xe t]⟩⟩) () trivial (t.data.toList.length+1) (Nat.le_refl _)
  rw[hb0] at hr
  rcases hq with⟨s',e1,_,e3⟩ | ⟨x,s',e1,e3⟩
  ·simp only[go_sem,reduceIte,↓reduceIte,reduceCtorEq,nA,nS,nM,nB,nE,nL,nT,nN,iL,iT,iE,iA,iM,iS,iG,iB,iN,iZ,h,h1,h2,Xe t,hr,e3,ha,Qe e1]
  ·simp only[go_sem,reduceIte,↓reduceIte,reduceCtorEq,nA,nS,nM,nB,nE,nL,nT,nN,iL,iT,iE,iA,iM,iS,iG,iB,iN,iZ,h,h1,h2,Xe t,hr,e3,ha,ZA e1]) (rfl)
@[go_sem] def XrM(t:ByteArray)(lo hi:Int)(hb:hi<=1000000):s88.F [.s t,.i .i64 lo,.i .i64 hi,.fn 142 []]=some (.b (Xa7 Zv lo hi t),[.u,.u,.u,.u]):=Xj (t.data.toList.length+1) rfl rfl (λcx h=>by
 by_cases h1:(t.size:Int)<lo
 ·simp only[go_sem,reduceIte,↓reduceIte,reduceCtorEq,nA,nS,nM,nB,nE,nL,nT,nN,iL,iT,iE,iA,iM,iS,iG,iB,iN,iZ,h,h1,Y9 h1]
 by_cases h2:hi<(t.size:Int)
 ·simp only[go_sem,reduceIte,↓reduceIte,reduceCtorEq,nA,nS,nM,nB,nE,nL,nT,nN,iL,iT,iE,iA,iM,iS,iG,iB,iN,iZ,h,h1,h2,Zz h2]
 have hx:t.data.toList.length<=9223372036854775806:=by rw[<-Xe]; omega
 have ha:=Qd (p:=Zv) h1 h2
 rw[Xe t] at h1 h2
 ·have hb0:=XF Tryz.f88 0 _ _ rfl rfl
  obtain⟨r,hr,hq⟩:=Yz (cx:=cx) (blk:=0) (body:=YN Tryz.f88 0) t.data.toList (λk (s:Unit)=>⟨E [(0,.s t),(3,.fn 142 []),(21,.i .i64 t.size),(22,.i .i64 k)],B []⟩) (λs=>⟨E [],B []⟩) (λx s=>!Zv x) (λx s=>()) (λx s=>(.ret,⟨E [(8,.b false)],B []⟩)) (λk s=>True)
    (λs hI G=>by simp only[go_sem,reduceIte,↓reduceIte,reduceCtorEq,nA,nS,nM,nB,nE,nL,nT,nN,iL,iT,iE,iA,iM,iS,iG,iB,iN,iZ,h,Int.lt_irrefl,hb0,Xe t]) (λk hk s hI=>by
     have h1:((k:Int)<(t.data.toList.length:Int)):=Int.ofNat_lt.2 hk
     have hz:=UH t k hk
     exact⟨_,_,_,λG=>by simp only[go_sem,reduceIte,↓reduceIte,reduceCtorEq,nA,nS,nM,nB,nE,nL,nT,nN,iL,iT,iE,iA,iM,iS,iG,iB,iN,iZ,h,hz,Xe t,h1,Xt _ _ hk,Xm (show k<9223372036854775807 by omega),hb0]<;>with_reducible rfl,Iff.rfl,λhc=>⟨trivial,by simp only[go_sem,reduceIte,↓reduceIte,reduceCtorEq,nA,nS,nM,nB,nE,nL,nT,nN,iL,iT,iE,iA,iM,iS,iG,iB,iN,iZ,h,Xe t]⟩⟩) () trivial (t.data.toList.length+1) (Nat.le_refl _)
  rw[hb0] at hr
  rcases hq with⟨s',e1,_,e3⟩ | ⟨x,s',e1,e3⟩
  ·simp only[go_sem,reduceIte,↓reduceIte,reduceCtorEq,nA,nS,nM,nB,nE,nL,nT,nN,iL,iT,iE,iA,iM,iS,iG,iB,iN,iZ,h,h1,h2,Xe t,hr,e3,ha,Qe e1]
  ·simp only[go_sem,reduceIte,↓reduceIte,reduceCtorEq,nA,nS,nM,nB,nE,nL,nT,nN,iL,iT,iE,iA,iM,iS,iG,iB,iN,iZ,h,h1,h2,Xe t,hr,e3,ha,ZA e1]) (rfl)
end
end Go.Vm.A
